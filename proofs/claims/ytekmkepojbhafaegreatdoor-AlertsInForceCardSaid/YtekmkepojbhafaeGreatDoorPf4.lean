/-
 The machine computes these plain functions (written by a program of ours).
-/
import Derived.Test.YtekmkepojbhafaeGreatDoorFacts
import Derived.Test.YtekmkepojbhafaeGreatDoorDefs
import Derived.Test.YtekmkepojbhafaeGreatDoorPf3
open Go Go.Eng Go.Proofs
namespace Go.Proofs.YtekmkepojbhafaeGreatDoor.Law
set_option maxRecDepth 100000
set_option linter.unusedVariables false
set_option maxHeartbeats 1000000
theorem wK {a_1:Alert} {r:Int} (hF:jS a_1=some r) :
  FnM Tryz.prog 35 [(.d (.agg (Alert.enc a_1)))] [] (vI r) []:=by
 refine FnM.of_wH ⟨Tryz.prog,139,[],[]⟩ rfl Tryz.func35 rfl rfl (lb_ rfl) (by kernel_rfl) ?_
 unfold jS at hF
 refine ai (gP 0 (.inl rfl) (Alert.v a_1) rfl rfl wz (λn_2=>aa (vI 0) (af (ak (aN (ak ?_))))))
 obtain ⟨v_3,h_4,hF⟩:=bind_some hF
 refine aO [(1,(.ref n_2 0 0)),(8,(vB v_3))] [(n_2,some (.cells 9 (Alert.v a_1)))] ?_ ?_
 ·refine au (aH fw rfl 0 rfl wz (aG 0 0 il ft sz9 ag9 rfl rfl (vS a_1.Id) rfl wz ?_))
  obtain ⟨r_5,hr_6,h_4⟩:=bind_some h_4
  refine aF (vg hr_6) rfl hb58 rfl rfl rfl rfl wz (aa (vB (!r_5)) ?_)
  rcases aj h_4 with⟨hc_7,h_4⟩|⟨hc_7,h_4⟩
  ·refine aC rfl hc_7 wz (ah (ah (ah (ah (aa (vB true) (aa (vB true) (af ?_)))))))
   obtain rfl:=ae h_4
   exact cu
  ·refine aC rfl hc_7 wz (aH vz rfl 1 rfl wa (aG 0 0 il ft sz9 ag9 rfl rfl (vS a_1.Sender) rfl wa ?_))
   obtain ⟨r_8,hr_9,h_4⟩:=bind_some h_4
   refine aF (vg hr_9) rfl hb58 rfl rfl rfl rfl wa (aI (vB (!r_8)) wa rfl (aa (vB (!r_8)) (aa (vB (!r_8)) (af ?_))))
   obtain rfl:=ae h_4
   exact cu
 ·rintro ⟨⟩ _ sl_ H_ hp_ hq_
  refine aP _ hp_ hq_ ?_
  rcases aj hF with⟨hc_10,hF⟩|⟨hc_10,hF⟩
  ·refine aB rfl hc_10 (ai (aa (vI 5) (af ?_)))
   obtain rfl:=ae hF
   exact ay (aM [(vI 5)] ⟨rfl,trivial⟩)
  ·refine aA rfl hc_10 (ai (aH nQ rfl 2 rfl wz (aG 0 0 il ft sz3 ag3 rfl rfl (vI a_1.Kind) rfl wz ?_)))
   obtain ⟨r_11,hr_12,hF⟩:=bind_some hF
   refine aF (kI hr_12) rfl Dq rfl rfl rfl rfl wz (aa (vB (!r_11)) (aa (vB (!r_11)) (af ?_)))
   rcases aj hF with⟨hc_13,hF⟩|⟨hc_13,hF⟩
   ·refine aB rfl hc_13 (ai (aa (vI 4) (af ?_)))
    obtain rfl:=ae hF
    exact ay (aM [(vI 4)] ⟨rfl,trivial⟩)
   ·refine aA rfl hc_13 (ai (aH jl rfl 3 rfl wz (aG 0 0 il ft qG tK rfl rfl (vL eS a_1.Refs) rfl wz (dB pG rfl wz (aa (vB (decide ((a_1.Refs.length:Int)>20))) (aa (vB (decide ((a_1.Refs.length:Int)>20))) (af ?_)))))))
    rcases aj hF with⟨hc_14,hF⟩|⟨hc_14,hF⟩
    ·refine aB rfl hc_14 (ai (aa (vI 2) (af ?_)))
     obtain rfl:=ae hF
     exact ay (aM [(vI 2)] ⟨rfl,trivial⟩)
    ·refine aA rfl hc_14 (ax (ak (ai (aH jl rfl 3 rfl wz (aG 0 0 il ft qG tK rfl rfl (vL eS a_1.Refs) rfl wz (dB pG rfl wz (aa (vI 0) (af ?_))))))))
     obtain ⟨o_23,hj_24,hF⟩:=bind_some hF
     obtain ⟨hn_19,hj_24⟩:=aZ hj_24
     refine dF (λ(s_20:Unit)=>[(1,(.ref n_2 0 0))]) (λ(s_20:Unit)=>[(n_2,some (.cells 9 (Alert.v a_1)))]) (λ(k_15:Nat)=>(λ(s_20:Unit)=>[(1,(.ref n_2 0 0)),(30,(vL eS a_1.Refs)),(31,(vI (a_1.Refs.length:Int))),(32,(vI (k_15:Int)))])) (λk x s=>gq a_1 k x s) o_23 a_1.Refs () hj_24 rfl (aL rfl) ?_ ?_
     ·rintro ⟨k_15,l_16,s_20⟩ ⟨hL_22,hD_18⟩
      dsimp only at hL_22 hD_18
      cases l_16 with
      | nil =>
       obtain rfl:=ae hL_22
       refine ai (aa (vB (decide ((k_15:Int)<(a_1.Refs.length:Int)))) (af ?_))
       refine ak (aA rfl (drop_nil hD_18) (bn ?_))
       exact aW (s_20) rfl rfl (aL rfl)
      | cons x_17 l_16 =>
       obtain ⟨c_,hc_21,hL_22⟩:=bind_some hL_22
       refine ai (aa (vB (decide ((k_15:Int)<(a_1.Refs.length:Int)))) (af ?_))
       refine ak (aB rfl (bC hD_18) (ax ?_))
       unfold gq at hc_21
       refine ak (aN (ai (aa (vI (k_15:Int)) (iV iL rfl rfl (bT hD_18) rfl wz (eP sz9 ag9 rfl (vS x_17) rfl wz (aa (vI (k_15:Int)) (aa (vS x_17) (af (aN (ai (aa (vS x_17) ?_)))))))))))
       obtain ⟨r_25,hr_26,hc_21⟩:=bind_some hc_21
       refine aF (vg hr_26) rfl hb58 rfl rfl rfl rfl wz (aa (vB (!r_25)) (aa (vB (!r_25)) (af ?_)))
       rcases aj hc_21 with⟨hc_27,hc_21⟩|⟨hc_27,hc_21⟩
       ·refine aB rfl hc_27 (ai (aa (vI 5) (af ?_)))
        obtain rfl:=ae hc_21
        obtain rfl:=ae hL_22
        obtain rfl:=ae hF
        exact ay (aM [(vI 5)] ⟨rfl,trivial⟩)
       ·refine aA rfl hc_27 (ak ?_)
        obtain ⟨v_28,h_29,hc_21⟩:=bind_some hc_21
        refine aO [(1,(.ref n_2 0 0)),(4,(vS x_17)),(30,(vL eS a_1.Refs)),(31,(vI (a_1.Refs.length:Int))),(32,(vI (k_15:Int))),(41,(vB v_28))] [(n_2,some (.cells 9 (Alert.v a_1)))] ?_ ?_
        ·refine au (aa (vI (k_15:Int)) (aa (vB (decide ((k_15:Int)>0))) ?_))
         rcases aj h_29 with⟨hc_30,h_29⟩|⟨hc_30,h_29⟩
         ·refine aC rfl hc_30 wz (aI (vS x_17) wa rfl (aH jl rfl 3 rfl wa (aG 0 0 il ft qG tK rfl rfl (vL eS a_1.Refs) rfl wa (aI (vI (k_15:Int)) wa rfl (aI (vI (w64 ((k_15:Int)-1))) wa rfl ?_)))))
          obtain ⟨y_31,hy_32,h_29⟩:=bind_some h_29
          refine iV iL rfl rfl hy_32 rfl wa (eP sz9 ag9 rfl (vS y_31) rfl wa (aI (vB (sLe x_17 y_31)) wa rfl (aa (vB (sLe x_17 y_31)) (aa (vB (sLe x_17 y_31)) (af ?_)))))
          obtain rfl:=ae h_29
          exact cu
         ·refine aC rfl hc_30 wz (ah (ah (ah (ah (ah (ah (ah (ah (aa (vB false) (aa (vB false) (af ?_)))))))))))
          obtain rfl:=ae h_29
          exact cu
        ·rintro ⟨⟩ _ sl_ H_ hp_ hq_
         refine aP _ hp_ hq_ ?_
         rcases aj hc_21 with⟨hc_33,hc_21⟩|⟨hc_33,hc_21⟩
         ·refine aB rfl hc_33 (ai (aa (vI 7) (af ?_)))
          obtain rfl:=ae hc_21
          obtain rfl:=ae hL_22
          obtain rfl:=ae hF
          exact ay (aM [(vI 7)] ⟨rfl,trivial⟩)
         ·refine aA rfl hc_33 (ai (aa (vS x_17) (aH fw rfl 0 rfl wz (aG 0 0 il ft sz9 ag9 rfl rfl (vS a_1.Id) rfl wz (aa (vB (sEq x_17 a_1.Id)) (aa (vB (sEq x_17 a_1.Id)) (af ?_)))))))
          rcases aj hc_21 with⟨hc_34,hc_21⟩|⟨hc_34,hc_21⟩
          ·refine aB rfl hc_34 (ai (aa (vI 14) (af ?_)))
           obtain rfl:=ae hc_21
           obtain rfl:=ae hL_22
           obtain rfl:=ae hF
           exact ay (aM [(vI 14)] ⟨rfl,trivial⟩)
          ·refine aA rfl hc_34 (ax (au (fQ (bL hD_18 hn_19) wz rfl (aa (vI ((k_15+1:Nat):Int)) (af ?_)))))
           obtain rfl:=ae hc_21
           exact bg (k_15+1,l_16,()) ⟨hL_22,aS hD_18⟩ (ls_ _) rfl (aL rfl)
     ·rintro s_20 ho_ sl_ H_ hp_ hq_
      subst ho_
      refine aP _ hp_ hq_ (ak (aN (ai (aH nQ rfl 2 rfl wz (aG 0 0 il ft sz3 ag3 rfl rfl (vI a_1.Kind) rfl wz (aa (vB (a_1.Kind==1)) (aH jl rfl 3 rfl wz (aG 0 0 il ft qG tK rfl rfl (vL eS a_1.Refs) rfl wz (dB pG rfl wz (aa (vB ((a_1.Refs.length:Int)==0)) (Cz un4 rfl rfl wz (aa (vB (!((a_1.Kind==1)==((a_1.Refs.length:Int)==0)))) (af ?_)))))))))))))
      rcases aj hF with⟨hc_35,hF⟩|⟨hc_35,hF⟩
      ·refine aB rfl hc_35 (ai (aa (vI 3) (af ?_)))
       obtain rfl:=ae hF
       exact ay (aM [(vI 3)] ⟨rfl,trivial⟩)
      ·refine aA rfl hc_35 (ak ?_)
       obtain ⟨v_36,h_37,hF⟩:=bind_some hF
       refine aO [(1,(.ref n_2 0 0)),(69,(vB v_36))] [(n_2,some (.cells 9 (Alert.v a_1)))] ?_ ?_
       ·refine au (aH iw rfl 4 rfl wz (aG 0 0 il ft sz3 ag3 rfl rfl (vI a_1.At) rfl wz ?_))
        obtain ⟨r_38,hr_39,h_37⟩:=bind_some h_37
        refine aF (uO hr_39) rfl hb37 rfl rfl rfl rfl wz (aa (vB (!r_38)) ?_)
        rcases aj h_37 with⟨hc_40,h_37⟩|⟨hc_40,h_37⟩
        ·refine aC rfl hc_40 wz (ah (ah (ah (ah (ah (ah (ah (ah (ah (ah (aa (vB true) (aa (vB true) (ah (ah (ah (ah (aa (vB true) (aa (vB true) (af ?_)))))))))))))))))))
         obtain rfl:=ae h_37
         exact cu
        ·refine aC rfl hc_40 wz (aH xm rfl 5 rfl wa (aG 0 0 il ft sz3 ag3 rfl rfl (vI a_1.Until) rfl wa (aH iw rfl 4 rfl wa (aG 0 0 il ft sz3 ag3 rfl rfl (vI a_1.At) rfl wa (aI (vI (w64 (a_1.At+1))) wa rfl (aH iw rfl 4 rfl wa (aG 0 0 il ft sz3 ag3 rfl rfl (vI a_1.At) rfl wa (aI (vI (w64 (a_1.At+2592000000))) wa rfl ?_))))))))
         obtain ⟨r_41,hr_42,h_37⟩:=bind_some h_37
         refine aF (kI hr_42) rfl Dq rfl rfl rfl rfl wa (aI (vB (!r_41)) wa rfl (aa (vB (!r_41)) ?_))
         rcases aj h_37 with⟨hc_43,h_37⟩|⟨hc_43,h_37⟩
         ·refine aC rfl hc_43 wz (ah (ah (ah (ah (aa (vB true) (aa (vB true) (af ?_)))))))
          obtain rfl:=ae h_37
          exact cu
         ·refine aC rfl hc_43 wz (aH FZ rfl 6 rfl wa (aG 0 0 il ft sz3 ag3 rfl rfl (vI a_1.Weight) rfl wa ?_))
          obtain ⟨r_44,hr_45,h_37⟩:=bind_some h_37
          refine aF (kI hr_45) rfl Dq rfl rfl rfl rfl wa (aI (vB (!r_44)) wa rfl (aa (vB (!r_44)) (aa (vB (!r_44)) (af ?_))))
          obtain rfl:=ae h_37
          exact cu
       ·rintro ⟨⟩ _ sl_ H_ hp_ hq_
        refine aP _ hp_ hq_ ?_
        rcases aj hF with⟨hc_46,hF⟩|⟨hc_46,hF⟩
        ·refine aB rfl hc_46 (ai (aa (vI 1) (af ?_)))
         obtain rfl:=ae hF
         exact ay (aM [(vI 1)] ⟨rfl,trivial⟩)
        ·refine aA rfl hc_46 (ai (aH qd rfl 7 rfl wz (aG 0 0 il ft AR Eo rfl rfl (vL Rect.enc a_1.Areas) rfl wz (dB GX rfl wz (aa (vB (decide ((a_1.Areas.length:Int)>20))) (aa (vB (decide ((a_1.Areas.length:Int)>20))) (af ?_)))))))
         rcases aj hF with⟨hc_47,hF⟩|⟨hc_47,hF⟩
         ·refine aB rfl hc_47 (ai (aa (vI 2) (af ?_)))
          obtain rfl:=ae hF
          exact ay (aM [(vI 2)] ⟨rfl,trivial⟩)
         ·refine aA rfl hc_47 (ax (ak (ai (aH qd rfl 7 rfl wz (aG 0 0 il ft AR Eo rfl rfl (vL Rect.enc a_1.Areas) rfl wz (dB GX rfl wz (aa (vI 0) (af ?_))))))))
          obtain ⟨o_56,hj_57,hF⟩:=bind_some hF
          obtain ⟨hn_52,hj_57⟩:=aZ hj_57
          refine dF (λ(s_53:Unit)=>[(1,(.ref n_2 0 0))]) (λ(s_53:Unit)=>[(n_2,some (.cells 9 (Alert.v a_1)))]) (λ(k_48:Nat)=>(λ(s_53:Unit)=>[(1,(.ref n_2 0 0)),(98,(vL Rect.enc a_1.Areas)),(99,(vI (a_1.Areas.length:Int))),(100,(vI (k_48:Int)))])) (λk x s=>gz k x s) o_56 a_1.Areas () hj_57 rfl (aL rfl) ?_ ?_
          ·rintro ⟨k_48,l_49,s_53⟩ ⟨hL_55,hD_51⟩
           dsimp only at hL_55 hD_51
           cases l_49 with
           | nil =>
            obtain rfl:=ae hL_55
            refine ai (aa (vB (decide ((k_48:Int)<(a_1.Areas.length:Int)))) (af ?_))
            refine ak (aA rfl (drop_nil hD_51) (bn ?_))
            exact aW (s_53) rfl rfl (aL rfl)
           | cons x_50 l_49 =>
            obtain ⟨c_,hc_54,hL_55⟩:=bind_some hL_55
            refine ai (aa (vB (decide ((k_48:Int)<(a_1.Areas.length:Int)))) (af ?_))
            refine ak (aB rfl (bC hD_51) (ax ?_))
            unfold gz at hc_54
            refine ak (aN (ai (iV Iu rfl rfl (bT hD_51) rfl wz (eP sI Cw rfl (.d (.agg (Rect.enc x_50))) rfl wz (fF 0 (.inl rfl) z75 rfl wz (λn_58=>fV 0 il ft 1 sI rfl rfl (Rect.v x_50) rfl wz (af (ai (aG 0 1 il ft sI Cw rfl rfl (.d (.agg (Rect.enc x_50))) rfl wz ?_)))))))))
            obtain ⟨r_59,hr_60,hc_54⟩:=bind_some hc_54
            refine aF (xn hr_60) rfl hb60 rfl rfl rfl rfl wz (aa (vI r_59) (af (ai (aa (vI r_59) (aa (vB (r_59 != 0)) (af ?_))))))
            rcases aj hc_54 with⟨hc_61,hc_54⟩|⟨hc_61,hc_54⟩
            ·refine aB rfl hc_61 (ai (aa (vI r_59) (aa (vI r_59) (af ?_))))
             obtain rfl:=ae hc_54
             obtain rfl:=ae hL_55
             obtain rfl:=ae hF
             exact ay (aM [(vI r_59)] ⟨rfl,trivial⟩)
            ·refine aA rfl hc_61 (ax (au (fQ (bL hD_51 hn_52) wz rfl (aa (vI ((k_48+1:Nat):Int)) (af ?_)))))
             obtain rfl:=ae hc_54
             exact bg (k_48+1,l_49,()) ⟨hL_55,aS hD_51⟩ (ls_ _) rfl (aL rfl)
          ·rintro s_53 ho_ sl_ H_ hp_ hq_
           subst ho_
           refine aP _ hp_ hq_ (ak (aN (ai (aH nQ rfl 2 rfl wz (aG 0 0 il ft sz3 ag3 rfl rfl (vI a_1.Kind) rfl wz (aa (vB (a_1.Kind==3)) (aH qd rfl 7 rfl wz (aG 0 0 il ft AR Eo rfl rfl (vL Rect.enc a_1.Areas) rfl wz (dB GX rfl wz (aa (vB ((a_1.Areas.length:Int)==0)) (Cz un4 rfl rfl wz (aa (vB (!((a_1.Kind==3)==((a_1.Areas.length:Int)==0)))) (af ?_)))))))))))))
           rcases aj hF with⟨hc_62,hF⟩|⟨hc_62,hF⟩
           ·refine aB rfl hc_62 (ai (aa (vI 3) (af ?_)))
            obtain rfl:=ae hF
            exact ay (aM [(vI 3)] ⟨rfl,trivial⟩)
           ·refine aA rfl hc_62 (ai (aH sM rfl 8 rfl wz (aG 0 0 il ft sz9 ag9 rfl rfl (vS a_1.Text) rfl wz (nX un9 rfl wz (aa (vB (decide ((a_1.Text.size:Int)>500))) (aa (vB (decide ((a_1.Text.size:Int)>500))) (af ?_)))))))
            rcases aj hF with⟨hc_63,hF⟩|⟨hc_63,hF⟩
            ·refine aB rfl hc_63 (ai (aa (vI 2) (af ?_)))
             obtain rfl:=ae hF
             exact ay (aM [(vI 2)] ⟨rfl,trivial⟩)
            ·refine aA rfl hc_63 (ak ?_)
             obtain ⟨v_64,h_65,hF⟩:=bind_some hF
             refine aO [(124,(vB v_64))] [(n_2,some (.cells 9 (Alert.v a_1)))] ?_ ?_
             ·refine au (aH sM rfl 8 rfl wz (aG 0 0 il ft sz9 ag9 rfl rfl (vS a_1.Text) rfl wz ?_))
              obtain ⟨r_66,hr_67,h_65⟩:=bind_some h_65
              refine aF (Du hr_67) rfl hb61 rfl rfl rfl rfl wz (aa (vB (!r_66)) ?_)
              rcases aj h_65 with⟨hc_68,h_65⟩|⟨hc_68,h_65⟩
              ·refine aC rfl hc_68 wz (ah (ah (ah (ah (eD (wn rfl rfl) (eD (wn rfl rfl) (eD (wn rfl rfl) (ah (aa (vB true) (aa (vB true) (af ?_)))))))))))
               obtain rfl:=ae h_65
               exact cu
              ·refine aC rfl hc_68 wz (aH sM rfl 8 rfl wa (aG 0 0 il ft sz9 ag9 rfl rfl (vS a_1.Text) rfl wa (aI (vB (sEq a_1.Text (⟨#[]⟩:ByteArray))) wa rfl ?_)))
               rcases aj h_65 with⟨hc_69,h_65⟩|⟨hc_69,h_65⟩
               ·refine aC rfl hc_69 wa (aH nQ rfl 2 rfl wa (aG 0 0 il ft sz3 ag3 rfl rfl (vI a_1.Kind) rfl wa (aI (vB (a_1.Kind != 3)) wa rfl (aI (vB (a_1.Kind != 3)) wa rfl (aa (vB (a_1.Kind != 3)) (aa (vB (a_1.Kind != 3)) (af ?_)))))))
                obtain rfl:=ae h_65
                exact cu
               ·refine aC rfl hc_69 wa (ah (ah (ah (aI (vB false) wa rfl (aa (vB false) (aa (vB false) (af ?_)))))))
                obtain rfl:=ae h_65
                exact cu
             ·rintro ⟨⟩ _ sl_ H_ hp_ hq_
              refine aP _ hp_ hq_ ?_
              rcases aj hF with⟨hc_70,hF⟩|⟨hc_70,hF⟩
              ·refine aB rfl hc_70 (ai (aa (vI 3) (af ?_)))
               obtain rfl:=ae hF
               exact ay (aM [(vI 3)] ⟨rfl,trivial⟩)
              ·refine aA rfl hc_70 (ax (ai (aa (vI 0) (af ?_))))
               obtain rfl:=ae hF
               exact ay (aM [(vI 0)] ⟨rfl,trivial⟩)
theorem EZ {n_1:Int} {r:Int} (hF:wF n_1=some r) :
  FnM Tryz.prog 62 [(vI n_1)] [] (vI r) []:=by
 refine FnM.of_wH ⟨Tryz.prog,9,[],[]⟩ rfl Tryz.func62 rfl rfl (lb_ rfl) (by kernel_rfl) ?_
 unfold wF at hF
 refine ai (aa (vI 0) (af (ak (aN (ai (aa (vI n_1) (aa (vB (decide (n_1<0))) (aa (vB (decide (n_1<0))) (af ?_)))))))))
 rcases aj hF with⟨hc_2,hF⟩|⟨hc_2,hF⟩
 ·refine aB rfl hc_2 (ai (aa (vI (-1)) (af ?_)))
  obtain rfl:=ae hF
  exact ay (aM [(vI (-1))] ⟨rfl,trivial⟩)
 ·refine aA rfl hc_2 (ai (aa (vI n_1) (aa (vB (decide (n_1>0))) (aa (vB (decide (n_1>0))) (af ?_)))))
  rcases aj hF with⟨hc_3,hF⟩|⟨hc_3,hF⟩
  ·refine aB rfl hc_3 (ai (aa (vI 1) (af ?_)))
   obtain rfl:=ae hF
   exact ay (aM [(vI 1)] ⟨rfl,trivial⟩)
  ·refine aA rfl hc_3 (ax (ai (aa (vI 0) (af ?_))))
   obtain rfl:=ae hF
   exact ay (aM [(vI 0)] ⟨rfl,trivial⟩)
theorem pM {a_1:Alert} {b_2:Alert} {r:Int} (hF:gY a_1 b_2=some r) :
  FnM Tryz.prog 36 [(.d (.agg (Alert.enc a_1))),(.d (.agg (Alert.enc b_2)))] [] (vI r) []:=by
 refine FnM.of_wH ⟨Tryz.prog,21,[],[]⟩ rfl Tryz.func36 rfl rfl (lb_ rfl) (by kernel_rfl) ?_
 unfold gY at hF
 refine ai (gP 0 (.inl rfl) (Alert.v a_1) rfl rfl wz (λn_3=>gP 0 (.inl rfl) (Alert.v b_2) rfl rfl wz (λn_4=>aa (vI 0) (af (ak (ai (aH iw rfl 4 rfl wz (aG 0 0 il ft sz3 ag3 rfl rfl (vI a_1.At) rfl wz (aH iw rfl 4 rfl wz (aG 0 1 il ft sz3 ag3 rfl rfl (vI b_2.At) rfl wz (aa (vB (a_1.At != b_2.At)) (af ?_))))))))))))
 rcases aj hF with⟨hc_5,hF⟩|⟨hc_5,hF⟩
 ·refine aB rfl hc_5 (ai (aH iw rfl 4 rfl wz (aG 0 0 il ft sz3 ag3 rfl rfl (vI a_1.At) rfl wz (aH iw rfl 4 rfl wz (aG 0 1 il ft sz3 ag3 rfl rfl (vI b_2.At) rfl wz (aa (vI (w64 (a_1.At-b_2.At))) ?_))))))
  obtain ⟨r_6,hr_7,hF⟩:=bind_some hF
  refine aF (EZ hr_7) rfl hb62 rfl rfl rfl rfl wz (aa (vI r_6) (af ?_))
  obtain rfl:=ae hF
  exact ay (aM [(vI r_6)] ⟨rfl,trivial⟩)
 ·refine aA rfl hc_5 (ax (ai (aH fw rfl 0 rfl wz (aG 0 0 il ft sz9 ag9 rfl rfl (vS a_1.Id) rfl wz (aH fw rfl 0 rfl wz (aG 0 1 il ft sz9 ag9 rfl rfl (vS b_2.Id) rfl wz ?_))))))
  obtain ⟨r_8,hr_9,hF⟩:=bind_some hF
  refine aF (oH hr_9) rfl hb63 rfl rfl rfl rfl wz (aa (vI r_8) (af ?_))
  obtain rfl:=ae hF
  exact ay (aM [(vI r_8)] ⟨rfl,trivial⟩)
theorem vK {l_1:(List Alert)} {r:Int} (hF:jy l_1=some r) :
  FnM Tryz.prog 10 [(vL Alert.enc l_1)] [] (vI r) []:=by
 refine FnM.of_wH ⟨Tryz.prog,53,[],[]⟩ rfl Tryz.func10 rfl rfl (lb_ rfl) (by kernel_rfl) ?_
 unfold jy at hF
 refine ai (aa (vI 0) (af (ak (ai (aa (vL Alert.enc l_1) (dB qi rfl wz (aa (vB (decide ((l_1.length:Int)>300))) (af ?_))))))))
 rcases aj hF with⟨hc_2,hF⟩|⟨hc_2,hF⟩
 ·refine aB rfl hc_2 (ai (aa (vI 2) (af ?_)))
  obtain rfl:=ae hF
  exact ay (aM [(vI 2)] ⟨rfl,trivial⟩)
 ·refine aA rfl hc_2 (ax (ak (ai (aa (vL Alert.enc l_1) (dB qi rfl wz (aa (vI 0) (af ?_)))))))
  obtain ⟨o_11,hj_12,hF⟩:=bind_some hF
  obtain ⟨hn_7,hj_12⟩:=aZ hj_12
  refine dF (λ(s_8:Unit)=>[(0,(vL Alert.enc l_1))]) (λ(s_8:Unit)=>[]) (λ(k_3:Nat)=>(λ(s_8:Unit)=>[(0,(vL Alert.enc l_1)),(12,(vL Alert.enc l_1)),(13,(vI (l_1.length:Int))),(14,(vI (k_3:Int)))])) (λk x s=>fP l_1 k x s) o_11 l_1 () hj_12 rfl (aL rfl) ?_ ?_
  ·rintro ⟨k_3,l_4,s_8⟩ ⟨hL_10,hD_6⟩
   dsimp only at hL_10 hD_6
   cases l_4 with
   | nil =>
    obtain rfl:=ae hL_10
    refine ai (aa (vB (decide ((k_3:Int)<(l_1.length:Int)))) (af ?_))
    refine ak (aA rfl (drop_nil hD_6) (bn ?_))
    exact aW (s_8) rfl rfl (aL rfl)
   | cons x_5 l_4 =>
    obtain ⟨c_,hc_9,hL_10⟩:=bind_some hL_10
    refine ai (aa (vB (decide ((k_3:Int)<(l_1.length:Int)))) (af ?_))
    refine ak (aB rfl (bC hD_6) (ax ?_))
    unfold fP at hc_9
    refine ak (aN (ai (aa (vI (k_3:Int)) (iV nM rfl rfl (bT hD_6) rfl wz (eP fo iW rfl (.d (.agg (Alert.enc x_5))) rfl wz (fF 0 (.inl rfl) z51 rfl wz (λn_13=>aa (vI (k_3:Int)) (fV 0 il ft 0 fo rfl rfl (Alert.v x_5) rfl wz (af (ak (ai (aG 0 0 il ft fo iW rfl rfl (.d (.agg (Alert.enc x_5))) rfl wz ?_))))))))))))
    obtain ⟨r_14,hr_15,hc_9⟩:=bind_some hc_9
    refine aF (wK hr_15) rfl hb35 rfl rfl rfl rfl wz (aa (vI r_14) (af (ai (aa (vI r_14) (aa (vB (r_14 != 0)) (af ?_))))))
    rcases aj hc_9 with⟨hc_16,hc_9⟩|⟨hc_16,hc_9⟩
    ·refine aB rfl hc_16 (ai (aa (vI r_14) (aa (vI r_14) (af ?_))))
     obtain rfl:=ae hc_9
     obtain rfl:=ae hL_10
     obtain rfl:=ae hF
     exact ay (aM [(vI r_14)] ⟨rfl,trivial⟩)
    ·refine aA rfl hc_16 (ax (ak ?_))
     obtain ⟨v_17,h_18,hc_9⟩:=bind_some hc_9
     refine aO [(0,(vL Alert.enc l_1)),(12,(vL Alert.enc l_1)),(13,(vI (l_1.length:Int))),(14,(vI (k_3:Int))),(35,(vB v_17))] [(n_13,some (.cells 9 (Alert.v x_5)))] ?_ ?_
     ·refine fG (aa (vI (k_3:Int)) (aa (vB (decide ((k_3:Int)>0))) ?_))
      rcases aj h_18 with⟨hc_19,h_18⟩|⟨hc_19,h_18⟩
      ·refine aC rfl hc_19 wz (aI (vL Alert.enc l_1) wa rfl (aI (vI (k_3:Int)) wa rfl (aI (vI (w64 ((k_3:Int)-1))) wa rfl ?_)))
       obtain ⟨y_20,hy_21,h_18⟩:=bind_some h_18
       refine iV nM rfl rfl hy_21 rfl wa (eP fo iW rfl (.d (.agg (Alert.enc y_20))) rfl wa (aG 8 0 (.inr (by kernel_rfl)) (λ_ _ ag=>trivial) fo iW rfl rfl (.d (.agg (Alert.enc x_5))) rfl wa ?_))
       obtain ⟨r_22,hr_23,h_18⟩:=bind_some h_18
       refine aF (pM hr_23) rfl hb36 rfl rfl rfl rfl wa (aI (vB (decide (r_22>=0))) wa rfl (aa (vB (decide (r_22>=0))) (af ?_)))
       obtain rfl:=ae h_18
       exact cu
      ·refine aC rfl hc_19 wz (ah (ah (ah (ah (ah (ah (ah (ah (aa (vB false) (af ?_))))))))))
       obtain rfl:=ae h_18
       exact cu
     ·rintro ⟨⟩ _ sl_ H_ hp_ hq_
      refine aP _ hp_ hq_ ?_
      rcases aj hc_9 with⟨hc_24,hc_9⟩|⟨hc_24,hc_9⟩
      ·refine aB rfl hc_24 (ai (aa (vI 7) (af ?_)))
       obtain rfl:=ae hc_9
       obtain rfl:=ae hL_10
       obtain rfl:=ae hF
       exact ay (aM [(vI 7)] ⟨rfl,trivial⟩)
      ·refine aA rfl hc_24 (ax (au (fQ (bL hD_6 hn_7) wz rfl (aa (vI ((k_3+1:Nat):Int)) (af ?_)))))
       obtain rfl:=ae hc_9
       exact bg (k_3+1,l_4,()) ⟨hL_10,aS hD_6⟩ (ls_ _) rfl (aL rfl)
  ·rintro s_8 ho_ sl_ H_ hp_ hq_
   subst ho_
   refine aP _ hp_ hq_ (ai (Dc 0 (.inl rfl) wz (λn_25=>zh (b':=some (bM D.str D.bool ([]:List (ByteArray×Bool)))) 0 rfl rfl (aa (.map n_25) (af (ak (ai (aa (vL Alert.enc l_1) (dB qi rfl wz (aa (vI 0) (af ?_)))))))))))
   obtain ⟨o_34,hj_35,hF⟩:=bind_some hF
   obtain ⟨hn_30,hj_35⟩:=aZ hj_35
   refine dF (λ(s_31:(List (ByteArray×Bool)))=>[(0,(vL Alert.enc l_1)),(6,(.map n_25))]) (λ(s_31:(List (ByteArray×Bool)))=>[(n_25,some (bM D.str D.bool s_31))]) (λ(k_26:Nat)=>(λ(s_31:(List (ByteArray×Bool)))=>[(0,(vL Alert.enc l_1)),(6,(.map n_25)),(38,(vL Alert.enc l_1)),(39,(vI (l_1.length:Int))),(40,(vI (k_26:Int)))])) (λk x s=>ib k x s) o_34 l_1 ([]:List (ByteArray×Bool)) hj_35 rfl (aL rfl) ?_ ?_
   ·rintro ⟨k_26,l_27,s_31⟩ ⟨hL_33,hD_29⟩
    dsimp only at hL_33 hD_29
    cases l_27 with
    | nil =>
     obtain rfl:=ae hL_33
     refine ai (aa (vB (decide ((k_26:Int)<(l_1.length:Int)))) (af ?_))
     refine ak (aA rfl (drop_nil hD_29) (bn ?_))
     exact aW (s_31) rfl rfl (aL rfl)
    | cons x_28 l_27 =>
     obtain ⟨c_,hc_32,hL_33⟩:=bind_some hL_33
     refine ai (aa (vB (decide ((k_26:Int)<(l_1.length:Int)))) (af ?_))
     refine ak (aB rfl (bC hD_29) (ax ?_))
     unfold ib at hc_32
     refine ak (aN (ai (iV nM rfl rfl (bT hD_29) rfl wz (eP fo iW rfl (.d (.agg (Alert.enc x_28))) rfl wz (fF 0 (.inl rfl) z51 rfl wz (λn_36=>fV 0 il ft 1 fo rfl rfl (Alert.v x_28) rfl wz (af (au (aa (.map n_25) (aH fw rfl 0 rfl wz (aG 0 1 il ft sz9 ag9 rfl rfl (vS x_28.Id) rfl wz (Aa (eq:=eqS) (kD:=D.str) (vD:=D.bool) (es:=s_31) (k:=x_28.Id) (v:=true) 0 0 il ft (λ_ _=>rfl) mt68 (by kernel_rfl) rfl rfl rfl rfl wz (af (au (fQ (bL hD_29 hn_30) wz rfl (aa (vI ((k_26+1:Nat):Int)) (af ?_)))))))))))))))))
     obtain rfl:=ae hc_32
     exact bg (k_26+1,l_27,(kQ eqS s_31 x_28.Id true)) ⟨hL_33,aS hD_29⟩ (ls_ _) rfl (aL rfl)
   ·rintro s_31 ho_ sl_ H_ hp_ hq_
    subst ho_
    refine aP _ hp_ hq_ (ak (ai (aa (.map n_25) (Kc (kD:=D.str) (vD:=D.bool) (es:=s_31) 0 0 il ft mt68 rfl rfl wz (aa (vL Alert.enc l_1) (dB qi rfl wz (aa (vB (decide ((s_31.length:Int)<(l_1.length:Int)))) (af ?_))))))))
    rcases aj hF with⟨hc_37,hF⟩|⟨hc_37,hF⟩
    ·refine aB rfl hc_37 (ai (aa (vI 6) (af ?_)))
     obtain rfl:=ae hF
     exact ay (aM [(vI 6)] ⟨rfl,trivial⟩)
    ·refine aA rfl hc_37 (ax (ai (aa (vI 0) (af ?_))))
     obtain rfl:=ae hF
     exact ay (aM [(vI 0)] ⟨rfl,trivial⟩)
theorem yh {is_1:Bool} {e_2:Int} {r:Int} (hF:oL is_1 e_2=some r) :
  FnM Tryz.prog 13 [(vB is_1),(vI e_2)] [] (vI r) []:=by
 refine FnM.of_wH ⟨Tryz.prog,7,[],[]⟩ rfl Tryz.func13 rfl rfl (lb_ rfl) (by kernel_rfl) ?_
 unfold oL at hF
 refine ai (aa (vI 0) (af (ak (ai (aa (vB is_1) (af ?_))))))
 rcases aj hF with⟨hc_3,hF⟩|⟨hc_3,hF⟩
 ·refine aB rfl hc_3 (ai (aa (vI e_2) (aa (vI e_2) (af ?_))))
  obtain rfl:=ae hF
  exact ay (aM [(vI e_2)] ⟨rfl,trivial⟩)
 ·refine aA rfl hc_3 (ax (ai (aa (vI 0) (af ?_))))
  obtain rfl:=ae hF
  exact ay (aM [(vI 0)] ⟨rfl,trivial⟩)
theorem vv {atv_1:Int} {r:Int} (hF:jA atv_1=some r) :
  FnM Tryz.prog 12 [(vI atv_1)] [] (vI r) []:=by
 refine FnM.of_wH ⟨Tryz.prog,7,[],[]⟩ rfl Tryz.func12 rfl rfl (lb_ rfl) (by kernel_rfl) ?_
 unfold jA at hF
 refine ai (aa (vI 0) (af (ai (aa (vI atv_1) ?_))))
 obtain ⟨r_2,hr_3,hF⟩:=bind_some hF
 refine aF (uO hr_3) rfl hb37 rfl rfl rfl rfl wz (aa (vB (!r_2)) ?_)
 obtain ⟨r_4,hr_5,hF⟩:=bind_some hF
 refine aF (yh hr_5) rfl hb13 rfl rfl rfl rfl wz (aa (vI r_4) (af ?_))
 obtain rfl:=ae hF
 exact ay (aM [(vI r_4)] ⟨rfl,trivial⟩)
theorem EF {l_1:(List Int)} {r:Int} (hF:sN l_1=some r) :
  FnM Tryz.prog 11 [(vL eI l_1)] [] (vI r) []:=by
 refine FnM.of_wH ⟨Tryz.prog,15,[],[]⟩ rfl Tryz.func11 rfl rfl (lb_ rfl) (by kernel_rfl) ?_
 unfold sN at hF
 refine ai (aa (vI 0) (af (ak (ai (aa (vL eI l_1) (dB un69 rfl wz (aa (vI 0) (af ?_))))))))
 obtain ⟨o_10,hj_11,hF⟩:=bind_some hF
 obtain ⟨hn_6,hj_11⟩:=aZ hj_11
 refine dF (λ(s_7:Unit)=>[]) (λ(s_7:Unit)=>[]) (λ(k_2:Nat)=>(λ(s_7:Unit)=>[(5,(vL eI l_1)),(6,(vI (l_1.length:Int))),(7,(vI (k_2:Int)))])) (λk x s=>pW k x s) o_10 l_1 () hj_11 rfl (aL rfl) ?_ ?_
 ·rintro ⟨k_2,l_3,s_7⟩ ⟨hL_9,hD_5⟩
  dsimp only at hL_9 hD_5
  cases l_3 with
  | nil =>
   obtain rfl:=ae hL_9
   refine ai (aa (vB (decide ((k_2:Int)<(l_1.length:Int)))) (af ?_))
   refine ak (aA rfl (drop_nil hD_5) (bn ?_))
   exact aW (s_7) rfl rfl (aL rfl)
  | cons x_4 l_3 =>
   obtain ⟨c_,hc_8,hL_9⟩:=bind_some hL_9
   refine ai (aa (vB (decide ((k_2:Int)<(l_1.length:Int)))) (af ?_))
   refine ak (aB rfl (bC hD_5) (ax ?_))
   unfold pW at hc_8
   refine ak (aN (ai (iV es69 rfl rfl (bT hD_5) rfl wz (eP sz31 ag31 rfl (vI x_4) rfl wz (aa (vI x_4) (af (ai (aa (vI x_4) (aa (vB (x_4 != 0)) (af ?_))))))))))
   rcases aj hc_8 with⟨hc_12,hc_8⟩|⟨hc_12,hc_8⟩
   ·refine aB rfl hc_12 (ai (aa (vI x_4) (aa (vI x_4) (af ?_))))
    obtain rfl:=ae hc_8
    obtain rfl:=ae hL_9
    obtain rfl:=ae hF
    exact ay (aM [(vI x_4)] ⟨rfl,trivial⟩)
   ·refine aA rfl hc_12 (ax (au (fQ (bL hD_5 hn_6) wz rfl (aa (vI ((k_2+1:Nat):Int)) (af ?_)))))
    obtain rfl:=ae hc_8
    exact bg (k_2+1,l_3,()) ⟨hL_9,aS hD_5⟩ (ls_ _) rfl (aL rfl)
 ·rintro s_7 ho_ sl_ H_ hp_ hq_
  subst ho_
  refine aP _ hp_ hq_ (ai (aa (vI 0) (af ?_)))
  obtain rfl:=ae hF
  exact ay (aM [(vI 0)] ⟨rfl,trivial⟩)
theorem wW {a_1:Alert} {p_2:ByteArray} {r:Bool} (hF:l5 a_1 p_2=some r) :
  FnM Tryz.prog 39 [(.d (.agg (Alert.enc a_1))),(.ref (av 0) 0 0)] [(.cells 1 [(vS p_2)])] (vB r) [some (.cells 1 [(vS p_2)])]:=by
 refine FnM.of_wH ⟨Tryz.prog,8,[],[]⟩ rfl Tryz.func39 rfl rfl (lb_ rfl) (by kernel_rfl) ?_
 unfold l5 at hF
 refine ai (gP 0 (.inl rfl) (Alert.v a_1) rfl rfl wz (λn_3=>aa (vB false) (af (ai (aH fw rfl 0 rfl wz (aG 0 1 il ft sz9 ag9 rfl rfl (vS a_1.Id) rfl wz (aG 0 0 il ft sz9 ag9 rfl rfl (vS p_2) rfl wz (aa (vB (sEq a_1.Id p_2)) (aa (vB (sEq a_1.Id p_2)) (af ?_))))))))))
 obtain rfl:=ae hF
 exact ay (qM (.inr rfl) [(vB (sEq a_1.Id p_2))] _ [0] [av 0] ⟨rfl,trivial⟩ (.cons (fB rfl rfl) (.nil)) (by kernel_rfl) ⟨(by kernel_rfl),trivial⟩ (by decide) (by kernel_rfl))
theorem fA {s_1:(List Alert)} {f_2:Alert->Option Bool} {r:Bool} {gid:FuncId} {caps:List V} {Sin:List Box} (hfn:∀x0 r,f_2 x0=some r->FnM Tryz.prog gid ([(.d (.agg (Alert.enc x0)))]++caps) Sin (vB r) (Sin.map some)) (hbF:aD Tryz.prog gid=true) (hcapF:caps.flatMap frz=[]/\caps.map co0=caps) (hokF:okL Sin.length caps=true) (hsF:∀b∈Sin,b.ok Sin.length=true) (hmF:∀b∈Sin,b.mut=true) (hF:aY s_1 f_2=some r) :
  FnM Tryz.prog 38 [(vL Alert.enc s_1),(.fn gid caps)] Sin (vB r) (Sin.map some):=by
 refine FnM.of_wH ⟨Tryz.prog,9,[],[]⟩ rfl Tryz.func38 rfl rfl (lb_ rfl) (by kernel_rfl) ?_
 unfold aY at hF
 refine ai (aa (vB false) (af (ai (aa (vL Alert.enc s_1) (aa (.fn gid caps) ?_)))))
 obtain ⟨r_3,hr_4,hF⟩:=bind_some hF
 refine tZ (dJ (gid:=gid) (caps:=caps) (Sin:=Sin) hfn hbF hcapF hokF hsF hmF hr_4) rfl hb26 rfl rfl ⟨rfl,rfl⟩ (by simp [okL,okV,hokF]) hsF hmF rfl wz rfl (aa (vB (decide (r_3>=0))) (aa (vB (decide (r_3>=0))) (af ?_)))
 obtain rfl:=ae hF
 exact ay (Dk hsF (.inr rfl) [(vB (decide (r_3>=0)))] ⟨rfl,trivial⟩ rfl rfl rfl)
theorem yJ {l_1:(List Alert)} {id_2:ByteArray} {r:Bool} (hF:kK l_1 id_2=some r) :
  FnM Tryz.prog 14 [(vL Alert.enc l_1),(vS id_2)] [] (vB r) []:=by
 refine FnM.of_wH ⟨Tryz.prog,8,[],[]⟩ rfl Tryz.func14 rfl rfl (lb_ rfl) (by kernel_rfl) ?_
 unfold kK at hF
 refine ai (gP 0 (.inl rfl) [(vS id_2)] rfl rfl wz (λn_3=>aa (vB false) (af (ai (aa (vL Alert.enc l_1) (aa (.fn 39 [(.ref n_3 0 0)]) ?_))))))
 obtain ⟨r_4,hr_5,hF⟩:=bind_some hF
 refine aV 0 [0] il ft (fA (gid:=39) (caps:=[.ref (av 0) 0 0]) (Sin:=[(.cells 1 [(vS id_2)])]) (λ_ _ h_=>wW h_) hb39 ⟨rfl,rfl⟩ (by kernel_rfl) (vo (by kernel_rfl)) (rD (by kernel_rfl)) hr_5) rfl hb38 rfl (by kernel_rfl) (by kernel_rfl) (by kernel_rfl) (by kernel_rfl) (by kernel_rfl) (by kernel_rfl) (by kernel_rfl) (by decide) (by kernel_rfl) wz (vB r_4) (by kernel_rfl) ([(n_3,some (.cells 1 [(vS id_2)]))]:Hp) (by kernel_rfl) (aa (vB r_4) (af ?_))
 obtain rfl:=ae hF
 exact ay (aM [(vB r_4)] ⟨rfl,trivial⟩)
theorem zF {o_1:Alert} {p_2:ByteArray} {p_3:Alert} {r:Bool} (hF:jU o_1 p_2 p_3=some r) :
  FnM Tryz.prog 64 [(.d (.agg (Alert.enc o_1))),(.ref (av 0) 0 0),(.ref (av 1) 0 0)] [(.cells 1 [(vS p_2)]),(.cells 9 (Alert.v p_3))] (vB r) [some (.cells 1 [(vS p_2)]),some (.cells 9 (Alert.v p_3))]:=by
 refine FnM.of_wH ⟨Tryz.prog,22,[],[]⟩ rfl Tryz.func64 rfl rfl (lb_ rfl) (by kernel_rfl) ?_
 unfold jU at hF
 refine ai (gP 0 (.inl rfl) (Alert.v o_1) rfl rfl wz (λn_4=>aa (vB false) (af (ak ?_))))
 obtain ⟨v_5,h_6,hF⟩:=bind_some hF
 refine aO [(4,(vB v_5))] [((av 0),some (.cells 1 [(vS p_2)])),((av 1),some (.cells 9 (Alert.v p_3))),(n_4,some (.cells 9 (Alert.v o_1)))] ?_ ?_
 ·refine au (aH fw rfl 0 rfl wz (aG 0 2 il ft sz9 ag9 rfl rfl (vS o_1.Id) rfl wz (aG 0 0 il ft sz9 ag9 rfl rfl (vS p_2) rfl wz (aa (vB (sEq o_1.Id p_2)) ?_))))
  rcases aj h_6 with⟨hc_7,h_6⟩|⟨hc_7,h_6⟩
  ·refine aC rfl hc_7 wz (aH vz rfl 1 rfl wa (aG 0 2 il ft sz9 ag9 rfl rfl (vS o_1.Sender) rfl wa (aH vz rfl 1 rfl wa (aG 0 1 il ft sz9 ag9 rfl rfl (vS p_3.Sender) rfl wa (aI (vB (sEq o_1.Sender p_3.Sender)) wa rfl (aa (vB (sEq o_1.Sender p_3.Sender)) ?_))))))
   rcases aj h_6 with⟨hc_8,h_6⟩|⟨hc_8,h_6⟩
   ·refine aC rfl hc_8 wz (aG 0 2 il ft fo iW rfl rfl (.d (.agg (Alert.enc o_1))) rfl wa (aG 0 1 il ft fo iW rfl rfl (.d (.agg (Alert.enc p_3))) rfl wa ?_))
    obtain ⟨r_9,hr_10,h_6⟩:=bind_some h_6
    refine aF (pM hr_10) rfl hb36 rfl rfl rfl rfl wa (aI (vB (decide (r_9<0))) wa rfl (aa (vB (decide (r_9<0))) (aa (vB (decide (r_9<0))) (af ?_))))
    obtain rfl:=ae h_6
    exact cu
   ·refine aC rfl hc_8 wz (ah (ah (ah (ah (aa (vB false) (aa (vB false) (af ?_)))))))
    obtain rfl:=ae h_6
    exact cu
  ·refine aC rfl hc_7 wz (ah (ah (ah (ah (ah (aa (vB false) (aa (vB false) (ah (ah (ah (ah (aa (vB false) (aa (vB false) (af ?_))))))))))))))
   obtain rfl:=ae h_6
   exact cu
 ·rintro ⟨⟩ _ sl_ H_ hp_ hq_
  refine aP _ hp_ hq_ ?_
  obtain rfl:=ae hF
  exact ay (qM (.inr rfl) [(vB v_5)] _ [0,1] [av 0,av 1] ⟨rfl,trivial⟩ (.cons (fB rfl rfl) (.nil)) (by kernel_rfl) ⟨(by kernel_rfl),⟨(by kernel_rfl),trivial⟩⟩ (by decide) (by kernel_rfl))
theorem rE {l_1:(List Alert)} {a_2:Alert} {ref_3:ByteArray} {r:Bool} (hF:mO l_1 a_2 ref_3=some r) :
  FnM Tryz.prog 40 [(vL Alert.enc l_1),(.d (.agg (Alert.enc a_2))),(vS ref_3)] [] (vB r) []:=by
 refine FnM.of_wH ⟨Tryz.prog,10,[],[]⟩ rfl Tryz.func40 rfl rfl (lb_ rfl) (by kernel_rfl) ?_
 unfold mO at hF
 refine ai (gP 0 (.inl rfl) (Alert.v a_2) rfl rfl wz (λn_4=>gP 0 (.inl rfl) [(vS ref_3)] rfl rfl wz (λn_5=>aa (vB false) (af (ai (aa (vL Alert.enc l_1) (aa (.fn 64 [(.ref n_5 0 0),(.ref n_4 0 0)]) ?_)))))))
 obtain ⟨r_6,hr_7,hF⟩:=bind_some hF
 refine aV 0 [1,0] il ft (fA (gid:=64) (caps:=[.ref (av 0) 0 0,.ref (av 1) 0 0]) (Sin:=[(.cells 1 [(vS ref_3)]),(.cells 9 (Alert.v a_2))]) (λ_ _ h_=>zF h_) hb64 ⟨rfl,rfl⟩ (by kernel_rfl) (vo (by kernel_rfl)) (rD (by kernel_rfl)) hr_7) rfl hb38 rfl (by kernel_rfl) (by kernel_rfl) (by kernel_rfl) (by kernel_rfl) (by kernel_rfl) (by kernel_rfl) (by kernel_rfl) (by decide) (by kernel_rfl) wz (vB r_6) (by kernel_rfl) ([(n_4,some (.cells 9 (Alert.v a_2))),(n_5,some (.cells 1 [(vS ref_3)]))]:Hp) (by kernel_rfl) (aa (vB r_6) (af ?_))
 obtain rfl:=ae hF
 exact ay (aM [(vB r_6)] ⟨rfl,trivial⟩)
theorem nN {s_1:(List ByteArray)} {v_2:ByteArray} {r:Int} (hF:fD s_1 v_2=some r) :
  FnM Tryz.prog 65 [(vL eS s_1),(vS v_2)] [] (vI r) []:=by
 refine FnM.of_wH ⟨Tryz.prog,19,[],[]⟩ rfl Tryz.func65 rfl rfl (lb_ rfl) (by kernel_rfl) ?_
 unfold fD at hF
 refine ai (aa (vI 0) (af (ak (ai (aa (vL eS s_1) (dB pG rfl wz (aa (vI 0) (af ?_))))))))
 obtain ⟨o_11,hj_12,hF⟩:=bind_some hF
 obtain ⟨hn_7,hj_12⟩:=aZ hj_12
 refine dF (λ(s_8:Unit)=>[]) (λ(s_8:Unit)=>[]) (λ(k_3:Nat)=>(λ(s_8:Unit)=>[(0,(vL eS s_1)),(1,(vS v_2)),(7,(vI (s_1.length:Int))),(8,(vI (k_3:Int)))])) (λk x s=>dZ v_2 k x s) o_11 s_1 () hj_12 rfl (aL rfl) ?_ ?_
 ·rintro ⟨k_3,l_4,s_8⟩ ⟨hL_10,hD_6⟩
  dsimp only at hL_10 hD_6
  cases l_4 with
  | nil =>
   obtain rfl:=ae hL_10
   refine ai (aa (vB (decide ((k_3:Int)<(s_1.length:Int)))) (af ?_))
   refine ak (aA rfl (drop_nil hD_6) (bn ?_))
   exact aW (s_8) rfl rfl (aL rfl)
  | cons x_5 l_4 =>
   obtain ⟨c_,hc_9,hL_10⟩:=bind_some hL_10
   refine ai (aa (vB (decide ((k_3:Int)<(s_1.length:Int)))) (af ?_))
   refine ak (aB rfl (bC hD_6) (ax ?_))
   unfold dZ at hc_9
   refine ak (aN (ai (aa (vI (k_3:Int)) (aa (vI (k_3:Int)) (af (ai (aa (vS v_2) (aa (vL eS s_1) (aa (vI (k_3:Int)) (iV iL rfl rfl (bT hD_6) rfl wz (eP sz9 ag9 rfl (vS x_5) rfl wz (aa (vB (sEq v_2 x_5)) (af ?_)))))))))))))
   rcases aj hc_9 with⟨hc_13,hc_9⟩|⟨hc_13,hc_9⟩
   ·refine aB rfl hc_13 (ai (aa (vI (k_3:Int)) (aa (vI (k_3:Int)) (af ?_))))
    obtain rfl:=ae hc_9
    obtain rfl:=ae hL_10
    obtain rfl:=ae hF
    exact ay (aM [(vI (k_3:Int))] ⟨rfl,trivial⟩)
   ·refine aA rfl hc_13 (ax (au (fQ (bL hD_6 hn_7) wz rfl (aa (vI ((k_3+1:Nat):Int)) (af ?_)))))
    obtain rfl:=ae hc_9
    exact bg (k_3+1,l_4,()) ⟨hL_10,aS hD_6⟩ (ls_ _) rfl (aL rfl)
 ·rintro s_8 ho_ sl_ H_ hp_ hq_
  subst ho_
  refine aP _ hp_ hq_ (ai (aa (vI (-1)) (af ?_)))
  obtain rfl:=ae hF
  exact ay (aM [(vI (-1))] ⟨rfl,trivial⟩)
theorem lT {s_1:(List ByteArray)} {v_2:ByteArray} {r:Bool} (hF:cZ s_1 v_2=some r) :
  FnM Tryz.prog 41 [(vL eS s_1),(vS v_2)] [] (vB r) []:=by
 refine FnM.of_wH ⟨Tryz.prog,9,[],[]⟩ rfl Tryz.func41 rfl rfl (lb_ rfl) (by kernel_rfl) ?_
 unfold cZ at hF
 refine ai (aa (vB false) (af (ai (aa (vL eS s_1) (aa (vS v_2) ?_)))))
 obtain ⟨r_3,hr_4,hF⟩:=bind_some hF
 refine aF (nN hr_4) rfl hb65 rfl rfl rfl rfl wz (aa (vB (decide (r_3>=0))) (aa (vB (decide (r_3>=0))) (af ?_)))
 obtain rfl:=ae hF
 exact ay (aM [(vB (decide (r_3>=0)))] ⟨rfl,trivial⟩)
theorem l9 {s_1:(List ByteArray)} {v_2:ByteArray} {r:Int} (hF:d9 s_1 v_2=some r) :
  FnM Tryz.prog 65 [(dV (av 0) 1 s_1),(vS v_2)] (([]:List Box)++gI 1 eS s_1) (vI r) (([]:List Box).map some++gT s_1 (gB 1 eS s_1)):=by
 refine FnM.of_wHv ⟨Tryz.prog,19,[],[]⟩ rfl Tryz.func65 rfl rfl (lb_ rfl) (by kernel_rfl) ?_
 unfold d9 at hF
 refine ai (aa (vI 0) (af (ak (ai (aa (dV (av 0) 1 s_1) (Gq pG rfl wz (aa (vI 0) (af ?_))))))))
 obtain ⟨o_11,hj_12,hF⟩:=bind_some hF
 obtain ⟨hn_7,hj_12⟩:=aZ hj_12
 refine dF (λ(s_8:Unit)=>[]) (λ(s_8:Unit)=>[((av 0),gB 1 eS s_1)]) (λ(k_3:Nat)=>(λ(s_8:Unit)=>[(0,(dV (av 0) 1 s_1)),(1,(vS v_2)),(7,(vI (s_1.length:Int))),(8,(vI (k_3:Int)))])) (λk x s=>bf s_1 v_2 k x s) o_11 (List.range ((s_1.length:Int)).toNat) () hj_12 rfl (aL rfl) ?_ ?_
 ·rintro ⟨k_3,l_4,s_8⟩ ⟨hL_10,hD_6⟩
  dsimp only at hL_10 hD_6
  cases l_4 with
  | nil =>
   obtain rfl:=ae hL_10
   refine ai (aa (vB (decide ((k_3:Int)<(s_1.length:Int)))) (af ?_))
   refine ak (aA rfl (qC hD_6) (bn ?_))
   exact aW (s_8) rfl rfl (aL rfl)
  | cons x_5 l_4 =>
   obtain ⟨c_,hc_9,hL_10⟩:=bind_some hL_10
   refine ai (aa (vB (decide ((k_3:Int)<(s_1.length:Int)))) (af ?_))
   refine ak (aB rfl (o5 hD_6) (ax ?_))
   unfold bf at hc_9
   refine ak (aN (ai (aa (vI (k_3:Int)) (aa (vI (k_3:Int)) (af (ai (aa (vS v_2) (aa (dV (av 0) 1 s_1) (aa (vI (k_3:Int)) ?_)))))))))
   obtain ⟨_,hi_13,hc_9⟩:=bind_some hc_9
   refine mJ iL rfl rfl (nD hi_13) (ko hi_13) wz ?_
   obtain ⟨e_14,hy_15,hc_9⟩:=bind_some hc_9
   refine mW 0 0 il ft sz9 ag9 rfl rfl hy_15 (vS e_14) rfl wz (aa (vB (sEq v_2 e_14)) (af ?_))
   rcases aj hc_9 with⟨hc_16,hc_9⟩|⟨hc_16,hc_9⟩
   ·refine aB rfl hc_16 (ai (aa (vI (k_3:Int)) (aa (vI (k_3:Int)) (af ?_))))
    obtain rfl:=ae hc_9
    obtain rfl:=ae hL_10
    obtain rfl:=ae hF
    exact ay (Aq (bs:=([]:List Box)) (os:=([]:List Box)) (xs:=s_1) (o:=gB 1 eS s_1) (.inr rfl) [(vI (k_3:Int))] ⟨rfl,trivial⟩ rfl rfl rfl rfl rfl (by kernel_rfl) kW rfl)
   ·refine aA rfl hc_16 (ax (au (fQ (qP hD_6 hn_7) wz rfl (aa (vI ((k_3+1:Nat):Int)) (af ?_)))))
    obtain rfl:=ae hc_9
    exact bg (k_3+1,l_4,()) ⟨hL_10,aS hD_6⟩ (ls_ _) rfl (aL rfl)
 ·rintro s_8 ho_ sl_ H_ hp_ hq_
  subst ho_
  refine aP _ hp_ hq_ (ai (aa (vI (-1)) (af ?_)))
  obtain rfl:=ae hF
  exact ay (Aq (bs:=([]:List Box)) (os:=([]:List Box)) (xs:=s_1) (o:=gB 1 eS s_1) (.inr rfl) [(vI (-1))] ⟨rfl,trivial⟩ rfl rfl rfl rfl rfl (by kernel_rfl) kW rfl)
theorem gM {s_1:(List ByteArray)} {v_2:ByteArray} {r:Bool} (hF:bJ s_1 v_2=some r) :
  FnM Tryz.prog 41 [(dV (av 0) 1 s_1),(vS v_2)] (([]:List Box)++gI 1 eS s_1) (vB r) (([]:List Box).map some++gT s_1 (gB 1 eS s_1)):=by
 refine FnM.of_wHv ⟨Tryz.prog,9,[],[]⟩ rfl Tryz.func41 rfl rfl (lb_ rfl) (by kernel_rfl) ?_
 unfold bJ at hF
 refine ai (aa (vB false) (af (ai (aa (dV (av 0) 1 s_1) (aa (vS v_2) ?_)))))
 obtain ⟨r_3,hr_4,hF⟩:=bind_some hF
 refine ny 0 [] 0 0 il ft (l9 hr_4) rfl hb65 rfl rfl rfl (by kernel_rfl) rfl (.inr (.inl rfl)) rfl (by kernel_rfl) (by kernel_rfl) (by kernel_rfl) (by kernel_rfl) rfl (by decide) (by kernel_rfl) kW (uR rfl) wz ([((av 0),gB 1 eS s_1)]:Hp) (by kernel_rfl) (aa (vB (decide (r_3>=0))) (aa (vB (decide (r_3>=0))) (af ?_)))
 obtain rfl:=ae hF
 exact ay (Aq (bs:=([]:List Box)) (os:=([]:List Box)) (xs:=s_1) (o:=gB 1 eS s_1) (.inr rfl) [(vB (decide (r_3>=0)))] ⟨rfl,trivial⟩ rfl rfl rfl rfl rfl (by kernel_rfl) kW rfl)
theorem yF {l_1:(List Alert)} {id_2:ByteArray} {r:(List ByteArray)} (hF:lU l_1 id_2=some r) :
  FnM Tryz.prog 15 [(vL Alert.enc l_1),(vS id_2)] [] (vL eS r) []:=by
 refine FnM.of_wH ⟨Tryz.prog,70,[14],[]⟩ rfl Tryz.func15 rfl rfl (lb_ rfl) (by kernel_rfl) ?_
 unfold lU at hF
 refine ai (aa .nil (af (ai (aa (vS id_2) (K7 0 (.inl rfl) (([id_2]:List ByteArray).map eS) iL oM rfl rfl rfl rfl rfl wz (λn_3=>aa (vV n_3 1 ([id_2]:List ByteArray)) (af (ak (ai (aa (vI 0) (af ?_)))))))))))
 obtain ⟨o_14,hj_15,hF⟩:=bind_some hF
 obtain ⟨nq_72,hj_15⟩:=gD hj_15
 refine EB (σ:=(List ByteArray)×Int) (N:=Nm) (λp=>(λ(s_9:(List ByteArray)×Int) (n_11:Nm)=>([(5,(vV n_11 1 s_9.1))]:SL_)) p.1 p.2) (λp=>(λ(s_9:(List ByteArray)×Int) (n_11:Nm)=>([(n_11,some (bV 1 eS s_9.1))]:Hp)) p.1 p.2) (λ(k_4:Nat)=>(λp=>(λ(s_9:(List ByteArray)×Int) (n_11:Nm)=>([(0,(vL Alert.enc l_1)),(5,(vV n_11 1 s_9.1)),(6,(vI s_9.2))]:SL_)) p.1 p.2)) (λs=>iH l_1 s) o_14 nq_72 ((([id_2]:List ByteArray),0),n_3) hj_15 rfl (aL rfl) ?_ ?_
 ·rintro ⟨k_4,s_9,n_11⟩ hL_13
  dsimp only at hL_13
  cases k_4 with
  | zero=>cases hL_13
  | succ k_4 =>
   obtain ⟨c_,hc_12,hL_13⟩:=bind_some hL_13
   unfold iH at hc_12
   refine ak (ai (aa (vI s_9.2) (aa (vV n_11 1 s_9.1) (GJ pG rfl wz (aa (vB (decide (s_9.2<(s_9.1.length:Int)))) (af ?_))))))
   rcases aj hc_12 with⟨hc_16,hc_12⟩|⟨hc_16,hc_12⟩
   ·refine aB rfl hc_16 (ax (aN (ai (aa (vV n_11 1 s_9.1) (GJ pG rfl wz (aa (vI (s_9.1.length:Int)) (af (ai (aa (vL Alert.enc l_1) (dB qi rfl wz (aa (vI 0) (af ?_))))))))))))
    obtain ⟨o_27,hj_28,hc_12⟩:=bind_some hc_12
    obtain ⟨hn_21,hj_28⟩:=aZ hj_28
    refine iI (σ:=(List ByteArray)) (N:=Nm) (λp=>(λ(s_22:List ByteArray) (n_24:Nm)=>([(0,(vL Alert.enc l_1)),(5,(vV n_24 1 s_22)),(6,(vI (s_9.1.length:Int)))]:SL_)) p.1 p.2) (λp=>(λ(s_22:List ByteArray) (n_24:Nm)=>([(n_24,some (bV 1 eS s_22))]:Hp)) p.1 p.2) (λ(k_17:Nat)=>(λp=>(λ(s_22:List ByteArray) (n_24:Nm)=>([(0,(vL Alert.enc l_1)),(5,(vV n_24 1 s_22)),(6,(vI (s_9.1.length:Int))),(21,(vL Alert.enc l_1)),(22,(vI (l_1.length:Int))),(23,(vI (k_17:Int)))]:SL_)) p.1 p.2)) (λk x s=>iB l_1 k x s) o_27 l_1 (s_9.1,n_11) hj_28 rfl (aL rfl) ?_ ?_
    ·rintro ⟨k_17,l_18,s_22,n_24⟩ ⟨hL_26,hD_20⟩
     dsimp only at hL_26 hD_20
     cases l_18 with
     | nil =>
      obtain rfl:=ae hL_26
      refine ai (aa (vB (decide ((k_17:Int)<(l_1.length:Int)))) (af ?_))
      refine ak (aA rfl (drop_nil hD_20) (bn ?_))
      exact aW (s_22,n_24) rfl rfl (aL rfl)
     | cons x_19 l_18 =>
      obtain ⟨c_,hc_25,hL_26⟩:=bind_some hL_26
      refine ai (aa (vB (decide ((k_17:Int)<(l_1.length:Int)))) (af ?_))
      refine ak (aB rfl (bC hD_20) (ax ?_))
      unfold iB at hc_25
      refine ak (aN (ai (iV nM rfl rfl (bT hD_20) rfl wz (eP fo iW rfl (.d (.agg (Alert.enc x_19))) rfl wz (fF 0 (.inl rfl) z51 rfl wz (λn_29=>fV 0 il ft 1 fo rfl rfl (Alert.v x_19) rfl wz (af (ai (aH jl rfl 3 rfl wz (aG 0 1 il ft qG tK rfl rfl (vL eS x_19.Refs) rfl wz (dB pG rfl wz (aa (vI 0) (af ?_)))))))))))))
      obtain ⟨o_40,hj_41,hc_25⟩:=bind_some hc_25
      obtain ⟨hn_34,hj_41⟩:=aZ hj_41
      refine iI (σ:=(List ByteArray)) (N:=Nm) (λp=>(λ(s_35:List ByteArray) (n_37:Nm)=>([(0,(vL Alert.enc l_1)),(5,(vV n_37 1 s_35)),(6,(vI (s_9.1.length:Int))),(21,(vL Alert.enc l_1)),(22,(vI (l_1.length:Int))),(23,(vI (k_17:Int)))]:SL_)) p.1 p.2) (λp=>(λ(s_35:List ByteArray) (n_37:Nm)=>([(n_37,some (bV 1 eS s_35)),(n_29,some (.cells 9 (Alert.v x_19)))]:Hp)) p.1 p.2) (λ(k_30:Nat)=>(λp=>(λ(s_35:List ByteArray) (n_37:Nm)=>([(0,(vL Alert.enc l_1)),(5,(vV n_37 1 s_35)),(6,(vI (s_9.1.length:Int))),(8,(.ref n_29 0 0)),(21,(vL Alert.enc l_1)),(22,(vI (l_1.length:Int))),(23,(vI (k_17:Int))),(28,(vL eS x_19.Refs)),(29,(vI (x_19.Refs.length:Int))),(30,(vI (k_30:Int)))]:SL_)) p.1 p.2)) (λk x s=>iC l_1 x_19 k x s) o_40 x_19.Refs (s_22,n_24) hj_41 rfl (aL rfl) ?_ ?_
      ·rintro ⟨k_30,l_31,s_35,n_37⟩ ⟨hL_39,hD_33⟩
       dsimp only at hL_39 hD_33
       cases l_31 with
       | nil =>
        obtain rfl:=ae hL_39
        refine ai (aa (vB (decide ((k_30:Int)<(x_19.Refs.length:Int)))) (af ?_))
        refine ak (aA rfl (drop_nil hD_33) (bn ?_))
        exact aW (s_35,n_37) rfl rfl (aL rfl)
       | cons x_32 l_31 =>
        obtain ⟨c_,hc_38,hL_39⟩:=bind_some hL_39
        refine ai (aa (vB (decide ((k_30:Int)<(x_19.Refs.length:Int)))) (af ?_))
        refine ak (aB rfl (bC hD_33) (ax ?_))
        unfold iC at hc_38
        refine ak (aN (ai (iV iL rfl rfl (bT hD_33) rfl wz (eP sz9 ag9 rfl (vS x_32) rfl wz (aa (vS x_32) (af (ak (ai (aa (vL Alert.enc l_1) (aG 0 1 il ft fo iW rfl rfl (.d (.agg (Alert.enc x_19))) rfl wz (aa (vS x_32) ?_)))))))))))
        obtain ⟨r_42,hr_43,hc_38⟩:=bind_some hc_38
        refine aF (rE hr_43) rfl hb40 rfl rfl rfl rfl wz (aa (vB (!r_42)) (af ?_))
        rcases aj hc_38 with⟨hc_44,hc_38⟩|⟨hc_44,hc_38⟩
        ·refine aB rfl hc_44 (bn (au (fQ (bL hD_33 hn_34) wz rfl (aa (vI ((k_30+1:Nat):Int)) (af ?_)))))
         obtain rfl:=ae hc_38
         exact bg (k_30+1,l_31,s_35,n_37) ⟨hL_39,aS hD_33⟩ (ls_ _) rfl (aL rfl)
        ·refine aA rfl hc_44 (ax (ai (aa (vV n_37 1 s_35) (aH fw rfl 0 rfl wz (aG 0 1 il ft sz9 ag9 rfl rfl (vS x_19.Id) rfl wz ?_)))))
         obtain ⟨_,hn_45,hc_38⟩:=bind_some hc_38
         replace hn_45:=Gb hn_45
         refine zh 0 rfl (wJ hn_45).symm ?_
         obtain ⟨r_46,hr_47,hc_38⟩:=bind_some hc_38
         refine ny 0 [] 0 0 il ft (gM hr_47) rfl hb41 rfl rfl rfl (by kernel_rfl) rfl (.inr (.inr ⟨rfl,hn_45⟩)) rfl (by kernel_rfl) (by kernel_rfl) (by kernel_rfl) (by kernel_rfl) rfl (by decide) (by kernel_rfl) kW (uR rfl) wz ([(n_37,gB 1 eS s_35),(n_29,some (.cells 9 (Alert.v x_19)))]:Hp) (by kernel_rfl) (zh 0 rfl (wJ hn_45) (aa (vV n_37 1 s_35) (aa (vS x_32) ?_)))
         obtain ⟨_,hn_48,hc_38⟩:=bind_some hc_38
         replace hn_48:=Gb hn_48
         refine zh 0 rfl (wJ hn_48).symm ?_
         obtain ⟨r_49,hr_50,hc_38⟩:=bind_some hc_38
         refine ny 0 [] 0 0 il ft (gM hr_50) rfl hb41 rfl rfl rfl (by kernel_rfl) rfl (.inr (.inr ⟨rfl,hn_48⟩)) rfl (by kernel_rfl) (by kernel_rfl) (by kernel_rfl) (by kernel_rfl) rfl (by decide) (by kernel_rfl) kW (uR rfl) wz ([(n_37,gB 1 eS s_35),(n_29,some (.cells 9 (Alert.v x_19)))]:Hp) (by kernel_rfl) (zh 0 rfl (wJ hn_48) (aa (vB r_46) (aa (vB r_49) (af (ak ?_)))))
         obtain ⟨v_51,h_52,hc_38⟩:=bind_some hc_38
         refine aO [(0,(vL Alert.enc l_1)),(5,(vV n_37 1 s_35)),(6,(vI (s_9.1.length:Int))),(8,(.ref n_29 0 0)),(10,(vS x_32)),(11,(vB r_46)),(12,(vB r_49)),(21,(vL Alert.enc l_1)),(22,(vI (l_1.length:Int))),(23,(vI (k_17:Int))),(28,(vL eS x_19.Refs)),(29,(vI (x_19.Refs.length:Int))),(30,(vI (k_30:Int))),(50,(vB v_51))] [(n_37,some (bV 1 eS s_35)),(n_29,some (.cells 9 (Alert.v x_19)))] ?_ ?_
         ·refine au (aa (vB r_46) ?_)
          rcases aj h_52 with⟨hc_53,h_52⟩|⟨hc_53,h_52⟩
          ·refine aC rfl hc_53 wz (aI (vB r_49) wa rfl (aI (vB (!r_49)) wa rfl (aa (vB (!r_49)) (af ?_))))
           obtain rfl:=ae h_52
           exact cu
          ·refine aC rfl hc_53 wz (ah (ah (aa (vB false) (af ?_))))
           obtain rfl:=ae h_52
           exact cu
         ·rintro ⟨⟩ _ sl_ H_ hp_ hq_
          refine aP _ hp_ hq_ ?_
          obtain ⟨v_54,h_55,hc_38⟩:=bind_some hc_38
          refine jO (β:=Nm) (λ(n_56:Nm)=>([(0,(vL Alert.enc l_1)),(5,(vV n_56 1 v_54)),(6,(vI (s_9.1.length:Int))),(8,(.ref n_29 0 0)),(21,(vL Alert.enc l_1)),(22,(vI (l_1.length:Int))),(23,(vI (k_17:Int))),(28,(vL eS x_19.Refs)),(29,(vI (x_19.Refs.length:Int))),(30,(vI (k_30:Int)))]:SL_)) (λ(n_56:Nm)=>([(n_56,some (bV 1 eS v_54)),(n_29,some (.cells 9 (Alert.v x_19)))]:Hp)) (λ_=>True) ?_ ?_
          ·rcases aj h_55 with⟨hc_57,h_55⟩|⟨hc_57,h_55⟩
           ·refine aB rfl hc_57 (au (aa (vV n_37 1 s_35) (aa (vS x_32) (eO (([x_32]:List ByteArray).map eS) iL oM rfl rfl rfl rfl rfl wz ?_))))
            obtain ⟨a_58,hz_59,h_55⟩:=bind_some h_55
            refine K6 0 il ft (i:=0) uE uE sz9 z9 rfl (by decide) by9 (by decide) (λ_=>rfl) rfl rfl rfl hz_59 wz (λn_60=>aa (vV n_60 1 a_58) (af ?_))
            obtain rfl:=ae h_55
            exact aW n_60 trivial rfl (aL rfl)
           ·refine aA rfl hc_57 (ak ?_)
            obtain ⟨v_61,h_62,h_55⟩:=bind_some h_55
            refine aO [(0,(vL Alert.enc l_1)),(5,(vV n_37 1 s_35)),(6,(vI (s_9.1.length:Int))),(8,(.ref n_29 0 0)),(21,(vL Alert.enc l_1)),(22,(vI (l_1.length:Int))),(23,(vI (k_17:Int))),(28,(vL eS x_19.Refs)),(29,(vI (x_19.Refs.length:Int))),(30,(vI (k_30:Int))),(59,(vB v_61))] [(n_37,some (bV 1 eS s_35)),(n_29,some (.cells 9 (Alert.v x_19)))] ?_ ?_
            ·refine au (aa (vB r_49) ?_)
             rcases aj h_62 with⟨hc_63,h_62⟩|⟨hc_63,h_62⟩
             ·refine aC rfl hc_63 wz (aI (vB r_46) wa rfl (aI (vB (!r_46)) wa rfl (aa (vB (!r_46)) (af ?_))))
              obtain rfl:=ae h_62
              exact cu
             ·refine aC rfl hc_63 wz (ah (ah (aa (vB false) (af ?_))))
              obtain rfl:=ae h_62
              exact cu
            ·rintro ⟨⟩ _ sl_ H_ hp_ hq_
             refine aP _ hp_ hq_ ?_
             rcases aj h_55 with⟨hc_64,h_55⟩|⟨hc_64,h_55⟩
             ·refine aB rfl hc_64 (au (aa (vV n_37 1 s_35) (aH fw rfl 0 rfl wz (aG 0 1 il ft sz9 ag9 rfl rfl (vS x_19.Id) rfl wz (eO (([x_19.Id]:List ByteArray).map eS) iL oM rfl rfl rfl rfl rfl wz ?_)))))
              obtain ⟨a_65,hz_66,h_55⟩:=bind_some h_55
              refine K6 0 il ft (i:=0) uE uE sz9 z9 rfl (by decide) by9 (by decide) (λ_=>rfl) rfl rfl rfl hz_66 wz (λn_67=>aa (vV n_67 1 a_65) (af ?_))
              obtain rfl:=ae h_55
              exact aW n_67 trivial rfl (aL rfl)
             ·refine aA rfl hc_64 (ax ?_)
              obtain rfl:=ae h_55
              exact aW n_37 trivial rfl (aL rfl)
          ·rintro n_56 _ sl_ H_ hp_ hq_
           refine aP _ hp_ hq_ (au (fQ (bL hD_33 hn_34) wz rfl (aa (vI ((k_30+1:Nat):Int)) (af ?_))))
           obtain rfl:=ae hc_38
           exact bg (k_30+1,l_31,v_54,n_56) ⟨hL_39,aS hD_33⟩ (ls_ _) rfl (aL rfl)
      ·rintro ⟨s_35,n_37⟩ ho_ sl_ H_ hp_ hq_
       subst ho_
       refine aP _ hp_ hq_ (au (fQ (bL hD_20 hn_21) wz rfl (aa (vI ((k_17+1:Nat):Int)) (af ?_))))
       obtain rfl:=ae hc_25
       exact bg (k_17+1,l_18,s_35,n_37) ⟨hL_26,aS hD_20⟩ (ls_ _) rfl (aL rfl)
    ·rintro ⟨s_22,n_24⟩ ho_ sl_ H_ hp_ hq_
     subst ho_
     obtain rfl:=ae hc_12
     exact bg (k_4,(s_22,(s_9.1.length:Int)),n_24) hL_13 (ls_ _) (Hz [0,1,2] hp_ rfl) (JI hq_ (aL rfl))
   ·refine aA rfl hc_16 (bn ?_)
    obtain rfl:=ae hc_12
    obtain rfl:=ae hL_13
    exact aW ((s_9.1,s_9.2),n_11) rfl rfl (aL rfl)
 ·rintro ⟨s_9,n_11⟩ ho_ sl_ H_ hp_ hq_
  subst ho_
  refine aP _ hp_ hq_ (ai (aa (vV n_11 1 s_9.1) ?_))
  obtain ⟨_,hn_68,hF⟩:=bind_some hF
  replace hn_68:=Gb hn_68
  refine zh 0 rfl (wJ hn_68).symm (dQ (v':=(gV n_11 1 s_9.1)) 5 rfl (vV_gV hn_68) (dQ (v':=(gV n_11 1 s_9.1)) 67 rfl (vV_gV hn_68) ?_))
  obtain ⟨r_69,hr_70,hF⟩:=bind_some hF
  obtain ⟨_,hs_71,hF⟩:=bind_some hF
  replace hs_71:=oK hs_71
  refine ny 0 [] 0 0 il ft (iU hr_70) rfl hb29 rfl rfl rfl (by kernel_rfl) rfl (.inl rfl) rfl (by kernel_rfl) (by kernel_rfl) (by kernel_rfl) (by kernel_rfl) rfl (by decide) (by kernel_rfl) kW (uR hs_71) wz ([(n_11,gB 1 eS r_69)]:Hp) (by kernel_rfl) (dQ (v':=(gV n_11 1 r_69)) 5 rfl (dK hs_71.symm) (dQ (v':=(gV n_11 1 r_69)) 67 rfl (dK hs_71.symm) (af (ai (aa (gV n_11 1 r_69) (aa (gV n_11 1 r_69) (af (kw 0 rfl (fe 4 0 rfl rfl (fe 5 0 rfl rfl (fe 67 0 rfl rfl (fe 69 0 rfl rfl ?_))))))))))))
  obtain rfl:=ae hF
  exact ay (aM [(vL eS r_69)] ⟨rfl,trivial⟩)
theorem xV {r_1:ByteArray} {p_2:(List Alert)} {p_3:Alert} {r:Bool} (hF:ni r_1 p_2 p_3=some r) :
  FnM Tryz.prog 42 [(vS r_1),(.ref (av 0) 0 0),(.ref (av 1) 0 0)] [(.cells 1 [(vL Alert.enc p_2)]),(.cells 9 (Alert.v p_3))] (vB r) [some (.cells 1 [(vL Alert.enc p_2)]),some (.cells 9 (Alert.v p_3))]:=by
 refine FnM.of_wH ⟨Tryz.prog,10,[],[]⟩ rfl Tryz.func42 rfl rfl (lb_ rfl) (by kernel_rfl) ?_
 unfold ni at hF
 refine ai (aa (vB false) (af (ai (aG 0 0 il ft KX KP rfl rfl (vL Alert.enc p_2) rfl wz (aG 0 1 il ft fo iW rfl rfl (.d (.agg (Alert.enc p_3))) rfl wz (aa (vS r_1) ?_))))))
 obtain ⟨r_4,hr_5,hF⟩:=bind_some hF
 refine aF (rE hr_5) rfl hb40 rfl rfl rfl rfl wz (aa (vB (!r_4)) (aa (vB (!r_4)) (af ?_)))
 obtain rfl:=ae hF
 exact ay (qM (.inr rfl) [(vB (!r_4))] _ [0,1] [av 0,av 1] ⟨rfl,trivial⟩ (.cons (fB rfl rfl) (.nil)) (by kernel_rfl) ⟨(by kernel_rfl),⟨(by kernel_rfl),trivial⟩⟩ (by decide) (by kernel_rfl))
theorem AL {l_1:(List Alert)} {r:(List ByteArray)} (hF:nK l_1=some r) :
  FnM Tryz.prog 16 [(vL Alert.enc l_1)] [] (vL eS r) []:=by
 refine FnM.of_wH ⟨Tryz.prog,23,[],[]⟩ rfl Tryz.func16 rfl rfl (lb_ rfl) (by kernel_rfl) ?_
 unfold nK at hF
 refine ai (gP 0 (.inl rfl) [(vL Alert.enc l_1)] rfl rfl wz (λn_2=>aa .nil (af (ai (aa .nil (af (ak (ai (aG 0 0 il ft KX KP rfl rfl (vL Alert.enc l_1) rfl wz (dB qi rfl wz (aa (vI 0) (af (qc (λn_9 => ?_))))))))))))))
 obtain ⟨o_14,hj_15,hF⟩:=bind_some hF
 obtain ⟨hn_7,hj_15⟩:=aZ hj_15
 refine iI (σ:=(List ByteArray)) (N:=Nm) (λp=>(λ(s_8:List ByteArray) (n_11:Nm)=>([(3,(gV n_11 1 s_8))]:SL_)) p.1 p.2) (λp=>(λ(s_8:List ByteArray) (n_11:Nm)=>([(n_2,some (.cells 1 [(vL Alert.enc l_1)])),(n_11,gB 1 eS s_8)]:Hp)) p.1 p.2) (λ(k_3:Nat)=>(λp=>(λ(s_8:List ByteArray) (n_11:Nm)=>([(1,(.ref n_2 0 0)),(3,(gV n_11 1 s_8)),(6,(vL Alert.enc l_1)),(7,(vI (l_1.length:Int))),(8,(vI (k_3:Int)))]:SL_)) p.1 p.2)) (λk x s=>lS l_1 k x s) o_14 l_1 (([]:List ByteArray),n_9) hj_15 rfl (aL rfl) ?_ ?_
 ·rintro ⟨k_3,l_4,s_8,n_11⟩ ⟨hL_13,hD_6⟩
  dsimp only at hL_13 hD_6
  cases l_4 with
  | nil =>
   obtain rfl:=ae hL_13
   refine ai (aa (vB (decide ((k_3:Int)<(l_1.length:Int)))) (af ?_))
   refine ak (aA rfl (drop_nil hD_6) (bn ?_))
   exact aW (s_8,n_11) rfl rfl (aL rfl)
  | cons x_5 l_4 =>
   obtain ⟨c_,hc_12,hL_13⟩:=bind_some hL_13
   refine ai (aa (vB (decide ((k_3:Int)<(l_1.length:Int)))) (af ?_))
   refine ak (aB rfl (bC hD_6) (ax ?_))
   unfold lS at hc_12
   refine ak (aN (ai (iV nM rfl rfl (bT hD_6) rfl wz (eP fo iW rfl (.d (.agg (Alert.enc x_5))) rfl wz (fF 0 (.inl rfl) z51 rfl wz (λn_16=>fV 0 il ft 2 fo rfl rfl (Alert.v x_5) rfl wz (af (ai (aH jl rfl 3 rfl wz (aG 0 2 il ft qG tK rfl rfl (vL eS x_5.Refs) rfl wz (aa (.fn 42 [(.ref n_2 0 0),(.ref n_16 0 0)]) ?_)))))))))))
   obtain ⟨r_17,hr_18,hc_12⟩:=bind_some hc_12
   refine aV 0 [0,2] il ft (gH (gid:=42) (caps:=[.ref (av 0) 0 0,.ref (av 1) 0 0]) (Sin:=[(.cells 1 [(vL Alert.enc l_1)]),(.cells 9 (Alert.v x_5))]) (λ_ _ h_=>xV h_) hb42 ⟨rfl,rfl⟩ (by kernel_rfl) (vo (by kernel_rfl)) (rD (by kernel_rfl)) hr_18) rfl hb30 rfl (by kernel_rfl) (by kernel_rfl) (by kernel_rfl) (by kernel_rfl) (by kernel_rfl) (by kernel_rfl) (by kernel_rfl) (by decide) (by kernel_rfl) wz (vB r_17) (by kernel_rfl) ([(n_2,some (.cells 1 [(vL Alert.enc l_1)])),(n_11,gB 1 eS s_8),(n_16,some (.cells 9 (Alert.v x_5)))]:Hp) (by kernel_rfl) (af ?_)
   obtain ⟨v_20,h_21,hc_12⟩:=bind_some hc_12
   refine jO (β:=Nm) (λ(n_22:Nm)=>([(1,(.ref n_2 0 0)),(3,(gV n_22 1 v_20)),(6,(vL Alert.enc l_1)),(7,(vI (l_1.length:Int))),(8,(vI (k_3:Int)))]:SL_)) (λ(n_22:Nm)=>([(n_2,some (.cells 1 [(vL Alert.enc l_1)])),(n_22,gB 1 eS v_20),(n_16,some (.cells 9 (Alert.v x_5)))]:Hp)) (λ_=>True) ?_ ?_
   ·rcases aj h_21 with⟨hc_23,h_21⟩|⟨hc_23,h_21⟩
    ·refine aB rfl hc_23 (au (aa (gV n_11 1 s_8) (aH fw rfl 0 rfl wz (aG 0 2 il ft sz9 ag9 rfl rfl (vS x_5.Id) rfl wz (eO (([x_5.Id]:List ByteArray).map eS) iL oM rfl rfl rfl rfl rfl wz ?_)))))
     obtain ⟨a_24,hz_25,h_21⟩:=bind_some h_21
     refine pF 0 il ft (i:=1) uE uE sz9 z9 rfl (by decide) by9 (by decide) (λ_=>rfl) rfl rfl rfl hz_25 wz (λn_26=>aa (gV n_26 1 a_24) (af ?_))
     obtain rfl:=ae h_21
     exact aW n_26 trivial rfl (aL rfl)
    ·refine aA rfl hc_23 (ax ?_)
     obtain rfl:=ae h_21
     exact aW n_11 trivial rfl (aL rfl)
   ·rintro n_22 _ sl_ H_ hp_ hq_
    refine aP _ hp_ hq_ (au (fQ (bL hD_6 hn_7) wz rfl (aa (vI ((k_3+1:Nat):Int)) (af ?_))))
    obtain rfl:=ae hc_12
    exact bg (k_3+1,l_4,v_20,n_22) ⟨hL_13,aS hD_6⟩ (ls_ _) rfl (aL rfl)
 ·rintro ⟨s_8,n_11⟩ ho_ sl_ H_ hp_ hq_
  subst ho_
  refine aP _ hp_ hq_ (ai (aa (gV n_11 1 s_8) (aa (gV n_11 1 s_8) (af (kw 1 rfl (fe 2 1 rfl rfl (fe 3 1 rfl rfl (fe 22 1 rfl rfl ?_))))))))
  obtain rfl:=ae hF
  exact ay (aM [(vL eS s_8)] ⟨rfl,trivial⟩)
theorem Ck {l_1:(List Alert)} {a_2:Alert} {r:Int} (hF:qR l_1 a_2=some r) :
  FnM Tryz.prog 66 [(vL Alert.enc l_1),(.d (.agg (Alert.enc a_2)))] [] (vI r) []:=by
 refine FnM.of_wH ⟨Tryz.prog,34,[],[]⟩ rfl Tryz.func66 rfl rfl (lb_ rfl) (by kernel_rfl) ?_
 unfold qR at hF
 refine ai (gP 0 (.inl rfl) (Alert.v a_2) rfl rfl wz (λn_3=>aa (vI 0) (af (ai (aH xm rfl 5 rfl wz (aG 0 0 il ft sz3 ag3 rfl rfl (vI a_2.Until) rfl wz (aa (vI a_2.Until) (af (ak (ai (aa (vL Alert.enc l_1) (dB qi rfl wz (aa (vI 0) (af ?_))))))))))))))
 obtain ⟨o_12,hj_13,hF⟩:=bind_some hF
 obtain ⟨hn_8,hj_13⟩:=aZ hj_13
 refine dF (λ(s_9:Int)=>[(5,(vI s_9))]) (λ(s_9:Int)=>[(n_3,some (.cells 9 (Alert.v a_2)))]) (λ(k_4:Nat)=>(λ(s_9:Int)=>[(0,(vL Alert.enc l_1)),(3,(.ref n_3 0 0)),(5,(vI s_9)),(10,(vL Alert.enc l_1)),(11,(vI (l_1.length:Int))),(12,(vI (k_4:Int)))])) (λk x s=>lY a_2 l_1 k x s) o_12 l_1 a_2.Until hj_13 rfl (aL rfl) ?_ ?_
 ·rintro ⟨k_4,l_5,s_9⟩ ⟨hL_11,hD_7⟩
  dsimp only at hL_11 hD_7
  cases l_5 with
  | nil =>
   obtain rfl:=ae hL_11
   refine ai (aa (vB (decide ((k_4:Int)<(l_1.length:Int)))) (af ?_))
   refine ak (aA rfl (drop_nil hD_7) (bn ?_))
   exact aW (s_9) rfl rfl (aL rfl)
  | cons x_6 l_5 =>
   obtain ⟨c_,hc_10,hL_11⟩:=bind_some hL_11
   refine ai (aa (vB (decide ((k_4:Int)<(l_1.length:Int)))) (af ?_))
   refine ak (aB rfl (bC hD_7) (ax ?_))
   unfold lY at hc_10
   refine ak (aN (ai (iV nM rfl rfl (bT hD_7) rfl wz (eP fo iW rfl (.d (.agg (Alert.enc x_6))) rfl wz (fF 0 (.inl rfl) z51 rfl wz (λn_14=>fV 0 il ft 1 fo rfl rfl (Alert.v x_6) rfl wz (af (ak ?_))))))))
   obtain ⟨v_15,h_16,hc_10⟩:=bind_some hc_10
   refine aO [(0,(vL Alert.enc l_1)),(3,(.ref n_3 0 0)),(5,(vI s_9)),(7,(.ref n_14 0 0)),(10,(vL Alert.enc l_1)),(11,(vI (l_1.length:Int))),(12,(vI (k_4:Int))),(27,(vB v_15))] [(n_3,some (.cells 9 (Alert.v a_2))),(n_14,some (.cells 9 (Alert.v x_6)))] ?_ ?_
   ·refine au (aH jl rfl 3 rfl wz (aG 0 1 il ft qG tK rfl rfl (vL eS x_6.Refs) rfl wz (aH fw rfl 0 rfl wz (aG 0 0 il ft sz9 ag9 rfl rfl (vS a_2.Id) rfl wz ?_))))
    obtain ⟨r_17,hr_18,h_16⟩:=bind_some h_16
    refine aF (lT hr_18) rfl hb41 rfl rfl rfl rfl wz ?_
    rcases aj h_16 with⟨hc_19,h_16⟩|⟨hc_19,h_16⟩
    ·refine aC rfl hc_19 wz (aI (vL Alert.enc l_1) wa rfl (aG 0 1 il ft fo iW rfl rfl (.d (.agg (Alert.enc x_6))) rfl wa (aH fw rfl 0 rfl wa (aG 0 0 il ft sz9 ag9 rfl rfl (vS a_2.Id) rfl wa ?_))))
     obtain ⟨r_20,hr_21,h_16⟩:=bind_some h_16
     refine aF (rE hr_21) rfl hb40 rfl rfl rfl rfl wa (aa (vB r_20) (af ?_))
     obtain rfl:=ae h_16
     exact cu
    ·refine aC rfl hc_19 wz (ah (ah (ah (ah (ah (aa (vB false) (af ?_)))))))
     obtain rfl:=ae h_16
     exact cu
   ·rintro ⟨⟩ _ sl_ H_ hp_ hq_
    refine aP _ hp_ hq_ ?_
    obtain ⟨v_22,h_23,hc_10⟩:=bind_some hc_10
    refine aO [(0,(vL Alert.enc l_1)),(3,(.ref n_3 0 0)),(5,(vI v_22)),(10,(vL Alert.enc l_1)),(11,(vI (l_1.length:Int))),(12,(vI (k_4:Int)))] [(n_3,some (.cells 9 (Alert.v a_2))),(n_14,some (.cells 9 (Alert.v x_6)))] ?_ ?_
    ·rcases aj h_23 with⟨hc_24,h_23⟩|⟨hc_24,h_23⟩
     ·refine aB rfl hc_24 (au (aa (vI s_9) (aH iw rfl 4 rfl wz (aG 0 1 il ft sz3 ag3 rfl rfl (vI x_6.At) rfl wz (Fq (vI (Ay s_9 x_6.At)) rfl (.inl rfl) wz (aa (vI (Ay s_9 x_6.At)) (af ?_)))))))
      obtain rfl:=ae h_23
      exact cu
     ·refine aA rfl hc_24 (ax ?_)
      obtain rfl:=ae h_23
      exact cu
    ·rintro ⟨⟩ _ sl_ H_ hp_ hq_
     refine aP _ hp_ hq_ (au (fQ (bL hD_7 hn_8) wz rfl (aa (vI ((k_4+1:Nat):Int)) (af ?_))))
     obtain rfl:=ae hc_10
     exact bg (k_4+1,l_5,v_22) ⟨hL_11,aS hD_7⟩ (ls_ _) rfl (aL rfl)
 ·rintro s_9 ho_ sl_ H_ hp_ hq_
  subst ho_
  refine aP _ hp_ hq_ (ai (aa (vI s_9) (aa (vI s_9) (af ?_))))
  obtain rfl:=ae hF
  exact ay (aM [(vI s_9)] ⟨rfl,trivial⟩)
theorem A9 {l_1:(List Alert)} {a_2:Alert} {atv_3:Int} {r:Bool} (hF:oW l_1 a_2 atv_3=some r) :
  FnM Tryz.prog 43 [(vL Alert.enc l_1),(.d (.agg (Alert.enc a_2))),(vI atv_3)] [] (vB r) []:=by
 refine FnM.of_wH ⟨Tryz.prog,23,[],[]⟩ rfl Tryz.func43 rfl rfl (lb_ rfl) (by kernel_rfl) ?_
 unfold oW at hF
 refine ai (gP 0 (.inl rfl) (Alert.v a_2) rfl rfl wz (λn_4=>aa (vB false) (af (ak ?_))))
 obtain ⟨v_5,h_6,hF⟩:=bind_some hF
 refine aO [(6,(vB v_5))] [(n_4,some (.cells 9 (Alert.v a_2)))] ?_ ?_
 ·refine au (aH nQ rfl 2 rfl wz (aG 0 0 il ft sz3 ag3 rfl rfl (vI a_2.Kind) rfl wz (aa (vB (a_2.Kind != 3)) ?_)))
  rcases aj h_6 with⟨hc_7,h_6⟩|⟨hc_7,h_6⟩
  ·refine aC rfl hc_7 wz (aH iw rfl 4 rfl wa (aG 0 0 il ft sz3 ag3 rfl rfl (vI a_2.At) rfl wa (aI (vI atv_3) wa rfl (aI (vB (decide (a_2.At<=atv_3))) wa rfl (aa (vB (decide (a_2.At<=atv_3))) ?_)))))
   rcases aj h_6 with⟨hc_8,h_6⟩|⟨hc_8,h_6⟩
   ·refine aC rfl hc_8 wz (aI (vI atv_3) wa rfl (aI (vL Alert.enc l_1) wa rfl (aG 0 0 il ft fo iW rfl rfl (.d (.agg (Alert.enc a_2))) rfl wa ?_)))
    obtain ⟨r_9,hr_10,h_6⟩:=bind_some h_6
    refine aF (Ck hr_10) rfl hb66 rfl rfl rfl rfl wa (aI (vB (decide (atv_3<r_9))) wa rfl (aa (vB (decide (atv_3<r_9))) (aa (vB (decide (atv_3<r_9))) (af ?_))))
    obtain rfl:=ae h_6
    exact cu
   ·refine aC rfl hc_8 wz (ah (ah (ah (ah (ah (aa (vB false) (aa (vB false) (af ?_))))))))
    obtain rfl:=ae h_6
    exact cu
  ·refine aC rfl hc_7 wz (ah (ah (ah (ah (aa (vB false) (aa (vB false) (ah (ah (ah (ah (ah (aa (vB false) (aa (vB false) (af ?_))))))))))))))
   obtain rfl:=ae h_6
   exact cu
 ·rintro ⟨⟩ _ sl_ H_ hp_ hq_
  refine aP _ hp_ hq_ ?_
  obtain rfl:=ae hF
  exact ay (aM [(vB v_5)] ⟨rfl,trivial⟩)
theorem y5 {l_1:(List Alert)} {atv_2:Int} {r:(List ByteArray)} (hF:lI l_1 atv_2=some r) :
  FnM Tryz.prog 17 [(vL Alert.enc l_1),(vI atv_2)] [] (vL eS r) []:=by
 refine FnM.of_wH ⟨Tryz.prog,25,[],[]⟩ rfl Tryz.func17 rfl rfl (lb_ rfl) (by kernel_rfl) ?_
 unfold lI at hF
 refine ai (aa .nil (af (ai (aa .nil (af (ak (ai (aa (vL Alert.enc l_1) (dB qi rfl wz (aa (vI 0) (af (qc (λn_9 => ?_)))))))))))))
 obtain ⟨o_14,hj_15,hF⟩:=bind_some hF
 obtain ⟨hn_7,hj_15⟩:=aZ hj_15
 refine iI (σ:=(List ByteArray)) (N:=Nm) (λp=>(λ(s_8:List ByteArray) (n_11:Nm)=>([(5,(gV n_11 1 s_8))]:SL_)) p.1 p.2) (λp=>(λ(s_8:List ByteArray) (n_11:Nm)=>([(n_11,gB 1 eS s_8)]:Hp)) p.1 p.2) (λ(k_3:Nat)=>(λp=>(λ(s_8:List ByteArray) (n_11:Nm)=>([(0,(vL Alert.enc l_1)),(1,(vI atv_2)),(5,(gV n_11 1 s_8)),(8,(vL Alert.enc l_1)),(9,(vI (l_1.length:Int))),(10,(vI (k_3:Int)))]:SL_)) p.1 p.2)) (λk x s=>mE l_1 atv_2 k x s) o_14 l_1 (([]:List ByteArray),n_9) hj_15 rfl (aL rfl) ?_ ?_
 ·rintro ⟨k_3,l_4,s_8,n_11⟩ ⟨hL_13,hD_6⟩
  dsimp only at hL_13 hD_6
  cases l_4 with
  | nil =>
   obtain rfl:=ae hL_13
   refine ai (aa (vB (decide ((k_3:Int)<(l_1.length:Int)))) (af ?_))
   refine ak (aA rfl (drop_nil hD_6) (bn ?_))
   exact aW (s_8,n_11) rfl rfl (aL rfl)
  | cons x_5 l_4 =>
   obtain ⟨c_,hc_12,hL_13⟩:=bind_some hL_13
   refine ai (aa (vB (decide ((k_3:Int)<(l_1.length:Int)))) (af ?_))
   refine ak (aB rfl (bC hD_6) (ax ?_))
   unfold mE at hc_12
   refine ak (aN (ai (iV nM rfl rfl (bT hD_6) rfl wz (eP fo iW rfl (.d (.agg (Alert.enc x_5))) rfl wz (fF 0 (.inl rfl) z51 rfl wz (λn_16=>fV 0 il ft 1 fo rfl rfl (Alert.v x_5) rfl wz (af (ai (aa (vL Alert.enc l_1) (aG 0 1 il ft fo iW rfl rfl (.d (.agg (Alert.enc x_5))) rfl wz (aa (vI atv_2) ?_)))))))))))
   obtain ⟨r_17,hr_18,hc_12⟩:=bind_some hc_12
   refine aF (A9 hr_18) rfl hb43 rfl rfl rfl rfl wz (af ?_)
   obtain ⟨v_19,h_20,hc_12⟩:=bind_some hc_12
   refine jO (β:=Nm) (λ(n_21:Nm)=>([(0,(vL Alert.enc l_1)),(1,(vI atv_2)),(5,(gV n_21 1 v_19)),(8,(vL Alert.enc l_1)),(9,(vI (l_1.length:Int))),(10,(vI (k_3:Int)))]:SL_)) (λ(n_21:Nm)=>([(n_21,gB 1 eS v_19),(n_16,some (.cells 9 (Alert.v x_5)))]:Hp)) (λ_=>True) ?_ ?_
   ·rcases aj h_20 with⟨hc_22,h_20⟩|⟨hc_22,h_20⟩
    ·refine aB rfl hc_22 (au (aa (gV n_11 1 s_8) (aH fw rfl 0 rfl wz (aG 0 1 il ft sz9 ag9 rfl rfl (vS x_5.Id) rfl wz (eO (([x_5.Id]:List ByteArray).map eS) iL oM rfl rfl rfl rfl rfl wz ?_)))))
     obtain ⟨a_23,hz_24,h_20⟩:=bind_some h_20
     refine pF 0 il ft (i:=0) uE uE sz9 z9 rfl (by decide) by9 (by decide) (λ_=>rfl) rfl rfl rfl hz_24 wz (λn_25=>aa (gV n_25 1 a_23) (af ?_))
     obtain rfl:=ae h_20
     exact aW n_25 trivial rfl (aL rfl)
    ·refine aA rfl hc_22 (ax ?_)
     obtain rfl:=ae h_20
     exact aW n_11 trivial rfl (aL rfl)
   ·rintro n_21 _ sl_ H_ hp_ hq_
    refine aP _ hp_ hq_ (au (fQ (bL hD_6 hn_7) wz rfl (aa (vI ((k_3+1:Nat):Int)) (af ?_))))
    obtain rfl:=ae hc_12
    exact bg (k_3+1,l_4,v_19,n_21) ⟨hL_13,aS hD_6⟩ (ls_ _) rfl (aL rfl)
 ·rintro ⟨s_8,n_11⟩ ho_ sl_ H_ hp_ hq_
  subst ho_
  refine aP _ hp_ hq_ (ai (aa (gV n_11 1 s_8) (aa (gV n_11 1 s_8) (af (kw 0 rfl (fe 4 0 rfl rfl (fe 5 0 rfl rfl (fe 24 0 rfl rfl ?_))))))))
  obtain rfl:=ae hF
  exact ay (aM [(vL eS s_8)] ⟨rfl,trivial⟩)
theorem fZ {s1_1:(List ByteArray)} {s2_2:(List ByteArray)} {r:Bool} (hF:bG s1_1 s2_2=some r) :
  FnM Tryz.prog 18 [(vL eS s1_1),(vL eS s2_2)] [] (vB r) []:=by
 refine FnM.of_wH ⟨Tryz.prog,26,[],[]⟩ rfl Tryz.func18 rfl rfl (lb_ rfl) (by kernel_rfl) ?_
 unfold bG at hF
 refine ai (aa (vB false) (af (ak (ai (aa (vL eS s1_1) (dB pG rfl wz (aa (vL eS s2_2) (dB pG rfl wz (aa (vB ((s1_1.length:Int) != (s2_2.length:Int))) (af ?_))))))))))
 rcases aj hF with⟨hc_3,hF⟩|⟨hc_3,hF⟩
 ·refine aB rfl hc_3 (ai (aa (vB false) (af ?_)))
  obtain rfl:=ae hF
  exact ay (aM [(vB false)] ⟨rfl,trivial⟩)
 ·refine aA rfl hc_3 (ax (ak (ai (aa (vL eS s1_1) (dB pG rfl wz (aa (vI 0) (af ?_)))))))
  obtain ⟨o_12,hj_13,hF⟩:=bind_some hF
  obtain ⟨hn_8,hj_13⟩:=aZ hj_13
  refine dF (λ(s_9:Unit)=>[]) (λ(s_9:Unit)=>[]) (λ(k_4:Nat)=>(λ(s_9:Unit)=>[(0,(vL eS s1_1)),(1,(vL eS s2_2)),(12,(vI (s1_1.length:Int))),(13,(vI (k_4:Int)))])) (λk x s=>bR s2_2 k x s) o_12 s1_1 () hj_13 rfl (aL rfl) ?_ ?_
  ·rintro ⟨k_4,l_5,s_9⟩ ⟨hL_11,hD_7⟩
   dsimp only at hL_11 hD_7
   cases l_5 with
   | nil =>
    obtain rfl:=ae hL_11
    refine ai (aa (vB (decide ((k_4:Int)<(s1_1.length:Int)))) (af ?_))
    refine ak (aA rfl (drop_nil hD_7) (bn ?_))
    exact aW (s_9) rfl rfl (aL rfl)
   | cons x_6 l_5 =>
    obtain ⟨c_,hc_10,hL_11⟩:=bind_some hL_11
    refine ai (aa (vB (decide ((k_4:Int)<(s1_1.length:Int)))) (af ?_))
    refine ak (aB rfl (bC hD_7) (ax ?_))
    unfold bR at hc_10
    refine ak (aN (ai (aa (vI (k_4:Int)) (aa (vI (k_4:Int)) (af (ak (fG (aa (vL eS s1_1) (aa (vI (k_4:Int)) (iV iL rfl rfl (bT hD_7) rfl wz (eP sz9 ag9 rfl (vS x_6) rfl wz (aa (vL eS s2_2) (aa (vI (k_4:Int)) ?_)))))))))))))
    obtain ⟨y_14,hy_15,hc_10⟩:=bind_some hc_10
    refine iV iL rfl rfl hy_15 rfl wz (eP sz9 ag9 rfl (vS y_14) rfl wz (aa (vB (sNe x_6 y_14)) (af ?_)))
    rcases aj hc_10 with⟨hc_16,hc_10⟩|⟨hc_16,hc_10⟩
    ·refine aB rfl hc_16 (ai (aa (vB false) (af ?_)))
     obtain rfl:=ae hc_10
     obtain rfl:=ae hL_11
     obtain rfl:=ae hF
     exact ay (aM [(vB false)] ⟨rfl,trivial⟩)
    ·refine aA rfl hc_16 (ax (au (fQ (bL hD_7 hn_8) wz rfl (aa (vI ((k_4+1:Nat):Int)) (af ?_)))))
     obtain rfl:=ae hc_10
     exact bg (k_4+1,l_5,()) ⟨hL_11,aS hD_7⟩ (ls_ _) rfl (aL rfl)
  ·rintro s_9 ho_ sl_ H_ hp_ hq_
   subst ho_
   refine aP _ hp_ hq_ (ai (aa (vB true) (af ?_)))
   obtain rfl:=ae hF
   exact ay (aM [(vB true)] ⟨rfl,trivial⟩)
theorem uG {l_1:(List Post)} {r:Int} (hF:iZ l_1=some r) :
  FnM Tryz.prog 95 [(vL Post.enc l_1)] [] (vI r) []:=by
 refine FnM.of_wH ⟨Tryz.prog,44,[],[]⟩ rfl Tryz.func95 rfl rfl (lb_ rfl) (by kernel_rfl) ?_
 unfold iZ at hF
 refine ai (aa (vI 0) (af (ak (ai (aa (vL Post.enc l_1) (dB un92 rfl wz (aa (vB (decide ((l_1.length:Int)>500))) (af ?_))))))))
 rcases aj hF with⟨hc_2,hF⟩|⟨hc_2,hF⟩
 ·refine aB rfl hc_2 (ai (aa (vI 2) (af ?_)))
  obtain rfl:=ae hF
  exact ay (aM [(vI 2)] ⟨rfl,trivial⟩)
 ·refine aA rfl hc_2 (ax (ak (ai (aa (vL Post.enc l_1) (dB un92 rfl wz (aa (vI 0) (af ?_)))))))
  obtain ⟨o_11,hj_12,hF⟩:=bind_some hF
  obtain ⟨hn_7,hj_12⟩:=aZ hj_12
  refine dF (λ(s_8:Unit)=>[]) (λ(s_8:Unit)=>[]) (λ(k_3:Nat)=>(λ(s_8:Unit)=>[(0,(vL Post.enc l_1)),(8,(vL Post.enc l_1)),(9,(vI (l_1.length:Int))),(10,(vI (k_3:Int)))])) (λk x s=>gK l_1 k x s) o_11 l_1 () hj_12 rfl (aL rfl) ?_ ?_
  ·rintro ⟨k_3,l_4,s_8⟩ ⟨hL_10,hD_6⟩
   dsimp only at hL_10 hD_6
   cases l_4 with
   | nil =>
    obtain rfl:=ae hL_10
    refine ai (aa (vB (decide ((k_3:Int)<(l_1.length:Int)))) (af ?_))
    refine ak (aA rfl (drop_nil hD_6) (bn ?_))
    exact aW (s_8) rfl rfl (aL rfl)
   | cons x_5 l_4 =>
    obtain ⟨c_,hc_9,hL_10⟩:=bind_some hL_10
    refine ai (aa (vB (decide ((k_3:Int)<(l_1.length:Int)))) (af ?_))
    refine ak (aB rfl (bC hD_6) (ax ?_))
    unfold gK at hc_9
    refine ak (aN (ai (aa (vI (k_3:Int)) (iV es92 rfl rfl (bT hD_6) rfl wz (eP sz79 ag79 rfl (.d (.agg (Post.enc x_5))) rfl wz (fF 0 (.inl rfl) z79 rfl wz (λn_13=>aa (vI (k_3:Int)) (fV 0 il ft 0 sz79 rfl rfl (Post.v x_5) rfl wz (af (aN (ai (aH Gv rfl 0 rfl wz (aG 0 0 il ft sz9 ag9 rfl rfl (vS x_5.Player) rfl wz ?_)))))))))))))
    obtain ⟨r_14,hr_15,hc_9⟩:=bind_some hc_9
    refine aF (oq hr_15) rfl hb70 rfl rfl rfl rfl wz (aa (vB (!r_14)) (aa (vB (!r_14)) (af ?_)))
    rcases aj hc_9 with⟨hc_16,hc_9⟩|⟨hc_16,hc_9⟩
    ·refine aB rfl hc_16 (ai (aa (vI 5) (af ?_)))
     obtain rfl:=ae hc_9
     obtain rfl:=ae hL_10
     obtain rfl:=ae hF
     exact ay (aM [(vI 5)] ⟨rfl,trivial⟩)
    ·refine aA rfl hc_16 (ak ?_)
     obtain ⟨v_17,h_18,hc_9⟩:=bind_some hc_9
     refine aO [(0,(vL Post.enc l_1)),(3,(vI (k_3:Int))),(4,(.ref n_13 0 0)),(8,(vL Post.enc l_1)),(9,(vI (l_1.length:Int))),(10,(vI (k_3:Int))),(20,(vB v_17))] [(n_13,some (.cells 3 (Post.v x_5)))] ?_ ?_
     ·refine au (aH FY rfl 1 rfl wz (aG 0 0 il ft sz3 ag3 rfl rfl (vI x_5.X) rfl wz ?_))
      obtain ⟨r_19,hr_20,h_18⟩:=bind_some h_18
      refine aF (fC hr_20) rfl Co rfl rfl rfl rfl wz ?_
      rcases aj h_18 with⟨hc_21,h_18⟩|⟨hc_21,h_18⟩
      ·refine aC rfl hc_21 wz (ah (ah (ah (aa (vB true) (aa (vB true) (af ?_))))))
       obtain rfl:=ae h_18
       exact cu
      ·refine aC rfl hc_21 wz (aH FJ rfl 2 rfl wa (aG 0 0 il ft sz3 ag3 rfl rfl (vI x_5.Y) rfl wa ?_))
       obtain ⟨r_22,hr_23,h_18⟩:=bind_some h_18
       refine aF (fC hr_23) rfl Co rfl rfl rfl rfl wa (aa (vB r_22) (aa (vB r_22) (af ?_)))
       obtain rfl:=ae h_18
       exact cu
     ·rintro ⟨⟩ _ sl_ H_ hp_ hq_
      refine aP _ hp_ hq_ ?_
      rcases aj hc_9 with⟨hc_24,hc_9⟩|⟨hc_24,hc_9⟩
      ·refine aB rfl hc_24 (ai (aa (vI 1) (af ?_)))
       obtain rfl:=ae hc_9
       obtain rfl:=ae hL_10
       obtain rfl:=ae hF
       exact ay (aM [(vI 1)] ⟨rfl,trivial⟩)
      ·refine aA rfl hc_24 (ak ?_)
       obtain ⟨v_25,h_26,hc_9⟩:=bind_some hc_9
       refine aO [(0,(vL Post.enc l_1)),(8,(vL Post.enc l_1)),(9,(vI (l_1.length:Int))),(10,(vI (k_3:Int))),(29,(vB v_25))] [(n_13,some (.cells 3 (Post.v x_5)))] ?_ ?_
       ·refine fG (aa (vI (k_3:Int)) (aa (vB (decide ((k_3:Int)>0))) ?_))
        rcases aj h_26 with⟨hc_27,h_26⟩|⟨hc_27,h_26⟩
        ·refine aC rfl hc_27 wz (aH Gv rfl 0 rfl wa (aG 4 0 (.inr (by kernel_rfl)) (λ_ _ ag=>trivial) sz9 ag9 rfl rfl (vS x_5.Player) rfl wa (aI (vL Post.enc l_1) wa rfl (aI (vI (k_3:Int)) wa rfl (aI (vI (w64 ((k_3:Int)-1))) wa rfl ?_)))))
         obtain ⟨y_28,hy_29,h_26⟩:=bind_some h_26
         refine iV es92 rfl rfl hy_29 rfl wa (h_fac Gv rfl [.str y_28.Player,.int .i64 y_28.X,.int .i64 y_28.Y] rfl rfl wa (eP sz9 ag9 rfl (vS y_28.Player) rfl wa (aI (vB (sLe x_5.Player y_28.Player)) wa rfl (aa (vB (sLe x_5.Player y_28.Player)) (aa (vB (sLe x_5.Player y_28.Player)) (af ?_))))))
         obtain rfl:=ae h_26
         exact cu
        ·refine aC rfl hc_27 wz (ah (ah (ah (ah (ah (ah (ah (ah (ah (aa (vB false) (aa (vB false) (af ?_))))))))))))
         obtain rfl:=ae h_26
         exact cu
       ·rintro ⟨⟩ _ sl_ H_ hp_ hq_
        refine aP _ hp_ hq_ ?_
        rcases aj hc_9 with⟨hc_30,hc_9⟩|⟨hc_30,hc_9⟩
        ·refine aB rfl hc_30 (ai (aa (vI 7) (af ?_)))
         obtain rfl:=ae hc_9
         obtain rfl:=ae hL_10
         obtain rfl:=ae hF
         exact ay (aM [(vI 7)] ⟨rfl,trivial⟩)
        ·refine aA rfl hc_30 (ax (au (fQ (bL hD_6 hn_7) wz rfl (aa (vI ((k_3+1:Nat):Int)) (af ?_)))))
         obtain rfl:=ae hc_9
         exact bg (k_3+1,l_4,()) ⟨hL_10,aS hD_6⟩ (ls_ _) rfl (aL rfl)
  ·rintro s_8 ho_ sl_ H_ hp_ hq_
   subst ho_
   refine aP _ hp_ hq_ (ai (aa (vI 0) (af ?_)))
   obtain rfl:=ae hF
   exact ay (aM [(vI 0)] ⟨rfl,trivial⟩)
theorem vF {l_1:(List Alert)} {posts_2:(List Post)} {r:Int} (hF:jw l_1 posts_2=some r) :
  FnM Tryz.prog 67 [(vL Alert.enc l_1),(vL Post.enc posts_2)] [] (vI r) []:=by
 refine FnM.of_wH ⟨Tryz.prog,13,[],[]⟩ rfl Tryz.func67 rfl rfl (lb_ rfl) (by kernel_rfl) ?_
 unfold jw at hF
 refine ai (aa (vI 0) (af (ak (ai (aa (vL Alert.enc l_1) ?_)))))
 obtain ⟨r_3,hr_4,hF⟩:=bind_some hF
 refine aF (iO hr_4) rfl hb25 rfl rfl rfl rfl wz (aa (vI r_3) (af (ai (aa (vI r_3) (aa (vB (r_3 != 0)) (af ?_))))))
 rcases aj hF with⟨hc_5,hF⟩|⟨hc_5,hF⟩
 ·refine aB rfl hc_5 (ai (aa (vI r_3) (aa (vI r_3) (af ?_))))
  obtain rfl:=ae hF
  exact ay (aM [(vI r_3)] ⟨rfl,trivial⟩)
 ·refine aA rfl hc_5 (ax (ai (aa (vL Post.enc posts_2) ?_)))
  obtain ⟨r_6,hr_7,hF⟩:=bind_some hF
  refine aF (uG hr_7) rfl hb95 rfl rfl rfl rfl wz (aa (vI r_6) (af ?_))
  obtain rfl:=ae hF
  exact ay (aM [(vI r_6)] ⟨rfl,trivial⟩)
theorem vW {r_1:Rect} {p_2:Post} {r:Bool} (hF:nW r_1 p_2=some r) :
  FnM Tryz.prog 97 [(.d (.agg (Rect.enc r_1))),(.ref (av 0) 0 0)] [(.cells 3 (Post.v p_2))] (vB r) [some (.cells 3 (Post.v p_2))]:=by
 refine FnM.of_wH ⟨Tryz.prog,36,[],[]⟩ rfl Tryz.func97 rfl rfl (lb_ rfl) (by kernel_rfl) ?_
 unfold nW at hF
 refine ai (gP 0 (.inl rfl) (Rect.v r_1) rfl rfl wz (λn_3=>aa (vB false) (af (ak ?_))))
 obtain ⟨v_4,h_5,hF⟩:=bind_some hF
 refine aO [(3,(vB v_4))] [((av 0),some (.cells 3 (Post.v p_2))),(n_3,some (.cells 4 (Rect.v r_1)))] ?_ ?_
 ·refine au (aH uX rfl 0 rfl wz (aG 0 1 il ft sz3 ag3 rfl rfl (vI r_1.X) rfl wz (aH FY rfl 1 rfl wz (aG 0 0 il ft sz3 ag3 rfl rfl (vI p_2.X) rfl wz (aa (vB (decide (r_1.X<=p_2.X))) ?_)))))
  rcases aj h_5 with⟨hc_6,h_5⟩|⟨hc_6,h_5⟩
  ·refine aC rfl hc_6 wz (aH FY rfl 1 rfl wa (aG 0 0 il ft sz3 ag3 rfl rfl (vI p_2.X) rfl wa (aH uX rfl 0 rfl wa (aG 0 1 il ft sz3 ag3 rfl rfl (vI r_1.X) rfl wa (aH CK rfl 2 rfl wa (aG 0 1 il ft sz3 ag3 rfl rfl (vI r_1.W) rfl wa (aI (vI (w64 (r_1.X+r_1.W))) wa rfl (aI (vB (decide (p_2.X<(w64 (r_1.X+r_1.W))))) wa rfl (aa (vB (decide (p_2.X<(w64 (r_1.X+r_1.W))))) ?_)))))))))
   rcases aj h_5 with⟨hc_7,h_5⟩|⟨hc_7,h_5⟩
   ·refine aC rfl hc_7 wz (aH ve rfl 1 rfl wa (aG 0 1 il ft sz3 ag3 rfl rfl (vI r_1.Y) rfl wa (aH FJ rfl 2 rfl wa (aG 0 0 il ft sz3 ag3 rfl rfl (vI p_2.Y) rfl wa (aI (vB (decide (r_1.Y<=p_2.Y))) wa rfl (aa (vB (decide (r_1.Y<=p_2.Y))) ?_))))))
    rcases aj h_5 with⟨hc_8,h_5⟩|⟨hc_8,h_5⟩
    ·refine aC rfl hc_8 wz (aH FJ rfl 2 rfl wa (aG 0 0 il ft sz3 ag3 rfl rfl (vI p_2.Y) rfl wa (aH ve rfl 1 rfl wa (aG 0 1 il ft sz3 ag3 rfl rfl (vI r_1.Y) rfl wa (aH AC rfl 3 rfl wa (aG 0 1 il ft sz3 ag3 rfl rfl (vI r_1.H) rfl wa (aI (vI (w64 (r_1.Y+r_1.H))) wa rfl (aI (vB (decide (p_2.Y<(w64 (r_1.Y+r_1.H))))) wa rfl (aa (vB (decide (p_2.Y<(w64 (r_1.Y+r_1.H))))) (aa (vB (decide (p_2.Y<(w64 (r_1.Y+r_1.H))))) (af ?_)))))))))))
     obtain rfl:=ae h_5
     exact cu
    ·refine aC rfl hc_8 wz (ah (ah (ah (ah (ah (ah (ah (ah (aa (vB false) (aa (vB false) (af ?_)))))))))))
     obtain rfl:=ae h_5
     exact cu
   ·refine aC rfl hc_7 wz (ah (ah (ah (ah (ah (aa (vB false) (aa (vB false) (ah (ah (ah (ah (ah (ah (ah (ah (aa (vB false) (aa (vB false) (af ?_))))))))))))))))))
    obtain rfl:=ae h_5
    exact cu
  ·refine aC rfl hc_6 wz (ah (ah (ah (ah (ah (ah (ah (ah (aa (vB false) (aa (vB false) (ah (ah (ah (ah (ah (aa (vB false) (aa (vB false) (ah (ah (ah (ah (ah (ah ?_)))))))))))))))))))))))
   refine ah (ah (aa (vB false) (aa (vB false) (af ?_))))
   obtain rfl:=ae h_5
   exact cu
 ·rintro ⟨⟩ _ sl_ H_ hp_ hq_
  refine aP _ hp_ hq_ ?_
  obtain rfl:=ae hF
  exact ay (qM (.inr rfl) [(vB v_4)] _ [0] [av 0] ⟨rfl,trivial⟩ (.cons (fB rfl rfl) (.nil)) (by kernel_rfl) ⟨(by kernel_rfl),trivial⟩ (by decide) (by kernel_rfl))
end Go.Proofs.YtekmkepojbhafaeGreatDoor.Law

