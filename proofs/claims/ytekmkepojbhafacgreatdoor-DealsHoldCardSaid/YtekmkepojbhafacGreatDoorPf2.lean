/-
 The machine computes these plain functions (written by a program of ours).
-/
import Derived.Test.YtekmkepojbhafacGreatDoorFacts
import Derived.Test.YtekmkepojbhafacGreatDoorDefs
import Derived.Test.YtekmkepojbhafacGreatDoorPf1
open Go Go.Eng Go.Proofs
namespace Go.Proofs.YtekmkepojbhafacGreatDoor.Law
set_option maxRecDepth 100000
set_option linter.unusedVariables false
set_option maxHeartbeats 1000000
theorem tH {spots_1:(List Spot)} {l_2:(List Campaign)} {r:Web} (hF:jc spots_1 l_2=some r) :
  FnM Tryz.prog 17 [(vL Spot.enc spots_1),(vL Campaign.enc l_2)] [] (.ref (ax 0) 0 0) (gy 2 1 eI [(vI r.f_camps)] r.f_can):=by
 refine FnM.of_wH ⟨Tryz.prog,110,[],[]⟩ rfl Tryz.func17 rfl rfl (lb_ rfl) (by kernel_rfl) ?_
 unfold jc at hF
 refine ai (aa (.d .nilp) (ah (ai (aa (vL Spot.enc spots_1) (bR Jc rfl wz (aa (vI (w64 (2+(spots_1.length:Int)))) (aa (vL Campaign.enc l_2) (bR FJ rfl wz (aa (vI (w64 ((w64 (2+(spots_1.length:Int)))+(l_2.length:Int)))) (aa (vI (w64 ((w64 (2+(spots_1.length:Int)))+(l_2.length:Int)))) (ah (ai (aa (vI (w64 ((w64 (2+(spots_1.length:Int)))+(l_2.length:Int)))) ?_)))))))))))))
 obtain ⟨m_3,hm_4,hF⟩:=bind_some hF
 obtain ⟨_,hz_5,hF⟩:=bind_some hF
 refine Oo (α:=Int) (enc:=eI) (sz:=1) 0 (.inl rfl) el61 uB z22 by22 rfl rfl hm_4 (nzI_ne hz_5) wz (λn_6 ns_7=>aa (vL Campaign.enc l_2) (bR FJ rfl wz (aG (.agg [(.vs n_6 1 0 m_3),(vI (l_2.length:Int))]) wz (by kernel_rfl) (ig 0 (.inl rfl) [(.vs n_6 1 0 m_3),(vI (l_2.length:Int))] rfl rfl wz (λn_8=>rG (C0:=([(n_6,some (.cells 1 (aJ 1 ns_7 (List.replicate m_3 ([]:List Int)))))]:Hp)) (T:=(aP 1 eI ns_7 (List.replicate m_3 ([]:List Int)))) (X:=([(n_8,some (.cells 2 [(.vs n_6 1 0 m_3),(vI (l_2.length:Int))]))]:Hp)) (aa (.ref n_8 0 0) (ah (ak (ai (aa (.ref n_8 0 0) (aa (.ref n_8 0 0) (aH mZ rfl 0 rfl wz (aF 0 1 il ft yQ yM rfl rfl (.vs n_6 1 0 m_3) rfl wz (H7 un61 rfl wz (aa (vI 0) (ah ?_))))))))))))))))
 obtain ⟨o_19,hj_20,hF⟩:=bind_some hF
 obtain ⟨hn_13,hj_20⟩:=bf hj_20
 refine iP (σ:=(List (List Int))) (N:=(Nat->Nm)) (λp=>(λ(s_14:(List (List Int))) (ns_16:(Nat->Nm))=>([(0,(vL Spot.enc spots_1)),(1,(vL Campaign.enc l_2)),(6,(.ref n_8 0 0))]:SL_)) p.1 p.2) (λp=>(λ(s_14:(List (List Int))) (ns_16:(Nat->Nm))=>(([(n_6,some (.cells 1 (aJ 1 ns_16 s_14))),(n_8,some (.cells 2 [(.vs n_6 1 0 m_3),(vI (l_2.length:Int))]))]:Hp)++(aP 1 eI ns_16 s_14))) p.1 p.2) (λ(k_9:Nat)=>(λp=>(λ(s_14:(List (List Int))) (ns_16:(Nat->Nm))=>([(0,(vL Spot.enc spots_1)),(1,(vL Campaign.enc l_2)),(5,(vI (w64 ((w64 (2+(spots_1.length:Int)))+(l_2.length:Int))))),(6,(.ref n_8 0 0)),(30,(vI ((m_3:Nat):Int))),(31,(vI (k_9:Int)))]:SL_)) p.1 p.2)) (λk x s=>jF spots_1 l_2 m_3 k x s) o_19 (List.range (((m_3:Nat):Int)).toNat) ((List.replicate m_3 ([]:List Int)),ns_7) hj_20 rfl (cO (C1:=([(n_6,some (.cells 1 (aJ 1 ns_7 (List.replicate m_3 ([]:List Int))))),(n_8,some (.cells 2 [(.vs n_6 1 0 m_3),(vI (l_2.length:Int))]))]:Hp)) (T:=(aP 1 eI ns_7 (List.replicate m_3 ([]:List Int)))) [0,1] (by decide) rfl rfl) ?_ ?_
 ·rintro ⟨k_9,l_10,s_14,ns_16⟩ ⟨hL_18,hD_12⟩
  dsimp only at hL_18 hD_12
  cases l_10 with
  | nil =>
   obtain rfl:=ae hL_18
   refine ai (aa (vB (decide ((k_9:Int)<((m_3:Nat):Int)))) (ah ?_))
   refine ak (aA rfl (yB hD_12) (aV ?_))
   exact aS (s_14,ns_16) rfl rfl (cO (C1:=([(n_6,some (.cells 1 (aJ 1 ns_16 s_14))),(n_8,some (.cells 2 [(.vs n_6 1 0 m_3),(vI (l_2.length:Int))]))]:Hp)) (T:=(aP 1 eI ns_16 s_14)) [0,1] (by decide) rfl rfl)
  | cons x_11 l_10 =>
   obtain ⟨c_,hc_17,hL_18⟩:=bind_some hL_18
   refine ai (aa (vB (decide ((k_9:Int)<((m_3:Nat):Int)))) (ah ?_))
   refine ak (aB rfl (wB hD_12) (av ?_))
   unfold jF at hc_17
   refine ak (aM (ai (aa (vI (k_9:Int)) (aa (vI (k_9:Int)) (ah (bB (aa (.ref n_8 0 0) (aa (.ref n_8 0 0) (aH mZ rfl 0 rfl wz (aF 3 1 (.inr (by kernel_rfl)) (λ_ _ ag=>trivial) yQ yM rfl rfl (.vs n_6 1 0 m_3) rfl wz (aa (vI (k_9:Int)) (aa (vI (w64 ((w64 (2+(spots_1.length:Int)))+(l_2.length:Int)))) ?_))))))))))))
   obtain ⟨m_21,hm_22,hc_17⟩:=bind_some hc_17
   refine Gi (enc:=eI) 6 (.inr (by kernel_rfl)) 0 KH sz3 z3 by3 rfl rfl (by decide) rfl rfl rfl hm_22 wz (λn_23=>rG (C0:=([(n_6,some (.cells 1 (aJ 1 ns_16 s_14))),(n_8,some (.cells 2 [(.vs n_6 1 0 m_3),(vI (l_2.length:Int))]))]:Hp)) (T:=(aP 1 eI ns_16 s_14)) (X:=([(n_23,some (bV 1 eI (List.replicate m_21 (0:Int))))]:Hp)) ?_)
   obtain ⟨_,hi_24,hc_17⟩:=bind_some hc_17
   refine jT AC rfl rfl (oH hi_24) (kT hi_24) wz ?_
   obtain ⟨_,hn_25,hc_17⟩:=bind_some hc_17
   replace hn_25:=O7 hn_25
   refine jY (v':=(gV n_23 1 (List.replicate m_21 (0:Int)))) 40 rfl (vV_gV hn_25) (tJ 2 rfl (Ma hn_25).symm ?_)
   obtain ⟨r_26,hr_27,hc_17⟩:=bind_some hc_17
   refine h_gst 8 0 (.inr (by kernel_rfl)) (λ_ _ ag=>⟨.inr (.inr (by kernel_rfl)),⟨.inr (.inr (by kernel_rfl)),trivial⟩⟩) uB rfl rfl rfl (O4 hr_27) wz (kL (H0:=(([(n_6,some (.cells 1 (aJ 1 (w9 ns_16 (0+((k_9:Int)).toNat) n_23) (s_14.set (0+((k_9:Int)).toNat) (List.replicate m_21 (0:Int)))))),(n_8,some (.cells 2 [(.vs n_6 1 0 m_3),(vI (l_2.length:Int))]))]:Hp)++[(n_23,gB 1 eI (List.replicate m_21 (0:Int)))]++(aP 1 eI ns_16 s_14))) rfl (h_rowin (O4 hr_27) (ah (au (dS (yz hD_12 hn_13) wz rfl (aa (vI ((k_9+1:Nat):Int)) (ah ?_)))))))
   obtain rfl:=ae hc_17
   exact aU (k_9+1,l_10,(s_14.set (0+((k_9:Int)).toNat) (List.replicate m_21 (0:Int))),(w9 ns_16 (0+((k_9:Int)).toNat) n_23)) ⟨hL_18,aX hD_12⟩ (ls_ _) rfl (cO (C1:=([(n_6,some (.cells 1 (aJ 1 (w9 ns_16 (0+((k_9:Int)).toNat) n_23) (s_14.set (0+((k_9:Int)).toNat) (List.replicate m_21 (0:Int)))))),(n_8,some (.cells 2 [(.vs n_6 1 0 m_3),(vI (l_2.length:Int))]))]:Hp)) (T:=(aP 1 eI (w9 ns_16 (0+((k_9:Int)).toNat) n_23) (s_14.set (0+((k_9:Int)).toNat) (List.replicate m_21 (0:Int))))) [0,1] (by decide) rfl rfl)
 ·rintro ⟨s_14,ns_16⟩ ho_ sl_ H_ hp_ hq_
  subst ho_
  refine aO _ hp_ hq_ (ak (ai (aa (vL Campaign.enc l_2) (bR FJ rfl wz (aa (vI 0) (ah ?_))))))
  obtain ⟨o_36,hj_37,hF⟩:=bind_some hF
  obtain ⟨hn_32,hj_37⟩:=bf hj_37
  refine cz (λ(s_33:(List (List Int)))=>[(0,(vL Spot.enc spots_1)),(6,(.ref n_8 0 0))]) (λ(s_33:(List (List Int)))=>(([(n_6,some (.cells 1 (aJ 1 ns_16 s_33))),(n_8,some (.cells 2 [(.vs n_6 1 0 m_3),(vI (l_2.length:Int))]))]:Hp)++(aP 1 eI ns_16 s_33))) (λ(k_28:Nat)=>(λ(s_33:(List (List Int)))=>[(0,(vL Spot.enc spots_1)),(6,(.ref n_8 0 0)),(43,(vL Campaign.enc l_2)),(44,(vI (l_2.length:Int))),(45,(vI (k_28:Int)))])) (λk x s=>iB m_3 l_2 spots_1 k x s) o_36 l_2 s_14 hj_37 rfl (cO (C1:=([(n_6,some (.cells 1 (aJ 1 ns_16 s_14))),(n_8,some (.cells 2 [(.vs n_6 1 0 m_3),(vI (l_2.length:Int))]))]:Hp)) (T:=(aP 1 eI ns_16 s_14)) [0,1] (by decide) rfl rfl) ?_ ?_
  ·rintro ⟨k_28,l_29,s_33⟩ ⟨hL_35,hD_31⟩
   dsimp only at hL_35 hD_31
   cases l_29 with
   | nil =>
    obtain rfl:=ae hL_35
    refine ai (aa (vB (decide ((k_28:Int)<(l_2.length:Int)))) (ah ?_))
    refine ak (aA rfl (drop_nil hD_31) (aV ?_))
    exact aS (s_33) rfl rfl (cO (C1:=([(n_6,some (.cells 1 (aJ 1 ns_16 s_33))),(n_8,some (.cells 2 [(.vs n_6 1 0 m_3),(vI (l_2.length:Int))]))]:Hp)) (T:=(aP 1 eI ns_16 s_33)) [0,1] (by decide) rfl rfl)
   | cons x_30 l_29 =>
    obtain ⟨c_,hc_34,hL_35⟩:=bind_some hL_35
    refine ai (aa (vB (decide ((k_28:Int)<(l_2.length:Int)))) (ah ?_))
    refine ak (aB rfl (bv hD_31) (av ?_))
    unfold iB at hc_34
    refine ak (aM (ai (aa (vI (k_28:Int)) (dD Bw rfl rfl (bI hD_31) rfl wz (bE uC Ar rfl (.d (.agg (Campaign.enc x_30))) rfl wz (dB 0 (.inl rfl) z42 rfl wz (λn_38=>rG (C0:=([(n_6,some (.cells 1 (aJ 1 ns_16 s_33))),(n_8,some (.cells 2 [(.vs n_6 1 0 m_3),(vI (l_2.length:Int))]))]:Hp)) (T:=(aP 1 eI ns_16 s_33)) (X:=([(n_38,some (.cells 8 [(vS (⟨#[]⟩:ByteArray)),(vS (⟨#[]⟩:ByteArray)),(vI 0),(vI 0),.nil,(vI 0),(vI 0),(vI 0)]))]:Hp)) (aa (vI (k_28:Int)) (fE 0 il ft 2 uC rfl rfl (Campaign.v x_30) rfl wz (ah (ak (bB (aa (.ref n_8 0 0) (aa (.ref n_8 0 0) (aH mZ rfl 0 rfl wz (aF 3 1 (.inr (by kernel_rfl)) (λ_ _ ag=>trivial) yQ yM rfl rfl (.vs n_6 1 0 m_3) rfl wz ?_))))))))))))))))
    obtain ⟨_,hi_39,hc_34⟩:=bind_some hc_34
    refine jT AC rfl rfl (oH hi_39) (kT hi_39) wz ?_
    obtain ⟨r_40,hr_41,hc_34⟩:=bind_some hc_34
    refine pU 5 0 (.inr (by kernel_rfl)) (λ_ _ ag=>⟨.inl ⟨rfl,rfl⟩,trivial⟩) uB wF rfl rfl hr_41 wz (aa (.ref n_8 0 0) (aa (vI (k_28:Int)) ?_))
    obtain ⟨_,hn_44,hc_34⟩:=bind_some hc_34
    obtain ⟨_,hm_45,hc_34⟩:=bind_some hc_34
    obtain ⟨r_42,hr_43,hc_34⟩:=bind_some hc_34
    refine kL (H0:=(([(n_6,some (.cells 1 (aJ 1 ns_16 s_33))),(n_8,some (.cells 2 [(.vs n_6 1 0 m_3),(vI (l_2.length:Int))])),(n_38,some (.cells 8 (Campaign.v x_30)))]:Hp)++(aP 1 eI ns_16 s_33))) rfl (sS 8 1 0 (.inr (by kernel_rfl)) (λ_ _ ag=>by exact⟨.inl ⟨rfl,rfl⟩,⟨.inl ⟨rfl,rfl⟩,trivial⟩⟩) (ng hr_43) rfl hb20 rfl rfl (by decide) (oW hm_45) (qP hn_44) rfl (by kernel_rfl) (λ_=>by kernel_rfl) (by kernel_rfl) (by kernel_rfl) wz (aH zI rfl 5 rfl wz (aF 10 2 (.inr (by kernel_rfl)) (λ_ _ ag=>⟨.inl ⟨rfl,rfl⟩,⟨.inl ⟨rfl,rfl⟩,⟨.inl ⟨rfl,rfl⟩,trivial⟩⟩⟩) sz3 ag3 rfl rfl (vI x_30.Goal) rfl wz ?_)))
    obtain ⟨_,hi_46,hc_34⟩:=bind_some hc_34
    refine j5 gK rfl rfl (gZ hi_46) (ek hi_46) wz ?_
    obtain ⟨r_47,hr_48,hc_34⟩:=bind_some hc_34
    obtain ⟨e_49,hy_50,hc_34⟩:=bind_some hc_34
    refine kL (H0:=(([(n_6,some (.cells 1 (aJ 1 ns_16 s_33))),(n_8,some (.cells 2 [(.vs n_6 1 0 m_3),(vI (l_2.length:Int))])),(n_38,some (.cells 8 (Campaign.v x_30)))]:Hp)++(aP 1 eI ns_16 s_33))) rfl (Av 12 (.inr (by kernel_rfl)) (λ_ _ ag=>⟨.inr (.inr (by kernel_rfl)),⟨.inr (.inr (by kernel_rfl)),⟨.inr (.inr (by kernel_rfl)),⟨.inr (.inr (by kernel_rfl)),trivial⟩⟩⟩⟩) sz3 rfl hr_48 hy_50 x_30.Goal rfl wz (tJ (b':=some (.cells 1 (aJ 1 ns_16 (s_33.set (0+(0:Int).toNat) (r_47.set (0+(r_42).toNat) x_30.Goal))))) 0 rfl (rT hr_48) (ah (ai (aa (vL Spot.enc spots_1) (bR Jc rfl wz (aa (vI 0) (ah ?_))))))))
    obtain ⟨o_59,hj_60,hc_34⟩:=bind_some hc_34
    obtain ⟨hn_55,hj_60⟩:=bf hj_60
    refine cz (λ(s_56:(List (List Int)))=>[(0,(vL Spot.enc spots_1)),(6,(.ref n_8 0 0)),(43,(vL Campaign.enc l_2)),(44,(vI (l_2.length:Int))),(45,(vI (k_28:Int)))]) (λ(s_56:(List (List Int)))=>(([(n_6,some (.cells 1 (aJ 1 ns_16 s_56))),(n_8,some (.cells 2 [(.vs n_6 1 0 m_3),(vI (l_2.length:Int))])),(n_38,some (.cells 8 (Campaign.v x_30)))]:Hp)++(aP 1 eI ns_16 s_56))) (λ(k_51:Nat)=>(λ(s_56:(List (List Int)))=>[(0,(vL Spot.enc spots_1)),(6,(.ref n_8 0 0)),(8,(vI (k_28:Int))),(9,(.ref n_38 0 0)),(43,(vL Campaign.enc l_2)),(44,(vI (l_2.length:Int))),(45,(vI (k_28:Int))),(62,(vL Spot.enc spots_1)),(63,(vI (spots_1.length:Int))),(64,(vI (k_51:Int)))])) (λk x s=>iA x_30 m_3 l_2 k_28 k x s) o_59 spots_1 (s_33.set (0+(0:Int).toNat) (r_47.set (0+(r_42).toNat) x_30.Goal)) hj_60 rfl (cO (C1:=([(n_6,some (.cells 1 (aJ 1 ns_16 (s_33.set (0+(0:Int).toNat) (r_47.set (0+(r_42).toNat) x_30.Goal))))),(n_8,some (.cells 2 [(.vs n_6 1 0 m_3),(vI (l_2.length:Int))])),(n_38,some (.cells 8 (Campaign.v x_30)))]:Hp)) (T:=(aP 1 eI ns_16 (s_33.set (0+(0:Int).toNat) (r_47.set (0+(r_42).toNat) x_30.Goal)))) [0,1,2] (by decide) rfl rfl) ?_ ?_
    ·rintro ⟨k_51,l_52,s_56⟩ ⟨hL_58,hD_54⟩
     dsimp only at hL_58 hD_54
     cases l_52 with
     | nil =>
      obtain rfl:=ae hL_58
      refine ai (aa (vB (decide ((k_51:Int)<(spots_1.length:Int)))) (ah ?_))
      refine ak (aA rfl (drop_nil hD_54) (aV ?_))
      exact aS (s_56) rfl rfl (cO (C1:=([(n_6,some (.cells 1 (aJ 1 ns_16 s_56))),(n_8,some (.cells 2 [(.vs n_6 1 0 m_3),(vI (l_2.length:Int))])),(n_38,some (.cells 8 (Campaign.v x_30)))]:Hp)) (T:=(aP 1 eI ns_16 s_56)) [0,1,2] (by decide) rfl rfl)
     | cons x_53 l_52 =>
      obtain ⟨c_,hc_57,hL_58⟩:=bind_some hL_58
      refine ai (aa (vB (decide ((k_51:Int)<(spots_1.length:Int)))) (ah ?_))
      refine ak (aB rfl (bv hD_54) (av ?_))
      unfold iA at hc_57
      refine ak (aM (ai (aa (vI (k_51:Int)) (dD FC rfl rfl (bI hD_54) rfl wz (bE xS Ea rfl (.d (.agg (Spot.enc x_53))) rfl wz (dB 0 (.inl rfl) z51 rfl wz (λn_61=>rG (C0:=([(n_6,some (.cells 1 (aJ 1 ns_16 s_56))),(n_8,some (.cells 2 [(.vs n_6 1 0 m_3),(vI (l_2.length:Int))])),(n_38,some (.cells 8 (Campaign.v x_30)))]:Hp)) (T:=(aP 1 eI ns_16 s_56)) (X:=([(n_61,some (.cells 5 [(vS (⟨#[]⟩:ByteArray)),(vI 0),(vI 0),(vI 0),.nil]))]:Hp)) (aa (vI (k_51:Int)) (fE 0 il ft 3 xS rfl rfl (Spot.v x_53) rfl wz (ah (ai (aF 0 2 il ft uC Ar rfl rfl (.d (.agg (Campaign.enc x_30))) rfl wz (aF 0 3 il ft xS Ea rfl rfl (.d (.agg (Spot.enc x_53))) rfl wz ?_)))))))))))))
      obtain ⟨r_62,hr_63,hc_57⟩:=bind_some hc_57
      refine aD (pX hr_63) rfl hb19 rfl rfl rfl rfl wz (ah ?_)
      obtain ⟨v_64,h_65,hc_57⟩:=bind_some hc_57
      refine aQ [(0,(vL Spot.enc spots_1)),(6,(.ref n_8 0 0)),(8,(vI (k_28:Int))),(9,(.ref n_38 0 0)),(43,(vL Campaign.enc l_2)),(44,(vI (l_2.length:Int))),(45,(vI (k_28:Int))),(62,(vL Spot.enc spots_1)),(63,(vI (spots_1.length:Int))),(64,(vI (k_51:Int)))] (([(n_6,some (.cells 1 (aJ 1 ns_16 v_64))),(n_8,some (.cells 2 [(.vs n_6 1 0 m_3),(vI (l_2.length:Int))])),(n_38,some (.cells 8 (Campaign.v x_30))),(n_61,some (.cells 5 (Spot.v x_53)))]:Hp)++(aP 1 eI ns_16 v_64)) ?_ ?_
      ·rcases aj h_65 with⟨hc_66,h_65⟩|⟨hc_66,h_65⟩
       ·refine aB rfl hc_66 (bB (aa (.ref n_8 0 0) (aa (.ref n_8 0 0) (aH mZ rfl 0 rfl wz (aF 3 1 (.inr (by kernel_rfl)) (λ_ _ ag=>trivial) yQ yM rfl rfl (.vs n_6 1 0 m_3) rfl wz (aa (.ref n_8 0 0) (aa (vI (k_28:Int)) ?_)))))))
        obtain ⟨_,hn_69,h_65⟩:=bind_some h_65
        obtain ⟨_,hm_70,h_65⟩:=bind_some h_65
        obtain ⟨r_67,hr_68,h_65⟩:=bind_some h_65
        refine kL (H0:=(([(n_6,some (.cells 1 (aJ 1 ns_16 s_56))),(n_8,some (.cells 2 [(.vs n_6 1 0 m_3),(vI (l_2.length:Int))])),(n_38,some (.cells 8 (Campaign.v x_30))),(n_61,some (.cells 5 (Spot.v x_53)))]:Hp)++(aP 1 eI ns_16 s_56))) rfl (sS 6 1 0 (.inr (by kernel_rfl)) (λ_ _ ag=>by exact⟨.inl ⟨rfl,rfl⟩,trivial⟩) (ng hr_68) rfl hb20 rfl rfl (by decide) (oW hm_70) (qP hn_69) rfl (by kernel_rfl) (λ_=>by kernel_rfl) (by kernel_rfl) (by kernel_rfl) wz ?_)
        obtain ⟨_,hi_71,h_65⟩:=bind_some h_65
        refine jT AC rfl rfl (oH hi_71) (kT hi_71) wz ?_
        obtain ⟨r_72,hr_73,h_65⟩:=bind_some h_65
        refine pU 8 0 (.inr (by kernel_rfl)) (λ_ _ ag=>⟨.inl ⟨rfl,rfl⟩,⟨.inl ⟨rfl,rfl⟩,trivial⟩⟩) uB wF rfl rfl hr_73 wz (aa (.ref n_8 0 0) (aa (vI (k_51:Int)) ?_))
        obtain ⟨_,hn_76,h_65⟩:=bind_some h_65
        obtain ⟨_,hm_77,h_65⟩:=bind_some h_65
        obtain ⟨r_74,hr_75,h_65⟩:=bind_some h_65
        refine kL (H0:=(([(n_6,some (.cells 1 (aJ 1 ns_16 s_56))),(n_8,some (.cells 2 [(.vs n_6 1 0 m_3),(vI (l_2.length:Int))])),(n_38,some (.cells 8 (Campaign.v x_30))),(n_61,some (.cells 5 (Spot.v x_53)))]:Hp)++(aP 1 eI ns_16 s_56))) rfl (sS 11 1 0 (.inr (by kernel_rfl)) (λ_ _ ag=>by exact⟨.inl ⟨rfl,rfl⟩,⟨.inl ⟨rfl,rfl⟩,⟨.inl ⟨rfl,rfl⟩,trivial⟩⟩⟩) (nu hr_75) rfl hb21 rfl rfl (by decide) (oW hm_77) (qP hn_76) rfl (by kernel_rfl) (λ_=>by kernel_rfl) (by kernel_rfl) (by kernel_rfl) wz (aH KO rfl 6 rfl wz (aF 13 2 (.inr (by kernel_rfl)) (λ_ _ ag=>⟨.inl ⟨rfl,rfl⟩,⟨.inl ⟨rfl,rfl⟩,⟨.inl ⟨rfl,rfl⟩,⟨.inl ⟨rfl,rfl⟩,trivial⟩⟩⟩⟩) sz3 ag3 rfl rfl (vI x_30.Most) rfl wz ?_)))
        obtain ⟨_,hi_78,h_65⟩:=bind_some h_65
        refine j5 gK rfl rfl (gZ hi_78) (ek hi_78) wz ?_
        obtain ⟨r_79,hr_80,h_65⟩:=bind_some h_65
        obtain ⟨e_81,hy_82,h_65⟩:=bind_some h_65
        refine kL (H0:=(([(n_6,some (.cells 1 (aJ 1 ns_16 s_56))),(n_8,some (.cells 2 [(.vs n_6 1 0 m_3),(vI (l_2.length:Int))])),(n_38,some (.cells 8 (Campaign.v x_30))),(n_61,some (.cells 5 (Spot.v x_53)))]:Hp)++(aP 1 eI ns_16 s_56))) rfl (Av 15 (.inr (by kernel_rfl)) (λ_ _ ag=>⟨.inr (.inr (by kernel_rfl)),⟨.inr (.inr (by kernel_rfl)),⟨.inr (.inr (by kernel_rfl)),⟨.inr (.inr (by kernel_rfl)),⟨.inr (.inr (by kernel_rfl)),trivial⟩⟩⟩⟩⟩) sz3 rfl hr_80 hy_82 x_30.Most rfl wz (tJ (b':=some (.cells 1 (aJ 1 ns_16 (s_56.set (0+(r_67).toNat) (r_79.set (0+(r_74).toNat) x_30.Most))))) 0 rfl (rT hr_80) (ah ?_)))
        obtain rfl:=ae h_65
        exact aS () trivial rfl (cO (C1:=([(n_6,some (.cells 1 (aJ 1 ns_16 (s_56.set (0+(r_67).toNat) (r_79.set (0+(r_74).toNat) x_30.Most))))),(n_8,some (.cells 2 [(.vs n_6 1 0 m_3),(vI (l_2.length:Int))])),(n_38,some (.cells 8 (Campaign.v x_30))),(n_61,some (.cells 5 (Spot.v x_53)))]:Hp)) (T:=(aP 1 eI ns_16 (s_56.set (0+(r_67).toNat) (r_79.set (0+(r_74).toNat) x_30.Most)))) [0,1,2,3] (by decide) rfl rfl)
       ·refine aA rfl hc_66 (av ?_)
        obtain rfl:=ae h_65
        exact aS () trivial rfl (cO (C1:=([(n_6,some (.cells 1 (aJ 1 ns_16 s_56))),(n_8,some (.cells 2 [(.vs n_6 1 0 m_3),(vI (l_2.length:Int))])),(n_38,some (.cells 8 (Campaign.v x_30))),(n_61,some (.cells 5 (Spot.v x_53)))]:Hp)) (T:=(aP 1 eI ns_16 s_56)) [0,1,2,3] (by decide) rfl rfl)
      ·rintro ⟨⟩ _ sl_ H_ hp_ hq_
       refine aO _ hp_ hq_ (au (dS (bC hD_54 hn_55) wz rfl (aa (vI ((k_51+1:Nat):Int)) (ah ?_))))
       obtain rfl:=ae hc_57
       exact aU (k_51+1,l_52,v_64) ⟨hL_58,aX hD_54⟩ (ls_ _) rfl (cO (C1:=([(n_6,some (.cells 1 (aJ 1 ns_16 v_64))),(n_8,some (.cells 2 [(.vs n_6 1 0 m_3),(vI (l_2.length:Int))])),(n_38,some (.cells 8 (Campaign.v x_30))),(n_61,some (.cells 5 (Spot.v x_53)))]:Hp)) (T:=(aP 1 eI ns_16 v_64)) [0,1,2] (by decide) rfl rfl)
    ·rintro s_56 ho_ sl_ H_ hp_ hq_
     subst ho_
     refine aO _ hp_ hq_ (au (dS (bC hD_31 hn_32) wz rfl (aa (vI ((k_28+1:Nat):Int)) (ah ?_))))
     obtain rfl:=ae hc_34
     exact aU (k_28+1,l_29,s_56) ⟨hL_35,aX hD_31⟩ (ls_ _) rfl (cO (C1:=([(n_6,some (.cells 1 (aJ 1 ns_16 s_56))),(n_8,some (.cells 2 [(.vs n_6 1 0 m_3),(vI (l_2.length:Int))])),(n_38,some (.cells 8 (Campaign.v x_30)))]:Hp)) (T:=(aP 1 eI ns_16 s_56)) [0,1] (by decide) rfl rfl)
  ·rintro s_33 ho_ sl_ H_ hp_ hq_
   subst ho_
   refine aO _ hp_ hq_ (ak (ai (aa (vL Spot.enc spots_1) (bR Jc rfl wz (aa (vI 0) (ah ?_))))))
   obtain ⟨o_91,hj_92,hF⟩:=bind_some hF
   obtain ⟨hn_87,hj_92⟩:=bf hj_92
   refine cz (λ(s_88:(List (List Int)))=>[(6,(.ref n_8 0 0))]) (λ(s_88:(List (List Int)))=>(([(n_6,some (.cells 1 (aJ 1 ns_16 s_88))),(n_8,some (.cells 2 [(.vs n_6 1 0 m_3),(vI (l_2.length:Int))]))]:Hp)++(aP 1 eI ns_16 s_88))) (λ(k_83:Nat)=>(λ(s_88:(List (List Int)))=>[(6,(.ref n_8 0 0)),(89,(vL Spot.enc spots_1)),(90,(vI (spots_1.length:Int))),(91,(vI (k_83:Int)))])) (λk x s=>jG m_3 l_2 k x s) o_91 spots_1 s_33 hj_92 rfl (cO (C1:=([(n_6,some (.cells 1 (aJ 1 ns_16 s_33))),(n_8,some (.cells 2 [(.vs n_6 1 0 m_3),(vI (l_2.length:Int))]))]:Hp)) (T:=(aP 1 eI ns_16 s_33)) [0,1] (by decide) rfl rfl) ?_ ?_
   ·rintro ⟨k_83,l_84,s_88⟩ ⟨hL_90,hD_86⟩
    dsimp only at hL_90 hD_86
    cases l_84 with
    | nil =>
     obtain rfl:=ae hL_90
     refine ai (aa (vB (decide ((k_83:Int)<(spots_1.length:Int)))) (ah ?_))
     refine ak (aA rfl (drop_nil hD_86) (aV ?_))
     exact aS (s_88) rfl rfl (cO (C1:=([(n_6,some (.cells 1 (aJ 1 ns_16 s_88))),(n_8,some (.cells 2 [(.vs n_6 1 0 m_3),(vI (l_2.length:Int))]))]:Hp)) (T:=(aP 1 eI ns_16 s_88)) [0,1] (by decide) rfl rfl)
    | cons x_85 l_84 =>
     obtain ⟨c_,hc_89,hL_90⟩:=bind_some hL_90
     refine ai (aa (vB (decide ((k_83:Int)<(spots_1.length:Int)))) (ah ?_))
     refine ak (aB rfl (bv hD_86) (av ?_))
     unfold jG at hc_89
     refine ak (aM (ai (aa (vI (k_83:Int)) (dD FC rfl rfl (bI hD_86) rfl wz (bE xS Ea rfl (.d (.agg (Spot.enc x_85))) rfl wz (dB 0 (.inl rfl) z51 rfl wz (λn_93=>rG (C0:=([(n_6,some (.cells 1 (aJ 1 ns_16 s_88))),(n_8,some (.cells 2 [(.vs n_6 1 0 m_3),(vI (l_2.length:Int))]))]:Hp)) (T:=(aP 1 eI ns_16 s_88)) (X:=([(n_93,some (.cells 5 [(vS (⟨#[]⟩:ByteArray)),(vI 0),(vI 0),(vI 0),.nil]))]:Hp)) (aa (vI (k_83:Int)) (fE 0 il ft 2 xS rfl rfl (Spot.v x_85) rfl wz (ah (bB (aa (.ref n_8 0 0) (aa (.ref n_8 0 0) (aH mZ rfl 0 rfl wz (aF 3 1 (.inr (by kernel_rfl)) (λ_ _ ag=>trivial) yQ yM rfl rfl (.vs n_6 1 0 m_3) rfl wz (aa (.ref n_8 0 0) (aa (vI (k_83:Int)) ?_)))))))))))))))))
     obtain ⟨_,hn_96,hc_89⟩:=bind_some hc_89
     obtain ⟨_,hm_97,hc_89⟩:=bind_some hc_89
     obtain ⟨r_94,hr_95,hc_89⟩:=bind_some hc_89
     refine kL (H0:=(([(n_6,some (.cells 1 (aJ 1 ns_16 s_88))),(n_8,some (.cells 2 [(.vs n_6 1 0 m_3),(vI (l_2.length:Int))])),(n_93,some (.cells 5 (Spot.v x_85)))]:Hp)++(aP 1 eI ns_16 s_88))) rfl (sS 6 1 0 (.inr (by kernel_rfl)) (λ_ _ ag=>by exact⟨.inl ⟨rfl,rfl⟩,trivial⟩) (nu hr_95) rfl hb21 rfl rfl (by decide) (oW hm_97) (qP hn_96) rfl (by kernel_rfl) (λ_=>by kernel_rfl) (by kernel_rfl) (by kernel_rfl) wz ?_)
     obtain ⟨_,hi_98,hc_89⟩:=bind_some hc_89
     refine jT AC rfl rfl (oH hi_98) (kT hi_98) wz ?_
     obtain ⟨r_99,hr_100,hc_89⟩:=bind_some hc_89
     refine pU 8 0 (.inr (by kernel_rfl)) (λ_ _ ag=>⟨.inl ⟨rfl,rfl⟩,⟨.inl ⟨rfl,rfl⟩,trivial⟩⟩) uB wF rfl rfl hr_100 wz (aH KD rfl 3 rfl wz (aF 10 2 (.inr (by kernel_rfl)) (λ_ _ ag=>⟨.inl ⟨rfl,rfl⟩,⟨.inl ⟨rfl,rfl⟩,⟨.inl ⟨rfl,rfl⟩,trivial⟩⟩⟩) sz3 ag3 rfl rfl (vI x_85.Room) rfl wz ?_))
     obtain ⟨_,hi_101,hc_89⟩:=bind_some hc_89
     refine j5 gK rfl rfl (gZ hi_101) (ek hi_101) wz ?_
     obtain ⟨r_102,hr_103,hc_89⟩:=bind_some hc_89
     obtain ⟨e_104,hy_105,hc_89⟩:=bind_some hc_89
     refine kL (H0:=(([(n_6,some (.cells 1 (aJ 1 ns_16 s_88))),(n_8,some (.cells 2 [(.vs n_6 1 0 m_3),(vI (l_2.length:Int))])),(n_93,some (.cells 5 (Spot.v x_85)))]:Hp)++(aP 1 eI ns_16 s_88))) rfl (Av 12 (.inr (by kernel_rfl)) (λ_ _ ag=>⟨.inr (.inr (by kernel_rfl)),⟨.inr (.inr (by kernel_rfl)),⟨.inr (.inr (by kernel_rfl)),⟨.inr (.inr (by kernel_rfl)),trivial⟩⟩⟩⟩) sz3 rfl hr_103 hy_105 x_85.Room rfl wz (tJ (b':=some (.cells 1 (aJ 1 ns_16 (s_88.set (0+(r_94).toNat) (r_102.set (0+(1:Int).toNat) x_85.Room))))) 0 rfl (rT hr_103) (ah (au (dS (bC hD_86 hn_87) wz rfl (aa (vI ((k_83+1:Nat):Int)) (ah ?_)))))))
     obtain rfl:=ae hc_89
     exact aU (k_83+1,l_84,(s_88.set (0+(r_94).toNat) (r_102.set (0+(1:Int).toNat) x_85.Room))) ⟨hL_90,aX hD_86⟩ (ls_ _) rfl (cO (C1:=([(n_6,some (.cells 1 (aJ 1 ns_16 (s_88.set (0+(r_94).toNat) (r_102.set (0+(1:Int).toNat) x_85.Room))))),(n_8,some (.cells 2 [(.vs n_6 1 0 m_3),(vI (l_2.length:Int))])),(n_93,some (.cells 5 (Spot.v x_85)))]:Hp)) (T:=(aP 1 eI ns_16 (s_88.set (0+(r_94).toNat) (r_102.set (0+(1:Int).toNat) x_85.Room)))) [0,1] (by decide) rfl rfl)
   ·rintro s_88 ho_ sl_ H_ hp_ hq_
    subst ho_
    refine aO _ hp_ hq_ (ai (aa (.ref n_8 0 0) (aa (.ref n_8 0 0) (ah ?_))))
    obtain ⟨_,hk_,hF⟩:=bind_some hF
    obtain rfl:=ae hF
    exact ay (finGrN 1 0 (.inr rfl) rfl rfl (oW hk_) (by decide) rfl rfl rfl)
theorem zi {wv_1:Web} {fromv_2:Int} {tov_3:Int} {r:(List Int)×Bool} (hF:lm wv_1 fromv_2 tov_3=some r) :
  FnM Tryz.prog 36 [(.ref (ax 0) 0 0),(vI fromv_2),(vI tov_3)] (lc 2 1 eI [(vI wv_1.f_camps)] wv_1.f_can) (.tup [(vL eI r.1),(vB r.2)]) (gy 2 1 eI [(vI wv_1.f_camps)] wv_1.f_can):=by
 refine FnM.of_wHg (cs:=[(vI wv_1.f_camps)]) ⟨Tryz.prog,87,[33],[]⟩ rfl Tryz.func36 rfl rfl (lb_ rfl) (by kernel_rfl) ?_
 unfold lm at hF
 refine ai (aa .nil (aa (vB false) (ah (ai (aa (.ref (ax 0) 0 0) (aa (.ref (ax 0) 0 0) (aH mZ rfl 0 rfl wz (aF 0 0 il ft yQ yM rfl rfl (.vs (ax 1) 1 0 wv_1.f_can.length) rfl wz (H7 un61 rfl wz ?_)))))))))
 obtain ⟨m_4,hm_5,hF⟩:=bind_some hF
 refine Gi (enc:=eI) 0 (.inl rfl) 0 KH sz3 z3 by3 rfl rfl (by decide) rfl rfl rfl hm_5 wz (λn_6=>rG (C0:=([((ax 0),some (.cells 2 [(.vs (ax 1) 1 0 wv_1.f_can.length),(vI wv_1.f_camps)])),((ax 1),some (.cells 1 (aJ 1 bS wv_1.f_can)))]:Hp)) (T:=(aP 1 eI bS wv_1.f_can)) (X:=([(n_6,some (bV 1 eI (List.replicate m_4 (0:Int))))]:Hp)) (aa (vV n_6 1 (List.replicate m_4 (0:Int))) (ah (ak (ai (aa (vV n_6 1 (List.replicate m_4 (0:Int))) (PP u7 rfl wz (aa (vI 0) (ah ?_)))))))))
 obtain ⟨o_15,hj_16,hF⟩:=bind_some hF
 obtain ⟨hn_11,hj_16⟩:=bf hj_16
 refine cz (λ(s_12:List Int)=>[(0,(.ref (ax 0) 0 0)),(1,(vI fromv_2)),(2,(vI tov_3)),(8,(vV n_6 1 s_12))]) (λ(s_12:List Int)=>(([((ax 0),some (.cells 2 [(.vs (ax 1) 1 0 wv_1.f_can.length),(vI wv_1.f_camps)])),((ax 1),some (.cells 1 (aJ 1 bS wv_1.f_can))),(n_6,some (bV 1 eI s_12))]:Hp)++(aP 1 eI bS wv_1.f_can))) (λ(k_7:Nat)=>(λ(s_12:List Int)=>[(0,(.ref (ax 0) 0 0)),(1,(vI fromv_2)),(2,(vI tov_3)),(8,(vV n_6 1 s_12)),(20,(vI ((List.replicate m_4 (0:Int)).length:Int))),(21,(vI (k_7:Int)))])) (λk x s=>jl k x s) o_15 (List.range (((List.replicate m_4 (0:Int)).length:Int)).toNat) (List.replicate m_4 (0:Int)) hj_16 rfl (cO (C1:=([((ax 0),some (.cells 2 [(.vs (ax 1) 1 0 wv_1.f_can.length),(vI wv_1.f_camps)])),((ax 1),some (.cells 1 (aJ 1 bS wv_1.f_can))),(n_6,some (bV 1 eI (List.replicate m_4 (0:Int))))]:Hp)) (T:=(aP 1 eI bS wv_1.f_can)) [0,1,2] (by decide) rfl rfl) ?_ ?_
 ·rintro ⟨k_7,l_8,s_12⟩ ⟨hL_14,hD_10⟩
  dsimp only at hL_14 hD_10
  cases l_8 with
  | nil =>
   obtain rfl:=ae hL_14
   refine ai (aa (vB (decide ((k_7:Int)<((List.replicate m_4 (0:Int)).length:Int)))) (ah ?_))
   refine ak (aA rfl (yB hD_10) (aV ?_))
   exact aS (s_12) rfl rfl (cO (C1:=([((ax 0),some (.cells 2 [(.vs (ax 1) 1 0 wv_1.f_can.length),(vI wv_1.f_camps)])),((ax 1),some (.cells 1 (aJ 1 bS wv_1.f_can))),(n_6,some (bV 1 eI s_12))]:Hp)) (T:=(aP 1 eI bS wv_1.f_can)) [0,1,2] (by decide) rfl rfl)
  | cons x_9 l_8 =>
   obtain ⟨c_,hc_13,hL_14⟩:=bind_some hL_14
   refine ai (aa (vB (decide ((k_7:Int)<((List.replicate m_4 (0:Int)).length:Int)))) (ah ?_))
   refine ak (aB rfl (wB hD_10) (av ?_))
   unfold jl at hc_13
   refine ak (aM (ai (aa (vI (k_7:Int)) (aa (vI (k_7:Int)) (ah (au (aa (vV n_6 1 s_12) (aa (vI (k_7:Int)) ?_))))))))
   obtain ⟨_,hi_17,hc_13⟩:=bind_some hc_13
   refine jT gK rfl rfl (gZ hi_17) (ek hi_17) wz ?_
   obtain ⟨e_18,hy_19,hc_13⟩:=bind_some hc_13
   refine JE 0 il ft 2 sz3 rfl rfl hy_19 (-1) rfl wz (jY (v':=(vV n_6 1 (s_12.set (0+((k_7:Int)).toNat) (-1)))) 8 rfl (uA (by simp)) (jY (v':=(vV n_6 1 (s_12.set (0+((k_7:Int)).toNat) (-1)))) 24 rfl (uA (by simp)) (ah (au (dS (yz hD_10 hn_11) wz rfl (aa (vI ((k_7+1:Nat):Int)) (ah ?_)))))))
   obtain rfl:=ae hc_13
   exact aU (k_7+1,l_8,(s_12.set (0+((k_7:Int)).toNat) (-1))) ⟨hL_14,aX hD_10⟩ (ls_ _) rfl (cO (C1:=([((ax 0),some (.cells 2 [(.vs (ax 1) 1 0 wv_1.f_can.length),(vI wv_1.f_camps)])),((ax 1),some (.cells 1 (aJ 1 bS wv_1.f_can))),(n_6,some (bV 1 eI (s_12.set (0+((k_7:Int)).toNat) (-1))))]:Hp)) (T:=(aP 1 eI bS wv_1.f_can)) [0,1,2] (by decide) rfl rfl)
 ·rintro s_12 ho_ sl_ H_ hp_ hq_
  subst ho_
  refine aO _ hp_ hq_ (ai (aa (vV n_6 1 s_12) (aa (vI fromv_2) (aa (vI fromv_2) ?_))))
  obtain ⟨_,hi_20,hF⟩:=bind_some hF
  refine jT gK rfl rfl (gZ hi_20) (ek hi_20) wz ?_
  obtain ⟨e_21,hy_22,hF⟩:=bind_some hF
  refine JE 0 il ft 2 sz3 rfl rfl hy_22 fromv_2 rfl wz (jY (v':=(vV n_6 1 (s_12.set (0+(fromv_2).toNat) fromv_2))) 8 rfl (uA (by simp)) (jY (v':=(vV n_6 1 (s_12.set (0+(fromv_2).toNat) fromv_2))) 28 rfl (uA (by simp)) (ah (ak (ai (aa (vI fromv_2) (h_litv 0 (.inl rfl) (([fromv_2]:List Int).map eI) gK CK rfl rfl rfl rfl rfl wz (λn_23=>rG (C0:=([((ax 0),some (.cells 2 [(.vs (ax 1) 1 0 wv_1.f_can.length),(vI wv_1.f_camps)])),((ax 1),some (.cells 1 (aJ 1 bS wv_1.f_can))),(n_6,some (bV 1 eI (s_12.set (0+(fromv_2).toNat) fromv_2)))]:Hp)) (T:=(aP 1 eI bS wv_1.f_can)) (X:=([(n_23,some (bV 1 eI ([fromv_2]:List Int)))]:Hp)) (aa (vV n_23 1 ([fromv_2]:List Int)) (ah ?_))))))))))
  obtain ⟨o_34,hj_35,hF⟩:=bind_some hF
  obtain ⟨nq_90,hj_35⟩:=dA hj_35
  refine Fj (σ:=(List Int)×(List Int)×Nat) (N:=Nm) (λp=>(λ(s_29:(List Int)×(List Int)×Nat) (n_31:Nm)=>([(2,(vI tov_3)),(8,(vV n_6 1 s_29.1))]:SL_)) p.1 p.2) (λp=>(λ(s_29:(List Int)×(List Int)×Nat) (n_31:Nm)=>(([((ax 0),some (.cells 2 [(.vs (ax 1) 1 0 wv_1.f_can.length),(vI wv_1.f_camps)])),((ax 1),some (.cells 1 (aJ 1 bS wv_1.f_can))),(n_6,some (bV 1 eI s_29.1)),(n_31,some (bV 1 eI s_29.2.1))]:Hp)++(aP 1 eI bS wv_1.f_can))) p.1 p.2) (λ(k_24:Nat)=>(λp=>(λ(s_29:(List Int)×(List Int)×Nat) (n_31:Nm)=>([(0,(.ref (ax 0) 0 0)),(2,(vI tov_3)),(8,(vV n_6 1 s_29.1)),(10,(qV n_31 1 s_29.2.1 s_29.2.2))]:SL_)) p.1 p.2)) (λs=>fF tov_3 wv_1 s) o_34 nq_90 (((s_12.set (0+(fromv_2).toNat) fromv_2),([fromv_2]:List Int),0),n_23) hj_35 rfl (cO (C1:=([((ax 0),some (.cells 2 [(.vs (ax 1) 1 0 wv_1.f_can.length),(vI wv_1.f_camps)])),((ax 1),some (.cells 1 (aJ 1 bS wv_1.f_can))),(n_6,some (bV 1 eI (s_12.set (0+(fromv_2).toNat) fromv_2))),(n_23,some (bV 1 eI ([fromv_2]:List Int)))]:Hp)) (T:=(aP 1 eI bS wv_1.f_can)) [0,1,2,3] (by decide) rfl rfl) ?_ ?_
  ·rintro ⟨k_24,s_29,n_31⟩ hL_33
   dsimp only at hL_33
   cases k_24 with
   | zero=>cases hL_33
   | succ k_24 =>
    obtain ⟨c_,hc_32,hL_33⟩:=bind_some hL_33
    unfold fF at hc_32
    refine ak (ak ?_)
    obtain ⟨v_36,h_37,hc_32⟩:=bind_some hc_32
    refine aQ [(0,(.ref (ax 0) 0 0)),(2,(vI tov_3)),(8,(vV n_6 1 s_29.1)),(10,(qV n_31 1 s_29.2.1 s_29.2.2)),(43,(vB v_36))] (([((ax 0),some (.cells 2 [(.vs (ax 1) 1 0 wv_1.f_can.length),(vI wv_1.f_camps)])),((ax 1),some (.cells 1 (aJ 1 bS wv_1.f_can))),(n_6,some (bV 1 eI s_29.1)),(n_31,some (bV 1 eI s_29.2.1))]:Hp)++(aP 1 eI bS wv_1.f_can)) ?_ ?_
    ·refine au (aa (qV n_31 1 s_29.2.1 s_29.2.2) (H7 u7 rfl wz (aa (vB (decide ((((s_29.2.1.length-s_29.2.2):Nat):Int)>0))) ?_)))
     rcases aj h_37 with⟨hc_38,h_37⟩|⟨hc_38,h_37⟩
     ·refine aC rfl hc_38 wz (aG (vV n_6 1 s_29.1) wa rfl (aG (vI tov_3) wa rfl ?_))
      obtain ⟨_,hi_39,h_37⟩:=bind_some h_37
      refine jT gK rfl rfl (gZ hi_39) (ek hi_39) wa ?_
      obtain ⟨e_40,hy_41,h_37⟩:=bind_some h_37
      refine zQ 0 2 il ft sz3 ag3 rfl rfl hy_41 (vI e_40) rfl wa (aG (vB (decide (e_40<0))) wa rfl (aa (vB (decide (e_40<0))) (ah ?_)))
      obtain rfl:=ae h_37
      exact aS () trivial rfl (cO (C1:=([((ax 0),some (.cells 2 [(.vs (ax 1) 1 0 wv_1.f_can.length),(vI wv_1.f_camps)])),((ax 1),some (.cells 1 (aJ 1 bS wv_1.f_can))),(n_6,some (bV 1 eI s_29.1)),(n_31,some (bV 1 eI s_29.2.1))]:Hp)) (T:=(aP 1 eI bS wv_1.f_can)) [0,1,2,3] (by decide) rfl rfl)
     ·refine aC rfl hc_38 wz (af (af (af (af (af (aa (vB false) (ah ?_)))))))
      obtain rfl:=ae h_37
      exact aS () trivial rfl (cO (C1:=([((ax 0),some (.cells 2 [(.vs (ax 1) 1 0 wv_1.f_can.length),(vI wv_1.f_camps)])),((ax 1),some (.cells 1 (aJ 1 bS wv_1.f_can))),(n_6,some (bV 1 eI s_29.1)),(n_31,some (bV 1 eI s_29.2.1))]:Hp)) (T:=(aP 1 eI bS wv_1.f_can)) [0,1,2,3] (by decide) rfl rfl)
    ·rintro ⟨⟩ _ sl_ H_ hp_ hq_
     refine aO _ hp_ hq_ ?_
     rcases aj hc_32 with⟨hc_42,hc_32⟩|⟨hc_42,hc_32⟩
     ·refine aB rfl hc_42 (av (ak (aM (ak (bB (aa (.ref (ax 0) 0 0) (aa (.ref (ax 0) 0 0) (aH mZ rfl 0 rfl wz (aF 3 0 (.inr (by kernel_rfl)) (λ_ _ ag=>trivial) yQ yM rfl rfl (.vs (ax 1) 1 0 wv_1.f_can.length) rfl wz (aa (qV n_31 1 s_29.2.1 s_29.2.2) ?_))))))))))
      obtain ⟨_,hi_43,hc_32⟩:=bind_some hc_32
      refine jT gK rfl rfl (oH hi_43) (kT hi_43) wz ?_
      obtain ⟨e_44,hy_45,hc_32⟩:=bind_some hc_32
      refine zQ 6 3 (.inr (by kernel_rfl)) (λ_ _ ag=>⟨.inl ⟨rfl,rfl⟩,trivial⟩) sz3 ag3 rfl rfl hy_45 (vI e_44) rfl wz ?_
      obtain ⟨_,hi_46,hc_32⟩:=bind_some hc_32
      refine jT AC rfl rfl (oH hi_46) (kT hi_46) wz ?_
      obtain ⟨r_47,hr_48,hc_32⟩:=bind_some hc_32
      refine pU 8 1 (.inr (by kernel_rfl)) (λ_ _ ag=>⟨.inl ⟨rfl,rfl⟩,⟨.inl ⟨rfl,rfl⟩,trivial⟩⟩) uB wF rfl rfl hr_48 wz (Iz u7 rfl wz (aa (vI 0) (ah ?_)))
      obtain ⟨o_59,hj_60,hc_32⟩:=bind_some hc_32
      obtain ⟨hn_53,hj_60⟩:=bf hj_60
      refine iP (σ:=(List Int)×(List Int)×Nat) (N:=Nm) (λp=>(λ(s_54:(List Int)×(List Int)×Nat) (n_56:Nm)=>([(0,(.ref (ax 0) 0 0)),(2,(vI tov_3)),(8,(vV n_6 1 s_54.1)),(10,(qV n_56 1 s_54.2.1 s_54.2.2))]:SL_)) p.1 p.2) (λp=>(λ(s_54:(List Int)×(List Int)×Nat) (n_56:Nm)=>(([((ax 0),some (.cells 2 [(.vs (ax 1) 1 0 wv_1.f_can.length),(vI wv_1.f_camps)])),((ax 1),some (.cells 1 (aJ 1 bS wv_1.f_can))),(n_6,some (bV 1 eI s_54.1)),(n_56,some (bV 1 eI s_54.2.1))]:Hp)++(aP 1 eI bS wv_1.f_can))) p.1 p.2) (λ(k_49:Nat)=>(λp=>(λ(s_54:(List Int)×(List Int)×Nat) (n_56:Nm)=>([(0,(.ref (ax 0) 0 0)),(2,(vI tov_3)),(8,(vV n_6 1 s_54.1)),(10,(qV n_56 1 s_54.2.1 s_54.2.2)),(54,(gV (bS (0+(e_44).toNat)) 1 r_47)),(55,(vI (r_47.length:Int))),(56,(vI (k_49:Int)))]:SL_)) p.1 p.2)) (λk x s=>gH r_47 wv_1 e_44 k x s) o_59 (List.range ((r_47.length:Int)).toNat) ((s_29.1,s_29.2.1,s_29.2.2),n_31) hj_60 rfl (cO (C1:=([((ax 0),some (.cells 2 [(.vs (ax 1) 1 0 wv_1.f_can.length),(vI wv_1.f_camps)])),((ax 1),some (.cells 1 (aJ 1 bS wv_1.f_can))),(n_6,some (bV 1 eI s_29.1)),(n_31,some (bV 1 eI s_29.2.1))]:Hp)) (T:=(aP 1 eI bS wv_1.f_can)) [0,1,2,3] (by decide) rfl rfl) ?_ ?_
      ·rintro ⟨k_49,l_50,s_54,n_56⟩ ⟨hL_58,hD_52⟩
       dsimp only at hL_58 hD_52
       cases l_50 with
       | nil =>
        obtain rfl:=ae hL_58
        refine ai (aa (vB (decide ((k_49:Int)<(r_47.length:Int)))) (ah ?_))
        refine ak (aA rfl (yB hD_52) (aV ?_))
        exact aS (s_54,n_56) rfl rfl (cO (C1:=([((ax 0),some (.cells 2 [(.vs (ax 1) 1 0 wv_1.f_can.length),(vI wv_1.f_camps)])),((ax 1),some (.cells 1 (aJ 1 bS wv_1.f_can))),(n_6,some (bV 1 eI s_54.1)),(n_56,some (bV 1 eI s_54.2.1))]:Hp)) (T:=(aP 1 eI bS wv_1.f_can)) [0,1,2,3] (by decide) rfl rfl)
       | cons x_51 l_50 =>
        obtain ⟨c_,hc_57,hL_58⟩:=bind_some hL_58
        refine ai (aa (vB (decide ((k_49:Int)<(r_47.length:Int)))) (ah ?_))
        refine ak (aB rfl (wB hD_52) (av ?_))
        unfold gH at hc_57
        refine ak (aM (ai (aa (vI (k_49:Int)) ?_)))
        obtain ⟨_,hi_61,hc_57⟩:=bind_some hc_57
        refine j5 gK rfl rfl (gZ hi_61) (ek hi_61) wz ?_
        obtain ⟨r_62,hr_63,hc_57⟩:=bind_some hc_57
        obtain ⟨e_64,hy_65,hc_57⟩:=bind_some hc_57
        refine kL (H0:=(([((ax 0),some (.cells 2 [(.vs (ax 1) 1 0 wv_1.f_can.length),(vI wv_1.f_camps)])),((ax 1),some (.cells 1 (aJ 1 bS wv_1.f_can))),(n_6,some (bV 1 eI s_54.1)),(n_56,some (bV 1 eI s_54.2.1))]:Hp)++(aP 1 eI bS wv_1.f_can))) rfl (Gl 0 il ft sz3 ag3 rfl hr_63 hy_65 (vI e_64) rfl wz (aa (vI (k_49:Int)) (aa (vI e_64) (ah (ak ?_)))))
        obtain ⟨v_66,h_67,hc_57⟩:=bind_some hc_57
        refine aQ [(0,(.ref (ax 0) 0 0)),(2,(vI tov_3)),(8,(vV n_6 1 s_54.1)),(10,(qV n_56 1 s_54.2.1 s_54.2.2)),(11,(vI (k_49:Int))),(54,(gV (bS (0+(e_44).toNat)) 1 r_47)),(55,(vI (r_47.length:Int))),(56,(vI (k_49:Int))),(69,(vB v_66))] (([((ax 0),some (.cells 2 [(.vs (ax 1) 1 0 wv_1.f_can.length),(vI wv_1.f_camps)])),((ax 1),some (.cells 1 (aJ 1 bS wv_1.f_can))),(n_6,some (bV 1 eI s_54.1)),(n_56,some (bV 1 eI s_54.2.1))]:Hp)++(aP 1 eI bS wv_1.f_can)) ?_ ?_
        ·refine au (aa (vI e_64) (aa (vB (decide (e_64>0))) ?_))
         rcases aj h_67 with⟨hc_68,h_67⟩|⟨hc_68,h_67⟩
         ·refine aC rfl hc_68 wz (aG (vV n_6 1 s_54.1) wa rfl (aG (vI (k_49:Int)) wa rfl ?_))
          obtain ⟨_,hi_69,h_67⟩:=bind_some h_67
          refine jT gK rfl rfl (gZ hi_69) (ek hi_69) wa ?_
          obtain ⟨e_70,hy_71,h_67⟩:=bind_some h_67
          refine zQ 0 2 il ft sz3 ag3 rfl rfl hy_71 (vI e_70) rfl wa (aG (vB (decide (e_70<0))) wa rfl (aa (vB (decide (e_70<0))) (ah ?_)))
          obtain rfl:=ae h_67
          exact aS () trivial rfl (cO (C1:=([((ax 0),some (.cells 2 [(.vs (ax 1) 1 0 wv_1.f_can.length),(vI wv_1.f_camps)])),((ax 1),some (.cells 1 (aJ 1 bS wv_1.f_can))),(n_6,some (bV 1 eI s_54.1)),(n_56,some (bV 1 eI s_54.2.1))]:Hp)) (T:=(aP 1 eI bS wv_1.f_can)) [0,1,2,3] (by decide) rfl rfl)
         ·refine aC rfl hc_68 wz (af (af (af (af (af (aa (vB false) (ah ?_)))))))
          obtain rfl:=ae h_67
          exact aS () trivial rfl (cO (C1:=([((ax 0),some (.cells 2 [(.vs (ax 1) 1 0 wv_1.f_can.length),(vI wv_1.f_camps)])),((ax 1),some (.cells 1 (aJ 1 bS wv_1.f_can))),(n_6,some (bV 1 eI s_54.1)),(n_56,some (bV 1 eI s_54.2.1))]:Hp)) (T:=(aP 1 eI bS wv_1.f_can)) [0,1,2,3] (by decide) rfl rfl)
        ·rintro ⟨⟩ _ sl_ H_ hp_ hq_
         refine aO _ hp_ hq_ ?_
         obtain ⟨v_72,h_73,hc_57⟩:=bind_some hc_57
         refine kW (β:=Nm) (λ(n_74:Nm)=>([(0,(.ref (ax 0) 0 0)),(2,(vI tov_3)),(8,(vV n_6 1 v_72.1)),(10,(qV n_74 1 v_72.2.1 v_72.2.2)),(54,(gV (bS (0+(e_44).toNat)) 1 r_47)),(55,(vI (r_47.length:Int))),(56,(vI (k_49:Int)))]:SL_)) (λ(n_74:Nm)=>(([((ax 0),some (.cells 2 [(.vs (ax 1) 1 0 wv_1.f_can.length),(vI wv_1.f_camps)])),((ax 1),some (.cells 1 (aJ 1 bS wv_1.f_can))),(n_6,some (bV 1 eI v_72.1)),(n_74,some (bV 1 eI v_72.2.1))]:Hp)++(aP 1 eI bS wv_1.f_can))) (λ_=>True) ?_ ?_
         ·rcases aj h_73 with⟨hc_75,h_73⟩|⟨hc_75,h_73⟩
          ·refine aB rfl hc_75 (ai (aa (vV n_6 1 s_54.1) (aa (vI (k_49:Int)) (aa (qV n_56 1 s_54.2.1 s_54.2.2) ?_))))
           obtain ⟨_,hi_76,h_73⟩:=bind_some h_73
           refine jT gK rfl rfl (oH hi_76) (kT hi_76) wz ?_
           obtain ⟨e_77,hy_78,h_73⟩:=bind_some h_73
           refine zQ 0 3 il ft sz3 ag3 rfl rfl hy_78 (vI e_77) rfl wz ?_
           obtain ⟨_,hi_79,h_73⟩:=bind_some h_73
           refine jT gK rfl rfl (gZ hi_79) (ek hi_79) wz ?_
           obtain ⟨e_80,hy_81,h_73⟩:=bind_some h_73
           refine JE 0 il ft 2 sz3 rfl rfl hy_81 e_77 rfl wz (jY (v':=(vV n_6 1 (s_54.1.set (0+((k_49:Int)).toNat) e_77))) 8 rfl (uA (by simp)) (jY (v':=(vV n_6 1 (s_54.1.set (0+((k_49:Int)).toNat) e_77))) 70 rfl (uA (by simp)) (ah (au (aa (qV n_56 1 s_54.2.1 s_54.2.2) (aa (vI (k_49:Int)) (gm (([(k_49:Int)]:List Int).map eI) gK CK rfl rfl rfl rfl rfl wz ?_)))))))
           obtain ⟨_,hk_85,h_73⟩:=bind_some h_73
           obtain ⟨a_82,hz_83,h_73⟩:=bind_some h_73
           refine h_appq 0 il ft (i:=3) KH KH sz3 z3 rfl (by decide) by3 (by decide) (λ_=>rfl) rfl (leN_le hk_85) rfl rfl (List.cons_ne_nil _ _) hz_83 wz (λn_84=>aa (vV n_84 1 a_82) (ah ?_))
           obtain rfl:=ae h_73
           exact aS n_84 trivial rfl (cO (C1:=([((ax 0),some (.cells 2 [(.vs (ax 1) 1 0 wv_1.f_can.length),(vI wv_1.f_camps)])),((ax 1),some (.cells 1 (aJ 1 bS wv_1.f_can))),(n_6,some (bV 1 eI (s_54.1.set (0+((k_49:Int)).toNat) e_77))),(n_84,some (bV 1 eI a_82))]:Hp)) (T:=(aP 1 eI bS wv_1.f_can)) [0,1,2,3] (by decide) rfl rfl)
          ·refine aA rfl hc_75 (av ?_)
           obtain rfl:=ae h_73
           exact aS n_56 trivial rfl (cO (C1:=([((ax 0),some (.cells 2 [(.vs (ax 1) 1 0 wv_1.f_can.length),(vI wv_1.f_camps)])),((ax 1),some (.cells 1 (aJ 1 bS wv_1.f_can))),(n_6,some (bV 1 eI s_54.1)),(n_56,some (bV 1 eI s_54.2.1))]:Hp)) (T:=(aP 1 eI bS wv_1.f_can)) [0,1,2,3] (by decide) rfl rfl)
         ·rintro n_74 _ sl_ H_ hp_ hq_
          refine aO _ hp_ hq_ (au (dS (yz hD_52 hn_53) wz rfl (aa (vI ((k_49+1:Nat):Int)) (ah ?_))))
          obtain rfl:=ae hc_57
          exact aU (k_49+1,l_50,(v_72.1,v_72.2.1,v_72.2.2),n_74) ⟨hL_58,aX hD_52⟩ (ls_ _) rfl (cO (C1:=([((ax 0),some (.cells 2 [(.vs (ax 1) 1 0 wv_1.f_can.length),(vI wv_1.f_camps)])),((ax 1),some (.cells 1 (aJ 1 bS wv_1.f_can))),(n_6,some (bV 1 eI v_72.1)),(n_74,some (bV 1 eI v_72.2.1))]:Hp)) (T:=(aP 1 eI bS wv_1.f_can)) [0,1,2,3] (by decide) rfl rfl)
      ·rintro ⟨s_54,n_56⟩ ho_ sl_ H_ hp_ hq_
       subst ho_
       refine aO _ hp_ hq_ (au (aa (qV n_56 1 s_54.2.1 s_54.2.2) ?_))
       obtain ⟨_,hl_86,hc_32⟩:=bind_some hc_32
       refine h_qpop (n:=n_56) (xs:=s_54.2.1) (k:=s_54.2.2) u7 sz3 rfl (ltN_lt hl_86) wz (aa (qV n_56 1 s_54.2.1 (s_54.2.2+1)) (ah ?_))
       obtain rfl:=ae hc_32
       exact aU (k_24,(s_54.1,s_54.2.1,(s_54.2.2+1)),n_56) hL_33 (ls_ _) rfl (cO (C1:=([((ax 0),some (.cells 2 [(.vs (ax 1) 1 0 wv_1.f_can.length),(vI wv_1.f_camps)])),((ax 1),some (.cells 1 (aJ 1 bS wv_1.f_can))),(n_6,some (bV 1 eI s_54.1)),(n_56,some (bV 1 eI s_54.2.1))]:Hp)) (T:=(aP 1 eI bS wv_1.f_can)) [0,1,2,3] (by decide) rfl rfl)
     ·refine aA rfl hc_42 (aV ?_)
      obtain rfl:=ae hc_32
      obtain rfl:=ae hL_33
      exact aS ((s_29.1,s_29.2.1,s_29.2.2),n_31) rfl rfl (cO (C1:=([((ax 0),some (.cells 2 [(.vs (ax 1) 1 0 wv_1.f_can.length),(vI wv_1.f_camps)])),((ax 1),some (.cells 1 (aJ 1 bS wv_1.f_can))),(n_6,some (bV 1 eI s_29.1)),(n_31,some (bV 1 eI s_29.2.1))]:Hp)) (T:=(aP 1 eI bS wv_1.f_can)) [0,1,2,3] (by decide) rfl rfl)
  ·rintro ⟨s_29,n_31⟩ ho_ sl_ H_ hp_ hq_
   subst ho_
   refine aO _ hp_ hq_ (ak (bB (aa (vV n_6 1 s_29.1) (aa (vV n_6 1 s_29.1) (aa (vI tov_3) ?_)))))
   obtain ⟨_,hi_87,hF⟩:=bind_some hF
   refine jT gK rfl rfl (gZ hi_87) (ek hi_87) wz ?_
   obtain ⟨e_88,hy_89,hF⟩:=bind_some hF
   refine zQ 4 2 (.inr (by kernel_rfl)) (λ_ _ ag=>trivial) sz3 ag3 rfl rfl hy_89 (vI e_88) rfl wz (aa (vB (decide (e_88>=0))) (aa (vV n_6 1 s_29.1) (aa (vB (decide (e_88>=0))) (ah (Dh 2 rfl (y5 6 2 rfl rfl (y5 8 2 rfl rfl (y5 81 2 rfl rfl (y5 82 2 rfl rfl ?_)))))))))
   obtain rfl:=ae hF
   exact ay (LU (k:=2) (cs:=[(vI wv_1.f_camps)]) (cs':=[(vI wv_1.f_camps)]) (rows:=wv_1.f_can) (rows':=wv_1.f_can) ([(n_6,some (bF 1 eI s_29.1)),(n_31,some (bV 1 eI s_29.2.1))]:Hp) (.inr rfl) [(vL eI s_29.1),(vB (decide (e_88>=0)))] ⟨rfl,⟨rfl,trivial⟩⟩ rfl rfl rfl rfl rfl rfl)
theorem mY {wv_1:Web} {fromv_2:Int} {tov_3:Int} {most_4:Int} {r:Int×Web} (hF:fJ wv_1 fromv_2 tov_3 most_4=some r) :
  FnM Tryz.prog 18 [(.ref (ax 0) 0 0),(vI fromv_2),(vI tov_3),(vI most_4)] (lc 2 1 eI [(vI wv_1.f_camps)] wv_1.f_can) (vI r.1) (gy 2 1 eI [(vI r.2.f_camps)] r.2.f_can):=by
 refine FnM.of_wHg (cs:=[(vI wv_1.f_camps)]) ⟨Tryz.prog,97,[],[]⟩ rfl Tryz.func18 rfl rfl (lb_ rfl) (by kernel_rfl) ?_
 unfold fJ at hF
 refine ai (aa (vI 0) (ah (ai (aa (vI 0) (ah (ak ?_))))))
 obtain ⟨o_13,hj_14,hF⟩:=bind_some hF
 obtain ⟨nq_89,hj_14⟩:=dA hj_14
 refine dZ (λ(s_10:(List (List Int))×Int)=>[(9,(vI s_10.2))]) (λ(s_10:(List (List Int))×Int)=>(([((ax 0),some (.cells 2 [(.vs (ax 1) 1 0 wv_1.f_can.length),(vI wv_1.f_camps)])),((ax 1),some (.cells 1 (aJ 1 bS s_10.1)))]:Hp)++(aP 1 eI bS s_10.1))) (λ(k_5:Nat)=>(λ(s_10:(List (List Int))×Int)=>[(0,(.ref (ax 0) 0 0)),(1,(vI fromv_2)),(2,(vI tov_3)),(3,(vI most_4)),(9,(vI s_10.2))])) (λs=>fo most_4 wv_1 fromv_2 tov_3 s) o_13 nq_89 (wv_1.f_can,0) hj_14 rfl (cO (C1:=([((ax 0),some (.cells 2 [(.vs (ax 1) 1 0 wv_1.f_can.length),(vI wv_1.f_camps)])),((ax 1),some (.cells 1 (aJ 1 bS wv_1.f_can)))]:Hp)) (T:=(aP 1 eI bS wv_1.f_can)) [0,1] (by decide) rfl rfl) ?_ ?_
 ·rintro ⟨k_5,s_10⟩ hL_12
  dsimp only at hL_12
  cases k_5 with
  | zero=>cases hL_12
  | succ k_5 =>
   obtain ⟨c_,hc_11,hL_12⟩:=bind_some hL_12
   unfold fo at hc_11
   refine ak (ai (aa (vI s_10.2) (aa (vI most_4) (aa (vB (decide (s_10.2<most_4))) (ah ?_)))))
   rcases aj hc_11 with⟨hc_15,hc_11⟩|⟨hc_15,hc_11⟩
   ·refine aB rfl hc_15 (av (aM (ai (aa (.ref (ax 0) 0 0) (aa (vI fromv_2) (aa (vI tov_3) ?_))))))
    obtain ⟨_,hn_18,hc_11⟩:=bind_some hc_11
    obtain ⟨_,hm_19,hc_11⟩:=bind_some hc_11
    obtain ⟨r_16,hr_17,hc_11⟩:=bind_some hc_11
    refine kL (H0:=(([((ax 0),some (.cells 2 [(.vs (ax 1) 1 0 wv_1.f_can.length),(vI wv_1.f_camps)])),((ax 1),some (.cells 1 (aJ 1 bS s_10.1)))]:Hp)++(aP 1 eI bS s_10.1))) rfl (sS 0 0 1 il ft (zi hr_17) rfl hb36 rfl rfl (by decide) (oW hm_19) (qP hn_18) rfl (by kernel_rfl) (λ_=>by kernel_rfl) (by kernel_rfl) (by kernel_rfl) wz (aa (.tup [(vL eI r_16.1),(vB r_16.2)]) (aa (vL eI r_16.1) (aa (vB r_16.2) (aa (vL eI r_16.1) (aa (vB r_16.2) (ah (ak (ai (aa (vB r_16.2) (aa (vB (!r_16.2)) (ah ?_))))))))))))
    rcases aj hc_11 with⟨hc_20,hc_11⟩|⟨hc_20,hc_11⟩
    ·refine aB rfl hc_20 (aV ?_)
     obtain rfl:=ae hc_11
     obtain rfl:=ae hL_12
     exact aS ((s_10.1,s_10.2)) rfl rfl (cO (C1:=([((ax 0),some (.cells 2 [(.vs (ax 1) 1 0 wv_1.f_can.length),(vI wv_1.f_camps)])),((ax 1),some (.cells 1 (aJ 1 bS s_10.1)))]:Hp)) (T:=(aP 1 eI bS s_10.1)) [0,1] (by decide) rfl rfl)
    ·refine aA rfl hc_20 (av (ai (aa (vI most_4) (aa (vI s_10.2) (aa (vI (w64 (most_4-s_10.2))) (aa (vI (w64 (most_4-s_10.2))) (ah (ak (ai (aa (vI tov_3) (aa (vI tov_3) (ah ?_))))))))))))
     obtain ⟨o_29,hj_30,hc_11⟩:=bind_some hc_11
     obtain ⟨nq_88,hj_30⟩:=dA hj_30
     refine dZ (λ(s_26:Int×Int)=>[(0,(.ref (ax 0) 0 0)),(1,(vI fromv_2)),(2,(vI tov_3)),(3,(vI most_4)),(9,(vI s_10.2)),(10,(vL eI r_16.1)),(12,(vI s_26.1))]) (λ(s_26:Int×Int)=>(([((ax 0),some (.cells 2 [(.vs (ax 1) 1 0 wv_1.f_can.length),(vI wv_1.f_camps)])),((ax 1),some (.cells 1 (aJ 1 bS s_10.1)))]:Hp)++(aP 1 eI bS s_10.1))) (λ(k_21:Nat)=>(λ(s_26:Int×Int)=>[(0,(.ref (ax 0) 0 0)),(1,(vI fromv_2)),(2,(vI tov_3)),(3,(vI most_4)),(9,(vI s_10.2)),(10,(vL eI r_16.1)),(12,(vI s_26.1)),(13,(vI s_26.2))])) (λs=>eZ fromv_2 r_16 wv_1 s_10 s) o_29 nq_88 ((w64 (most_4-s_10.2)),tov_3) hj_30 rfl (cO (C1:=([((ax 0),some (.cells 2 [(.vs (ax 1) 1 0 wv_1.f_can.length),(vI wv_1.f_camps)])),((ax 1),some (.cells 1 (aJ 1 bS s_10.1)))]:Hp)) (T:=(aP 1 eI bS s_10.1)) [0,1] (by decide) rfl rfl) ?_ ?_
     ·rintro ⟨k_21,s_26⟩ hL_28
      dsimp only at hL_28
      cases k_21 with
      | zero=>cases hL_28
      | succ k_21 =>
       obtain ⟨c_,hc_27,hL_28⟩:=bind_some hL_28
       unfold eZ at hc_27
       refine ak (ai (aa (vI s_26.2) (aa (vI fromv_2) (aa (vB (s_26.2 != fromv_2)) (ah ?_)))))
       rcases aj hc_27 with⟨hc_31,hc_27⟩|⟨hc_31,hc_27⟩
       ·refine aB rfl hc_31 (av (ak (aM (bB (aa (vI s_26.1) (aa (.ref (ax 0) 0 0) (aa (.ref (ax 0) 0 0) (aH mZ rfl 0 rfl wz (aF 4 0 (.inr (by kernel_rfl)) (λ_ _ ag=>trivial) yQ yM rfl rfl (.vs (ax 1) 1 0 wv_1.f_can.length) rfl wz (aa (vL eI r_16.1) (aa (vI s_26.2) ?_)))))))))))
        obtain ⟨y_32,hy_33,hc_27⟩:=bind_some hc_27
        refine dD gK rfl rfl hy_33 rfl wz (bE sz3 ag3 rfl (vI y_32) rfl wz ?_)
        obtain ⟨_,hi_34,hc_27⟩:=bind_some hc_27
        refine jT AC rfl rfl (oH hi_34) (kT hi_34) wz ?_
        obtain ⟨r_35,hr_36,hc_27⟩:=bind_some hc_27
        refine pU 10 1 (.inr (by kernel_rfl)) (λ_ _ ag=>⟨.inl ⟨rfl,rfl⟩,trivial⟩) uB wF rfl rfl hr_36 wz (aa (vI s_26.2) ?_)
        obtain ⟨_,hi_37,hc_27⟩:=bind_some hc_27
        refine j5 gK rfl rfl (gZ hi_37) (ek hi_37) wz ?_
        obtain ⟨r_38,hr_39,hc_27⟩:=bind_some hc_27
        obtain ⟨e_40,hy_41,hc_27⟩:=bind_some hc_27
        refine kL (H0:=(([((ax 0),some (.cells 2 [(.vs (ax 1) 1 0 wv_1.f_can.length),(vI wv_1.f_camps)])),((ax 1),some (.cells 1 (aJ 1 bS s_10.1)))]:Hp)++(aP 1 eI bS s_10.1))) rfl (Gl 13 (.inr (by kernel_rfl)) (λ_ _ ag=>⟨.inl ⟨rfl,rfl⟩,⟨.inl ⟨rfl,rfl⟩,trivial⟩⟩) sz3 ag3 rfl hr_39 hy_41 (vI e_40) rfl wz (sW (vI (zn s_26.1 e_40)) rfl (.inl rfl) wz (aa (vI (zn s_26.1 e_40)) (ah (au (aa (vL eI r_16.1) (aa (vI s_26.2) ?_)))))))
        obtain ⟨y_42,hy_43,hc_27⟩:=bind_some hc_27
        refine dD gK rfl rfl hy_43 rfl wz (bE sz3 ag3 rfl (vI y_42) rfl wz (aa (vI y_42) (ah ?_)))
        obtain rfl:=ae hc_27
        exact aU (k_21,((zn s_26.1 e_40),y_42)) hL_28 (ls_ _) rfl (cO (C1:=([((ax 0),some (.cells 2 [(.vs (ax 1) 1 0 wv_1.f_can.length),(vI wv_1.f_camps)])),((ax 1),some (.cells 1 (aJ 1 bS s_10.1)))]:Hp)) (T:=(aP 1 eI bS s_10.1)) [0,1] (by decide) rfl rfl)
       ·refine aA rfl hc_31 (aV ?_)
        obtain rfl:=ae hc_27
        obtain rfl:=ae hL_28
        exact aS ((s_26.1,s_26.2)) rfl rfl (cO (C1:=([((ax 0),some (.cells 2 [(.vs (ax 1) 1 0 wv_1.f_can.length),(vI wv_1.f_camps)])),((ax 1),some (.cells 1 (aJ 1 bS s_10.1)))]:Hp)) (T:=(aP 1 eI bS s_10.1)) [0,1] (by decide) rfl rfl)
     ·rintro s_26 ho_ sl_ H_ hp_ hq_
      subst ho_
      refine aO _ hp_ hq_ (ak (ai (aa (vI tov_3) (aa (vI tov_3) (ah ?_)))))
      obtain ⟨o_52,hj_53,hc_11⟩:=bind_some hc_11
      obtain ⟨nq_87,hj_53⟩:=dA hj_53
      refine dZ (λ(s_49:(List (List Int))×Int)=>[(0,(.ref (ax 0) 0 0)),(1,(vI fromv_2)),(2,(vI tov_3)),(3,(vI most_4)),(9,(vI s_10.2)),(12,(vI s_26.1))]) (λ(s_49:(List (List Int))×Int)=>(([((ax 0),some (.cells 2 [(.vs (ax 1) 1 0 wv_1.f_can.length),(vI wv_1.f_camps)])),((ax 1),some (.cells 1 (aJ 1 bS s_49.1)))]:Hp)++(aP 1 eI bS s_49.1))) (λ(k_44:Nat)=>(λ(s_49:(List (List Int))×Int)=>[(0,(.ref (ax 0) 0 0)),(1,(vI fromv_2)),(2,(vI tov_3)),(3,(vI most_4)),(9,(vI s_10.2)),(10,(vL eI r_16.1)),(12,(vI s_26.1)),(14,(vI s_49.2))])) (λs=>fe fromv_2 r_16 wv_1 s_26 s) o_52 nq_87 (s_10.1,tov_3) hj_53 rfl (cO (C1:=([((ax 0),some (.cells 2 [(.vs (ax 1) 1 0 wv_1.f_can.length),(vI wv_1.f_camps)])),((ax 1),some (.cells 1 (aJ 1 bS s_10.1)))]:Hp)) (T:=(aP 1 eI bS s_10.1)) [0,1] (by decide) rfl rfl) ?_ ?_
      ·rintro ⟨k_44,s_49⟩ hL_51
       dsimp only at hL_51
       cases k_44 with
       | zero=>cases hL_51
       | succ k_44 =>
        obtain ⟨c_,hc_50,hL_51⟩:=bind_some hL_51
        unfold fe at hc_50
        refine ak (ai (aa (vI s_49.2) (aa (vI fromv_2) (aa (vB (s_49.2 != fromv_2)) (ah ?_)))))
        rcases aj hc_50 with⟨hc_54,hc_50⟩|⟨hc_54,hc_50⟩
        ·refine aB rfl hc_54 (av (ak (aM (ak (bB (aa (.ref (ax 0) 0 0) (aa (.ref (ax 0) 0 0) (aH mZ rfl 0 rfl wz (aF 3 0 (.inr (by kernel_rfl)) (λ_ _ ag=>trivial) yQ yM rfl rfl (.vs (ax 1) 1 0 wv_1.f_can.length) rfl wz (aa (vL eI r_16.1) (aa (vI s_49.2) ?_)))))))))))
         obtain ⟨y_55,hy_56,hc_50⟩:=bind_some hc_50
         refine dD gK rfl rfl hy_56 rfl wz (bE sz3 ag3 rfl (vI y_55) rfl wz ?_)
         obtain ⟨_,hi_57,hc_50⟩:=bind_some hc_50
         refine jT AC rfl rfl (oH hi_57) (kT hi_57) wz ?_
         obtain ⟨r_58,hr_59,hc_50⟩:=bind_some hc_50
         refine pU 9 1 (.inr (by kernel_rfl)) (λ_ _ ag=>⟨.inl ⟨rfl,rfl⟩,trivial⟩) uB wF rfl rfl hr_59 wz (aa (vI s_49.2) ?_)
         obtain ⟨_,hi_60,hc_50⟩:=bind_some hc_50
         refine j5 gK rfl rfl (gZ hi_60) (ek hi_60) wz ?_
         obtain ⟨r_61,hr_62,hc_50⟩:=bind_some hc_50
         obtain ⟨e_63,hy_64,hc_50⟩:=bind_some hc_50
         refine kL (H0:=(([((ax 0),some (.cells 2 [(.vs (ax 1) 1 0 wv_1.f_can.length),(vI wv_1.f_camps)])),((ax 1),some (.cells 1 (aJ 1 bS s_49.1)))]:Hp)++(aP 1 eI bS s_49.1))) rfl (Gl 12 (.inr (by kernel_rfl)) (λ_ _ ag=>⟨.inl ⟨rfl,rfl⟩,⟨.inl ⟨rfl,rfl⟩,trivial⟩⟩) sz3 ag3 rfl hr_62 hy_64 (vI e_63) rfl wz (aa (vI s_26.1) (aa (vI (w64 (e_63-s_26.1))) ?_)))
         obtain ⟨_,hi_65,hc_50⟩:=bind_some hc_50
         refine j5 gK rfl rfl (gZ hi_65) (ek hi_65) wz ?_
         obtain ⟨r_66,hr_67,hc_50⟩:=bind_some hc_50
         obtain ⟨e_68,hy_69,hc_50⟩:=bind_some hc_50
         refine kL (H0:=(([((ax 0),some (.cells 2 [(.vs (ax 1) 1 0 wv_1.f_can.length),(vI wv_1.f_camps)])),((ax 1),some (.cells 1 (aJ 1 bS s_49.1)))]:Hp)++(aP 1 eI bS s_49.1))) rfl (Av 16 (.inr (by kernel_rfl)) (λ_ _ ag=>⟨.inr (.inr (by kernel_rfl)),⟨.inr (.inr (by kernel_rfl)),⟨.inr (.inr (by kernel_rfl)),trivial⟩⟩⟩) sz3 rfl hr_67 hy_69 (w64 (e_63-s_26.1)) rfl wz (tJ (b':=some (.cells 1 (aJ 1 bS (s_49.1.set (0+(y_55).toNat) (r_66.set (0+(s_49.2).toNat) (w64 (e_63-s_26.1))))))) 1 rfl (rT hr_67) (ah (bB (aa (.ref (ax 0) 0 0) (aa (.ref (ax 0) 0 0) (aH mZ rfl 0 rfl wz (aF 3 0 (.inr (by kernel_rfl)) (λ_ _ ag=>trivial) yQ yM rfl rfl (.vs (ax 1) 1 0 wv_1.f_can.length) rfl wz (aa (vI s_49.2) ?_)))))))))
         obtain ⟨_,hi_70,hc_50⟩:=bind_some hc_50
         refine jT AC rfl rfl (oH hi_70) (kT hi_70) wz ?_
         obtain ⟨r_71,hr_72,hc_50⟩:=bind_some hc_50
         refine pU 6 1 (.inr (by kernel_rfl)) (λ_ _ ag=>⟨.inl ⟨rfl,rfl⟩,trivial⟩) uB wF rfl rfl hr_72 wz (aa (vL eI r_16.1) (aa (vI s_49.2) ?_))
         obtain ⟨y_73,hy_74,hc_50⟩:=bind_some hc_50
         refine dD gK rfl rfl hy_74 rfl wz (bE sz3 ag3 rfl (vI y_73) rfl wz ?_)
         obtain ⟨_,hi_75,hc_50⟩:=bind_some hc_50
         refine j5 gK rfl rfl (gZ hi_75) (ek hi_75) wz ?_
         obtain ⟨r_76,hr_77,hc_50⟩:=bind_some hc_50
         obtain ⟨e_78,hy_79,hc_50⟩:=bind_some hc_50
         refine kL (H0:=(([((ax 0),some (.cells 2 [(.vs (ax 1) 1 0 wv_1.f_can.length),(vI wv_1.f_camps)])),((ax 1),some (.cells 1 (aJ 1 bS (s_49.1.set (0+(y_55).toNat) (r_66.set (0+(s_49.2).toNat) (w64 (e_63-s_26.1)))))))]:Hp)++(aP 1 eI bS (s_49.1.set (0+(y_55).toNat) (r_66.set (0+(s_49.2).toNat) (w64 (e_63-s_26.1))))))) rfl (Gl 12 (.inr (by kernel_rfl)) (λ_ _ ag=>⟨.inl ⟨rfl,rfl⟩,⟨.inl ⟨rfl,rfl⟩,trivial⟩⟩) sz3 ag3 rfl hr_77 hy_79 (vI e_78) rfl wz (aa (vI s_26.1) (aa (vI (w64 (e_78+s_26.1))) ?_)))
         obtain ⟨_,hi_80,hc_50⟩:=bind_some hc_50
         refine j5 gK rfl rfl (gZ hi_80) (ek hi_80) wz ?_
         obtain ⟨r_81,hr_82,hc_50⟩:=bind_some hc_50
         obtain ⟨e_83,hy_84,hc_50⟩:=bind_some hc_50
         refine kL (H0:=(([((ax 0),some (.cells 2 [(.vs (ax 1) 1 0 wv_1.f_can.length),(vI wv_1.f_camps)])),((ax 1),some (.cells 1 (aJ 1 bS (s_49.1.set (0+(y_55).toNat) (r_66.set (0+(s_49.2).toNat) (w64 (e_63-s_26.1)))))))]:Hp)++(aP 1 eI bS (s_49.1.set (0+(y_55).toNat) (r_66.set (0+(s_49.2).toNat) (w64 (e_63-s_26.1))))))) rfl (Av 16 (.inr (by kernel_rfl)) (λ_ _ ag=>⟨.inr (.inr (by kernel_rfl)),⟨.inr (.inr (by kernel_rfl)),⟨.inr (.inr (by kernel_rfl)),trivial⟩⟩⟩) sz3 rfl hr_82 hy_84 (w64 (e_78+s_26.1)) rfl wz (tJ (b':=some (.cells 1 (aJ 1 bS ((s_49.1.set (0+(y_55).toNat) (r_66.set (0+(s_49.2).toNat) (w64 (e_63-s_26.1)))).set (0+(s_49.2).toNat) (r_81.set (0+(y_73).toNat) (w64 (e_78+s_26.1))))))) 1 rfl (rT hr_82) (ah (aO (H0:=(([((ax 0),some (.cells 2 [(.vs (ax 1) 1 0 wv_1.f_can.length),(vI wv_1.f_camps)])),((ax 1),some (.cells 1 (aJ 1 bS ((s_49.1.set (0+(y_55).toNat) (r_66.set (0+(s_49.2).toNat) (w64 (e_63-s_26.1)))).set (0+(s_49.2).toNat) (r_81.set (0+(y_73).toNat) (w64 (e_78+s_26.1)))))))]:Hp)++(aP 1 eI bS ((s_49.1.set (0+(y_55).toNat) (r_66.set (0+(s_49.2).toNat) (w64 (e_63-s_26.1)))).set (0+(s_49.2).toNat) (r_81.set (0+(y_73).toNat) (w64 (e_78+s_26.1))))))) ([(0,(.ref (ax 0) 0 0)),(1,(vI fromv_2)),(2,(vI tov_3)),(3,(vI most_4)),(9,(vI s_10.2)),(10,(vL eI r_16.1)),(12,(vI s_26.1)),(14,(vI s_49.2))]:SL_) (by kernel_rfl) (cO (C1:=([((ax 0),some (.cells 2 [(.vs (ax 1) 1 0 wv_1.f_can.length),(vI wv_1.f_camps)])),((ax 1),some (.cells 1 (aJ 1 bS ((s_49.1.set (0+(y_55).toNat) (r_66.set (0+(s_49.2).toNat) (w64 (e_63-s_26.1)))).set (0+(s_49.2).toNat) (r_81.set (0+(y_73).toNat) (w64 (e_78+s_26.1)))))))]:Hp)) (T:=(aP 1 eI bS ((s_49.1.set (0+(y_55).toNat) (r_66.set (0+(s_49.2).toNat) (w64 (e_63-s_26.1)))).set (0+(s_49.2).toNat) (r_81.set (0+(y_73).toNat) (w64 (e_78+s_26.1)))))) [0,1] (by decide) (by kernel_rfl) (by kernel_rfl)) (au (aa (vL eI r_16.1) (aa (vI s_49.2) ?_)))))))
         obtain ⟨y_85,hy_86,hc_50⟩:=bind_some hc_50
         refine dD gK rfl rfl hy_86 rfl wz (bE sz3 ag3 rfl (vI y_85) rfl wz (aa (vI y_85) (ah ?_)))
         obtain rfl:=ae hc_50
         exact aU (k_44,(((s_49.1.set (0+(y_55).toNat) (r_66.set (0+(s_49.2).toNat) (w64 (e_63-s_26.1)))).set (0+(s_49.2).toNat) (r_81.set (0+(y_73).toNat) (w64 (e_78+s_26.1)))),y_85)) hL_51 (ls_ _) rfl (cO (C1:=([((ax 0),some (.cells 2 [(.vs (ax 1) 1 0 wv_1.f_can.length),(vI wv_1.f_camps)])),((ax 1),some (.cells 1 (aJ 1 bS ((s_49.1.set (0+(y_55).toNat) (r_66.set (0+(s_49.2).toNat) (w64 (e_63-s_26.1)))).set (0+(s_49.2).toNat) (r_81.set (0+(y_73).toNat) (w64 (e_78+s_26.1)))))))]:Hp)) (T:=(aP 1 eI bS ((s_49.1.set (0+(y_55).toNat) (r_66.set (0+(s_49.2).toNat) (w64 (e_63-s_26.1)))).set (0+(s_49.2).toNat) (r_81.set (0+(y_73).toNat) (w64 (e_78+s_26.1)))))) [0,1] (by decide) rfl rfl)
        ·refine aA rfl hc_54 (aV ?_)
         obtain rfl:=ae hc_50
         obtain rfl:=ae hL_51
         exact aS ((s_49.1,s_49.2)) rfl rfl (cO (C1:=([((ax 0),some (.cells 2 [(.vs (ax 1) 1 0 wv_1.f_can.length),(vI wv_1.f_camps)])),((ax 1),some (.cells 1 (aJ 1 bS s_49.1)))]:Hp)) (T:=(aP 1 eI bS s_49.1)) [0,1] (by decide) rfl rfl)
      ·rintro s_49 ho_ sl_ H_ hp_ hq_
       subst ho_
       refine aO _ hp_ hq_ (au (aa (vI s_10.2) (aa (vI s_26.1) (aa (vI (w64 (s_10.2+s_26.1))) (aa (vI (w64 (s_10.2+s_26.1))) (ah ?_))))))
       obtain rfl:=ae hc_11
       exact aU (k_5,(s_49.1,(w64 (s_10.2+s_26.1)))) hL_12 (ls_ _) rfl (cO (C1:=([((ax 0),some (.cells 2 [(.vs (ax 1) 1 0 wv_1.f_can.length),(vI wv_1.f_camps)])),((ax 1),some (.cells 1 (aJ 1 bS s_49.1)))]:Hp)) (T:=(aP 1 eI bS s_49.1)) [0,1] (by decide) rfl rfl)
   ·refine aA rfl hc_15 (aV ?_)
    obtain rfl:=ae hc_11
    obtain rfl:=ae hL_12
    exact aS ((s_10.1,s_10.2)) rfl rfl (cO (C1:=([((ax 0),some (.cells 2 [(.vs (ax 1) 1 0 wv_1.f_can.length),(vI wv_1.f_camps)])),((ax 1),some (.cells 1 (aJ 1 bS s_10.1)))]:Hp)) (T:=(aP 1 eI bS s_10.1)) [0,1] (by decide) rfl rfl)
 ·rintro s_10 ho_ sl_ H_ hp_ hq_
  subst ho_
  refine aO _ hp_ hq_ (ai (aa (vI s_10.2) (aa (vI s_10.2) (ah ?_))))
  obtain ⟨_,hk_,hF⟩:=bind_some hF
  obtain rfl:=ae hF
  exact ay (LU (k:=2) (cs:=[(vI wv_1.f_camps)]) (cs':=[(vI wv_1.f_camps)]) (rows:=wv_1.f_can) (rows':=s_10.1) ([]:Hp) (.inr rfl) [(vI s_10.2)] ⟨rfl,trivial⟩ rfl rfl rfl rfl (qH hk_) rfl)
theorem wS {spots_1:(List Spot)} {l_2:(List Campaign)} {r:Int} (hF:jL spots_1 l_2=some r) :
  FnM Tryz.prog 15 [(vL Spot.enc spots_1),(vL Campaign.enc l_2)] [] (vI r) []:=by
 refine FnM.of_wH ⟨Tryz.prog,9,[],[]⟩ rfl Tryz.func15 rfl rfl (lb_ rfl) (by kernel_rfl) ?_
 unfold jL at hF
 refine ai (aa (vI 0) (ah (ai (aa (vL Spot.enc spots_1) (aa (vL Campaign.enc l_2) ?_)))))
 obtain ⟨r_3,hr_4,hF⟩:=bind_some hF
 obtain ⟨_,hn_8,hF⟩:=bind_some hF
 refine Jb (tH hr_4) rfl hb17 (qP hn_8) rfl (by kernel_rfl) (by kernel_rfl) (by kernel_rfl) wz (λn_5 n_6 ns_7 => ?_)
 obtain ⟨_,hn_11,hF⟩:=bind_some hF
 obtain ⟨_,hm_12,hF⟩:=bind_some hF
 obtain ⟨r_9,hr_10,hF⟩:=bind_some hF
 obtain ⟨_,hs_13,hF⟩:=bind_some hF
 refine kL (H0:=(([(n_5,some (.cells 2 [(.vs n_6 1 0 r_3.f_can.length),(vI r_3.f_camps)])),(n_6,some (.cells 1 (aJ 1 ns_7 r_3.f_can)))]:Hp)++(aP 1 eI ns_7 r_3.f_can))) rfl (Ec 0 0 1 il ft (mY hr_10) rfl hb18 rfl rfl (by decide) (oW hm_12) (qP hn_11) (qH hs_13) rfl rfl (by kernel_rfl) (λ_=>by kernel_rfl) (by kernel_rfl) (by kernel_rfl) wz (aa (vI r_9.1) (ah ?_)))
 obtain rfl:=ae hF
 exact ay (aK [(vI r_9.1)] ⟨rfl,trivial⟩)
theorem Da {spots_1:(List Spot)} {l_2:(List Campaign)} {r:Int×Int} (hF:o6 spots_1 l_2=some r) :
  FnM Tryz.prog 6 [(vL Spot.enc spots_1),(vL Campaign.enc l_2)] [] (.tup [(vI r.1),(vI r.2)]) []:=by
 refine FnM.of_wH ⟨Tryz.prog,16,[],[]⟩ rfl Tryz.func6 rfl rfl (lb_ rfl) (by kernel_rfl) ?_
 unfold o6 at hF
 refine ai (aa (vI 0) (aa (vI 0) (ah (ak (ai (aa (vL Spot.enc spots_1) (aa (vL Campaign.enc l_2) ?_)))))))
 obtain ⟨r_3,hr_4,hF⟩:=bind_some hF
 refine aD (jI hr_4) rfl hb14 rfl rfl rfl rfl wz (aa (vI r_3) (ah (ai (aa (vI r_3) (aa (vB (r_3 != 0)) (ah ?_))))))
 rcases aj hF with⟨hc_5,hF⟩|⟨hc_5,hF⟩
 ·refine aB rfl hc_5 (ai (aa (vI r_3) (aa (vI 0) (aa (vI r_3) (ah ?_)))))
  obtain rfl:=ae hF
  exact ay (aK [(vI 0),(vI r_3)] ⟨rfl,⟨rfl,trivial⟩⟩)
 ·refine aA rfl hc_5 (av (ai (aa (vL Spot.enc spots_1) (aa (vL Campaign.enc l_2) ?_))))
  obtain ⟨r_6,hr_7,hF⟩:=bind_some hF
  refine aD (wS hr_7) rfl hb15 rfl rfl rfl rfl wz (aa (vI r_6) (aa (vI 0) (ah ?_)))
  obtain rfl:=ae hF
  exact ay (aK [(vI r_6),(vI 0)] ⟨rfl,⟨rfl,trivial⟩⟩)
theorem vk {l_1:(List Campaign)} {r:Int} (hF:lC l_1=some r) :
  FnM Tryz.prog 16 [(vL Campaign.enc l_1)] [] (vI r) []:=by
 refine FnM.of_wH ⟨Tryz.prog,18,[],[]⟩ rfl Tryz.func16 rfl rfl (lb_ rfl) (by kernel_rfl) ?_
 unfold lC at hF
 refine ai (aa (vI 0) (ah (ai (aa (vI 0) (ah (ak (ai (aa (vL Campaign.enc l_1) (bR FJ rfl wz (aa (vI 0) (ah ?_)))))))))))
 obtain ⟨o_10,hj_11,hF⟩:=bind_some hF
 obtain ⟨hn_6,hj_11⟩:=bf hj_11
 refine cz (λ(s_7:Int)=>[(3,(vI s_7))]) (λ(s_7:Int)=>[]) (λ(k_2:Nat)=>(λ(s_7:Int)=>[(3,(vI s_7)),(6,(vL Campaign.enc l_1)),(7,(vI (l_1.length:Int))),(8,(vI (k_2:Int)))])) (λk x s=>kH k x s) o_10 l_1 0 hj_11 rfl (aL rfl) ?_ ?_
 ·rintro ⟨k_2,l_3,s_7⟩ ⟨hL_9,hD_5⟩
  dsimp only at hL_9 hD_5
  cases l_3 with
  | nil =>
   obtain rfl:=ae hL_9
   refine ai (aa (vB (decide ((k_2:Int)<(l_1.length:Int)))) (ah ?_))
   refine ak (aA rfl (drop_nil hD_5) (aV ?_))
   exact aS (s_7) rfl rfl (aL rfl)
  | cons x_4 l_3 =>
   obtain ⟨c_,hc_8,hL_9⟩:=bind_some hL_9
   refine ai (aa (vB (decide ((k_2:Int)<(l_1.length:Int)))) (ah ?_))
   refine ak (aB rfl (bv hD_5) (av ?_))
   unfold kH at hc_8
   refine ak (aM (ai (dD Bw rfl rfl (bI hD_5) rfl wz (bE uC Ar rfl (.d (.agg (Campaign.enc x_4))) rfl wz (dB 0 (.inl rfl) z42 rfl wz (λn_12=>fE 0 il ft 0 uC rfl rfl (Campaign.v x_4) rfl wz (ah (au (aa (vI s_7) (aH zI rfl 5 rfl wz (aF 0 0 il ft sz3 ag3 rfl rfl (vI x_4.Goal) rfl wz (aa (vI (w64 (s_7+x_4.Goal))) (aa (vI (w64 (s_7+x_4.Goal))) (ah (au (dS (bC hD_5 hn_6) wz rfl (aa (vI ((k_2+1:Nat):Int)) (ah ?_))))))))))))))))))
   obtain rfl:=ae hc_8
   exact aU (k_2+1,l_3,(w64 (s_7+x_4.Goal))) ⟨hL_9,aX hD_5⟩ (ls_ _) rfl (aL rfl)
 ·rintro s_7 ho_ sl_ H_ hp_ hq_
  subst ho_
  refine aO _ hp_ hq_ (ai (aa (vI s_7) (aa (vI s_7) (ah ?_))))
  obtain rfl:=ae hF
  exact ay (aK [(vI s_7)] ⟨rfl,trivial⟩)
theorem Er {spots_1:(List Spot)} {l_2:(List Campaign)} {r:Bool×Int} (hF:qp spots_1 l_2=some r) :
  FnM Tryz.prog 7 [(vL Spot.enc spots_1),(vL Campaign.enc l_2)] [] (.tup [(vB r.1),(vI r.2)]) []:=by
 refine FnM.of_wH ⟨Tryz.prog,19,[],[]⟩ rfl Tryz.func7 rfl rfl (lb_ rfl) (by kernel_rfl) ?_
 unfold qp at hF
 refine ai (aa (vB false) (aa (vI 0) (ah (ak (ai (aa (vL Spot.enc spots_1) (aa (vL Campaign.enc l_2) ?_)))))))
 obtain ⟨r_3,hr_4,hF⟩:=bind_some hF
 refine aD (jI hr_4) rfl hb14 rfl rfl rfl rfl wz (aa (vI r_3) (ah (ai (aa (vI r_3) (aa (vB (r_3 != 0)) (ah ?_))))))
 rcases aj hF with⟨hc_5,hF⟩|⟨hc_5,hF⟩
 ·refine aB rfl hc_5 (ai (aa (vI r_3) (aa (vB false) (aa (vI r_3) (ah ?_)))))
  obtain rfl:=ae hF
  exact ay (aK [(vB false),(vI r_3)] ⟨rfl,⟨rfl,trivial⟩⟩)
 ·refine aA rfl hc_5 (av (ai (aa (vL Spot.enc spots_1) (aa (vL Campaign.enc l_2) ?_))))
  obtain ⟨r_6,hr_7,hF⟩:=bind_some hF
  refine aD (wS hr_7) rfl hb15 rfl rfl rfl rfl wz (aa (vL Campaign.enc l_2) ?_)
  obtain ⟨r_8,hr_9,hF⟩:=bind_some hF
  refine aD (vk hr_9) rfl hb16 rfl rfl rfl rfl wz (aa (vB (r_6==r_8)) (aa (vB (r_6==r_8)) (aa (vI 0) (ah ?_))))
  obtain rfl:=ae hF
  exact ay (aK [(vB (r_6==r_8)),(vI 0)] ⟨rfl,⟨rfl,trivial⟩⟩)
theorem CO {spots_1:(List Spot)} {l_2:(List Campaign)} {r:(List Share)×Int} (hF:kS spots_1 l_2=some r) :
  FnM Tryz.prog 8 [(vL Spot.enc spots_1),(vL Campaign.enc l_2)] [] (.tup [(vL Share.enc r.1),(vI r.2)]) []:=by
 refine FnM.of_wH ⟨Tryz.prog,133,[],[]⟩ rfl Tryz.func8 rfl rfl (lb_ rfl) (by kernel_rfl) ?_
 unfold kS at hF
 refine ai (aa .nil (aa (vI 0) (ah (ak (ai (aa (vL Spot.enc spots_1) (aa (vL Campaign.enc l_2) ?_)))))))
 obtain ⟨r_3,hr_4,hF⟩:=bind_some hF
 refine aD (jI hr_4) rfl hb14 rfl rfl rfl rfl wz (aa (vI r_3) (ah (ai (aa (vI r_3) (aa (vB (r_3 != 0)) (ah ?_))))))
 rcases aj hF with⟨hc_5,hF⟩|⟨hc_5,hF⟩
 ·refine aB rfl hc_5 (ai (aa (vI r_3) (aa .nil (aa (vI r_3) (ah ?_)))))
  obtain rfl:=ae hF
  exact ay (aK [.nil,(vI r_3)] ⟨rfl,⟨rfl,trivial⟩⟩)
 ·refine aA rfl hc_5 (av (ai (aa (vL Spot.enc spots_1) (aa (vL Campaign.enc l_2) ?_))))
  obtain ⟨r_6,hr_7,hF⟩:=bind_some hF
  obtain ⟨_,hn_11,hF⟩:=bind_some hF
  refine Jb (tH hr_7) rfl hb17 (qP hn_11) rfl (by kernel_rfl) (by kernel_rfl) (by kernel_rfl) wz (λn_8 n_9 ns_10=>aa (.ref n_8 0 0) (ah (ak (ai (aa (.ref n_8 0 0) ?_)))))
  obtain ⟨_,hn_14,hF⟩:=bind_some hF
  obtain ⟨_,hm_15,hF⟩:=bind_some hF
  obtain ⟨r_12,hr_13,hF⟩:=bind_some hF
  obtain ⟨_,hs_16,hF⟩:=bind_some hF
  refine kL (H0:=(([(n_8,some (.cells 2 [(.vs n_9 1 0 r_6.f_can.length),(vI r_6.f_camps)])),(n_9,some (.cells 1 (aJ 1 ns_10 r_6.f_can)))]:Hp)++(aP 1 eI ns_10 r_6.f_can))) rfl (Ec 0 0 1 il ft (mY hr_13) rfl hb18 rfl rfl (by decide) (oW hm_15) (qP hn_14) (qH hs_16) rfl rfl (by kernel_rfl) (λ_=>by kernel_rfl) (by kernel_rfl) (by kernel_rfl) wz (aa (vL Campaign.enc l_2) ?_))
  obtain ⟨r_17,hr_18,hF⟩:=bind_some hF
  refine aD (vk hr_18) rfl hb16 rfl rfl rfl rfl wz (aa (vB (decide (r_12.1<r_17))) (ah ?_))
  rcases aj hF with⟨hc_19,hF⟩|⟨hc_19,hF⟩
  ·refine aB rfl hc_19 (ai (aa .nil (aa (vI 12) (ah ?_))))
   obtain rfl:=ae hF
   exact ay (aK [.nil,(vI 12)] ⟨rfl,⟨rfl,trivial⟩⟩)
  ·refine aA rfl hc_19 (av (ai (aa .nil (ah (ak (ai (aa (vL Campaign.enc l_2) (bR FJ rfl wz (aa (vI 0) (ah (pO (λn_26=>Oa (C0:=([(n_8,some (.cells 2 [(.vs n_9 1 0 r_6.f_can.length),(vI r_12.2.f_camps)])),(n_9,some (.cells 1 (aJ 1 ns_10 r_12.2.f_can)))]:Hp)) (T:=(aP 1 eI ns_10 r_12.2.f_can)) (X:=([(n_26,gB 3 Share.enc ([]:List Share))]:Hp)) ?_))))))))))))
   obtain ⟨o_31,hj_32,hF⟩:=bind_some hF
   obtain ⟨hn_24,hj_32⟩:=bf hj_32
   refine iP (σ:=(List (List Int))×(List Share)×Int) (N:=Nm) (λp=>(λ(s_25:(List (List Int))×(List Share)×Int) (n_28:Nm)=>([(8,(gV n_28 3 s_25.2.1))]:SL_)) p.1 p.2) (λp=>(λ(s_25:(List (List Int))×(List Share)×Int) (n_28:Nm)=>(([(n_8,some (.cells 2 [(.vs n_9 1 0 r_6.f_can.length),(vI s_25.2.2)])),(n_9,some (.cells 1 (aJ 1 ns_10 s_25.1))),(n_28,gB 3 Share.enc s_25.2.1)]:Hp)++(aP 1 eI ns_10 s_25.1))) p.1 p.2) (λ(k_20:Nat)=>(λp=>(λ(s_25:(List (List Int))×(List Share)×Int) (n_28:Nm)=>([(0,(vL Spot.enc spots_1)),(7,(.ref n_8 0 0)),(8,(gV n_28 3 s_25.2.1)),(32,(vL Campaign.enc l_2)),(33,(vI (l_2.length:Int))),(34,(vI (k_20:Int)))]:SL_)) p.1 p.2)) (λk x s=>jB spots_1 r_6 k x s) o_31 l_2 ((r_12.2.f_can,([]:List Share),r_12.2.f_camps),n_26) hj_32 rfl (cO (C1:=([(n_8,some (.cells 2 [(.vs n_9 1 0 r_6.f_can.length),(vI r_12.2.f_camps)])),(n_9,some (.cells 1 (aJ 1 ns_10 r_12.2.f_can))),(n_26,gB 3 Share.enc ([]:List Share))]:Hp)) (T:=(aP 1 eI ns_10 r_12.2.f_can)) [0,1,2] (by decide) rfl rfl) ?_ ?_
   ·rintro ⟨k_20,l_21,s_25,n_28⟩ ⟨hL_30,hD_23⟩
    dsimp only at hL_30 hD_23
    cases l_21 with
    | nil =>
     obtain rfl:=ae hL_30
     refine ai (aa (vB (decide ((k_20:Int)<(l_2.length:Int)))) (ah ?_))
     refine ak (aA rfl (drop_nil hD_23) (aV ?_))
     exact aS (s_25,n_28) rfl rfl (cO (C1:=([(n_8,some (.cells 2 [(.vs n_9 1 0 r_6.f_can.length),(vI s_25.2.2)])),(n_9,some (.cells 1 (aJ 1 ns_10 s_25.1))),(n_28,gB 3 Share.enc s_25.2.1)]:Hp)) (T:=(aP 1 eI ns_10 s_25.1)) [0,1,2] (by decide) rfl rfl)
    | cons x_22 l_21 =>
     obtain ⟨c_,hc_29,hL_30⟩:=bind_some hL_30
     refine ai (aa (vB (decide ((k_20:Int)<(l_2.length:Int)))) (ah ?_))
     refine ak (aB rfl (bv hD_23) (av ?_))
     unfold jB at hc_29
     refine ak (aM (ai (aa (vI (k_20:Int)) (dD Bw rfl rfl (bI hD_23) rfl wz (bE uC Ar rfl (.d (.agg (Campaign.enc x_22))) rfl wz (dB 0 (.inl rfl) z42 rfl wz (λn_33=>rG (C0:=([(n_8,some (.cells 2 [(.vs n_9 1 0 r_6.f_can.length),(vI s_25.2.2)])),(n_9,some (.cells 1 (aJ 1 ns_10 s_25.1))),(n_28,gB 3 Share.enc s_25.2.1)]:Hp)) (T:=(aP 1 eI ns_10 s_25.1)) (X:=([(n_33,some (.cells 8 [(vS (⟨#[]⟩:ByteArray)),(vS (⟨#[]⟩:ByteArray)),(vI 0),(vI 0),.nil,(vI 0),(vI 0),(vI 0)]))]:Hp)) (aa (vI (k_20:Int)) (fE 0 il ft 3 uC rfl rfl (Campaign.v x_22) rfl wz (ah (ai (aa (vL Spot.enc spots_1) (bR Jc rfl wz (aa (vI 0) (ah ?_)))))))))))))))
     obtain ⟨o_44,hj_45,hc_29⟩:=bind_some hc_29
     obtain ⟨hn_38,hj_45⟩:=bf hj_45
     refine iP (σ:=(List (List Int))×(List Share)×Int) (N:=Nm) (λp=>(λ(s_39:(List (List Int))×(List Share)×Int) (n_41:Nm)=>([(0,(vL Spot.enc spots_1)),(7,(.ref n_8 0 0)),(8,(gV n_41 3 s_39.2.1)),(32,(vL Campaign.enc l_2)),(33,(vI (l_2.length:Int))),(34,(vI (k_20:Int)))]:SL_)) p.1 p.2) (λp=>(λ(s_39:(List (List Int))×(List Share)×Int) (n_41:Nm)=>(([(n_8,some (.cells 2 [(.vs n_9 1 0 r_6.f_can.length),(vI s_39.2.2)])),(n_9,some (.cells 1 (aJ 1 ns_10 s_39.1))),(n_41,gB 3 Share.enc s_39.2.1),(n_33,some (.cells 8 (Campaign.v x_22)))]:Hp)++(aP 1 eI ns_10 s_39.1))) p.1 p.2) (λ(k_34:Nat)=>(λp=>(λ(s_39:(List (List Int))×(List Share)×Int) (n_41:Nm)=>([(0,(vL Spot.enc spots_1)),(7,(.ref n_8 0 0)),(8,(gV n_41 3 s_39.2.1)),(9,(vI (k_20:Int))),(10,(.ref n_33 0 0)),(32,(vL Campaign.enc l_2)),(33,(vI (l_2.length:Int))),(34,(vI (k_20:Int))),(39,(vL Spot.enc spots_1)),(40,(vI (spots_1.length:Int))),(41,(vI (k_34:Int)))]:SL_)) p.1 p.2)) (λk x s=>jC x_22 r_6 k_20 k x s) o_44 spots_1 ((s_25.1,s_25.2.1,s_25.2.2),n_28) hj_45 rfl (cO (C1:=([(n_8,some (.cells 2 [(.vs n_9 1 0 r_6.f_can.length),(vI s_25.2.2)])),(n_9,some (.cells 1 (aJ 1 ns_10 s_25.1))),(n_28,gB 3 Share.enc s_25.2.1),(n_33,some (.cells 8 (Campaign.v x_22)))]:Hp)) (T:=(aP 1 eI ns_10 s_25.1)) [0,1,2,3] (by decide) rfl rfl) ?_ ?_
     ·rintro ⟨k_34,l_35,s_39,n_41⟩ ⟨hL_43,hD_37⟩
      dsimp only at hL_43 hD_37
      cases l_35 with
      | nil =>
       obtain rfl:=ae hL_43
       refine ai (aa (vB (decide ((k_34:Int)<(spots_1.length:Int)))) (ah ?_))
       refine ak (aA rfl (drop_nil hD_37) (aV ?_))
       exact aS (s_39,n_41) rfl rfl (cO (C1:=([(n_8,some (.cells 2 [(.vs n_9 1 0 r_6.f_can.length),(vI s_39.2.2)])),(n_9,some (.cells 1 (aJ 1 ns_10 s_39.1))),(n_41,gB 3 Share.enc s_39.2.1),(n_33,some (.cells 8 (Campaign.v x_22)))]:Hp)) (T:=(aP 1 eI ns_10 s_39.1)) [0,1,2,3] (by decide) rfl rfl)
      | cons x_36 l_35 =>
       obtain ⟨c_,hc_42,hL_43⟩:=bind_some hL_43
       refine ai (aa (vB (decide ((k_34:Int)<(spots_1.length:Int)))) (ah ?_))
       refine ak (aB rfl (bv hD_37) (av ?_))
       unfold jC at hc_42
       refine ak (aM (ai (aa (vI (k_34:Int)) (dD FC rfl rfl (bI hD_37) rfl wz (bE xS Ea rfl (.d (.agg (Spot.enc x_36))) rfl wz (dB 0 (.inl rfl) z51 rfl wz (λn_46=>rG (C0:=([(n_8,some (.cells 2 [(.vs n_9 1 0 r_6.f_can.length),(vI s_39.2.2)])),(n_9,some (.cells 1 (aJ 1 ns_10 s_39.1))),(n_41,gB 3 Share.enc s_39.2.1),(n_33,some (.cells 8 (Campaign.v x_22)))]:Hp)) (T:=(aP 1 eI ns_10 s_39.1)) (X:=([(n_46,some (.cells 5 [(vS (⟨#[]⟩:ByteArray)),(vI 0),(vI 0),(vI 0),.nil]))]:Hp)) (aa (vI (k_34:Int)) (fE 0 il ft 4 xS rfl rfl (Spot.v x_36) rfl wz (ah (ak (ai (aF 0 3 il ft uC Ar rfl rfl (.d (.agg (Campaign.enc x_22))) rfl wz (aF 0 4 il ft xS Ea rfl rfl (.d (.agg (Spot.enc x_36))) rfl wz ?_))))))))))))))
       obtain ⟨r_47,hr_48,hc_42⟩:=bind_some hc_42
       refine aD (pX hr_48) rfl hb19 rfl rfl rfl rfl wz (aa (vB (!r_47)) (ah ?_))
       rcases aj hc_42 with⟨hc_49,hc_42⟩|⟨hc_49,hc_42⟩
       ·refine aB rfl hc_49 (aV (au (dS (bC hD_37 hn_38) wz rfl (aa (vI ((k_34+1:Nat):Int)) (ah ?_)))))
        obtain rfl:=ae hc_42
        exact aU (k_34+1,l_35,(s_39.1,s_39.2.1,s_39.2.2),n_41) ⟨hL_43,aX hD_37⟩ (ls_ _) rfl (cO (C1:=([(n_8,some (.cells 2 [(.vs n_9 1 0 r_6.f_can.length),(vI s_39.2.2)])),(n_9,some (.cells 1 (aJ 1 ns_10 s_39.1))),(n_41,gB 3 Share.enc s_39.2.1),(n_33,some (.cells 8 (Campaign.v x_22))),(n_46,some (.cells 5 (Spot.v x_36)))]:Hp)) (T:=(aP 1 eI ns_10 s_39.1)) [0,1,2,3] (by decide) rfl rfl)
       ·refine aA rfl hc_49 (av (ai (aa (.ref n_8 0 0) (aa (vI (k_20:Int)) ?_))))
        obtain ⟨_,hn_52,hc_42⟩:=bind_some hc_42
        obtain ⟨_,hm_53,hc_42⟩:=bind_some hc_42
        obtain ⟨r_50,hr_51,hc_42⟩:=bind_some hc_42
        refine kL (H0:=(([(n_8,some (.cells 2 [(.vs n_9 1 0 r_6.f_can.length),(vI s_39.2.2)])),(n_9,some (.cells 1 (aJ 1 ns_10 s_39.1))),(n_41,gB 3 Share.enc s_39.2.1),(n_33,some (.cells 8 (Campaign.v x_22))),(n_46,some (.cells 5 (Spot.v x_36)))]:Hp)++(aP 1 eI ns_10 s_39.1))) rfl (sS 0 0 1 il ft (ng hr_51) rfl hb20 rfl rfl (by decide) (oW hm_53) (qP hn_52) rfl (by kernel_rfl) (λ_=>by kernel_rfl) (by kernel_rfl) (by kernel_rfl) wz (aa (.ref n_8 0 0) (aa (vI (k_34:Int)) ?_)))
        obtain ⟨_,hn_56,hc_42⟩:=bind_some hc_42
        obtain ⟨_,hm_57,hc_42⟩:=bind_some hc_42
        obtain ⟨r_54,hr_55,hc_42⟩:=bind_some hc_42
        refine kL (H0:=(([(n_8,some (.cells 2 [(.vs n_9 1 0 r_6.f_can.length),(vI s_39.2.2)])),(n_9,some (.cells 1 (aJ 1 ns_10 s_39.1))),(n_41,gB 3 Share.enc s_39.2.1),(n_33,some (.cells 8 (Campaign.v x_22))),(n_46,some (.cells 5 (Spot.v x_36)))]:Hp)++(aP 1 eI ns_10 s_39.1))) rfl (sS 0 0 1 il ft (nu hr_55) rfl hb21 rfl rfl (by decide) (oW hm_57) (qP hn_56) rfl (by kernel_rfl) (λ_=>by kernel_rfl) (by kernel_rfl) (by kernel_rfl) wz (aa (vI r_50) (aa (vI r_54) (ah (ak (bB (aa (.ref n_8 0 0) (aa (.ref n_8 0 0) (aH mZ rfl 0 rfl wz (aF 3 0 (.inr (by kernel_rfl)) (λ_ _ ag=>trivial) yQ yM rfl rfl (.vs n_9 1 0 r_6.f_can.length) rfl wz (aa (vI r_54) ?_)))))))))))
        obtain ⟨_,hi_58,hc_42⟩:=bind_some hc_42
        refine jT AC rfl rfl (oH hi_58) (kT hi_58) wz ?_
        obtain ⟨r_59,hr_60,hc_42⟩:=bind_some hc_42
        refine pU 6 1 (.inr (by kernel_rfl)) (λ_ _ ag=>⟨.inl ⟨rfl,rfl⟩,trivial⟩) uB wF rfl rfl hr_60 wz (aa (vI r_50) ?_)
        obtain ⟨_,hi_61,hc_42⟩:=bind_some hc_42
        refine j5 gK rfl rfl (gZ hi_61) (ek hi_61) wz ?_
        obtain ⟨r_62,hr_63,hc_42⟩:=bind_some hc_42
        obtain ⟨e_64,hy_65,hc_42⟩:=bind_some hc_42
        refine kL (H0:=(([(n_8,some (.cells 2 [(.vs n_9 1 0 r_6.f_can.length),(vI s_39.2.2)])),(n_9,some (.cells 1 (aJ 1 ns_10 s_39.1))),(n_41,gB 3 Share.enc s_39.2.1),(n_33,some (.cells 8 (Campaign.v x_22))),(n_46,some (.cells 5 (Spot.v x_36)))]:Hp)++(aP 1 eI ns_10 s_39.1))) rfl (Gl 9 (.inr (by kernel_rfl)) (λ_ _ ag=>⟨.inl ⟨rfl,rfl⟩,⟨.inl ⟨rfl,rfl⟩,trivial⟩⟩) sz3 ag3 rfl hr_63 hy_65 (vI e_64) rfl wz (aa (.ref n_8 0 0) (aa (.ref n_8 0 0) (aH mZ rfl 0 rfl wz (aF 13 0 (.inr (by kernel_rfl)) (λ_ _ ag=>⟨.inl ⟨rfl,rfl⟩,⟨.inl ⟨rfl,rfl⟩,⟨.inl ⟨rfl,rfl⟩,trivial⟩⟩⟩) yQ yM rfl rfl (.vs n_9 1 0 r_6.f_can.length) rfl wz (aa (vI r_50) ?_))))))
        obtain ⟨_,hi_66,hc_42⟩:=bind_some hc_42
        refine jT AC rfl rfl (oH hi_66) (kT hi_66) wz ?_
        obtain ⟨r_67,hr_68,hc_42⟩:=bind_some hc_42
        refine pU 16 1 (.inr (by kernel_rfl)) (λ_ _ ag=>⟨.inl ⟨rfl,rfl⟩,⟨.inl ⟨rfl,rfl⟩,⟨.inl ⟨rfl,rfl⟩,⟨.inl ⟨rfl,rfl⟩,trivial⟩⟩⟩⟩) uB wF rfl rfl hr_68 wz (aa (vI r_54) ?_)
        obtain ⟨_,hi_69,hc_42⟩:=bind_some hc_42
        refine j5 gK rfl rfl (gZ hi_69) (ek hi_69) wz ?_
        obtain ⟨r_70,hr_71,hc_42⟩:=bind_some hc_42
        obtain ⟨e_72,hy_73,hc_42⟩:=bind_some hc_42
        refine kL (H0:=(([(n_8,some (.cells 2 [(.vs n_9 1 0 r_6.f_can.length),(vI s_39.2.2)])),(n_9,some (.cells 1 (aJ 1 ns_10 s_39.1))),(n_41,gB 3 Share.enc s_39.2.1),(n_33,some (.cells 8 (Campaign.v x_22))),(n_46,some (.cells 5 (Spot.v x_36)))]:Hp)++(aP 1 eI ns_10 s_39.1))) rfl (Gl 19 (.inr (by kernel_rfl)) (λ_ _ ag=>⟨.inl ⟨rfl,rfl⟩,⟨.inl ⟨rfl,rfl⟩,⟨.inl ⟨rfl,rfl⟩,⟨.inl ⟨rfl,rfl⟩,⟨.inl ⟨rfl,rfl⟩,trivial⟩⟩⟩⟩⟩) sz3 ag3 rfl hr_71 hy_73 (vI e_72) rfl wz (aa (vI e_64) (aa (vI e_72) (ah (aO (H0:=(([(n_8,some (.cells 2 [(.vs n_9 1 0 r_6.f_can.length),(vI s_39.2.2)])),(n_9,some (.cells 1 (aJ 1 ns_10 s_39.1))),(n_41,gB 3 Share.enc s_39.2.1),(n_33,some (.cells 8 (Campaign.v x_22))),(n_46,some (.cells 5 (Spot.v x_36)))]:Hp)++(aP 1 eI ns_10 s_39.1))) ([(0,(vL Spot.enc spots_1)),(7,(.ref n_8 0 0)),(8,(gV n_41 3 s_39.2.1)),(9,(vI (k_20:Int))),(10,(.ref n_33 0 0)),(12,(.ref n_46 0 0)),(13,(vI r_50)),(14,(vI r_54)),(15,(vI e_64)),(16,(vI e_72)),(32,(vL Campaign.enc l_2)),(33,(vI (l_2.length:Int))),(34,(vI (k_20:Int))),(39,(vL Spot.enc spots_1)),(40,(vI (spots_1.length:Int))),(41,(vI (k_34:Int)))]:SL_) (by kernel_rfl) (cO (C1:=([(n_8,some (.cells 2 [(.vs n_9 1 0 r_6.f_can.length),(vI s_39.2.2)])),(n_9,some (.cells 1 (aJ 1 ns_10 s_39.1))),(n_41,gB 3 Share.enc s_39.2.1),(n_33,some (.cells 8 (Campaign.v x_22))),(n_46,some (.cells 5 (Spot.v x_36)))]:Hp)) (T:=(aP 1 eI ns_10 s_39.1)) [0,1,2,3,4] (by decide) (by kernel_rfl) (by kernel_rfl)) (ak (bB (aa (.ref n_8 0 0) (aa (.ref n_8 0 0) (aH mZ rfl 0 rfl wz (aF 3 0 (.inr (by kernel_rfl)) (λ_ _ ag=>trivial) yQ yM rfl rfl (.vs n_9 1 0 r_6.f_can.length) rfl wz (aa (vI r_50) ?_))))))))))))
        obtain ⟨_,hi_74,hc_42⟩:=bind_some hc_42
        refine jT AC rfl rfl (oH hi_74) (kT hi_74) wz ?_
        obtain ⟨r_75,hr_76,hc_42⟩:=bind_some hc_42
        refine pU 6 1 (.inr (by kernel_rfl)) (λ_ _ ag=>⟨.inl ⟨rfl,rfl⟩,trivial⟩) uB wF rfl rfl hr_76 wz (aa (vI r_54) (aa (.ref n_8 0 0) (aa (.ref n_8 0 0) (aH mZ rfl 0 rfl wz (aF 11 0 (.inr (by kernel_rfl)) (λ_ _ ag=>⟨.inl ⟨rfl,rfl⟩,⟨.inl ⟨rfl,rfl⟩,trivial⟩⟩) yQ yM rfl rfl (.vs n_9 1 0 r_6.f_can.length) rfl wz (aa (vI r_54) ?_))))))
        obtain ⟨_,hi_77,hc_42⟩:=bind_some hc_42
        refine jT AC rfl rfl (oH hi_77) (kT hi_77) wz ?_
        obtain ⟨r_78,hr_79,hc_42⟩:=bind_some hc_42
        refine pU 14 1 (.inr (by kernel_rfl)) (λ_ _ ag=>⟨.inl ⟨rfl,rfl⟩,⟨.inl ⟨rfl,rfl⟩,⟨.inl ⟨rfl,rfl⟩,trivial⟩⟩⟩) uB wF rfl rfl hr_79 wz (aa (vI r_50) ?_)
        obtain ⟨_,hi_80,hc_42⟩:=bind_some hc_42
        refine j5 gK rfl rfl (gZ hi_80) (ek hi_80) wz ?_
        obtain ⟨r_81,hr_82,hc_42⟩:=bind_some hc_42
        obtain ⟨e_83,hy_84,hc_42⟩:=bind_some hc_42
        refine kL (H0:=(([(n_8,some (.cells 2 [(.vs n_9 1 0 r_6.f_can.length),(vI s_39.2.2)])),(n_9,some (.cells 1 (aJ 1 ns_10 s_39.1))),(n_41,gB 3 Share.enc s_39.2.1),(n_33,some (.cells 8 (Campaign.v x_22))),(n_46,some (.cells 5 (Spot.v x_36)))]:Hp)++(aP 1 eI ns_10 s_39.1))) rfl (Av 17 (.inr (by kernel_rfl)) (λ_ _ ag=>⟨.inr (.inr (by kernel_rfl)),⟨.inr (.inr (by kernel_rfl)),⟨.inr (.inr (by kernel_rfl)),⟨.inr (.inr (by kernel_rfl)),trivial⟩⟩⟩⟩) sz3 rfl hr_82 hy_84 0 rfl wz (tJ (b':=some (.cells 1 (aJ 1 ns_10 (s_39.1.set (0+(r_50).toNat) (r_81.set (0+(r_54).toNat) 0))))) 1 rfl (rT hr_82) ?_))
        obtain ⟨_,hi_85,hc_42⟩:=bind_some hc_42
        refine j5 gK rfl rfl (gZ hi_85) (ek hi_85) wz ?_
        obtain ⟨r_86,hr_87,hc_42⟩:=bind_some hc_42
        obtain ⟨e_88,hy_89,hc_42⟩:=bind_some hc_42
        refine kL (H0:=(([(n_8,some (.cells 2 [(.vs n_9 1 0 r_6.f_can.length),(vI s_39.2.2)])),(n_9,some (.cells 1 (aJ 1 ns_10 (s_39.1.set (0+(r_50).toNat) (r_81.set (0+(r_54).toNat) 0))))),(n_41,gB 3 Share.enc s_39.2.1),(n_33,some (.cells 8 (Campaign.v x_22))),(n_46,some (.cells 5 (Spot.v x_36)))]:Hp)++(aP 1 eI ns_10 (s_39.1.set (0+(r_50).toNat) (r_81.set (0+(r_54).toNat) 0))))) rfl (Av 19 (.inr (by kernel_rfl)) (λ_ _ ag=>⟨.inr (.inr (by kernel_rfl)),⟨.inr (.inr (by kernel_rfl)),⟨.inr (.inr (by kernel_rfl)),⟨.inr (.inr (by kernel_rfl)),⟨.inr (.inr (by kernel_rfl)),trivial⟩⟩⟩⟩⟩) sz3 rfl hr_87 hy_89 0 rfl wz (tJ (b':=some (.cells 1 (aJ 1 ns_10 ((s_39.1.set (0+(r_50).toNat) (r_81.set (0+(r_54).toNat) 0)).set (0+(r_54).toNat) (r_86.set (0+(r_50).toNat) 0))))) 1 rfl (rT hr_87) (ah (ak (ai (aa (vI e_64) (aa (.ref n_8 0 0) (aa (vI r_54) (aa (vI r_50) (aa (vI e_72) ?_))))))))))
        obtain ⟨_,hn_92,hc_42⟩:=bind_some hc_42
        obtain ⟨_,hm_93,hc_42⟩:=bind_some hc_42
        obtain ⟨r_90,hr_91,hc_42⟩:=bind_some hc_42
        obtain ⟨_,hs_94,hc_42⟩:=bind_some hc_42
        refine kL (H0:=(([(n_8,some (.cells 2 [(.vs n_9 1 0 r_6.f_can.length),(vI s_39.2.2)])),(n_9,some (.cells 1 (aJ 1 ns_10 ((s_39.1.set (0+(r_50).toNat) (r_81.set (0+(r_54).toNat) 0)).set (0+(r_54).toNat) (r_86.set (0+(r_50).toNat) 0))))),(n_41,gB 3 Share.enc s_39.2.1),(n_33,some (.cells 8 (Campaign.v x_22))),(n_46,some (.cells 5 (Spot.v x_36)))]:Hp)++(aP 1 eI ns_10 ((s_39.1.set (0+(r_50).toNat) (r_81.set (0+(r_54).toNat) 0)).set (0+(r_54).toNat) (r_86.set (0+(r_50).toNat) 0))))) rfl (Ec 0 0 1 il ft (mY hr_91) rfl hb18 rfl rfl (by decide) (oW hm_93) (qP hn_92) (qH hs_94) rfl rfl (by kernel_rfl) (λ_=>by kernel_rfl) (by kernel_rfl) (by kernel_rfl) wz (aa (vI (w64 (e_64+r_90.1))) (aa (vI (w64 (e_64+r_90.1))) (ah (ai (aa (vI (w64 (e_64+r_90.1))) (aa (vB (decide ((w64 (e_64+r_90.1))>0))) (ah (aO (H0:=(([(n_8,some (.cells 2 [(.vs n_9 1 0 r_6.f_can.length),(vI r_90.2.f_camps)])),(n_9,some (.cells 1 (aJ 1 ns_10 r_90.2.f_can))),(n_41,gB 3 Share.enc s_39.2.1),(n_33,some (.cells 8 (Campaign.v x_22))),(n_46,some (.cells 5 (Spot.v x_36)))]:Hp)++(aP 1 eI ns_10 r_90.2.f_can))) ([(0,(vL Spot.enc spots_1)),(7,(.ref n_8 0 0)),(8,(gV n_41 3 s_39.2.1)),(9,(vI (k_20:Int))),(10,(.ref n_33 0 0)),(12,(.ref n_46 0 0)),(13,(vI r_50)),(14,(vI r_54)),(17,(vI (w64 (e_64+r_90.1)))),(32,(vL Campaign.enc l_2)),(33,(vI (l_2.length:Int))),(34,(vI (k_20:Int))),(39,(vL Spot.enc spots_1)),(40,(vI (spots_1.length:Int))),(41,(vI (k_34:Int))),(102,(vB (decide ((w64 (e_64+r_90.1))>0))))]:SL_) (by kernel_rfl) (cO (C1:=([(n_8,some (.cells 2 [(.vs n_9 1 0 r_6.f_can.length),(vI r_90.2.f_camps)])),(n_9,some (.cells 1 (aJ 1 ns_10 r_90.2.f_can))),(n_41,gB 3 Share.enc s_39.2.1),(n_33,some (.cells 8 (Campaign.v x_22))),(n_46,some (.cells 5 (Spot.v x_36)))]:Hp)) (T:=(aP 1 eI ns_10 r_90.2.f_can)) [0,1,2,3,4] (by decide) (by kernel_rfl) (by kernel_rfl)) ?_)))))))))
        obtain ⟨v_95,h_96,hc_42⟩:=bind_some hc_42
        refine kW (β:=Nm) (λ(n_97:Nm)=>([(0,(vL Spot.enc spots_1)),(7,(.ref n_8 0 0)),(8,(gV n_97 3 v_95)),(9,(vI (k_20:Int))),(10,(.ref n_33 0 0)),(13,(vI r_50)),(14,(vI r_54)),(32,(vL Campaign.enc l_2)),(33,(vI (l_2.length:Int))),(34,(vI (k_20:Int))),(39,(vL Spot.enc spots_1)),(40,(vI (spots_1.length:Int))),(41,(vI (k_34:Int)))]:SL_)) (λ(n_97:Nm)=>(([(n_8,some (.cells 2 [(.vs n_9 1 0 r_6.f_can.length),(vI r_90.2.f_camps)])),(n_9,some (.cells 1 (aJ 1 ns_10 r_90.2.f_can))),(n_97,gB 3 Share.enc v_95),(n_33,some (.cells 8 (Campaign.v x_22))),(n_46,some (.cells 5 (Spot.v x_36)))]:Hp)++(aP 1 eI ns_10 r_90.2.f_can))) (λ_=>True) ?_ ?_
        ·rcases aj h_96 with⟨hc_98,h_96⟩|⟨hc_98,h_96⟩
         ·refine aB rfl hc_98 (au (aa (gV n_41 3 s_39.2.1) (aH Bv rfl 0 rfl wz (aF 0 3 il ft sz9 ag9 rfl rfl (vS x_22.Key) rfl wz (aH Bq rfl 0 rfl wz (aF 0 4 il ft sz9 ag9 rfl rfl (vS x_36.Key) rfl wz (aa (vI (w64 (e_64+r_90.1))) (aG (.d (.agg (Share.enc (⟨x_22.Key,x_36.Key,(w64 (e_64+r_90.1))⟩:Share)))) wz (by kernel_rfl) (gm (([(⟨x_22.Key,x_36.Key,(w64 (e_64+r_90.1))⟩:Share)]:List Share).map Share.enc) K8 ez35 rfl rfl rfl rfl rfl wz ?_)))))))))
          obtain ⟨a_99,hz_100,h_96⟩:=bind_some h_96
          refine nO 0 il ft (i:=2) el35 el35 LG z44 rfl (by decide) by44 (by decide) (λ_=>rfl) rfl rfl rfl hz_100 wz (λn_101=>aa (gV n_101 3 a_99) (ah ?_))
          obtain rfl:=ae h_96
          exact aS n_101 trivial rfl (cO (C1:=([(n_8,some (.cells 2 [(.vs n_9 1 0 r_6.f_can.length),(vI r_90.2.f_camps)])),(n_9,some (.cells 1 (aJ 1 ns_10 r_90.2.f_can))),(n_101,gB 3 Share.enc a_99),(n_33,some (.cells 8 (Campaign.v x_22))),(n_46,some (.cells 5 (Spot.v x_36)))]:Hp)) (T:=(aP 1 eI ns_10 r_90.2.f_can)) [0,1,2,3,4] (by decide) rfl rfl)
         ·refine aA rfl hc_98 (av ?_)
          obtain rfl:=ae h_96
          exact aS n_41 trivial rfl (cO (C1:=([(n_8,some (.cells 2 [(.vs n_9 1 0 r_6.f_can.length),(vI r_90.2.f_camps)])),(n_9,some (.cells 1 (aJ 1 ns_10 r_90.2.f_can))),(n_41,gB 3 Share.enc s_39.2.1),(n_33,some (.cells 8 (Campaign.v x_22))),(n_46,some (.cells 5 (Spot.v x_36)))]:Hp)) (T:=(aP 1 eI ns_10 r_90.2.f_can)) [0,1,2,3,4] (by decide) rfl rfl)
        ·rintro n_97 _ sl_ H_ hp_ hq_
         refine aO _ hp_ hq_ (bB (aa (.ref n_8 0 0) (aa (.ref n_8 0 0) (aH mZ rfl 0 rfl wz (aF 3 0 (.inr (by kernel_rfl)) (λ_ _ ag=>trivial) yQ yM rfl rfl (.vs n_9 1 0 r_6.f_can.length) rfl wz (aa (vI r_50) ?_))))))
         obtain ⟨_,hi_102,hc_42⟩:=bind_some hc_42
         refine jT AC rfl rfl (oH hi_102) (kT hi_102) wz ?_
         obtain ⟨r_103,hr_104,hc_42⟩:=bind_some hc_42
         refine pU 6 1 (.inr (by kernel_rfl)) (λ_ _ ag=>⟨.inl ⟨rfl,rfl⟩,trivial⟩) uB wF rfl rfl hr_104 wz (aa (vI r_54) (aa (.ref n_8 0 0) (aa (.ref n_8 0 0) (aH mZ rfl 0 rfl wz (aF 11 0 (.inr (by kernel_rfl)) (λ_ _ ag=>⟨.inl ⟨rfl,rfl⟩,⟨.inl ⟨rfl,rfl⟩,trivial⟩⟩) yQ yM rfl rfl (.vs n_9 1 0 r_6.f_can.length) rfl wz (aa (vI r_54) ?_))))))
         obtain ⟨_,hi_105,hc_42⟩:=bind_some hc_42
         refine jT AC rfl rfl (oH hi_105) (kT hi_105) wz ?_
         obtain ⟨r_106,hr_107,hc_42⟩:=bind_some hc_42
         refine pU 14 1 (.inr (by kernel_rfl)) (λ_ _ ag=>⟨.inl ⟨rfl,rfl⟩,⟨.inl ⟨rfl,rfl⟩,⟨.inl ⟨rfl,rfl⟩,trivial⟩⟩⟩) uB wF rfl rfl hr_107 wz (aa (vI r_50) ?_)
         obtain ⟨_,hi_108,hc_42⟩:=bind_some hc_42
         refine j5 gK rfl rfl (gZ hi_108) (ek hi_108) wz ?_
         obtain ⟨r_109,hr_110,hc_42⟩:=bind_some hc_42
         obtain ⟨e_111,hy_112,hc_42⟩:=bind_some hc_42
         refine kL (H0:=(([(n_8,some (.cells 2 [(.vs n_9 1 0 r_6.f_can.length),(vI r_90.2.f_camps)])),(n_9,some (.cells 1 (aJ 1 ns_10 r_90.2.f_can))),(n_97,gB 3 Share.enc v_95),(n_33,some (.cells 8 (Campaign.v x_22))),(n_46,some (.cells 5 (Spot.v x_36)))]:Hp)++(aP 1 eI ns_10 r_90.2.f_can))) rfl (Av 17 (.inr (by kernel_rfl)) (λ_ _ ag=>⟨.inr (.inr (by kernel_rfl)),⟨.inr (.inr (by kernel_rfl)),⟨.inr (.inr (by kernel_rfl)),⟨.inr (.inr (by kernel_rfl)),trivial⟩⟩⟩⟩) sz3 rfl hr_110 hy_112 0 rfl wz (tJ (b':=some (.cells 1 (aJ 1 ns_10 (r_90.2.f_can.set (0+(r_50).toNat) (r_109.set (0+(r_54).toNat) 0))))) 1 rfl (rT hr_110) ?_))
         obtain ⟨_,hi_113,hc_42⟩:=bind_some hc_42
         refine j5 gK rfl rfl (gZ hi_113) (ek hi_113) wz ?_
         obtain ⟨r_114,hr_115,hc_42⟩:=bind_some hc_42
         obtain ⟨e_116,hy_117,hc_42⟩:=bind_some hc_42
         refine kL (H0:=(([(n_8,some (.cells 2 [(.vs n_9 1 0 r_6.f_can.length),(vI r_90.2.f_camps)])),(n_9,some (.cells 1 (aJ 1 ns_10 (r_90.2.f_can.set (0+(r_50).toNat) (r_109.set (0+(r_54).toNat) 0))))),(n_97,gB 3 Share.enc v_95),(n_33,some (.cells 8 (Campaign.v x_22))),(n_46,some (.cells 5 (Spot.v x_36)))]:Hp)++(aP 1 eI ns_10 (r_90.2.f_can.set (0+(r_50).toNat) (r_109.set (0+(r_54).toNat) 0))))) rfl (Av 19 (.inr (by kernel_rfl)) (λ_ _ ag=>⟨.inr (.inr (by kernel_rfl)),⟨.inr (.inr (by kernel_rfl)),⟨.inr (.inr (by kernel_rfl)),⟨.inr (.inr (by kernel_rfl)),⟨.inr (.inr (by kernel_rfl)),trivial⟩⟩⟩⟩⟩) sz3 rfl hr_115 hy_117 0 rfl wz (tJ (b':=some (.cells 1 (aJ 1 ns_10 ((r_90.2.f_can.set (0+(r_50).toNat) (r_109.set (0+(r_54).toNat) 0)).set (0+(r_54).toNat) (r_114.set (0+(r_50).toNat) 0))))) 1 rfl (rT hr_115) (ah (au (dS (bC hD_37 hn_38) wz rfl (aa (vI ((k_34+1:Nat):Int)) (ah ?_)))))))
         obtain rfl:=ae hc_42
         exact aU (k_34+1,l_35,(((r_90.2.f_can.set (0+(r_50).toNat) (r_109.set (0+(r_54).toNat) 0)).set (0+(r_54).toNat) (r_114.set (0+(r_50).toNat) 0)),v_95,r_90.2.f_camps),n_97) ⟨hL_43,aX hD_37⟩ (ls_ _) rfl (cO (C1:=([(n_8,some (.cells 2 [(.vs n_9 1 0 r_6.f_can.length),(vI r_90.2.f_camps)])),(n_9,some (.cells 1 (aJ 1 ns_10 ((r_90.2.f_can.set (0+(r_50).toNat) (r_109.set (0+(r_54).toNat) 0)).set (0+(r_54).toNat) (r_114.set (0+(r_50).toNat) 0))))),(n_97,gB 3 Share.enc v_95),(n_33,some (.cells 8 (Campaign.v x_22))),(n_46,some (.cells 5 (Spot.v x_36)))]:Hp)) (T:=(aP 1 eI ns_10 ((r_90.2.f_can.set (0+(r_50).toNat) (r_109.set (0+(r_54).toNat) 0)).set (0+(r_54).toNat) (r_114.set (0+(r_50).toNat) 0)))) [0,1,2,3] (by decide) rfl rfl)
     ·rintro ⟨s_39,n_41⟩ ho_ sl_ H_ hp_ hq_
      subst ho_
      refine aO _ hp_ hq_ (au (dS (bC hD_23 hn_24) wz rfl (aa (vI ((k_20+1:Nat):Int)) (ah ?_))))
      obtain rfl:=ae hc_29
      exact aU (k_20+1,l_21,(s_39.1,s_39.2.1,s_39.2.2),n_41) ⟨hL_30,aX hD_23⟩ (ls_ _) rfl (cO (C1:=([(n_8,some (.cells 2 [(.vs n_9 1 0 r_6.f_can.length),(vI s_39.2.2)])),(n_9,some (.cells 1 (aJ 1 ns_10 s_39.1))),(n_41,gB 3 Share.enc s_39.2.1),(n_33,some (.cells 8 (Campaign.v x_22)))]:Hp)) (T:=(aP 1 eI ns_10 s_39.1)) [0,1,2] (by decide) rfl rfl)
   ·rintro ⟨s_25,n_28⟩ ho_ sl_ H_ hp_ hq_
    subst ho_
    refine aO _ hp_ hq_ (ai (aa (gV n_28 3 s_25.2.1) (aa (gV n_28 3 s_25.2.1) (aa (vI 0) (ah (jN 2 rfl (gq 4 2 rfl rfl (gq 8 2 rfl rfl (gq 132 2 rfl rfl ?_)))))))))
    obtain rfl:=ae hF
    exact ay (aK [(vL Share.enc s_25.2.1),(vI 0)] ⟨rfl,⟨rfl,trivial⟩⟩)
theorem rA {r_1:Rect} {r:Int} (hF:mR r_1=some r) :
  FnM Tryz.prog 61 [(.d (.agg (Rect.enc r_1)))] [] (vI r) []:=by
 refine FnM.of_wH ⟨Tryz.prog,25,[],[]⟩ rfl Tryz.func61 rfl rfl (lb_ rfl) (by kernel_rfl) ?_
 unfold mR at hF
 refine ai (ig 0 (.inl rfl) (Rect.v r_1) rfl rfl wz (λn_2=>aa (vI 0) (ah (ak (ak ?_)))))
 obtain ⟨v_3,h_4,hF⟩:=bind_some hF
 refine aQ [(1,(.ref n_2 0 0)),(10,(vB v_3))] [(n_2,some (.cells 4 (Rect.v r_1)))] ?_ ?_
 ·refine au (aH BN rfl 0 rfl wz (aF 0 0 il ft sz3 ag3 rfl rfl (vI r_1.X) rfl wz ?_))
  obtain ⟨r_5,hr_6,h_4⟩:=bind_some h_4
  refine aD (bn hr_6) rfl qM rfl rfl rfl rfl wz ?_
  rcases aj h_4 with⟨hc_7,h_4⟩|⟨hc_7,h_4⟩
  ·refine aC rfl hc_7 wz (af (af (af (aa (vB true) (ah ?_)))))
   obtain rfl:=ae h_4
   exact cu
  ·refine aC rfl hc_7 wz (aH xJ rfl 1 rfl wa (aF 0 0 il ft sz3 ag3 rfl rfl (vI r_1.Y) rfl wa ?_))
   obtain ⟨r_8,hr_9,h_4⟩:=bind_some h_4
   refine aD (bn hr_9) rfl qM rfl rfl rfl rfl wa (aa (vB r_8) (ah ?_))
   obtain rfl:=ae h_4
   exact cu
 ·rintro ⟨⟩ _ sl_ H_ hp_ hq_
  refine aO _ hp_ hq_ ?_
  rcases aj hF with⟨hc_10,hF⟩|⟨hc_10,hF⟩
  ·refine aB rfl hc_10 (ai (aa (vI 1) (ah ?_)))
   obtain rfl:=ae hF
   exact ay (aK [(vI 1)] ⟨rfl,trivial⟩)
  ·refine aA rfl hc_10 (av (ak (ak ?_)))
   obtain ⟨v_11,h_12,hF⟩:=bind_some hF
   refine aQ [(24,(vB v_11))] [(n_2,some (.cells 4 (Rect.v r_1)))] ?_ ?_
   ·refine au (aH Ih rfl 2 rfl wz (aF 0 0 il ft sz3 ag3 rfl rfl (vI r_1.W) rfl wz (aH BN rfl 0 rfl wz (aF 0 0 il ft sz3 ag3 rfl rfl (vI r_1.X) rfl wz (aa (vI (w64 (100000-r_1.X))) ?_)))))
    obtain ⟨r_13,hr_14,h_12⟩:=bind_some h_12
    refine aD (bn hr_14) rfl qM rfl rfl rfl rfl wz ?_
    rcases aj h_12 with⟨hc_15,h_12⟩|⟨hc_15,h_12⟩
    ·refine aC rfl hc_15 wz (af (af (af (af (af (af (aa (vB true) (ah ?_))))))))
     obtain rfl:=ae h_12
     exact cu
    ·refine aC rfl hc_15 wz (aH Fs rfl 3 rfl wa (aF 0 0 il ft sz3 ag3 rfl rfl (vI r_1.H) rfl wa (aH xJ rfl 1 rfl wa (aF 0 0 il ft sz3 ag3 rfl rfl (vI r_1.Y) rfl wa (aG (vI (w64 (100000-r_1.Y))) wa rfl ?_)))))
     obtain ⟨r_16,hr_17,h_12⟩:=bind_some h_12
     refine aD (bn hr_17) rfl qM rfl rfl rfl rfl wa (aa (vB r_16) (ah ?_))
     obtain rfl:=ae h_12
     exact cu
   ·rintro ⟨⟩ _ sl_ H_ hp_ hq_
    refine aO _ hp_ hq_ ?_
    rcases aj hF with⟨hc_18,hF⟩|⟨hc_18,hF⟩
    ·refine aB rfl hc_18 (ai (aa (vI 1) (ah ?_)))
     obtain rfl:=ae hF
     exact ay (aK [(vI 1)] ⟨rfl,trivial⟩)
    ·refine aA rfl hc_18 (av (ai (aa (vI 0) (ah ?_))))
     obtain rfl:=ae hF
     exact ay (aK [(vI 0)] ⟨rfl,trivial⟩)
theorem xC {l_1:(List Rect)} {r:Int} (hF:lJ l_1=some r) :
  FnM Tryz.prog 38 [(vL Rect.enc l_1)] [] (vI r) []:=by
 refine FnM.of_wH ⟨Tryz.prog,21,[],[]⟩ rfl Tryz.func38 rfl rfl (lb_ rfl) (by kernel_rfl) ?_
 unfold lJ at hF
 refine ai (aa (vI 0) (ah (ak (ai (aa (vL Rect.enc l_1) (bR Be rfl wz (aa (vB (decide ((l_1.length:Int)>2000))) (ah ?_))))))))
 rcases aj hF with⟨hc_2,hF⟩|⟨hc_2,hF⟩
 ·refine aB rfl hc_2 (ai (aa (vI 2) (ah ?_)))
  obtain rfl:=ae hF
  exact ay (aK [(vI 2)] ⟨rfl,trivial⟩)
 ·refine aA rfl hc_2 (av (ak (ai (aa (vL Rect.enc l_1) (bR Be rfl wz (aa (vI 0) (ah ?_)))))))
  obtain ⟨o_11,hj_12,hF⟩:=bind_some hF
  obtain ⟨hn_7,hj_12⟩:=bf hj_12
  refine cz (λ(s_8:Unit)=>[]) (λ(s_8:Unit)=>[]) (λ(k_3:Nat)=>(λ(s_8:Unit)=>[(9,(vL Rect.enc l_1)),(10,(vI (l_1.length:Int))),(11,(vI (k_3:Int)))])) (λk x s=>l5 k x s) o_11 l_1 () hj_12 rfl (aL rfl) ?_ ?_
  ·rintro ⟨k_3,l_4,s_8⟩ ⟨hL_10,hD_6⟩
   dsimp only at hL_10 hD_6
   cases l_4 with
   | nil =>
    obtain rfl:=ae hL_10
    refine ai (aa (vB (decide ((k_3:Int)<(l_1.length:Int)))) (ah ?_))
    refine ak (aA rfl (drop_nil hD_6) (aV ?_))
    exact aS (s_8) rfl rfl (aL rfl)
   | cons x_5 l_4 =>
    obtain ⟨c_,hc_9,hL_10⟩:=bind_some hL_10
    refine ai (aa (vB (decide ((k_3:Int)<(l_1.length:Int)))) (ah ?_))
    refine ak (aB rfl (bv hD_6) (av ?_))
    unfold l5 at hc_9
    refine ak (aM (ai (dD HZ rfl rfl (bI hD_6) rfl wz (bE xI Ja rfl (.d (.agg (Rect.enc x_5))) rfl wz (dB 0 (.inl rfl) z66 rfl wz (λn_13=>fE 0 il ft 0 xI rfl rfl (Rect.v x_5) rfl wz (ah (ai (aF 0 0 il ft xI Ja rfl rfl (.d (.agg (Rect.enc x_5))) rfl wz ?_)))))))))
    obtain ⟨r_14,hr_15,hc_9⟩:=bind_some hc_9
    refine aD (rA hr_15) rfl hb61 rfl rfl rfl rfl wz (aa (vI r_14) (ah (ai (aa (vI r_14) (aa (vB (r_14 != 0)) (ah ?_))))))
    rcases aj hc_9 with⟨hc_16,hc_9⟩|⟨hc_16,hc_9⟩
    ·refine aB rfl hc_16 (ai (aa (vI r_14) (aa (vI r_14) (ah ?_))))
     obtain rfl:=ae hc_9
     obtain rfl:=ae hL_10
     obtain rfl:=ae hF
     exact ay (aK [(vI r_14)] ⟨rfl,trivial⟩)
    ·refine aA rfl hc_16 (av (au (dS (bC hD_6 hn_7) wz rfl (aa (vI ((k_3+1:Nat):Int)) (ah ?_)))))
     obtain rfl:=ae hc_9
     exact aU (k_3+1,l_4,()) ⟨hL_10,aX hD_6⟩ (ls_ _) rfl (aL rfl)
  ·rintro s_8 ho_ sl_ H_ hp_ hq_
   subst ho_
   refine aO _ hp_ hq_ (ai (aa (vI 0) (ah ?_)))
   obtain rfl:=ae hF
   exact ay (aK [(vI 0)] ⟨rfl,trivial⟩)
end Go.Proofs.YtekmkepojbhafacGreatDoor.Law

