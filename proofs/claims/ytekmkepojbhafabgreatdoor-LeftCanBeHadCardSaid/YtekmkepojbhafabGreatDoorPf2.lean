/-
 The machine computes these plain functions (written by a program of ours).
-/
import Derived.Test.YtekmkepojbhafabGreatDoorFacts
import Derived.Test.YtekmkepojbhafabGreatDoorDefs
import Derived.Test.YtekmkepojbhafabGreatDoorPf1
import Derived.Test.YtekmkepojbhafabGreatDoorShelf
open Go Go.Eng Go.Proofs
namespace Go.Proofs.YtekmkepojbhafabGreatDoor.Law
set_option maxRecDepth 100000
set_option linter.unusedVariables false
set_option maxHeartbeats 1000000
theorem uD {c_1:Campaign} {s_2:Spot} {r:Bool} (hF:kN c_1 s_2=some r) :
  FnM Tryz.prog 22 [(.d (.agg (Campaign.enc c_1))),(.d (.agg (Spot.enc s_2)))] [] (vB r) []:=by
 refine FnM.of_wH ⟨Tryz.prog,42,[],[]⟩ rfl Tryz.func22 rfl rfl (lb_ rfl) (by kernel_rfl) ?_
 unfold kN at hF
 refine ai (gQ 0 (.inl rfl) (Campaign.v c_1) rfl rfl wz (λn_3=>gQ 0 (.inl rfl) (Spot.v s_2) rfl rfl wz (λn_4=>aa (vB false) (ah (ak (ak ?_))))))
 obtain ⟨v_5,h_6,hF⟩:=bind_some hF
 refine aP [(2,(.ref n_3 0 0)),(3,(.ref n_4 0 0)),(24,(vB v_5))] [(n_3,some (.cells 8 (Campaign.v c_1))),(n_4,some (.cells 5 (Spot.v s_2)))] ?_ ?_
 ·refine au (aG Jt rfl 1 rfl wz (aG mZ rfl 1 rfl wz (aF 0 1 il ft sz3 ag3 rfl rfl (vI s_2.Time.From) rfl wz (aG wm rfl 2 rfl wz (aG mZ rfl 2 rfl wz (aF 0 0 il ft sz3 ag3 rfl rfl (vI c_1.Time.From) rfl wz (aa (vB (decide (s_2.Time.From<c_1.Time.From))) ?_)))))))
  rcases aj h_6 with⟨hc_7,h_6⟩|⟨hc_7,h_6⟩
  ·refine aC rfl hc_7 wz (af (af (af (af (af (af (af (aa (vB true) (ah ?_)))))))))
   obtain rfl:=ae h_6
   exact cu
  ·refine aC rfl hc_7 wz (aG Jt rfl 1 rfl wa (aG mU rfl 2 rfl wa (aF 0 1 il ft sz3 ag3 rfl rfl (vI s_2.Time.To) rfl wa (aG wm rfl 2 rfl wa (aG mU rfl 3 rfl wa (aF 0 0 il ft sz3 ag3 rfl rfl (vI c_1.Time.To) rfl wa (aH (vB (decide (s_2.Time.To>c_1.Time.To))) wa rfl (aa (vB (decide (s_2.Time.To>c_1.Time.To))) (ah ?_)))))))))
   obtain rfl:=ae h_6
   exact cu
 ·rintro ⟨⟩ _ sl_ H_ hp_ hq_
  refine aO _ hp_ hq_ ?_
  rcases aj hF with⟨hc_8,hF⟩|⟨hc_8,hF⟩
  ·refine aB rfl hc_8 (ai (aa (vB false) (ah ?_)))
   obtain rfl:=ae hF
   exact ay (aJ [(vB false)] ⟨rfl,trivial⟩)
  ·refine aA rfl hc_8 (ax (ak (ai (aG Fv rfl 4 rfl wz (aF 0 0 il ft Au Ci rfl rfl (vL eS c_1.Tags) rfl wz (bW zm rfl wz (aa (vI 0) (ah ?_))))))))
   obtain ⟨o_17,hj_18,hF⟩:=bind_some hF
   obtain ⟨hn_13,hj_18⟩:=bv hj_18
   refine di (λ(s_14:Unit)=>[]) (λ(s_14:Unit)=>[(n_3,some (.cells 8 (Campaign.v c_1))),(n_4,some (.cells 5 (Spot.v s_2)))]) (λ(k_9:Nat)=>(λ(s_14:Unit)=>[(3,(.ref n_4 0 0)),(26,(vL eS c_1.Tags)),(27,(vI (c_1.Tags.length:Int))),(28,(vI (k_9:Int)))])) (λk x s=>iI s_2 k x s) o_17 c_1.Tags () hj_18 rfl (aK rfl) ?_ ?_
   ·rintro ⟨k_9,l_10,s_14⟩ ⟨hL_16,hD_12⟩
    dsimp only at hL_16 hD_12
    cases l_10 with
    | nil =>
     obtain rfl:=ae hL_16
     refine ai (aa (vB (decide ((k_9:Int)<(c_1.Tags.length:Int)))) (ah ?_))
     refine ak (aA rfl (drop_nil hD_12) (aX ?_))
     exact aU (s_14) rfl rfl (aK rfl)
    | cons x_11 l_10 =>
     obtain ⟨c_,hc_15,hL_16⟩:=bind_some hL_16
     refine ai (aa (vB (decide ((k_9:Int)<(c_1.Tags.length:Int)))) (ah ?_))
     refine ak (aB rfl (bD hD_12) (ax ?_))
     unfold iI at hc_15
     refine ak (aN (ai (dR ut rfl rfl (bR hD_12) rfl wz (bQ sz9 ag9 rfl (vS x_11) rfl wz (aa (vS x_11) (ah (ai (aG F8 rfl 4 rfl wz (aF 0 1 il ft Au Ci rfl rfl (vL eS s_2.Tags) rfl wz (aa (vS x_11) ?_))))))))))
     obtain ⟨r_19,hr_20,hc_15⟩:=bind_some hc_15
     refine aD (l9 hr_20) rfl hb37 rfl rfl rfl rfl wz (aa (.tup [(vI r_19.1),(vB r_19.2)]) (aa (vI r_19.1) (aa (vB r_19.2) (aa (vI r_19.1) (aa (vB r_19.2) (ah (ai (aa (vB r_19.2) (aa (vB (!r_19.2)) (ah ?_))))))))))
     rcases aj hc_15 with⟨hc_21,hc_15⟩|⟨hc_21,hc_15⟩
     ·refine aB rfl hc_21 (ai (aa (vB false) (ah ?_)))
      obtain rfl:=ae hc_15
      obtain rfl:=ae hL_16
      obtain rfl:=ae hF
      exact ay (aJ [(vB false)] ⟨rfl,trivial⟩)
     ·refine aA rfl hc_21 (ax (au (eY (bH hD_12 hn_13) wz rfl (aa (vI ((k_9+1:Nat):Int)) (ah ?_)))))
      obtain rfl:=ae hc_15
      exact aY (k_9+1,l_10,()) ⟨hL_16,aZ hD_12⟩ (ls_ _) rfl (aK rfl)
   ·rintro s_14 ho_ sl_ H_ hp_ hq_
    subst ho_
    refine aO _ hp_ hq_ (ai (aa (vB true) (ah ?_)))
    obtain rfl:=ae hF
    exact ay (aJ [(vB true)] ⟨rfl,trivial⟩)
theorem ql {wv_1:Web} {k_2:Int} {r:Int} (hF:iA wv_1 k_2=some r) :
  FnM Tryz.prog 52 [(.ref (av 0) 0 0),(vI k_2)] (kw 2 1 eI [(vI wv_1.f_camps)] wv_1.f_can) (vI r) (fU 2 1 eI [(vI wv_1.f_camps)] wv_1.f_can):=by
 refine FnM.of_wHg (cs:=[(vI wv_1.f_camps)]) ⟨Tryz.prog,12,[],[]⟩ rfl Tryz.func52 rfl rfl (lb_ rfl) (by kernel_rfl) ?_
 unfold iA at hF
 refine ai (aa (vI 0) (ah (ai (aa (.ref (av 0) 0 0) (aa (.ref (av 0) 0 0) (aG pl106_1 rfl 1 rfl wz (aF 0 0 il ft sz3 ag3 rfl rfl (vI wv_1.f_camps) rfl wz (aa (vI (w64 (2+wv_1.f_camps))) (aa (vI k_2) (aa (vI (w64 ((w64 (2+wv_1.f_camps))+k_2))) (aa (vI (w64 ((w64 (2+wv_1.f_camps))+k_2))) (ah ?_))))))))))))
 obtain rfl:=ae hF
 exact ay (Kh (k:=2) (cs:=[(vI wv_1.f_camps)]) (cs':=[(vI wv_1.f_camps)]) (rows:=wv_1.f_can) (rows':=wv_1.f_can) ([]:Hp) (.inr rfl) [(vI (w64 ((w64 (2+wv_1.f_camps))+k_2)))] ⟨rfl,trivial⟩ rfl rfl rfl rfl rfl rfl)
theorem zu {spots_1:(List Spot)} {l_2:(List Campaign)} {r:Web} (hF:jR spots_1 l_2=some r) :
  FnM Tryz.prog 35 [(vL Spot.enc spots_1),(vL Campaign.enc l_2)] [] (.ref (av 0) 0 0) (fU 2 1 eI [(vI r.f_camps)] r.f_can):=by
 refine FnM.of_wH ⟨Tryz.prog,110,[],[]⟩ rfl Tryz.func35 rfl rfl (lb_ rfl) (by kernel_rfl) ?_
 unfold jR at hF
 refine ai (aa (.d .nilp) (ah (ai (aa (vL Spot.enc spots_1) (bW LK rfl wz (aa (vI (w64 (2+(spots_1.length:Int)))) (aa (vL Campaign.enc l_2) (bW Ha rfl wz (aa (vI (w64 ((w64 (2+(spots_1.length:Int)))+(l_2.length:Int)))) (aa (vI (w64 ((w64 (2+(spots_1.length:Int)))+(l_2.length:Int)))) (ah (ai (aa (vI (w64 ((w64 (2+(spots_1.length:Int)))+(l_2.length:Int)))) ?_)))))))))))))
 obtain ⟨m_3,hm_4,hF⟩:=bind_some hF
 obtain ⟨_,hz_5,hF⟩:=bind_some hF
 refine MC (α:=Int) (enc:=eI) (sz:=1) 0 (.inl rfl) el104 yj z22 by22 rfl rfl hm_4 (nzI_ne hz_5) wz (λn_6 ns_7=>aa (vL Campaign.enc l_2) (bW Ha rfl wz (aH (.agg [(.vs n_6 1 0 m_3),(vI (l_2.length:Int))]) wz (by kernel_rfl) (gQ 0 (.inl rfl) [(.vs n_6 1 0 m_3),(vI (l_2.length:Int))] rfl rfl wz (λn_8=>vC (C0:=([(n_6,some (.cells 1 (aL 1 ns_7 (List.replicate m_3 ([]:List Int)))))]:Hp)) (T:=(aR 1 eI ns_7 (List.replicate m_3 ([]:List Int)))) (X:=([(n_8,some (.cells 2 [(.vs n_6 1 0 m_3),(vI (l_2.length:Int))]))]:Hp)) (aa (.ref n_8 0 0) (ah (ak (ai (aa (.ref n_8 0 0) (aa (.ref n_8 0 0) (aG oM rfl 0 rfl wz (aF 0 1 il ft xX x9 rfl rfl (.vs n_6 1 0 m_3) rfl wz (Gg un104 rfl wz (aa (vI 0) (ah ?_))))))))))))))))
 obtain ⟨o_19,hj_20,hF⟩:=bind_some hF
 obtain ⟨hn_13,hj_20⟩:=bv hj_20
 refine jk (σ:=(List (List Int))) (N:=(Nat->Nm)) (λp=>(λ(s_14:(List (List Int))) (ns_16:(Nat->Nm))=>([(0,(vL Spot.enc spots_1)),(1,(vL Campaign.enc l_2)),(6,(.ref n_8 0 0))]:SL_)) p.1 p.2) (λp=>(λ(s_14:(List (List Int))) (ns_16:(Nat->Nm))=>(([(n_6,some (.cells 1 (aL 1 ns_16 s_14))),(n_8,some (.cells 2 [(.vs n_6 1 0 m_3),(vI (l_2.length:Int))]))]:Hp)++(aR 1 eI ns_16 s_14))) p.1 p.2) (λ(k_9:Nat)=>(λp=>(λ(s_14:(List (List Int))) (ns_16:(Nat->Nm))=>([(0,(vL Spot.enc spots_1)),(1,(vL Campaign.enc l_2)),(5,(vI (w64 ((w64 (2+(spots_1.length:Int)))+(l_2.length:Int))))),(6,(.ref n_8 0 0)),(30,(vI ((m_3:Nat):Int))),(31,(vI (k_9:Int)))]:SL_)) p.1 p.2)) (λk x s=>jd spots_1 l_2 m_3 k x s) o_19 (List.range (((m_3:Nat):Int)).toNat) ((List.replicate m_3 ([]:List Int)),ns_7) hj_20 rfl (dD (C1:=([(n_6,some (.cells 1 (aL 1 ns_7 (List.replicate m_3 ([]:List Int))))),(n_8,some (.cells 2 [(.vs n_6 1 0 m_3),(vI (l_2.length:Int))]))]:Hp)) (T:=(aR 1 eI ns_7 (List.replicate m_3 ([]:List Int)))) [0,1] (by decide) rfl rfl) ?_ ?_
 ·rintro ⟨k_9,l_10,s_14,ns_16⟩ ⟨hL_18,hD_12⟩
  dsimp only at hL_18 hD_12
  cases l_10 with
  | nil =>
   obtain rfl:=ae hL_18
   refine ai (aa (vB (decide ((k_9:Int)<((m_3:Nat):Int)))) (ah ?_))
   refine ak (aA rfl (xk hD_12) (aX ?_))
   exact aU (s_14,ns_16) rfl rfl (dD (C1:=([(n_6,some (.cells 1 (aL 1 ns_16 s_14))),(n_8,some (.cells 2 [(.vs n_6 1 0 m_3),(vI (l_2.length:Int))]))]:Hp)) (T:=(aR 1 eI ns_16 s_14)) [0,1] (by decide) rfl rfl)
  | cons x_11 l_10 =>
   obtain ⟨c_,hc_17,hL_18⟩:=bind_some hL_18
   refine ai (aa (vB (decide ((k_9:Int)<((m_3:Nat):Int)))) (ah ?_))
   refine ak (aB rfl (uW hD_12) (ax ?_))
   unfold jd at hc_17
   refine ak (aN (ai (aa (vI (k_9:Int)) (aa (vI (k_9:Int)) (ah (bC (aa (.ref n_8 0 0) (aa (.ref n_8 0 0) (aG oM rfl 0 rfl wz (aF 3 1 (.inr (by kernel_rfl)) (λ_ _ ag=>trivial) xX x9 rfl rfl (.vs n_6 1 0 m_3) rfl wz (aa (vI (k_9:Int)) (aa (vI (w64 ((w64 (2+(spots_1.length:Int)))+(l_2.length:Int)))) ?_))))))))))))
   obtain ⟨m_21,hm_22,hc_17⟩:=bind_some hc_17
   refine ES (enc:=eI) 6 (.inr (by kernel_rfl)) 0 JF sz3 z3 by3 rfl rfl (by decide) rfl rfl rfl hm_22 wz (λn_23=>vC (C0:=([(n_6,some (.cells 1 (aL 1 ns_16 s_14))),(n_8,some (.cells 2 [(.vs n_6 1 0 m_3),(vI (l_2.length:Int))]))]:Hp)) (T:=(aR 1 eI ns_16 s_14)) (X:=([(n_23,some (bV 1 eI (List.replicate m_21 (0:Int))))]:Hp)) ?_)
   obtain ⟨_,hi_24,hc_17⟩:=bind_some hc_17
   refine l7 AY rfl rfl (tQ hi_24) (oC hi_24) wz ?_
   obtain ⟨_,hn_25,hc_17⟩:=bind_some hc_17
   replace hn_25:=Oo hn_25
   refine jV (v':=(gV n_23 1 (List.replicate m_21 (0:Int)))) 40 rfl (vV_gV hn_25) (A9 2 rfl (KH hn_25).symm ?_)
   obtain ⟨r_26,hr_27,hc_17⟩:=bind_some hc_17
   refine h_gst 8 0 (.inr (by kernel_rfl)) (λ_ _ ag=>⟨.inr (.inr (by kernel_rfl)),⟨.inr (.inr (by kernel_rfl)),trivial⟩⟩) yj rfl rfl rfl (NL hr_27) wz (qx (H0:=(([(n_6,some (.cells 1 (aL 1 (vX ns_16 (0+((k_9:Int)).toNat) n_23) (s_14.set (0+((k_9:Int)).toNat) (List.replicate m_21 (0:Int)))))),(n_8,some (.cells 2 [(.vs n_6 1 0 m_3),(vI (l_2.length:Int))]))]:Hp)++[(n_23,gB 1 eI (List.replicate m_21 (0:Int)))]++(aR 1 eI ns_16 s_14))) rfl (h_rowin (NL hr_27) (ah (au (eY (xD hD_12 hn_13) wz rfl (aa (vI ((k_9+1:Nat):Int)) (ah ?_)))))))
   obtain rfl:=ae hc_17
   exact aY (k_9+1,l_10,(s_14.set (0+((k_9:Int)).toNat) (List.replicate m_21 (0:Int))),(vX ns_16 (0+((k_9:Int)).toNat) n_23)) ⟨hL_18,aZ hD_12⟩ (ls_ _) rfl (dD (C1:=([(n_6,some (.cells 1 (aL 1 (vX ns_16 (0+((k_9:Int)).toNat) n_23) (s_14.set (0+((k_9:Int)).toNat) (List.replicate m_21 (0:Int)))))),(n_8,some (.cells 2 [(.vs n_6 1 0 m_3),(vI (l_2.length:Int))]))]:Hp)) (T:=(aR 1 eI (vX ns_16 (0+((k_9:Int)).toNat) n_23) (s_14.set (0+((k_9:Int)).toNat) (List.replicate m_21 (0:Int))))) [0,1] (by decide) rfl rfl)
 ·rintro ⟨s_14,ns_16⟩ ho_ sl_ H_ hp_ hq_
  subst ho_
  refine aO _ hp_ hq_ (ak (ai (aa (vL Campaign.enc l_2) (bW Ha rfl wz (aa (vI 0) (ah ?_))))))
  obtain ⟨o_36,hj_37,hF⟩:=bind_some hF
  obtain ⟨hn_32,hj_37⟩:=bv hj_37
  refine di (λ(s_33:(List (List Int)))=>[(0,(vL Spot.enc spots_1)),(6,(.ref n_8 0 0))]) (λ(s_33:(List (List Int)))=>(([(n_6,some (.cells 1 (aL 1 ns_16 s_33))),(n_8,some (.cells 2 [(.vs n_6 1 0 m_3),(vI (l_2.length:Int))]))]:Hp)++(aR 1 eI ns_16 s_33))) (λ(k_28:Nat)=>(λ(s_33:(List (List Int)))=>[(0,(vL Spot.enc spots_1)),(6,(.ref n_8 0 0)),(43,(vL Campaign.enc l_2)),(44,(vI (l_2.length:Int))),(45,(vI (k_28:Int)))])) (λk x s=>gP m_3 l_2 spots_1 k x s) o_36 l_2 s_14 hj_37 rfl (dD (C1:=([(n_6,some (.cells 1 (aL 1 ns_16 s_14))),(n_8,some (.cells 2 [(.vs n_6 1 0 m_3),(vI (l_2.length:Int))]))]:Hp)) (T:=(aR 1 eI ns_16 s_14)) [0,1] (by decide) rfl rfl) ?_ ?_
  ·rintro ⟨k_28,l_29,s_33⟩ ⟨hL_35,hD_31⟩
   dsimp only at hL_35 hD_31
   cases l_29 with
   | nil =>
    obtain rfl:=ae hL_35
    refine ai (aa (vB (decide ((k_28:Int)<(l_2.length:Int)))) (ah ?_))
    refine ak (aA rfl (drop_nil hD_31) (aX ?_))
    exact aU (s_33) rfl rfl (dD (C1:=([(n_6,some (.cells 1 (aL 1 ns_16 s_33))),(n_8,some (.cells 2 [(.vs n_6 1 0 m_3),(vI (l_2.length:Int))]))]:Hp)) (T:=(aR 1 eI ns_16 s_33)) [0,1] (by decide) rfl rfl)
   | cons x_30 l_29 =>
    obtain ⟨c_,hc_34,hL_35⟩:=bind_some hL_35
    refine ai (aa (vB (decide ((k_28:Int)<(l_2.length:Int)))) (ah ?_))
    refine ak (aB rfl (bD hD_31) (ax ?_))
    unfold gP at hc_34
    refine ak (aN (ai (aa (vI (k_28:Int)) (dR zU rfl rfl (bR hD_31) rfl wz (bQ pg xP rfl (.d (.agg (Campaign.enc x_30))) rfl wz (dI 0 (.inl rfl) z35 rfl wz (λn_38=>vC (C0:=([(n_6,some (.cells 1 (aL 1 ns_16 s_33))),(n_8,some (.cells 2 [(.vs n_6 1 0 m_3),(vI (l_2.length:Int))]))]:Hp)) (T:=(aR 1 eI ns_16 s_33)) (X:=([(n_38,some (.cells 8 [(vS (⟨#[]⟩:ByteArray)),(vS (⟨#[]⟩:ByteArray)),(vI 0),(vI 0),.nil,(vI 0),(vI 0),(vI 0)]))]:Hp)) (aa (vI (k_28:Int)) (fP 0 il ft 2 pg rfl rfl (Campaign.v x_30) rfl wz (ah (ak (bC (aa (.ref n_8 0 0) (aa (.ref n_8 0 0) (aG oM rfl 0 rfl wz (aF 3 1 (.inr (by kernel_rfl)) (λ_ _ ag=>trivial) xX x9 rfl rfl (.vs n_6 1 0 m_3) rfl wz ?_))))))))))))))))
    obtain ⟨_,hi_39,hc_34⟩:=bind_some hc_34
    refine l7 AY rfl rfl (tQ hi_39) (oC hi_39) wz ?_
    obtain ⟨r_40,hr_41,hc_34⟩:=bind_some hc_34
    refine yD 5 0 (.inr (by kernel_rfl)) (λ_ _ ag=>⟨.inl ⟨rfl,rfl⟩,trivial⟩) yj zM rfl rfl hr_41 wz (aa (.ref n_8 0 0) (aa (vI (k_28:Int)) ?_))
    obtain ⟨_,hn_44,hc_34⟩:=bind_some hc_34
    obtain ⟨_,hm_45,hc_34⟩:=bind_some hc_34
    obtain ⟨r_42,hr_43,hc_34⟩:=bind_some hc_34
    refine qx (H0:=(([(n_6,some (.cells 1 (aL 1 ns_16 s_33))),(n_8,some (.cells 2 [(.vs n_6 1 0 m_3),(vI (l_2.length:Int))])),(n_38,some (.cells 8 (Campaign.v x_30)))]:Hp)++(aR 1 eI ns_16 s_33))) rfl (vZ 8 1 0 (.inr (by kernel_rfl)) (λ_ _ ag=>by exact⟨.inl ⟨rfl,rfl⟩,⟨.inl ⟨rfl,rfl⟩,trivial⟩⟩) (qi hr_43) rfl hb51 rfl rfl (by decide) (vK hm_45) (yh hn_44) rfl (by kernel_rfl) (λ_=>by kernel_rfl) (by kernel_rfl) (by kernel_rfl) wz (aG wM rfl 5 rfl wz (aF 10 2 (.inr (by kernel_rfl)) (λ_ _ ag=>⟨.inl ⟨rfl,rfl⟩,⟨.inl ⟨rfl,rfl⟩,⟨.inl ⟨rfl,rfl⟩,trivial⟩⟩⟩) sz3 ag3 rfl rfl (vI x_30.Goal) rfl wz ?_)))
    obtain ⟨_,hi_46,hc_34⟩:=bind_some hc_34
    refine nU ik rfl rfl (jl hi_46) (fO hi_46) wz ?_
    obtain ⟨r_47,hr_48,hc_34⟩:=bind_some hc_34
    obtain ⟨e_49,hy_50,hc_34⟩:=bind_some hc_34
    refine qx (H0:=(([(n_6,some (.cells 1 (aL 1 ns_16 s_33))),(n_8,some (.cells 2 [(.vs n_6 1 0 m_3),(vI (l_2.length:Int))])),(n_38,some (.cells 8 (Campaign.v x_30)))]:Hp)++(aR 1 eI ns_16 s_33))) rfl (Hq 12 (.inr (by kernel_rfl)) (λ_ _ ag=>⟨.inr (.inr (by kernel_rfl)),⟨.inr (.inr (by kernel_rfl)),⟨.inr (.inr (by kernel_rfl)),⟨.inr (.inr (by kernel_rfl)),trivial⟩⟩⟩⟩) sz3 rfl hr_48 hy_50 x_30.Goal rfl wz (A9 (b':=some (.cells 1 (aL 1 ns_16 (s_33.set (0+(0:Int).toNat) (r_47.set (0+(r_42).toNat) x_30.Goal))))) 0 rfl (zn hr_48) (ah (ai (aa (vL Spot.enc spots_1) (bW LK rfl wz (aa (vI 0) (ah ?_))))))))
    obtain ⟨o_59,hj_60,hc_34⟩:=bind_some hc_34
    obtain ⟨hn_55,hj_60⟩:=bv hj_60
    refine di (λ(s_56:(List (List Int)))=>[(0,(vL Spot.enc spots_1)),(6,(.ref n_8 0 0)),(43,(vL Campaign.enc l_2)),(44,(vI (l_2.length:Int))),(45,(vI (k_28:Int)))]) (λ(s_56:(List (List Int)))=>(([(n_6,some (.cells 1 (aL 1 ns_16 s_56))),(n_8,some (.cells 2 [(.vs n_6 1 0 m_3),(vI (l_2.length:Int))])),(n_38,some (.cells 8 (Campaign.v x_30)))]:Hp)++(aR 1 eI ns_16 s_56))) (λ(k_51:Nat)=>(λ(s_56:(List (List Int)))=>[(0,(vL Spot.enc spots_1)),(6,(.ref n_8 0 0)),(8,(vI (k_28:Int))),(9,(.ref n_38 0 0)),(43,(vL Campaign.enc l_2)),(44,(vI (l_2.length:Int))),(45,(vI (k_28:Int))),(62,(vL Spot.enc spots_1)),(63,(vI (spots_1.length:Int))),(64,(vI (k_51:Int)))])) (λk x s=>gJ x_30 m_3 l_2 k_28 k x s) o_59 spots_1 (s_33.set (0+(0:Int).toNat) (r_47.set (0+(r_42).toNat) x_30.Goal)) hj_60 rfl (dD (C1:=([(n_6,some (.cells 1 (aL 1 ns_16 (s_33.set (0+(0:Int).toNat) (r_47.set (0+(r_42).toNat) x_30.Goal))))),(n_8,some (.cells 2 [(.vs n_6 1 0 m_3),(vI (l_2.length:Int))])),(n_38,some (.cells 8 (Campaign.v x_30)))]:Hp)) (T:=(aR 1 eI ns_16 (s_33.set (0+(0:Int).toNat) (r_47.set (0+(r_42).toNat) x_30.Goal)))) [0,1,2] (by decide) rfl rfl) ?_ ?_
    ·rintro ⟨k_51,l_52,s_56⟩ ⟨hL_58,hD_54⟩
     dsimp only at hL_58 hD_54
     cases l_52 with
     | nil =>
      obtain rfl:=ae hL_58
      refine ai (aa (vB (decide ((k_51:Int)<(spots_1.length:Int)))) (ah ?_))
      refine ak (aA rfl (drop_nil hD_54) (aX ?_))
      exact aU (s_56) rfl rfl (dD (C1:=([(n_6,some (.cells 1 (aL 1 ns_16 s_56))),(n_8,some (.cells 2 [(.vs n_6 1 0 m_3),(vI (l_2.length:Int))])),(n_38,some (.cells 8 (Campaign.v x_30)))]:Hp)) (T:=(aR 1 eI ns_16 s_56)) [0,1,2] (by decide) rfl rfl)
     | cons x_53 l_52 =>
      obtain ⟨c_,hc_57,hL_58⟩:=bind_some hL_58
      refine ai (aa (vB (decide ((k_51:Int)<(spots_1.length:Int)))) (ah ?_))
      refine ak (aB rfl (bD hD_54) (ax ?_))
      unfold gJ at hc_57
      refine ak (aN (ai (aa (vI (k_51:Int)) (dR LP rfl rfl (bR hD_54) rfl wz (bQ zY JJ rfl (.d (.agg (Spot.enc x_53))) rfl wz (dI 0 (.inl rfl) z48 rfl wz (λn_61=>vC (C0:=([(n_6,some (.cells 1 (aL 1 ns_16 s_56))),(n_8,some (.cells 2 [(.vs n_6 1 0 m_3),(vI (l_2.length:Int))])),(n_38,some (.cells 8 (Campaign.v x_30)))]:Hp)) (T:=(aR 1 eI ns_16 s_56)) (X:=([(n_61,some (.cells 5 [(vS (⟨#[]⟩:ByteArray)),(vI 0),(vI 0),(vI 0),.nil]))]:Hp)) (aa (vI (k_51:Int)) (fP 0 il ft 3 zY rfl rfl (Spot.v x_53) rfl wz (ah (ai (aF 0 2 il ft pg xP rfl rfl (.d (.agg (Campaign.enc x_30))) rfl wz (aF 0 3 il ft zY JJ rfl rfl (.d (.agg (Spot.enc x_53))) rfl wz ?_)))))))))))))
      obtain ⟨r_62,hr_63,hc_57⟩:=bind_some hc_57
      refine aD (uD hr_63) rfl hb22 rfl rfl rfl rfl wz (ah ?_)
      obtain ⟨v_64,h_65,hc_57⟩:=bind_some hc_57
      refine aP [(0,(vL Spot.enc spots_1)),(6,(.ref n_8 0 0)),(8,(vI (k_28:Int))),(9,(.ref n_38 0 0)),(43,(vL Campaign.enc l_2)),(44,(vI (l_2.length:Int))),(45,(vI (k_28:Int))),(62,(vL Spot.enc spots_1)),(63,(vI (spots_1.length:Int))),(64,(vI (k_51:Int)))] (([(n_6,some (.cells 1 (aL 1 ns_16 v_64))),(n_8,some (.cells 2 [(.vs n_6 1 0 m_3),(vI (l_2.length:Int))])),(n_38,some (.cells 8 (Campaign.v x_30))),(n_61,some (.cells 5 (Spot.v x_53)))]:Hp)++(aR 1 eI ns_16 v_64)) ?_ ?_
      ·rcases aj h_65 with⟨hc_66,h_65⟩|⟨hc_66,h_65⟩
       ·refine aB rfl hc_66 (bC (aa (.ref n_8 0 0) (aa (.ref n_8 0 0) (aG oM rfl 0 rfl wz (aF 3 1 (.inr (by kernel_rfl)) (λ_ _ ag=>trivial) xX x9 rfl rfl (.vs n_6 1 0 m_3) rfl wz (aa (.ref n_8 0 0) (aa (vI (k_28:Int)) ?_)))))))
        obtain ⟨_,hn_69,h_65⟩:=bind_some h_65
        obtain ⟨_,hm_70,h_65⟩:=bind_some h_65
        obtain ⟨r_67,hr_68,h_65⟩:=bind_some h_65
        refine qx (H0:=(([(n_6,some (.cells 1 (aL 1 ns_16 s_56))),(n_8,some (.cells 2 [(.vs n_6 1 0 m_3),(vI (l_2.length:Int))])),(n_38,some (.cells 8 (Campaign.v x_30))),(n_61,some (.cells 5 (Spot.v x_53)))]:Hp)++(aR 1 eI ns_16 s_56))) rfl (vZ 6 1 0 (.inr (by kernel_rfl)) (λ_ _ ag=>by exact⟨.inl ⟨rfl,rfl⟩,trivial⟩) (qi hr_68) rfl hb51 rfl rfl (by decide) (vK hm_70) (yh hn_69) rfl (by kernel_rfl) (λ_=>by kernel_rfl) (by kernel_rfl) (by kernel_rfl) wz ?_)
        obtain ⟨_,hi_71,h_65⟩:=bind_some h_65
        refine l7 AY rfl rfl (tQ hi_71) (oC hi_71) wz ?_
        obtain ⟨r_72,hr_73,h_65⟩:=bind_some h_65
        refine yD 8 0 (.inr (by kernel_rfl)) (λ_ _ ag=>⟨.inl ⟨rfl,rfl⟩,⟨.inl ⟨rfl,rfl⟩,trivial⟩⟩) yj zM rfl rfl hr_73 wz (aa (.ref n_8 0 0) (aa (vI (k_51:Int)) ?_))
        obtain ⟨_,hn_76,h_65⟩:=bind_some h_65
        obtain ⟨_,hm_77,h_65⟩:=bind_some h_65
        obtain ⟨r_74,hr_75,h_65⟩:=bind_some h_65
        refine qx (H0:=(([(n_6,some (.cells 1 (aL 1 ns_16 s_56))),(n_8,some (.cells 2 [(.vs n_6 1 0 m_3),(vI (l_2.length:Int))])),(n_38,some (.cells 8 (Campaign.v x_30))),(n_61,some (.cells 5 (Spot.v x_53)))]:Hp)++(aR 1 eI ns_16 s_56))) rfl (vZ 11 1 0 (.inr (by kernel_rfl)) (λ_ _ ag=>by exact⟨.inl ⟨rfl,rfl⟩,⟨.inl ⟨rfl,rfl⟩,⟨.inl ⟨rfl,rfl⟩,trivial⟩⟩⟩) (ql hr_75) rfl hb52 rfl rfl (by decide) (vK hm_77) (yh hn_76) rfl (by kernel_rfl) (λ_=>by kernel_rfl) (by kernel_rfl) (by kernel_rfl) wz (aG JQ rfl 6 rfl wz (aF 13 2 (.inr (by kernel_rfl)) (λ_ _ ag=>⟨.inl ⟨rfl,rfl⟩,⟨.inl ⟨rfl,rfl⟩,⟨.inl ⟨rfl,rfl⟩,⟨.inl ⟨rfl,rfl⟩,trivial⟩⟩⟩⟩) sz3 ag3 rfl rfl (vI x_30.Most) rfl wz ?_)))
        obtain ⟨_,hi_78,h_65⟩:=bind_some h_65
        refine nU ik rfl rfl (jl hi_78) (fO hi_78) wz ?_
        obtain ⟨r_79,hr_80,h_65⟩:=bind_some h_65
        obtain ⟨e_81,hy_82,h_65⟩:=bind_some h_65
        refine qx (H0:=(([(n_6,some (.cells 1 (aL 1 ns_16 s_56))),(n_8,some (.cells 2 [(.vs n_6 1 0 m_3),(vI (l_2.length:Int))])),(n_38,some (.cells 8 (Campaign.v x_30))),(n_61,some (.cells 5 (Spot.v x_53)))]:Hp)++(aR 1 eI ns_16 s_56))) rfl (Hq 15 (.inr (by kernel_rfl)) (λ_ _ ag=>⟨.inr (.inr (by kernel_rfl)),⟨.inr (.inr (by kernel_rfl)),⟨.inr (.inr (by kernel_rfl)),⟨.inr (.inr (by kernel_rfl)),⟨.inr (.inr (by kernel_rfl)),trivial⟩⟩⟩⟩⟩) sz3 rfl hr_80 hy_82 x_30.Most rfl wz (A9 (b':=some (.cells 1 (aL 1 ns_16 (s_56.set (0+(r_67).toNat) (r_79.set (0+(r_74).toNat) x_30.Most))))) 0 rfl (zn hr_80) (ah ?_)))
        obtain rfl:=ae h_65
        exact aU () trivial rfl (dD (C1:=([(n_6,some (.cells 1 (aL 1 ns_16 (s_56.set (0+(r_67).toNat) (r_79.set (0+(r_74).toNat) x_30.Most))))),(n_8,some (.cells 2 [(.vs n_6 1 0 m_3),(vI (l_2.length:Int))])),(n_38,some (.cells 8 (Campaign.v x_30))),(n_61,some (.cells 5 (Spot.v x_53)))]:Hp)) (T:=(aR 1 eI ns_16 (s_56.set (0+(r_67).toNat) (r_79.set (0+(r_74).toNat) x_30.Most)))) [0,1,2,3] (by decide) rfl rfl)
       ·refine aA rfl hc_66 (ax ?_)
        obtain rfl:=ae h_65
        exact aU () trivial rfl (dD (C1:=([(n_6,some (.cells 1 (aL 1 ns_16 s_56))),(n_8,some (.cells 2 [(.vs n_6 1 0 m_3),(vI (l_2.length:Int))])),(n_38,some (.cells 8 (Campaign.v x_30))),(n_61,some (.cells 5 (Spot.v x_53)))]:Hp)) (T:=(aR 1 eI ns_16 s_56)) [0,1,2,3] (by decide) rfl rfl)
      ·rintro ⟨⟩ _ sl_ H_ hp_ hq_
       refine aO _ hp_ hq_ (au (eY (bH hD_54 hn_55) wz rfl (aa (vI ((k_51+1:Nat):Int)) (ah ?_))))
       obtain rfl:=ae hc_57
       exact aY (k_51+1,l_52,v_64) ⟨hL_58,aZ hD_54⟩ (ls_ _) rfl (dD (C1:=([(n_6,some (.cells 1 (aL 1 ns_16 v_64))),(n_8,some (.cells 2 [(.vs n_6 1 0 m_3),(vI (l_2.length:Int))])),(n_38,some (.cells 8 (Campaign.v x_30))),(n_61,some (.cells 5 (Spot.v x_53)))]:Hp)) (T:=(aR 1 eI ns_16 v_64)) [0,1,2] (by decide) rfl rfl)
    ·rintro s_56 ho_ sl_ H_ hp_ hq_
     subst ho_
     refine aO _ hp_ hq_ (au (eY (bH hD_31 hn_32) wz rfl (aa (vI ((k_28+1:Nat):Int)) (ah ?_))))
     obtain rfl:=ae hc_34
     exact aY (k_28+1,l_29,s_56) ⟨hL_35,aZ hD_31⟩ (ls_ _) rfl (dD (C1:=([(n_6,some (.cells 1 (aL 1 ns_16 s_56))),(n_8,some (.cells 2 [(.vs n_6 1 0 m_3),(vI (l_2.length:Int))])),(n_38,some (.cells 8 (Campaign.v x_30)))]:Hp)) (T:=(aR 1 eI ns_16 s_56)) [0,1] (by decide) rfl rfl)
  ·rintro s_33 ho_ sl_ H_ hp_ hq_
   subst ho_
   refine aO _ hp_ hq_ (ak (ai (aa (vL Spot.enc spots_1) (bW LK rfl wz (aa (vI 0) (ah ?_))))))
   obtain ⟨o_91,hj_92,hF⟩:=bind_some hF
   obtain ⟨hn_87,hj_92⟩:=bv hj_92
   refine di (λ(s_88:(List (List Int)))=>[(6,(.ref n_8 0 0))]) (λ(s_88:(List (List Int)))=>(([(n_6,some (.cells 1 (aL 1 ns_16 s_88))),(n_8,some (.cells 2 [(.vs n_6 1 0 m_3),(vI (l_2.length:Int))]))]:Hp)++(aR 1 eI ns_16 s_88))) (λ(k_83:Nat)=>(λ(s_88:(List (List Int)))=>[(6,(.ref n_8 0 0)),(89,(vL Spot.enc spots_1)),(90,(vI (spots_1.length:Int))),(91,(vI (k_83:Int)))])) (λk x s=>jw m_3 l_2 k x s) o_91 spots_1 s_33 hj_92 rfl (dD (C1:=([(n_6,some (.cells 1 (aL 1 ns_16 s_33))),(n_8,some (.cells 2 [(.vs n_6 1 0 m_3),(vI (l_2.length:Int))]))]:Hp)) (T:=(aR 1 eI ns_16 s_33)) [0,1] (by decide) rfl rfl) ?_ ?_
   ·rintro ⟨k_83,l_84,s_88⟩ ⟨hL_90,hD_86⟩
    dsimp only at hL_90 hD_86
    cases l_84 with
    | nil =>
     obtain rfl:=ae hL_90
     refine ai (aa (vB (decide ((k_83:Int)<(spots_1.length:Int)))) (ah ?_))
     refine ak (aA rfl (drop_nil hD_86) (aX ?_))
     exact aU (s_88) rfl rfl (dD (C1:=([(n_6,some (.cells 1 (aL 1 ns_16 s_88))),(n_8,some (.cells 2 [(.vs n_6 1 0 m_3),(vI (l_2.length:Int))]))]:Hp)) (T:=(aR 1 eI ns_16 s_88)) [0,1] (by decide) rfl rfl)
    | cons x_85 l_84 =>
     obtain ⟨c_,hc_89,hL_90⟩:=bind_some hL_90
     refine ai (aa (vB (decide ((k_83:Int)<(spots_1.length:Int)))) (ah ?_))
     refine ak (aB rfl (bD hD_86) (ax ?_))
     unfold jw at hc_89
     refine ak (aN (ai (aa (vI (k_83:Int)) (dR LP rfl rfl (bR hD_86) rfl wz (bQ zY JJ rfl (.d (.agg (Spot.enc x_85))) rfl wz (dI 0 (.inl rfl) z48 rfl wz (λn_93=>vC (C0:=([(n_6,some (.cells 1 (aL 1 ns_16 s_88))),(n_8,some (.cells 2 [(.vs n_6 1 0 m_3),(vI (l_2.length:Int))]))]:Hp)) (T:=(aR 1 eI ns_16 s_88)) (X:=([(n_93,some (.cells 5 [(vS (⟨#[]⟩:ByteArray)),(vI 0),(vI 0),(vI 0),.nil]))]:Hp)) (aa (vI (k_83:Int)) (fP 0 il ft 2 zY rfl rfl (Spot.v x_85) rfl wz (ah (bC (aa (.ref n_8 0 0) (aa (.ref n_8 0 0) (aG oM rfl 0 rfl wz (aF 3 1 (.inr (by kernel_rfl)) (λ_ _ ag=>trivial) xX x9 rfl rfl (.vs n_6 1 0 m_3) rfl wz (aa (.ref n_8 0 0) (aa (vI (k_83:Int)) ?_)))))))))))))))))
     obtain ⟨_,hn_96,hc_89⟩:=bind_some hc_89
     obtain ⟨_,hm_97,hc_89⟩:=bind_some hc_89
     obtain ⟨r_94,hr_95,hc_89⟩:=bind_some hc_89
     refine qx (H0:=(([(n_6,some (.cells 1 (aL 1 ns_16 s_88))),(n_8,some (.cells 2 [(.vs n_6 1 0 m_3),(vI (l_2.length:Int))])),(n_93,some (.cells 5 (Spot.v x_85)))]:Hp)++(aR 1 eI ns_16 s_88))) rfl (vZ 6 1 0 (.inr (by kernel_rfl)) (λ_ _ ag=>by exact⟨.inl ⟨rfl,rfl⟩,trivial⟩) (ql hr_95) rfl hb52 rfl rfl (by decide) (vK hm_97) (yh hn_96) rfl (by kernel_rfl) (λ_=>by kernel_rfl) (by kernel_rfl) (by kernel_rfl) wz ?_)
     obtain ⟨_,hi_98,hc_89⟩:=bind_some hc_89
     refine l7 AY rfl rfl (tQ hi_98) (oC hi_98) wz ?_
     obtain ⟨r_99,hr_100,hc_89⟩:=bind_some hc_89
     refine yD 8 0 (.inr (by kernel_rfl)) (λ_ _ ag=>⟨.inl ⟨rfl,rfl⟩,⟨.inl ⟨rfl,rfl⟩,trivial⟩⟩) yj zM rfl rfl hr_100 wz (aG J9 rfl 3 rfl wz (aF 10 2 (.inr (by kernel_rfl)) (λ_ _ ag=>⟨.inl ⟨rfl,rfl⟩,⟨.inl ⟨rfl,rfl⟩,⟨.inl ⟨rfl,rfl⟩,trivial⟩⟩⟩) sz3 ag3 rfl rfl (vI x_85.Room) rfl wz ?_))
     obtain ⟨_,hi_101,hc_89⟩:=bind_some hc_89
     refine nU ik rfl rfl (jl hi_101) (fO hi_101) wz ?_
     obtain ⟨r_102,hr_103,hc_89⟩:=bind_some hc_89
     obtain ⟨e_104,hy_105,hc_89⟩:=bind_some hc_89
     refine qx (H0:=(([(n_6,some (.cells 1 (aL 1 ns_16 s_88))),(n_8,some (.cells 2 [(.vs n_6 1 0 m_3),(vI (l_2.length:Int))])),(n_93,some (.cells 5 (Spot.v x_85)))]:Hp)++(aR 1 eI ns_16 s_88))) rfl (Hq 12 (.inr (by kernel_rfl)) (λ_ _ ag=>⟨.inr (.inr (by kernel_rfl)),⟨.inr (.inr (by kernel_rfl)),⟨.inr (.inr (by kernel_rfl)),⟨.inr (.inr (by kernel_rfl)),trivial⟩⟩⟩⟩) sz3 rfl hr_103 hy_105 x_85.Room rfl wz (A9 (b':=some (.cells 1 (aL 1 ns_16 (s_88.set (0+(r_94).toNat) (r_102.set (0+(1:Int).toNat) x_85.Room))))) 0 rfl (zn hr_103) (ah (au (eY (bH hD_86 hn_87) wz rfl (aa (vI ((k_83+1:Nat):Int)) (ah ?_)))))))
     obtain rfl:=ae hc_89
     exact aY (k_83+1,l_84,(s_88.set (0+(r_94).toNat) (r_102.set (0+(1:Int).toNat) x_85.Room))) ⟨hL_90,aZ hD_86⟩ (ls_ _) rfl (dD (C1:=([(n_6,some (.cells 1 (aL 1 ns_16 (s_88.set (0+(r_94).toNat) (r_102.set (0+(1:Int).toNat) x_85.Room))))),(n_8,some (.cells 2 [(.vs n_6 1 0 m_3),(vI (l_2.length:Int))])),(n_93,some (.cells 5 (Spot.v x_85)))]:Hp)) (T:=(aR 1 eI ns_16 (s_88.set (0+(r_94).toNat) (r_102.set (0+(1:Int).toNat) x_85.Room)))) [0,1] (by decide) rfl rfl)
   ·rintro s_88 ho_ sl_ H_ hp_ hq_
    subst ho_
    refine aO _ hp_ hq_ (ai (aa (.ref n_8 0 0) (aa (.ref n_8 0 0) (ah ?_))))
    obtain ⟨_,hk_,hF⟩:=bind_some hF
    obtain rfl:=ae hF
    exact ay (finGrN 1 0 (.inr rfl) rfl rfl (vK hk_) (by decide) rfl rfl rfl)
theorem yO {wv_1:Web} {fromv_2:Int} {tov_3:Int} {r:(List Int)×Bool} (hF:kK wv_1 fromv_2 tov_3=some r) :
  FnM Tryz.prog 53 [(.ref (av 0) 0 0),(vI fromv_2),(vI tov_3)] (kw 2 1 eI [(vI wv_1.f_camps)] wv_1.f_can) (.tup [(vL eI r.1),(vB r.2)]) (fU 2 1 eI [(vI wv_1.f_camps)] wv_1.f_can):=by
 refine FnM.of_wHg (cs:=[(vI wv_1.f_camps)]) ⟨Tryz.prog,87,[33],[]⟩ rfl Tryz.func53 rfl rfl (lb_ rfl) (by kernel_rfl) ?_
 unfold kK at hF
 refine ai (aa .nil (aa (vB false) (ah (ai (aa (.ref (av 0) 0 0) (aa (.ref (av 0) 0 0) (aG oM rfl 0 rfl wz (aF 0 0 il ft xX x9 rfl rfl (.vs (av 1) 1 0 wv_1.f_can.length) rfl wz (Gg un104 rfl wz ?_)))))))))
 obtain ⟨m_4,hm_5,hF⟩:=bind_some hF
 refine ES (enc:=eI) 0 (.inl rfl) 0 JF sz3 z3 by3 rfl rfl (by decide) rfl rfl rfl hm_5 wz (λn_6=>vC (C0:=([((av 0),some (.cells 2 [(.vs (av 1) 1 0 wv_1.f_can.length),(vI wv_1.f_camps)])),((av 1),some (.cells 1 (aL 1 bN wv_1.f_can)))]:Hp)) (T:=(aR 1 eI bN wv_1.f_can)) (X:=([(n_6,some (bV 1 eI (List.replicate m_4 (0:Int))))]:Hp)) (aa (vV n_6 1 (List.replicate m_4 (0:Int))) (ah (ak (ai (aa (vV n_6 1 (List.replicate m_4 (0:Int))) (MW ul rfl wz (aa (vI 0) (ah ?_)))))))))
 obtain ⟨o_15,hj_16,hF⟩:=bind_some hF
 obtain ⟨hn_11,hj_16⟩:=bv hj_16
 refine di (λ(s_12:List Int)=>[(0,(.ref (av 0) 0 0)),(1,(vI fromv_2)),(2,(vI tov_3)),(8,(vV n_6 1 s_12))]) (λ(s_12:List Int)=>(([((av 0),some (.cells 2 [(.vs (av 1) 1 0 wv_1.f_can.length),(vI wv_1.f_camps)])),((av 1),some (.cells 1 (aL 1 bN wv_1.f_can))),(n_6,some (bV 1 eI s_12))]:Hp)++(aR 1 eI bN wv_1.f_can))) (λ(k_7:Nat)=>(λ(s_12:List Int)=>[(0,(.ref (av 0) 0 0)),(1,(vI fromv_2)),(2,(vI tov_3)),(8,(vV n_6 1 s_12)),(20,(vI ((List.replicate m_4 (0:Int)).length:Int))),(21,(vI (k_7:Int)))])) (λk x s=>iW k x s) o_15 (List.range (((List.replicate m_4 (0:Int)).length:Int)).toNat) (List.replicate m_4 (0:Int)) hj_16 rfl (dD (C1:=([((av 0),some (.cells 2 [(.vs (av 1) 1 0 wv_1.f_can.length),(vI wv_1.f_camps)])),((av 1),some (.cells 1 (aL 1 bN wv_1.f_can))),(n_6,some (bV 1 eI (List.replicate m_4 (0:Int))))]:Hp)) (T:=(aR 1 eI bN wv_1.f_can)) [0,1,2] (by decide) rfl rfl) ?_ ?_
 ·rintro ⟨k_7,l_8,s_12⟩ ⟨hL_14,hD_10⟩
  dsimp only at hL_14 hD_10
  cases l_8 with
  | nil =>
   obtain rfl:=ae hL_14
   refine ai (aa (vB (decide ((k_7:Int)<((List.replicate m_4 (0:Int)).length:Int)))) (ah ?_))
   refine ak (aA rfl (xk hD_10) (aX ?_))
   exact aU (s_12) rfl rfl (dD (C1:=([((av 0),some (.cells 2 [(.vs (av 1) 1 0 wv_1.f_can.length),(vI wv_1.f_camps)])),((av 1),some (.cells 1 (aL 1 bN wv_1.f_can))),(n_6,some (bV 1 eI s_12))]:Hp)) (T:=(aR 1 eI bN wv_1.f_can)) [0,1,2] (by decide) rfl rfl)
  | cons x_9 l_8 =>
   obtain ⟨c_,hc_13,hL_14⟩:=bind_some hL_14
   refine ai (aa (vB (decide ((k_7:Int)<((List.replicate m_4 (0:Int)).length:Int)))) (ah ?_))
   refine ak (aB rfl (uW hD_10) (ax ?_))
   unfold iW at hc_13
   refine ak (aN (ai (aa (vI (k_7:Int)) (aa (vI (k_7:Int)) (ah (au (aa (vV n_6 1 s_12) (aa (vI (k_7:Int)) ?_))))))))
   obtain ⟨_,hi_17,hc_13⟩:=bind_some hc_13
   refine l7 ik rfl rfl (jl hi_17) (fO hi_17) wz ?_
   obtain ⟨e_18,hy_19,hc_13⟩:=bind_some hc_13
   refine Iw 0 il ft 2 sz3 rfl rfl hy_19 (-1) rfl wz (jV (v':=(vV n_6 1 (s_12.set (0+((k_7:Int)).toNat) (-1)))) 8 rfl (sP (by simp)) (jV (v':=(vV n_6 1 (s_12.set (0+((k_7:Int)).toNat) (-1)))) 24 rfl (sP (by simp)) (ah (au (eY (xD hD_10 hn_11) wz rfl (aa (vI ((k_7+1:Nat):Int)) (ah ?_)))))))
   obtain rfl:=ae hc_13
   exact aY (k_7+1,l_8,(s_12.set (0+((k_7:Int)).toNat) (-1))) ⟨hL_14,aZ hD_10⟩ (ls_ _) rfl (dD (C1:=([((av 0),some (.cells 2 [(.vs (av 1) 1 0 wv_1.f_can.length),(vI wv_1.f_camps)])),((av 1),some (.cells 1 (aL 1 bN wv_1.f_can))),(n_6,some (bV 1 eI (s_12.set (0+((k_7:Int)).toNat) (-1))))]:Hp)) (T:=(aR 1 eI bN wv_1.f_can)) [0,1,2] (by decide) rfl rfl)
 ·rintro s_12 ho_ sl_ H_ hp_ hq_
  subst ho_
  refine aO _ hp_ hq_ (ai (aa (vV n_6 1 s_12) (aa (vI fromv_2) (aa (vI fromv_2) ?_))))
  obtain ⟨_,hi_20,hF⟩:=bind_some hF
  refine l7 ik rfl rfl (jl hi_20) (fO hi_20) wz ?_
  obtain ⟨e_21,hy_22,hF⟩:=bind_some hF
  refine Iw 0 il ft 2 sz3 rfl rfl hy_22 fromv_2 rfl wz (jV (v':=(vV n_6 1 (s_12.set (0+(fromv_2).toNat) fromv_2))) 8 rfl (sP (by simp)) (jV (v':=(vV n_6 1 (s_12.set (0+(fromv_2).toNat) fromv_2))) 28 rfl (sP (by simp)) (ah (ak (ai (aa (vI fromv_2) (h_litv 0 (.inl rfl) (([fromv_2]:List Int).map eI) ik AA rfl rfl rfl rfl rfl wz (λn_23=>vC (C0:=([((av 0),some (.cells 2 [(.vs (av 1) 1 0 wv_1.f_can.length),(vI wv_1.f_camps)])),((av 1),some (.cells 1 (aL 1 bN wv_1.f_can))),(n_6,some (bV 1 eI (s_12.set (0+(fromv_2).toNat) fromv_2)))]:Hp)) (T:=(aR 1 eI bN wv_1.f_can)) (X:=([(n_23,some (bV 1 eI ([fromv_2]:List Int)))]:Hp)) (aa (vV n_23 1 ([fromv_2]:List Int)) (ah ?_))))))))))
  obtain ⟨o_34,hj_35,hF⟩:=bind_some hF
  obtain ⟨nq_90,hj_35⟩:=dz hj_35
  refine Cc (σ:=(List Int)×(List Int)×Nat) (N:=Nm) (λp=>(λ(s_29:(List Int)×(List Int)×Nat) (n_31:Nm)=>([(2,(vI tov_3)),(8,(vV n_6 1 s_29.1))]:SL_)) p.1 p.2) (λp=>(λ(s_29:(List Int)×(List Int)×Nat) (n_31:Nm)=>(([((av 0),some (.cells 2 [(.vs (av 1) 1 0 wv_1.f_can.length),(vI wv_1.f_camps)])),((av 1),some (.cells 1 (aL 1 bN wv_1.f_can))),(n_6,some (bV 1 eI s_29.1)),(n_31,some (bV 1 eI s_29.2.1))]:Hp)++(aR 1 eI bN wv_1.f_can))) p.1 p.2) (λ(k_24:Nat)=>(λp=>(λ(s_29:(List Int)×(List Int)×Nat) (n_31:Nm)=>([(0,(.ref (av 0) 0 0)),(2,(vI tov_3)),(8,(vV n_6 1 s_29.1)),(10,(qV n_31 1 s_29.2.1 s_29.2.2))]:SL_)) p.1 p.2)) (λs=>fE tov_3 wv_1 s) o_34 nq_90 (((s_12.set (0+(fromv_2).toNat) fromv_2),([fromv_2]:List Int),0),n_23) hj_35 rfl (dD (C1:=([((av 0),some (.cells 2 [(.vs (av 1) 1 0 wv_1.f_can.length),(vI wv_1.f_camps)])),((av 1),some (.cells 1 (aL 1 bN wv_1.f_can))),(n_6,some (bV 1 eI (s_12.set (0+(fromv_2).toNat) fromv_2))),(n_23,some (bV 1 eI ([fromv_2]:List Int)))]:Hp)) (T:=(aR 1 eI bN wv_1.f_can)) [0,1,2,3] (by decide) rfl rfl) ?_ ?_
  ·rintro ⟨k_24,s_29,n_31⟩ hL_33
   dsimp only at hL_33
   cases k_24 with
   | zero=>cases hL_33
   | succ k_24 =>
    obtain ⟨c_,hc_32,hL_33⟩:=bind_some hL_33
    unfold fE at hc_32
    refine ak (ak ?_)
    obtain ⟨v_36,h_37,hc_32⟩:=bind_some hc_32
    refine aP [(0,(.ref (av 0) 0 0)),(2,(vI tov_3)),(8,(vV n_6 1 s_29.1)),(10,(qV n_31 1 s_29.2.1 s_29.2.2)),(43,(vB v_36))] (([((av 0),some (.cells 2 [(.vs (av 1) 1 0 wv_1.f_can.length),(vI wv_1.f_camps)])),((av 1),some (.cells 1 (aL 1 bN wv_1.f_can))),(n_6,some (bV 1 eI s_29.1)),(n_31,some (bV 1 eI s_29.2.1))]:Hp)++(aR 1 eI bN wv_1.f_can)) ?_ ?_
    ·refine au (aa (qV n_31 1 s_29.2.1 s_29.2.2) (Gg ul rfl wz (aa (vB (decide ((((s_29.2.1.length-s_29.2.2):Nat):Int)>0))) ?_)))
     rcases aj h_37 with⟨hc_38,h_37⟩|⟨hc_38,h_37⟩
     ·refine aC rfl hc_38 wz (aH (vV n_6 1 s_29.1) wa rfl (aH (vI tov_3) wa rfl ?_))
      obtain ⟨_,hi_39,h_37⟩:=bind_some h_37
      refine l7 ik rfl rfl (jl hi_39) (fO hi_39) wa ?_
      obtain ⟨e_40,hy_41,h_37⟩:=bind_some h_37
      refine zl 0 2 il ft sz3 ag3 rfl rfl hy_41 (vI e_40) rfl wa (aH (vB (decide (e_40<0))) wa rfl (aa (vB (decide (e_40<0))) (ah ?_)))
      obtain rfl:=ae h_37
      exact aU () trivial rfl (dD (C1:=([((av 0),some (.cells 2 [(.vs (av 1) 1 0 wv_1.f_can.length),(vI wv_1.f_camps)])),((av 1),some (.cells 1 (aL 1 bN wv_1.f_can))),(n_6,some (bV 1 eI s_29.1)),(n_31,some (bV 1 eI s_29.2.1))]:Hp)) (T:=(aR 1 eI bN wv_1.f_can)) [0,1,2,3] (by decide) rfl rfl)
     ·refine aC rfl hc_38 wz (af (af (af (af (af (aa (vB false) (ah ?_)))))))
      obtain rfl:=ae h_37
      exact aU () trivial rfl (dD (C1:=([((av 0),some (.cells 2 [(.vs (av 1) 1 0 wv_1.f_can.length),(vI wv_1.f_camps)])),((av 1),some (.cells 1 (aL 1 bN wv_1.f_can))),(n_6,some (bV 1 eI s_29.1)),(n_31,some (bV 1 eI s_29.2.1))]:Hp)) (T:=(aR 1 eI bN wv_1.f_can)) [0,1,2,3] (by decide) rfl rfl)
    ·rintro ⟨⟩ _ sl_ H_ hp_ hq_
     refine aO _ hp_ hq_ ?_
     rcases aj hc_32 with⟨hc_42,hc_32⟩|⟨hc_42,hc_32⟩
     ·refine aB rfl hc_42 (ax (ak (aN (ak (bC (aa (.ref (av 0) 0 0) (aa (.ref (av 0) 0 0) (aG oM rfl 0 rfl wz (aF 3 0 (.inr (by kernel_rfl)) (λ_ _ ag=>trivial) xX x9 rfl rfl (.vs (av 1) 1 0 wv_1.f_can.length) rfl wz (aa (qV n_31 1 s_29.2.1 s_29.2.2) ?_))))))))))
      obtain ⟨_,hi_43,hc_32⟩:=bind_some hc_32
      refine l7 ik rfl rfl (tQ hi_43) (oC hi_43) wz ?_
      obtain ⟨e_44,hy_45,hc_32⟩:=bind_some hc_32
      refine zl 6 3 (.inr (by kernel_rfl)) (λ_ _ ag=>⟨.inl ⟨rfl,rfl⟩,trivial⟩) sz3 ag3 rfl rfl hy_45 (vI e_44) rfl wz ?_
      obtain ⟨_,hi_46,hc_32⟩:=bind_some hc_32
      refine l7 AY rfl rfl (tQ hi_46) (oC hi_46) wz ?_
      obtain ⟨r_47,hr_48,hc_32⟩:=bind_some hc_32
      refine yD 8 1 (.inr (by kernel_rfl)) (λ_ _ ag=>⟨.inl ⟨rfl,rfl⟩,⟨.inl ⟨rfl,rfl⟩,trivial⟩⟩) yj zM rfl rfl hr_48 wz (FD ul rfl wz (aa (vI 0) (ah ?_)))
      obtain ⟨o_59,hj_60,hc_32⟩:=bind_some hc_32
      obtain ⟨hn_53,hj_60⟩:=bv hj_60
      refine jk (σ:=(List Int)×(List Int)×Nat) (N:=Nm) (λp=>(λ(s_54:(List Int)×(List Int)×Nat) (n_56:Nm)=>([(0,(.ref (av 0) 0 0)),(2,(vI tov_3)),(8,(vV n_6 1 s_54.1)),(10,(qV n_56 1 s_54.2.1 s_54.2.2))]:SL_)) p.1 p.2) (λp=>(λ(s_54:(List Int)×(List Int)×Nat) (n_56:Nm)=>(([((av 0),some (.cells 2 [(.vs (av 1) 1 0 wv_1.f_can.length),(vI wv_1.f_camps)])),((av 1),some (.cells 1 (aL 1 bN wv_1.f_can))),(n_6,some (bV 1 eI s_54.1)),(n_56,some (bV 1 eI s_54.2.1))]:Hp)++(aR 1 eI bN wv_1.f_can))) p.1 p.2) (λ(k_49:Nat)=>(λp=>(λ(s_54:(List Int)×(List Int)×Nat) (n_56:Nm)=>([(0,(.ref (av 0) 0 0)),(2,(vI tov_3)),(8,(vV n_6 1 s_54.1)),(10,(qV n_56 1 s_54.2.1 s_54.2.2)),(54,(gV (bN (0+(e_44).toNat)) 1 r_47)),(55,(vI (r_47.length:Int))),(56,(vI (k_49:Int)))]:SL_)) p.1 p.2)) (λk x s=>gm r_47 wv_1 e_44 k x s) o_59 (List.range ((r_47.length:Int)).toNat) ((s_29.1,s_29.2.1,s_29.2.2),n_31) hj_60 rfl (dD (C1:=([((av 0),some (.cells 2 [(.vs (av 1) 1 0 wv_1.f_can.length),(vI wv_1.f_camps)])),((av 1),some (.cells 1 (aL 1 bN wv_1.f_can))),(n_6,some (bV 1 eI s_29.1)),(n_31,some (bV 1 eI s_29.2.1))]:Hp)) (T:=(aR 1 eI bN wv_1.f_can)) [0,1,2,3] (by decide) rfl rfl) ?_ ?_
      ·rintro ⟨k_49,l_50,s_54,n_56⟩ ⟨hL_58,hD_52⟩
       dsimp only at hL_58 hD_52
       cases l_50 with
       | nil =>
        obtain rfl:=ae hL_58
        refine ai (aa (vB (decide ((k_49:Int)<(r_47.length:Int)))) (ah ?_))
        refine ak (aA rfl (xk hD_52) (aX ?_))
        exact aU (s_54,n_56) rfl rfl (dD (C1:=([((av 0),some (.cells 2 [(.vs (av 1) 1 0 wv_1.f_can.length),(vI wv_1.f_camps)])),((av 1),some (.cells 1 (aL 1 bN wv_1.f_can))),(n_6,some (bV 1 eI s_54.1)),(n_56,some (bV 1 eI s_54.2.1))]:Hp)) (T:=(aR 1 eI bN wv_1.f_can)) [0,1,2,3] (by decide) rfl rfl)
       | cons x_51 l_50 =>
        obtain ⟨c_,hc_57,hL_58⟩:=bind_some hL_58
        refine ai (aa (vB (decide ((k_49:Int)<(r_47.length:Int)))) (ah ?_))
        refine ak (aB rfl (uW hD_52) (ax ?_))
        unfold gm at hc_57
        refine ak (aN (ai (aa (vI (k_49:Int)) ?_)))
        obtain ⟨_,hi_61,hc_57⟩:=bind_some hc_57
        refine nU ik rfl rfl (jl hi_61) (fO hi_61) wz ?_
        obtain ⟨r_62,hr_63,hc_57⟩:=bind_some hc_57
        obtain ⟨e_64,hy_65,hc_57⟩:=bind_some hc_57
        refine qx (H0:=(([((av 0),some (.cells 2 [(.vs (av 1) 1 0 wv_1.f_can.length),(vI wv_1.f_camps)])),((av 1),some (.cells 1 (aL 1 bN wv_1.f_can))),(n_6,some (bV 1 eI s_54.1)),(n_56,some (bV 1 eI s_54.2.1))]:Hp)++(aR 1 eI bN wv_1.f_can))) rfl (KA 0 il ft sz3 ag3 rfl hr_63 hy_65 (vI e_64) rfl wz (aa (vI (k_49:Int)) (aa (vI e_64) (ah (ak ?_)))))
        obtain ⟨v_66,h_67,hc_57⟩:=bind_some hc_57
        refine aP [(0,(.ref (av 0) 0 0)),(2,(vI tov_3)),(8,(vV n_6 1 s_54.1)),(10,(qV n_56 1 s_54.2.1 s_54.2.2)),(11,(vI (k_49:Int))),(54,(gV (bN (0+(e_44).toNat)) 1 r_47)),(55,(vI (r_47.length:Int))),(56,(vI (k_49:Int))),(69,(vB v_66))] (([((av 0),some (.cells 2 [(.vs (av 1) 1 0 wv_1.f_can.length),(vI wv_1.f_camps)])),((av 1),some (.cells 1 (aL 1 bN wv_1.f_can))),(n_6,some (bV 1 eI s_54.1)),(n_56,some (bV 1 eI s_54.2.1))]:Hp)++(aR 1 eI bN wv_1.f_can)) ?_ ?_
        ·refine au (aa (vI e_64) (aa (vB (decide (e_64>0))) ?_))
         rcases aj h_67 with⟨hc_68,h_67⟩|⟨hc_68,h_67⟩
         ·refine aC rfl hc_68 wz (aH (vV n_6 1 s_54.1) wa rfl (aH (vI (k_49:Int)) wa rfl ?_))
          obtain ⟨_,hi_69,h_67⟩:=bind_some h_67
          refine l7 ik rfl rfl (jl hi_69) (fO hi_69) wa ?_
          obtain ⟨e_70,hy_71,h_67⟩:=bind_some h_67
          refine zl 0 2 il ft sz3 ag3 rfl rfl hy_71 (vI e_70) rfl wa (aH (vB (decide (e_70<0))) wa rfl (aa (vB (decide (e_70<0))) (ah ?_)))
          obtain rfl:=ae h_67
          exact aU () trivial rfl (dD (C1:=([((av 0),some (.cells 2 [(.vs (av 1) 1 0 wv_1.f_can.length),(vI wv_1.f_camps)])),((av 1),some (.cells 1 (aL 1 bN wv_1.f_can))),(n_6,some (bV 1 eI s_54.1)),(n_56,some (bV 1 eI s_54.2.1))]:Hp)) (T:=(aR 1 eI bN wv_1.f_can)) [0,1,2,3] (by decide) rfl rfl)
         ·refine aC rfl hc_68 wz (af (af (af (af (af (aa (vB false) (ah ?_)))))))
          obtain rfl:=ae h_67
          exact aU () trivial rfl (dD (C1:=([((av 0),some (.cells 2 [(.vs (av 1) 1 0 wv_1.f_can.length),(vI wv_1.f_camps)])),((av 1),some (.cells 1 (aL 1 bN wv_1.f_can))),(n_6,some (bV 1 eI s_54.1)),(n_56,some (bV 1 eI s_54.2.1))]:Hp)) (T:=(aR 1 eI bN wv_1.f_can)) [0,1,2,3] (by decide) rfl rfl)
        ·rintro ⟨⟩ _ sl_ H_ hp_ hq_
         refine aO _ hp_ hq_ ?_
         obtain ⟨v_72,h_73,hc_57⟩:=bind_some hc_57
         refine j4 (β:=Nm) (λ(n_74:Nm)=>([(0,(.ref (av 0) 0 0)),(2,(vI tov_3)),(8,(vV n_6 1 v_72.1)),(10,(qV n_74 1 v_72.2.1 v_72.2.2)),(54,(gV (bN (0+(e_44).toNat)) 1 r_47)),(55,(vI (r_47.length:Int))),(56,(vI (k_49:Int)))]:SL_)) (λ(n_74:Nm)=>(([((av 0),some (.cells 2 [(.vs (av 1) 1 0 wv_1.f_can.length),(vI wv_1.f_camps)])),((av 1),some (.cells 1 (aL 1 bN wv_1.f_can))),(n_6,some (bV 1 eI v_72.1)),(n_74,some (bV 1 eI v_72.2.1))]:Hp)++(aR 1 eI bN wv_1.f_can))) (λ_=>True) ?_ ?_
         ·rcases aj h_73 with⟨hc_75,h_73⟩|⟨hc_75,h_73⟩
          ·refine aB rfl hc_75 (ai (aa (vV n_6 1 s_54.1) (aa (vI (k_49:Int)) (aa (qV n_56 1 s_54.2.1 s_54.2.2) ?_))))
           obtain ⟨_,hi_76,h_73⟩:=bind_some h_73
           refine l7 ik rfl rfl (tQ hi_76) (oC hi_76) wz ?_
           obtain ⟨e_77,hy_78,h_73⟩:=bind_some h_73
           refine zl 0 3 il ft sz3 ag3 rfl rfl hy_78 (vI e_77) rfl wz ?_
           obtain ⟨_,hi_79,h_73⟩:=bind_some h_73
           refine l7 ik rfl rfl (jl hi_79) (fO hi_79) wz ?_
           obtain ⟨e_80,hy_81,h_73⟩:=bind_some h_73
           refine Iw 0 il ft 2 sz3 rfl rfl hy_81 e_77 rfl wz (jV (v':=(vV n_6 1 (s_54.1.set (0+((k_49:Int)).toNat) e_77))) 8 rfl (sP (by simp)) (jV (v':=(vV n_6 1 (s_54.1.set (0+((k_49:Int)).toNat) e_77))) 70 rfl (sP (by simp)) (ah (au (aa (qV n_56 1 s_54.2.1 s_54.2.2) (aa (vI (k_49:Int)) (eZ (([(k_49:Int)]:List Int).map eI) ik AA rfl rfl rfl rfl rfl wz ?_)))))))
           obtain ⟨_,hk_85,h_73⟩:=bind_some h_73
           obtain ⟨a_82,hz_83,h_73⟩:=bind_some h_73
           refine h_appq 0 il ft (i:=3) JF JF sz3 z3 rfl (by decide) by3 (by decide) (λ_=>rfl) rfl (leN_le hk_85) rfl rfl (List.cons_ne_nil _ _) hz_83 wz (λn_84=>aa (vV n_84 1 a_82) (ah ?_))
           obtain rfl:=ae h_73
           exact aU n_84 trivial rfl (dD (C1:=([((av 0),some (.cells 2 [(.vs (av 1) 1 0 wv_1.f_can.length),(vI wv_1.f_camps)])),((av 1),some (.cells 1 (aL 1 bN wv_1.f_can))),(n_6,some (bV 1 eI (s_54.1.set (0+((k_49:Int)).toNat) e_77))),(n_84,some (bV 1 eI a_82))]:Hp)) (T:=(aR 1 eI bN wv_1.f_can)) [0,1,2,3] (by decide) rfl rfl)
          ·refine aA rfl hc_75 (ax ?_)
           obtain rfl:=ae h_73
           exact aU n_56 trivial rfl (dD (C1:=([((av 0),some (.cells 2 [(.vs (av 1) 1 0 wv_1.f_can.length),(vI wv_1.f_camps)])),((av 1),some (.cells 1 (aL 1 bN wv_1.f_can))),(n_6,some (bV 1 eI s_54.1)),(n_56,some (bV 1 eI s_54.2.1))]:Hp)) (T:=(aR 1 eI bN wv_1.f_can)) [0,1,2,3] (by decide) rfl rfl)
         ·rintro n_74 _ sl_ H_ hp_ hq_
          refine aO _ hp_ hq_ (au (eY (xD hD_52 hn_53) wz rfl (aa (vI ((k_49+1:Nat):Int)) (ah ?_))))
          obtain rfl:=ae hc_57
          exact aY (k_49+1,l_50,(v_72.1,v_72.2.1,v_72.2.2),n_74) ⟨hL_58,aZ hD_52⟩ (ls_ _) rfl (dD (C1:=([((av 0),some (.cells 2 [(.vs (av 1) 1 0 wv_1.f_can.length),(vI wv_1.f_camps)])),((av 1),some (.cells 1 (aL 1 bN wv_1.f_can))),(n_6,some (bV 1 eI v_72.1)),(n_74,some (bV 1 eI v_72.2.1))]:Hp)) (T:=(aR 1 eI bN wv_1.f_can)) [0,1,2,3] (by decide) rfl rfl)
      ·rintro ⟨s_54,n_56⟩ ho_ sl_ H_ hp_ hq_
       subst ho_
       refine aO _ hp_ hq_ (au (aa (qV n_56 1 s_54.2.1 s_54.2.2) ?_))
       obtain ⟨_,hl_86,hc_32⟩:=bind_some hc_32
       refine h_qpop (n:=n_56) (xs:=s_54.2.1) (k:=s_54.2.2) ul sz3 rfl (ltN_lt hl_86) wz (aa (qV n_56 1 s_54.2.1 (s_54.2.2+1)) (ah ?_))
       obtain rfl:=ae hc_32
       exact aY (k_24,(s_54.1,s_54.2.1,(s_54.2.2+1)),n_56) hL_33 (ls_ _) rfl (dD (C1:=([((av 0),some (.cells 2 [(.vs (av 1) 1 0 wv_1.f_can.length),(vI wv_1.f_camps)])),((av 1),some (.cells 1 (aL 1 bN wv_1.f_can))),(n_6,some (bV 1 eI s_54.1)),(n_56,some (bV 1 eI s_54.2.1))]:Hp)) (T:=(aR 1 eI bN wv_1.f_can)) [0,1,2,3] (by decide) rfl rfl)
     ·refine aA rfl hc_42 (aX ?_)
      obtain rfl:=ae hc_32
      obtain rfl:=ae hL_33
      exact aU ((s_29.1,s_29.2.1,s_29.2.2),n_31) rfl rfl (dD (C1:=([((av 0),some (.cells 2 [(.vs (av 1) 1 0 wv_1.f_can.length),(vI wv_1.f_camps)])),((av 1),some (.cells 1 (aL 1 bN wv_1.f_can))),(n_6,some (bV 1 eI s_29.1)),(n_31,some (bV 1 eI s_29.2.1))]:Hp)) (T:=(aR 1 eI bN wv_1.f_can)) [0,1,2,3] (by decide) rfl rfl)
  ·rintro ⟨s_29,n_31⟩ ho_ sl_ H_ hp_ hq_
   subst ho_
   refine aO _ hp_ hq_ (ak (bC (aa (vV n_6 1 s_29.1) (aa (vV n_6 1 s_29.1) (aa (vI tov_3) ?_)))))
   obtain ⟨_,hi_87,hF⟩:=bind_some hF
   refine l7 ik rfl rfl (jl hi_87) (fO hi_87) wz ?_
   obtain ⟨e_88,hy_89,hF⟩:=bind_some hF
   refine zl 4 2 (.inr (by kernel_rfl)) (λ_ _ ag=>trivial) sz3 ag3 rfl rfl hy_89 (vI e_88) rfl wz (aa (vB (decide (e_88>=0))) (aa (vV n_6 1 s_29.1) (aa (vB (decide (e_88>=0))) (ah (BJ 2 rfl (x8 6 2 rfl rfl (x8 8 2 rfl rfl (x8 81 2 rfl rfl (x8 82 2 rfl rfl ?_)))))))))
   obtain rfl:=ae hF
   exact ay (Kh (k:=2) (cs:=[(vI wv_1.f_camps)]) (cs':=[(vI wv_1.f_camps)]) (rows:=wv_1.f_can) (rows':=wv_1.f_can) ([(n_6,some (bF 1 eI s_29.1)),(n_31,some (bV 1 eI s_29.2.1))]:Hp) (.inr rfl) [(vL eI s_29.1),(vB (decide (e_88>=0)))] ⟨rfl,⟨rfl,trivial⟩⟩ rfl rfl rfl rfl rfl rfl)
theorem xG {wv_1:Web} {fromv_2:Int} {tov_3:Int} {most_4:Int} {r:Int×Web} (hF:iC wv_1 fromv_2 tov_3 most_4=some r) :
  FnM Tryz.prog 36 [(.ref (av 0) 0 0),(vI fromv_2),(vI tov_3),(vI most_4)] (kw 2 1 eI [(vI wv_1.f_camps)] wv_1.f_can) (vI r.1) (fU 2 1 eI [(vI r.2.f_camps)] r.2.f_can):=by
 refine FnM.of_wHg (cs:=[(vI wv_1.f_camps)]) ⟨Tryz.prog,97,[],[]⟩ rfl Tryz.func36 rfl rfl (lb_ rfl) (by kernel_rfl) ?_
 unfold iC at hF
 refine ai (aa (vI 0) (ah (ai (aa (vI 0) (ah (ak ?_))))))
 obtain ⟨o_13,hj_14,hF⟩:=bind_some hF
 obtain ⟨nq_89,hj_14⟩:=dz hj_14
 refine fo (λ(s_10:(List (List Int))×Int)=>[(9,(vI s_10.2))]) (λ(s_10:(List (List Int))×Int)=>(([((av 0),some (.cells 2 [(.vs (av 1) 1 0 wv_1.f_can.length),(vI wv_1.f_camps)])),((av 1),some (.cells 1 (aL 1 bN s_10.1)))]:Hp)++(aR 1 eI bN s_10.1))) (λ(k_5:Nat)=>(λ(s_10:(List (List Int))×Int)=>[(0,(.ref (av 0) 0 0)),(1,(vI fromv_2)),(2,(vI tov_3)),(3,(vI most_4)),(9,(vI s_10.2))])) (λs=>eO most_4 wv_1 fromv_2 tov_3 s) o_13 nq_89 (wv_1.f_can,0) hj_14 rfl (dD (C1:=([((av 0),some (.cells 2 [(.vs (av 1) 1 0 wv_1.f_can.length),(vI wv_1.f_camps)])),((av 1),some (.cells 1 (aL 1 bN wv_1.f_can)))]:Hp)) (T:=(aR 1 eI bN wv_1.f_can)) [0,1] (by decide) rfl rfl) ?_ ?_
 ·rintro ⟨k_5,s_10⟩ hL_12
  dsimp only at hL_12
  cases k_5 with
  | zero=>cases hL_12
  | succ k_5 =>
   obtain ⟨c_,hc_11,hL_12⟩:=bind_some hL_12
   unfold eO at hc_11
   refine ak (ai (aa (vI s_10.2) (aa (vI most_4) (aa (vB (decide (s_10.2<most_4))) (ah ?_)))))
   rcases aj hc_11 with⟨hc_15,hc_11⟩|⟨hc_15,hc_11⟩
   ·refine aB rfl hc_15 (ax (aN (ai (aa (.ref (av 0) 0 0) (aa (vI fromv_2) (aa (vI tov_3) ?_))))))
    obtain ⟨_,hn_18,hc_11⟩:=bind_some hc_11
    obtain ⟨_,hm_19,hc_11⟩:=bind_some hc_11
    obtain ⟨r_16,hr_17,hc_11⟩:=bind_some hc_11
    refine qx (H0:=(([((av 0),some (.cells 2 [(.vs (av 1) 1 0 wv_1.f_can.length),(vI wv_1.f_camps)])),((av 1),some (.cells 1 (aL 1 bN s_10.1)))]:Hp)++(aR 1 eI bN s_10.1))) rfl (vZ 0 0 1 il ft (yO hr_17) rfl hb53 rfl rfl (by decide) (vK hm_19) (yh hn_18) rfl (by kernel_rfl) (λ_=>by kernel_rfl) (by kernel_rfl) (by kernel_rfl) wz (aa (.tup [(vL eI r_16.1),(vB r_16.2)]) (aa (vL eI r_16.1) (aa (vB r_16.2) (aa (vL eI r_16.1) (aa (vB r_16.2) (ah (ak (ai (aa (vB r_16.2) (aa (vB (!r_16.2)) (ah ?_))))))))))))
    rcases aj hc_11 with⟨hc_20,hc_11⟩|⟨hc_20,hc_11⟩
    ·refine aB rfl hc_20 (aX ?_)
     obtain rfl:=ae hc_11
     obtain rfl:=ae hL_12
     exact aU ((s_10.1,s_10.2)) rfl rfl (dD (C1:=([((av 0),some (.cells 2 [(.vs (av 1) 1 0 wv_1.f_can.length),(vI wv_1.f_camps)])),((av 1),some (.cells 1 (aL 1 bN s_10.1)))]:Hp)) (T:=(aR 1 eI bN s_10.1)) [0,1] (by decide) rfl rfl)
    ·refine aA rfl hc_20 (ax (ai (aa (vI most_4) (aa (vI s_10.2) (aa (vI (w64 (most_4-s_10.2))) (aa (vI (w64 (most_4-s_10.2))) (ah (ak (ai (aa (vI tov_3) (aa (vI tov_3) (ah ?_))))))))))))
     obtain ⟨o_29,hj_30,hc_11⟩:=bind_some hc_11
     obtain ⟨nq_88,hj_30⟩:=dz hj_30
     refine fo (λ(s_26:Int×Int)=>[(0,(.ref (av 0) 0 0)),(1,(vI fromv_2)),(2,(vI tov_3)),(3,(vI most_4)),(9,(vI s_10.2)),(10,(vL eI r_16.1)),(12,(vI s_26.1))]) (λ(s_26:Int×Int)=>(([((av 0),some (.cells 2 [(.vs (av 1) 1 0 wv_1.f_can.length),(vI wv_1.f_camps)])),((av 1),some (.cells 1 (aL 1 bN s_10.1)))]:Hp)++(aR 1 eI bN s_10.1))) (λ(k_21:Nat)=>(λ(s_26:Int×Int)=>[(0,(.ref (av 0) 0 0)),(1,(vI fromv_2)),(2,(vI tov_3)),(3,(vI most_4)),(9,(vI s_10.2)),(10,(vL eI r_16.1)),(12,(vI s_26.1)),(13,(vI s_26.2))])) (λs=>eQ fromv_2 r_16 wv_1 s_10 s) o_29 nq_88 ((w64 (most_4-s_10.2)),tov_3) hj_30 rfl (dD (C1:=([((av 0),some (.cells 2 [(.vs (av 1) 1 0 wv_1.f_can.length),(vI wv_1.f_camps)])),((av 1),some (.cells 1 (aL 1 bN s_10.1)))]:Hp)) (T:=(aR 1 eI bN s_10.1)) [0,1] (by decide) rfl rfl) ?_ ?_
     ·rintro ⟨k_21,s_26⟩ hL_28
      dsimp only at hL_28
      cases k_21 with
      | zero=>cases hL_28
      | succ k_21 =>
       obtain ⟨c_,hc_27,hL_28⟩:=bind_some hL_28
       unfold eQ at hc_27
       refine ak (ai (aa (vI s_26.2) (aa (vI fromv_2) (aa (vB (s_26.2 != fromv_2)) (ah ?_)))))
       rcases aj hc_27 with⟨hc_31,hc_27⟩|⟨hc_31,hc_27⟩
       ·refine aB rfl hc_31 (ax (ak (aN (bC (aa (vI s_26.1) (aa (.ref (av 0) 0 0) (aa (.ref (av 0) 0 0) (aG oM rfl 0 rfl wz (aF 4 0 (.inr (by kernel_rfl)) (λ_ _ ag=>trivial) xX x9 rfl rfl (.vs (av 1) 1 0 wv_1.f_can.length) rfl wz (aa (vL eI r_16.1) (aa (vI s_26.2) ?_)))))))))))
        obtain ⟨y_32,hy_33,hc_27⟩:=bind_some hc_27
        refine dR ik rfl rfl hy_33 rfl wz (bQ sz3 ag3 rfl (vI y_32) rfl wz ?_)
        obtain ⟨_,hi_34,hc_27⟩:=bind_some hc_27
        refine l7 AY rfl rfl (tQ hi_34) (oC hi_34) wz ?_
        obtain ⟨r_35,hr_36,hc_27⟩:=bind_some hc_27
        refine yD 10 1 (.inr (by kernel_rfl)) (λ_ _ ag=>⟨.inl ⟨rfl,rfl⟩,trivial⟩) yj zM rfl rfl hr_36 wz (aa (vI s_26.2) ?_)
        obtain ⟨_,hi_37,hc_27⟩:=bind_some hc_27
        refine nU ik rfl rfl (jl hi_37) (fO hi_37) wz ?_
        obtain ⟨r_38,hr_39,hc_27⟩:=bind_some hc_27
        obtain ⟨e_40,hy_41,hc_27⟩:=bind_some hc_27
        refine qx (H0:=(([((av 0),some (.cells 2 [(.vs (av 1) 1 0 wv_1.f_can.length),(vI wv_1.f_camps)])),((av 1),some (.cells 1 (aL 1 bN s_10.1)))]:Hp)++(aR 1 eI bN s_10.1))) rfl (KA 13 (.inr (by kernel_rfl)) (λ_ _ ag=>⟨.inl ⟨rfl,rfl⟩,⟨.inl ⟨rfl,rfl⟩,trivial⟩⟩) sz3 ag3 rfl hr_39 hy_41 (vI e_40) rfl wz (pG (vI (sN s_26.1 e_40)) rfl (.inl rfl) wz (aa (vI (sN s_26.1 e_40)) (ah (au (aa (vL eI r_16.1) (aa (vI s_26.2) ?_)))))))
        obtain ⟨y_42,hy_43,hc_27⟩:=bind_some hc_27
        refine dR ik rfl rfl hy_43 rfl wz (bQ sz3 ag3 rfl (vI y_42) rfl wz (aa (vI y_42) (ah ?_)))
        obtain rfl:=ae hc_27
        exact aY (k_21,((sN s_26.1 e_40),y_42)) hL_28 (ls_ _) rfl (dD (C1:=([((av 0),some (.cells 2 [(.vs (av 1) 1 0 wv_1.f_can.length),(vI wv_1.f_camps)])),((av 1),some (.cells 1 (aL 1 bN s_10.1)))]:Hp)) (T:=(aR 1 eI bN s_10.1)) [0,1] (by decide) rfl rfl)
       ·refine aA rfl hc_31 (aX ?_)
        obtain rfl:=ae hc_27
        obtain rfl:=ae hL_28
        exact aU ((s_26.1,s_26.2)) rfl rfl (dD (C1:=([((av 0),some (.cells 2 [(.vs (av 1) 1 0 wv_1.f_can.length),(vI wv_1.f_camps)])),((av 1),some (.cells 1 (aL 1 bN s_10.1)))]:Hp)) (T:=(aR 1 eI bN s_10.1)) [0,1] (by decide) rfl rfl)
     ·rintro s_26 ho_ sl_ H_ hp_ hq_
      subst ho_
      refine aO _ hp_ hq_ (ak (ai (aa (vI tov_3) (aa (vI tov_3) (ah ?_)))))
      obtain ⟨o_52,hj_53,hc_11⟩:=bind_some hc_11
      obtain ⟨nq_87,hj_53⟩:=dz hj_53
      refine fo (λ(s_49:(List (List Int))×Int)=>[(0,(.ref (av 0) 0 0)),(1,(vI fromv_2)),(2,(vI tov_3)),(3,(vI most_4)),(9,(vI s_10.2)),(12,(vI s_26.1))]) (λ(s_49:(List (List Int))×Int)=>(([((av 0),some (.cells 2 [(.vs (av 1) 1 0 wv_1.f_can.length),(vI wv_1.f_camps)])),((av 1),some (.cells 1 (aL 1 bN s_49.1)))]:Hp)++(aR 1 eI bN s_49.1))) (λ(k_44:Nat)=>(λ(s_49:(List (List Int))×Int)=>[(0,(.ref (av 0) 0 0)),(1,(vI fromv_2)),(2,(vI tov_3)),(3,(vI most_4)),(9,(vI s_10.2)),(10,(vL eI r_16.1)),(12,(vI s_26.1)),(14,(vI s_49.2))])) (λs=>eP fromv_2 r_16 wv_1 s_26 s) o_52 nq_87 (s_10.1,tov_3) hj_53 rfl (dD (C1:=([((av 0),some (.cells 2 [(.vs (av 1) 1 0 wv_1.f_can.length),(vI wv_1.f_camps)])),((av 1),some (.cells 1 (aL 1 bN s_10.1)))]:Hp)) (T:=(aR 1 eI bN s_10.1)) [0,1] (by decide) rfl rfl) ?_ ?_
      ·rintro ⟨k_44,s_49⟩ hL_51
       dsimp only at hL_51
       cases k_44 with
       | zero=>cases hL_51
       | succ k_44 =>
        obtain ⟨c_,hc_50,hL_51⟩:=bind_some hL_51
        unfold eP at hc_50
        refine ak (ai (aa (vI s_49.2) (aa (vI fromv_2) (aa (vB (s_49.2 != fromv_2)) (ah ?_)))))
        rcases aj hc_50 with⟨hc_54,hc_50⟩|⟨hc_54,hc_50⟩
        ·refine aB rfl hc_54 (ax (ak (aN (ak (bC (aa (.ref (av 0) 0 0) (aa (.ref (av 0) 0 0) (aG oM rfl 0 rfl wz (aF 3 0 (.inr (by kernel_rfl)) (λ_ _ ag=>trivial) xX x9 rfl rfl (.vs (av 1) 1 0 wv_1.f_can.length) rfl wz (aa (vL eI r_16.1) (aa (vI s_49.2) ?_)))))))))))
         obtain ⟨y_55,hy_56,hc_50⟩:=bind_some hc_50
         refine dR ik rfl rfl hy_56 rfl wz (bQ sz3 ag3 rfl (vI y_55) rfl wz ?_)
         obtain ⟨_,hi_57,hc_50⟩:=bind_some hc_50
         refine l7 AY rfl rfl (tQ hi_57) (oC hi_57) wz ?_
         obtain ⟨r_58,hr_59,hc_50⟩:=bind_some hc_50
         refine yD 9 1 (.inr (by kernel_rfl)) (λ_ _ ag=>⟨.inl ⟨rfl,rfl⟩,trivial⟩) yj zM rfl rfl hr_59 wz (aa (vI s_49.2) ?_)
         obtain ⟨_,hi_60,hc_50⟩:=bind_some hc_50
         refine nU ik rfl rfl (jl hi_60) (fO hi_60) wz ?_
         obtain ⟨r_61,hr_62,hc_50⟩:=bind_some hc_50
         obtain ⟨e_63,hy_64,hc_50⟩:=bind_some hc_50
         refine qx (H0:=(([((av 0),some (.cells 2 [(.vs (av 1) 1 0 wv_1.f_can.length),(vI wv_1.f_camps)])),((av 1),some (.cells 1 (aL 1 bN s_49.1)))]:Hp)++(aR 1 eI bN s_49.1))) rfl (KA 12 (.inr (by kernel_rfl)) (λ_ _ ag=>⟨.inl ⟨rfl,rfl⟩,⟨.inl ⟨rfl,rfl⟩,trivial⟩⟩) sz3 ag3 rfl hr_62 hy_64 (vI e_63) rfl wz (aa (vI s_26.1) (aa (vI (w64 (e_63-s_26.1))) ?_)))
         obtain ⟨_,hi_65,hc_50⟩:=bind_some hc_50
         refine nU ik rfl rfl (jl hi_65) (fO hi_65) wz ?_
         obtain ⟨r_66,hr_67,hc_50⟩:=bind_some hc_50
         obtain ⟨e_68,hy_69,hc_50⟩:=bind_some hc_50
         refine qx (H0:=(([((av 0),some (.cells 2 [(.vs (av 1) 1 0 wv_1.f_can.length),(vI wv_1.f_camps)])),((av 1),some (.cells 1 (aL 1 bN s_49.1)))]:Hp)++(aR 1 eI bN s_49.1))) rfl (Hq 16 (.inr (by kernel_rfl)) (λ_ _ ag=>⟨.inr (.inr (by kernel_rfl)),⟨.inr (.inr (by kernel_rfl)),⟨.inr (.inr (by kernel_rfl)),trivial⟩⟩⟩) sz3 rfl hr_67 hy_69 (w64 (e_63-s_26.1)) rfl wz (A9 (b':=some (.cells 1 (aL 1 bN (s_49.1.set (0+(y_55).toNat) (r_66.set (0+(s_49.2).toNat) (w64 (e_63-s_26.1))))))) 1 rfl (zn hr_67) (ah (bC (aa (.ref (av 0) 0 0) (aa (.ref (av 0) 0 0) (aG oM rfl 0 rfl wz (aF 3 0 (.inr (by kernel_rfl)) (λ_ _ ag=>trivial) xX x9 rfl rfl (.vs (av 1) 1 0 wv_1.f_can.length) rfl wz (aa (vI s_49.2) ?_)))))))))
         obtain ⟨_,hi_70,hc_50⟩:=bind_some hc_50
         refine l7 AY rfl rfl (tQ hi_70) (oC hi_70) wz ?_
         obtain ⟨r_71,hr_72,hc_50⟩:=bind_some hc_50
         refine yD 6 1 (.inr (by kernel_rfl)) (λ_ _ ag=>⟨.inl ⟨rfl,rfl⟩,trivial⟩) yj zM rfl rfl hr_72 wz (aa (vL eI r_16.1) (aa (vI s_49.2) ?_))
         obtain ⟨y_73,hy_74,hc_50⟩:=bind_some hc_50
         refine dR ik rfl rfl hy_74 rfl wz (bQ sz3 ag3 rfl (vI y_73) rfl wz ?_)
         obtain ⟨_,hi_75,hc_50⟩:=bind_some hc_50
         refine nU ik rfl rfl (jl hi_75) (fO hi_75) wz ?_
         obtain ⟨r_76,hr_77,hc_50⟩:=bind_some hc_50
         obtain ⟨e_78,hy_79,hc_50⟩:=bind_some hc_50
         refine qx (H0:=(([((av 0),some (.cells 2 [(.vs (av 1) 1 0 wv_1.f_can.length),(vI wv_1.f_camps)])),((av 1),some (.cells 1 (aL 1 bN (s_49.1.set (0+(y_55).toNat) (r_66.set (0+(s_49.2).toNat) (w64 (e_63-s_26.1)))))))]:Hp)++(aR 1 eI bN (s_49.1.set (0+(y_55).toNat) (r_66.set (0+(s_49.2).toNat) (w64 (e_63-s_26.1))))))) rfl (KA 12 (.inr (by kernel_rfl)) (λ_ _ ag=>⟨.inl ⟨rfl,rfl⟩,⟨.inl ⟨rfl,rfl⟩,trivial⟩⟩) sz3 ag3 rfl hr_77 hy_79 (vI e_78) rfl wz (aa (vI s_26.1) (aa (vI (w64 (e_78+s_26.1))) ?_)))
         obtain ⟨_,hi_80,hc_50⟩:=bind_some hc_50
         refine nU ik rfl rfl (jl hi_80) (fO hi_80) wz ?_
         obtain ⟨r_81,hr_82,hc_50⟩:=bind_some hc_50
         obtain ⟨e_83,hy_84,hc_50⟩:=bind_some hc_50
         refine qx (H0:=(([((av 0),some (.cells 2 [(.vs (av 1) 1 0 wv_1.f_can.length),(vI wv_1.f_camps)])),((av 1),some (.cells 1 (aL 1 bN (s_49.1.set (0+(y_55).toNat) (r_66.set (0+(s_49.2).toNat) (w64 (e_63-s_26.1)))))))]:Hp)++(aR 1 eI bN (s_49.1.set (0+(y_55).toNat) (r_66.set (0+(s_49.2).toNat) (w64 (e_63-s_26.1))))))) rfl (Hq 16 (.inr (by kernel_rfl)) (λ_ _ ag=>⟨.inr (.inr (by kernel_rfl)),⟨.inr (.inr (by kernel_rfl)),⟨.inr (.inr (by kernel_rfl)),trivial⟩⟩⟩) sz3 rfl hr_82 hy_84 (w64 (e_78+s_26.1)) rfl wz (A9 (b':=some (.cells 1 (aL 1 bN ((s_49.1.set (0+(y_55).toNat) (r_66.set (0+(s_49.2).toNat) (w64 (e_63-s_26.1)))).set (0+(s_49.2).toNat) (r_81.set (0+(y_73).toNat) (w64 (e_78+s_26.1))))))) 1 rfl (zn hr_82) (ah (aO (H0:=(([((av 0),some (.cells 2 [(.vs (av 1) 1 0 wv_1.f_can.length),(vI wv_1.f_camps)])),((av 1),some (.cells 1 (aL 1 bN ((s_49.1.set (0+(y_55).toNat) (r_66.set (0+(s_49.2).toNat) (w64 (e_63-s_26.1)))).set (0+(s_49.2).toNat) (r_81.set (0+(y_73).toNat) (w64 (e_78+s_26.1)))))))]:Hp)++(aR 1 eI bN ((s_49.1.set (0+(y_55).toNat) (r_66.set (0+(s_49.2).toNat) (w64 (e_63-s_26.1)))).set (0+(s_49.2).toNat) (r_81.set (0+(y_73).toNat) (w64 (e_78+s_26.1))))))) ([(0,(.ref (av 0) 0 0)),(1,(vI fromv_2)),(2,(vI tov_3)),(3,(vI most_4)),(9,(vI s_10.2)),(10,(vL eI r_16.1)),(12,(vI s_26.1)),(14,(vI s_49.2))]:SL_) (by kernel_rfl) (dD (C1:=([((av 0),some (.cells 2 [(.vs (av 1) 1 0 wv_1.f_can.length),(vI wv_1.f_camps)])),((av 1),some (.cells 1 (aL 1 bN ((s_49.1.set (0+(y_55).toNat) (r_66.set (0+(s_49.2).toNat) (w64 (e_63-s_26.1)))).set (0+(s_49.2).toNat) (r_81.set (0+(y_73).toNat) (w64 (e_78+s_26.1)))))))]:Hp)) (T:=(aR 1 eI bN ((s_49.1.set (0+(y_55).toNat) (r_66.set (0+(s_49.2).toNat) (w64 (e_63-s_26.1)))).set (0+(s_49.2).toNat) (r_81.set (0+(y_73).toNat) (w64 (e_78+s_26.1)))))) [0,1] (by decide) (by kernel_rfl) (by kernel_rfl)) (au (aa (vL eI r_16.1) (aa (vI s_49.2) ?_)))))))
         obtain ⟨y_85,hy_86,hc_50⟩:=bind_some hc_50
         refine dR ik rfl rfl hy_86 rfl wz (bQ sz3 ag3 rfl (vI y_85) rfl wz (aa (vI y_85) (ah ?_)))
         obtain rfl:=ae hc_50
         exact aY (k_44,(((s_49.1.set (0+(y_55).toNat) (r_66.set (0+(s_49.2).toNat) (w64 (e_63-s_26.1)))).set (0+(s_49.2).toNat) (r_81.set (0+(y_73).toNat) (w64 (e_78+s_26.1)))),y_85)) hL_51 (ls_ _) rfl (dD (C1:=([((av 0),some (.cells 2 [(.vs (av 1) 1 0 wv_1.f_can.length),(vI wv_1.f_camps)])),((av 1),some (.cells 1 (aL 1 bN ((s_49.1.set (0+(y_55).toNat) (r_66.set (0+(s_49.2).toNat) (w64 (e_63-s_26.1)))).set (0+(s_49.2).toNat) (r_81.set (0+(y_73).toNat) (w64 (e_78+s_26.1)))))))]:Hp)) (T:=(aR 1 eI bN ((s_49.1.set (0+(y_55).toNat) (r_66.set (0+(s_49.2).toNat) (w64 (e_63-s_26.1)))).set (0+(s_49.2).toNat) (r_81.set (0+(y_73).toNat) (w64 (e_78+s_26.1)))))) [0,1] (by decide) rfl rfl)
        ·refine aA rfl hc_54 (aX ?_)
         obtain rfl:=ae hc_50
         obtain rfl:=ae hL_51
         exact aU ((s_49.1,s_49.2)) rfl rfl (dD (C1:=([((av 0),some (.cells 2 [(.vs (av 1) 1 0 wv_1.f_can.length),(vI wv_1.f_camps)])),((av 1),some (.cells 1 (aL 1 bN s_49.1)))]:Hp)) (T:=(aR 1 eI bN s_49.1)) [0,1] (by decide) rfl rfl)
      ·rintro s_49 ho_ sl_ H_ hp_ hq_
       subst ho_
       refine aO _ hp_ hq_ (au (aa (vI s_10.2) (aa (vI s_26.1) (aa (vI (w64 (s_10.2+s_26.1))) (aa (vI (w64 (s_10.2+s_26.1))) (ah ?_))))))
       obtain rfl:=ae hc_11
       exact aY (k_5,(s_49.1,(w64 (s_10.2+s_26.1)))) hL_12 (ls_ _) rfl (dD (C1:=([((av 0),some (.cells 2 [(.vs (av 1) 1 0 wv_1.f_can.length),(vI wv_1.f_camps)])),((av 1),some (.cells 1 (aL 1 bN s_49.1)))]:Hp)) (T:=(aR 1 eI bN s_49.1)) [0,1] (by decide) rfl rfl)
   ·refine aA rfl hc_15 (aX ?_)
    obtain rfl:=ae hc_11
    obtain rfl:=ae hL_12
    exact aU ((s_10.1,s_10.2)) rfl rfl (dD (C1:=([((av 0),some (.cells 2 [(.vs (av 1) 1 0 wv_1.f_can.length),(vI wv_1.f_camps)])),((av 1),some (.cells 1 (aL 1 bN s_10.1)))]:Hp)) (T:=(aR 1 eI bN s_10.1)) [0,1] (by decide) rfl rfl)
 ·rintro s_10 ho_ sl_ H_ hp_ hq_
  subst ho_
  refine aO _ hp_ hq_ (ai (aa (vI s_10.2) (aa (vI s_10.2) (ah ?_))))
  obtain ⟨_,hk_,hF⟩:=bind_some hF
  obtain rfl:=ae hF
  exact ay (Kh (k:=2) (cs:=[(vI wv_1.f_camps)]) (cs':=[(vI wv_1.f_camps)]) (rows:=wv_1.f_can) (rows':=s_10.1) ([]:Hp) (.inr rfl) [(vI s_10.2)] ⟨rfl,trivial⟩ rfl rfl rfl rfl (tT hk_) rfl)
theorem qf {spots_1:(List Spot)} {l_2:(List Campaign)} {r:Int} (hF:jf spots_1 l_2=some r) :
  FnM Tryz.prog 21 [(vL Spot.enc spots_1),(vL Campaign.enc l_2)] [] (vI r) []:=by
 refine FnM.of_wH ⟨Tryz.prog,9,[],[]⟩ rfl Tryz.func21 rfl rfl (lb_ rfl) (by kernel_rfl) ?_
 unfold jf at hF
 refine ai (aa (vI 0) (ah (ai (aa (vL Spot.enc spots_1) (aa (vL Campaign.enc l_2) ?_)))))
 obtain ⟨r_3,hr_4,hF⟩:=bind_some hF
 obtain ⟨_,hn_8,hF⟩:=bind_some hF
 refine NW (zu hr_4) rfl hb35 (yh hn_8) rfl (by kernel_rfl) (by kernel_rfl) (by kernel_rfl) wz (λn_5 n_6 ns_7 => ?_)
 obtain ⟨_,hn_11,hF⟩:=bind_some hF
 obtain ⟨_,hm_12,hF⟩:=bind_some hF
 obtain ⟨r_9,hr_10,hF⟩:=bind_some hF
 obtain ⟨_,hs_13,hF⟩:=bind_some hF
 refine qx (H0:=(([(n_5,some (.cells 2 [(.vs n_6 1 0 r_3.f_can.length),(vI r_3.f_camps)])),(n_6,some (.cells 1 (aL 1 ns_7 r_3.f_can)))]:Hp)++(aR 1 eI ns_7 r_3.f_can))) rfl (Nb 0 0 1 il ft (xG hr_10) rfl hb36 rfl rfl (by decide) (vK hm_12) (yh hn_11) (tT hs_13) rfl rfl (by kernel_rfl) (λ_=>by kernel_rfl) (by kernel_rfl) (by kernel_rfl) wz (aa (vI r_9.1) (ah ?_)))
 obtain rfl:=ae hF
 exact ay (aJ [(vI r_9.1)] ⟨rfl,trivial⟩)
theorem dJ {s_1:(List Campaign)} {r:(List Campaign)} (hF:bA s_1=some r) :
  FnM Tryz.prog 11 [(vL Campaign.enc s_1)] [] (gV (av 0) 8 r) (([]:List Box).map some++gO 8 Campaign.enc r):=by
 refine FnM.of_wH ⟨Tryz.prog,8,[],[]⟩ rfl Tryz.func11 rfl rfl (lb_ rfl) (by kernel_rfl) ?_
 unfold bA at hF
 refine ai (aa .nil (ah (ak (ai (aa (vL Campaign.enc s_1) (h_nileq Ha rfl wz (λb_2 hb_3=>ah ?_)))))))
 cases b_2 with
 | true =>
  refine aB rfl rfl ?_
  obtain rfl:=hb_3 rfl
  replace hF:=Lp hF
  refine ai (aa .nil (ah (ou (λn_4 => ?_))))
  obtain rfl:=ae hF
  exact ay (finG (outs:=([]:List Box)) (.inr rfl) 0 rfl rfl rfl (by kernel_rfl) (by kernel_rfl))
 | false =>
  refine aA rfl rfl (ax (ai (h_lit0 zU GR rfl wz (aa (vL Campaign.enc s_1) ?_))))
  obtain ⟨a_5,hz_6,hF⟩:=bind_some hF
  refine h_appn 0 (.inl rfl) Ei Ei pg z35 rfl (by decide) MR (by decide) (λ_=>rfl) rfl rfl hz_6 wz (λn_7=>aa (gV n_7 8 a_5) (ah ?_))
  obtain rfl:=ae hF
  exact ay (finG (outs:=([]:List Box)) (.inr rfl) 0 rfl rfl rfl (by kernel_rfl) (by kernel_rfl))
theorem Bv {spots_1:(List Spot)} {l_2:(List Campaign)} {c_3:Campaign} {r:Int×Int} (hF:kg spots_1 l_2 c_3=some r) :
  FnM Tryz.prog 7 [(vL Spot.enc spots_1),(vL Campaign.enc l_2),(.d (.agg (Campaign.enc c_3)))] [] (.tup [(vI r.1),(vI r.2)]) []:=by
 refine FnM.of_wH ⟨Tryz.prog,43,[],[]⟩ rfl Tryz.func7 rfl rfl (lb_ rfl) (by kernel_rfl) ?_
 unfold kg at hF
 refine ai (gQ 0 (.inl rfl) (Campaign.v c_3) rfl rfl wz (λn_4=>aa (vI 0) (aa (vI 0) (ah (ak (ai (aa (vL Spot.enc spots_1) (aa (vL Campaign.enc l_2) ?_))))))))
 obtain ⟨r_5,hr_6,hF⟩:=bind_some hF
 refine aD (lH hr_6) rfl hb16 rfl rfl rfl rfl wz (aa (vI r_5) (ah (ai (aa (vI r_5) (aa (vB (r_5 != 0)) (ah ?_))))))
 rcases aj hF with⟨hc_7,hF⟩|⟨hc_7,hF⟩
 ·refine aB rfl hc_7 (ai (aa (vI r_5) (aa (vI 0) (aa (vI r_5) (ah ?_)))))
  obtain rfl:=ae hF
  exact ay (aJ [(vI 0),(vI r_5)] ⟨rfl,⟨rfl,trivial⟩⟩)
 ·refine aA rfl hc_7 (ax (ak (ai (aF 0 0 il ft pg xP rfl rfl (.d (.agg (Campaign.enc c_3))) rfl wz (eZ (([c_3]:List Campaign).map Campaign.enc) zU GR rfl rfl rfl rfl rfl wz ?_)))))
  obtain ⟨r_8,hr_9,hF⟩:=bind_some hF
  refine aD (ja hr_9) rfl hb17 rfl rfl rfl rfl wz (aa (vI r_8) (ah (ai (aa (vI r_8) (aa (vB (r_8 != 0)) (ah ?_))))))
  rcases aj hF with⟨hc_10,hF⟩|⟨hc_10,hF⟩
  ·refine aB rfl hc_10 (ai (aa (vI r_8) (aa (vI 0) (aa (vI r_8) (ah ?_)))))
   obtain rfl:=ae hF
   exact ay (aJ [(vI 0),(vI r_8)] ⟨rfl,⟨rfl,trivial⟩⟩)
  ·refine aA rfl hc_10 (ax (ak (ai (aa (vL Campaign.enc l_2) (aa (.fn 19 [(.ref n_4 0 0)]) ?_)))))
   obtain ⟨r_11,hr_12,hF⟩:=bind_some hF
   refine gz 0 [0] il ft (jc (gid:=19) (caps:=[.ref (av 0) 0 0]) (Sin:=[(.cells 8 (Campaign.v c_3))]) (λ_ _ h_=>zh h_) hb19 ⟨rfl,rfl⟩ (by kernel_rfl) (Nz (by kernel_rfl)) (KL (by kernel_rfl)) hr_12) rfl hb18 rfl (by kernel_rfl) (by kernel_rfl) (by kernel_rfl) (by kernel_rfl) (by kernel_rfl) (by kernel_rfl) (by kernel_rfl) (by decide) (by kernel_rfl) wz (vB r_11) (by kernel_rfl) ([(n_4,some (.cells 8 (Campaign.v c_3)))]:Hp) (by kernel_rfl) (ah ?_)
   rcases aj hF with⟨hc_14,hF⟩|⟨hc_14,hF⟩
   ·refine aB rfl hc_14 (ai (aa (vI 0) (aa (vI 6) (ah ?_))))
    obtain rfl:=ae hF
    exact ay (aJ [(vI 0),(vI 6)] ⟨rfl,⟨rfl,trivial⟩⟩)
   ·refine aA rfl hc_14 (ax (ai (aa (vL Campaign.enc l_2) ?_)))
    obtain ⟨r_15,hr_16,hF⟩:=bind_some hF
    refine aD (uB hr_16) rfl hb20 rfl rfl rfl rfl wz (aa (vI r_15) (ah (ak (ai (aa (vL Spot.enc spots_1) (aa (vL Campaign.enc l_2) ?_))))))
    obtain ⟨r_17,hr_18,hF⟩:=bind_some hF
    refine aD (qf hr_18) rfl hb21 rfl rfl rfl rfl wz (aa (vI r_15) (aa (vB (decide (r_17<r_15))) (ah ?_)))
    rcases aj hF with⟨hc_19,hF⟩|⟨hc_19,hF⟩
    ·refine aB rfl hc_19 (ai (aa (vI 0) (aa (vI 12) (ah ?_))))
     obtain rfl:=ae hF
     exact ay (aJ [(vI 0),(vI 12)] ⟨rfl,⟨rfl,trivial⟩⟩)
    ·refine aA rfl hc_19 (ax (ai (aG wM rfl 5 rfl wz (fP 0 il ft 0 sz3 rfl rfl [(vS c_3.Key),(vS c_3.Class),(vI c_3.Time.From),(vI c_3.Time.To),(vL eS c_3.Tags),(vI 1000000),(vI c_3.Most),(vI c_3.Cents)] rfl wz (ah (ak (bC (aa (vL Spot.enc spots_1) (aa (vL Campaign.enc l_2) ?_)))))))))
     obtain ⟨r_20,hr_21,hF⟩:=bind_some hF
     refine Dm 2 (.inr (by kernel_rfl)) (dJ hr_21) rfl hb11 (by kernel_rfl) (by kernel_rfl) (by kernel_rfl) wz (λn_22=>aF 3 0 (.inr (by kernel_rfl)) (λ_ _ ag=>⟨.inr (.inl (dis1 (Mv ag (i:=0) (j:=1) rfl rfl (by decide)))),trivial⟩) pg xP rfl rfl (.d (.agg (Campaign.enc (⟨c_3.Key,c_3.Class,c_3.Time,c_3.Tags,1000000,c_3.Most,c_3.Cents⟩:Campaign)))) rfl wz (eZ (([(⟨c_3.Key,c_3.Class,c_3.Time,c_3.Tags,1000000,c_3.Most,c_3.Cents⟩:Campaign)]:List Campaign).map Campaign.enc) zU GR rfl rfl rfl rfl rfl wz ?_))
     obtain ⟨a_23,hz_24,hF⟩:=bind_some hF
     refine kY 5 (.inr (by kernel_rfl)) (λ_ _ ag=>⟨.inr (.inr (by kernel_rfl)),⟨.inr (.inr (by kernel_rfl)),trivial⟩⟩) (i:=1) Ei Ei pg z35 rfl (by decide) MR (by decide) (λ_=>rfl) rfl rfl rfl hz_24 wz (λn_25 => ?_)
     obtain ⟨r_26,hr_27,hF⟩:=bind_some hF
     refine si (bs:=[]) (os:=[]) 6 [] 1 1 (.inr (by kernel_rfl)) (λ_ _ ag=>by exact⟨.inr (.inr (by kernel_rfl)),⟨.inr (.inr (by kernel_rfl)),⟨.inr (.inr (by kernel_rfl)),trivial⟩⟩⟩) (FnM.unfz (args:=[(vL Spot.enc spots_1),(dV (av 0) 8 a_23)]) (po:=1) (enc:=Campaign.enc) (qf hr_27) rfl rfl) rfl hb21 rfl rfl rfl (by kernel_rfl) rfl (.inl rfl) rfl (by kernel_rfl) (by kernel_rfl) (by kernel_rfl) (by kernel_rfl) rfl (by decide) (by kernel_rfl) wY (Cn rfl) wz ([(n_4,some (.cells 8 [(vS c_3.Key),(vS c_3.Class),(vI c_3.Time.From),(vI c_3.Time.To),(vL eS c_3.Tags),(vI 1000000),(vI c_3.Most),(vI c_3.Cents)])),(n_25,gB 8 Campaign.enc a_23)]:Hp) (by kernel_rfl) (aa (vI r_15) (aa (vI (w64 (r_26-r_15))) (aa (vI (w64 (r_26-r_15))) (aa (vI 0) (ah (aO (H0:=([(n_4,some (.cells 8 [(vS c_3.Key),(vS c_3.Class),(vI c_3.Time.From),(vI c_3.Time.To),(vL eS c_3.Tags),(vI 1000000),(vI c_3.Most),(vI c_3.Cents)])),(n_25,gB 8 Campaign.enc a_23)]:Hp)) ([(6,(vI (w64 (r_26-r_15)))),(7,(vI 0))]:SL_) (by kernel_rfl) (sW (by kernel_rfl)) ?_))))))
     obtain rfl:=ae hF
     exact ay (aJ [(vI (w64 (r_26-r_15))),(vI 0)] ⟨rfl,⟨rfl,trivial⟩⟩)
theorem BC {spots_1:(List Spot)} {c_2:Campaign} {r:Int×Int} (hF:nN spots_1 c_2=some r) :
  FnM Tryz.prog 8 [(vL Spot.enc spots_1),(.d (.agg (Campaign.enc c_2)))] [] (.tup [(vI r.1),(vI r.2)]) []:=by
 refine FnM.of_wH ⟨Tryz.prog,35,[],[]⟩ rfl Tryz.func8 rfl rfl (lb_ rfl) (by kernel_rfl) ?_
 unfold nN at hF
 refine ai (gQ 0 (.inl rfl) (Campaign.v c_2) rfl rfl wz (λn_3=>aa (vI 0) (aa (vI 0) (ah (ak (ai (aa (vL Spot.enc spots_1) (aF 0 0 il ft pg xP rfl rfl (.d (.agg (Campaign.enc c_2))) rfl wz (eZ (([c_2]:List Campaign).map Campaign.enc) zU GR rfl rfl rfl rfl rfl wz ?_)))))))))
 obtain ⟨r_4,hr_5,hF⟩:=bind_some hF
 refine aD (lH hr_5) rfl hb16 rfl rfl rfl rfl wz (aa (vI r_4) (ah (ai (aa (vI r_4) (aa (vB (r_4 != 0)) (ah ?_))))))
 rcases aj hF with⟨hc_6,hF⟩|⟨hc_6,hF⟩
 ·refine aB rfl hc_6 (ai (aa (vI r_4) (aa (vI 0) (aa (vI r_4) (ah ?_)))))
  obtain rfl:=ae hF
  exact ay (aJ [(vI 0),(vI r_4)] ⟨rfl,⟨rfl,trivial⟩⟩)
 ·refine aA rfl hc_6 (ax (ai (aa (vI 0) (ah (ak (ai (aa (vL Spot.enc spots_1) (bW LK rfl wz (aa (vI 0) (ah ?_))))))))))
  obtain ⟨o_15,hj_16,hF⟩:=bind_some hF
  obtain ⟨hn_11,hj_16⟩:=bv hj_16
  refine di (λ(s_12:Int)=>[(7,(vI s_12))]) (λ(s_12:Int)=>[(n_3,some (.cells 8 (Campaign.v c_2)))]) (λ(k_7:Nat)=>(λ(s_12:Int)=>[(3,(.ref n_3 0 0)),(7,(vI s_12)),(17,(vL Spot.enc spots_1)),(18,(vI (spots_1.length:Int))),(19,(vI (k_7:Int)))])) (λk x s=>kJ c_2 k x s) o_15 spots_1 0 hj_16 rfl (aK rfl) ?_ ?_
  ·rintro ⟨k_7,l_8,s_12⟩ ⟨hL_14,hD_10⟩
   dsimp only at hL_14 hD_10
   cases l_8 with
   | nil =>
    obtain rfl:=ae hL_14
    refine ai (aa (vB (decide ((k_7:Int)<(spots_1.length:Int)))) (ah ?_))
    refine ak (aA rfl (drop_nil hD_10) (aX ?_))
    exact aU (s_12) rfl rfl (aK rfl)
   | cons x_9 l_8 =>
    obtain ⟨c_,hc_13,hL_14⟩:=bind_some hL_14
    refine ai (aa (vB (decide ((k_7:Int)<(spots_1.length:Int)))) (ah ?_))
    refine ak (aB rfl (bD hD_10) (ax ?_))
    unfold kJ at hc_13
    refine ak (aN (ai (dR LP rfl rfl (bR hD_10) rfl wz (bQ zY JJ rfl (.d (.agg (Spot.enc x_9))) rfl wz (dI 0 (.inl rfl) z48 rfl wz (λn_17=>fP 0 il ft 1 zY rfl rfl (Spot.v x_9) rfl wz (ah (ai (aF 0 0 il ft pg xP rfl rfl (.d (.agg (Campaign.enc c_2))) rfl wz (aF 0 1 il ft zY JJ rfl rfl (.d (.agg (Spot.enc x_9))) rfl wz ?_))))))))))
    obtain ⟨r_18,hr_19,hc_13⟩:=bind_some hc_13
    refine aD (uD hr_19) rfl hb22 rfl rfl rfl rfl wz (ah ?_)
    obtain ⟨v_20,h_21,hc_13⟩:=bind_some hc_13
    refine aP [(3,(.ref n_3 0 0)),(7,(vI v_20)),(17,(vL Spot.enc spots_1)),(18,(vI (spots_1.length:Int))),(19,(vI (k_7:Int)))] [(n_3,some (.cells 8 (Campaign.v c_2))),(n_17,some (.cells 5 (Spot.v x_9)))] ?_ ?_
    ·rcases aj h_21 with⟨hc_22,h_21⟩|⟨hc_22,h_21⟩
     ·refine aB rfl hc_22 (au (aa (vI s_12) (aG J9 rfl 3 rfl wz (aF 0 1 il ft sz3 ag3 rfl rfl (vI x_9.Room) rfl wz (aG JQ rfl 6 rfl wz (aF 0 0 il ft sz3 ag3 rfl rfl (vI c_2.Most) rfl wz (pG (vI (sN x_9.Room c_2.Most)) rfl (.inl rfl) wz (aa (vI (w64 (s_12+(sN x_9.Room c_2.Most)))) (aa (vI (w64 (s_12+(sN x_9.Room c_2.Most)))) (ah ?_))))))))))
      obtain rfl:=ae h_21
      exact cu
     ·refine aA rfl hc_22 (ax ?_)
      obtain rfl:=ae h_21
      exact cu
    ·rintro ⟨⟩ _ sl_ H_ hp_ hq_
     refine aO _ hp_ hq_ (au (eY (bH hD_10 hn_11) wz rfl (aa (vI ((k_7+1:Nat):Int)) (ah ?_))))
     obtain rfl:=ae hc_13
     exact aY (k_7+1,l_8,v_20) ⟨hL_14,aZ hD_10⟩ (ls_ _) rfl (aK rfl)
  ·rintro s_12 ho_ sl_ H_ hp_ hq_
   subst ho_
   refine aO _ hp_ hq_ (ai (aa (vI s_12) (aa (vI s_12) (aa (vI 0) (ah ?_)))))
   obtain rfl:=ae hF
   exact ay (aJ [(vI s_12),(vI 0)] ⟨rfl,⟨rfl,trivial⟩⟩)
theorem qP {spots_1:(List Spot)} {l_2:(List Campaign)} {r:Bool×Int} (hF:jg spots_1 l_2=some r) :
  FnM Tryz.prog 9 [(vL Spot.enc spots_1),(vL Campaign.enc l_2)] [] (.tup [(vB r.1),(vI r.2)]) []:=by
 refine FnM.of_wH ⟨Tryz.prog,19,[],[]⟩ rfl Tryz.func9 rfl rfl (lb_ rfl) (by kernel_rfl) ?_
 unfold jg at hF
 refine ai (aa (vB false) (aa (vI 0) (ah (ak (ai (aa (vL Spot.enc spots_1) (aa (vL Campaign.enc l_2) ?_)))))))
 obtain ⟨r_3,hr_4,hF⟩:=bind_some hF
 refine aD (lH hr_4) rfl hb16 rfl rfl rfl rfl wz (aa (vI r_3) (ah (ai (aa (vI r_3) (aa (vB (r_3 != 0)) (ah ?_))))))
 rcases aj hF with⟨hc_5,hF⟩|⟨hc_5,hF⟩
 ·refine aB rfl hc_5 (ai (aa (vI r_3) (aa (vB false) (aa (vI r_3) (ah ?_)))))
  obtain rfl:=ae hF
  exact ay (aJ [(vB false),(vI r_3)] ⟨rfl,⟨rfl,trivial⟩⟩)
 ·refine aA rfl hc_5 (ax (ai (aa (vL Spot.enc spots_1) (aa (vL Campaign.enc l_2) ?_))))
  obtain ⟨r_6,hr_7,hF⟩:=bind_some hF
  refine aD (qf hr_7) rfl hb21 rfl rfl rfl rfl wz (aa (vL Campaign.enc l_2) ?_)
  obtain ⟨r_8,hr_9,hF⟩:=bind_some hF
  refine aD (uB hr_9) rfl hb20 rfl rfl rfl rfl wz (aa (vB (r_6==r_8)) (aa (vB (r_6==r_8)) (aa (vI 0) (ah ?_))))
  obtain rfl:=ae hF
  exact ay (aJ [(vB (r_6==r_8)),(vI 0)] ⟨rfl,⟨rfl,trivial⟩⟩)
theorem qw {r_1:Rect} {r:Int} (hF:lN r_1=some r) :
  FnM Tryz.prog 56 [(.d (.agg (Rect.enc r_1)))] [] (vI r) []:=by
 refine FnM.of_wH ⟨Tryz.prog,25,[],[]⟩ rfl Tryz.func56 rfl rfl (lb_ rfl) (by kernel_rfl) ?_
 unfold lN at hF
 refine ai (gQ 0 (.inl rfl) (Rect.v r_1) rfl rfl wz (λn_2=>aa (vI 0) (ah (ak (ak ?_)))))
 obtain ⟨v_3,h_4,hF⟩:=bind_some hF
 refine aP [(1,(.ref n_2 0 0)),(10,(vB v_3))] [(n_2,some (.cells 4 (Rect.v r_1)))] ?_ ?_
 ·refine au (aG zW rfl 0 rfl wz (aF 0 0 il ft sz3 ag3 rfl rfl (vI r_1.X) rfl wz ?_))
  obtain ⟨r_5,hr_6,h_4⟩:=bind_some h_4
  refine aD (bu hr_6) rfl qG rfl rfl rfl rfl wz ?_
  rcases aj h_4 with⟨hc_7,h_4⟩|⟨hc_7,h_4⟩
  ·refine aC rfl hc_7 wz (af (af (af (aa (vB true) (ah ?_)))))
   obtain rfl:=ae h_4
   exact cu
  ·refine aC rfl hc_7 wz (aG wD rfl 1 rfl wa (aF 0 0 il ft sz3 ag3 rfl rfl (vI r_1.Y) rfl wa ?_))
   obtain ⟨r_8,hr_9,h_4⟩:=bind_some h_4
   refine aD (bu hr_9) rfl qG rfl rfl rfl rfl wa (aa (vB r_8) (ah ?_))
   obtain rfl:=ae h_4
   exact cu
 ·rintro ⟨⟩ _ sl_ H_ hp_ hq_
  refine aO _ hp_ hq_ ?_
  rcases aj hF with⟨hc_10,hF⟩|⟨hc_10,hF⟩
  ·refine aB rfl hc_10 (ai (aa (vI 1) (ah ?_)))
   obtain rfl:=ae hF
   exact ay (aJ [(vI 1)] ⟨rfl,trivial⟩)
  ·refine aA rfl hc_10 (ax (ak (ak ?_)))
   obtain ⟨v_11,h_12,hF⟩:=bind_some hF
   refine aP [(24,(vB v_11))] [(n_2,some (.cells 4 (Rect.v r_1)))] ?_ ?_
   ·refine au (aG Gz rfl 2 rfl wz (aF 0 0 il ft sz3 ag3 rfl rfl (vI r_1.W) rfl wz (aG zW rfl 0 rfl wz (aF 0 0 il ft sz3 ag3 rfl rfl (vI r_1.X) rfl wz (aa (vI (w64 (100000-r_1.X))) ?_)))))
    obtain ⟨r_13,hr_14,h_12⟩:=bind_some h_12
    refine aD (bu hr_14) rfl qG rfl rfl rfl rfl wz ?_
    rcases aj h_12 with⟨hc_15,h_12⟩|⟨hc_15,h_12⟩
    ·refine aC rfl hc_15 wz (af (af (af (af (af (af (aa (vB true) (ah ?_))))))))
     obtain rfl:=ae h_12
     exact cu
    ·refine aC rfl hc_15 wz (aG Ck rfl 3 rfl wa (aF 0 0 il ft sz3 ag3 rfl rfl (vI r_1.H) rfl wa (aG wD rfl 1 rfl wa (aF 0 0 il ft sz3 ag3 rfl rfl (vI r_1.Y) rfl wa (aH (vI (w64 (100000-r_1.Y))) wa rfl ?_)))))
     obtain ⟨r_16,hr_17,h_12⟩:=bind_some h_12
     refine aD (bu hr_17) rfl qG rfl rfl rfl rfl wa (aa (vB r_16) (ah ?_))
     obtain rfl:=ae h_12
     exact cu
   ·rintro ⟨⟩ _ sl_ H_ hp_ hq_
    refine aO _ hp_ hq_ ?_
    rcases aj hF with⟨hc_18,hF⟩|⟨hc_18,hF⟩
    ·refine aB rfl hc_18 (ai (aa (vI 1) (ah ?_)))
     obtain rfl:=ae hF
     exact ay (aJ [(vI 1)] ⟨rfl,trivial⟩)
    ·refine aA rfl hc_18 (ax (ai (aa (vI 0) (ah ?_))))
     obtain rfl:=ae hF
     exact ay (aJ [(vI 0)] ⟨rfl,trivial⟩)
theorem ww {l_1:(List Rect)} {r:Int} (hF:kS l_1=some r) :
  FnM Tryz.prog 38 [(vL Rect.enc l_1)] [] (vI r) []:=by
 refine FnM.of_wH ⟨Tryz.prog,21,[],[]⟩ rfl Tryz.func38 rfl rfl (lb_ rfl) (by kernel_rfl) ?_
 unfold kS at hF
 refine ai (aa (vI 0) (ah (ak (ai (aa (vL Rect.enc l_1) (bW zT rfl wz (aa (vB (decide ((l_1.length:Int)>2000))) (ah ?_))))))))
 rcases aj hF with⟨hc_2,hF⟩|⟨hc_2,hF⟩
 ·refine aB rfl hc_2 (ai (aa (vI 2) (ah ?_)))
  obtain rfl:=ae hF
  exact ay (aJ [(vI 2)] ⟨rfl,trivial⟩)
 ·refine aA rfl hc_2 (ax (ak (ai (aa (vL Rect.enc l_1) (bW zT rfl wz (aa (vI 0) (ah ?_)))))))
  obtain ⟨o_11,hj_12,hF⟩:=bind_some hF
  obtain ⟨hn_7,hj_12⟩:=bv hj_12
  refine di (λ(s_8:Unit)=>[]) (λ(s_8:Unit)=>[]) (λ(k_3:Nat)=>(λ(s_8:Unit)=>[(9,(vL Rect.enc l_1)),(10,(vI (l_1.length:Int))),(11,(vI (k_3:Int)))])) (λk x s=>ll k x s) o_11 l_1 () hj_12 rfl (aK rfl) ?_ ?_
  ·rintro ⟨k_3,l_4,s_8⟩ ⟨hL_10,hD_6⟩
   dsimp only at hL_10 hD_6
   cases l_4 with
   | nil =>
    obtain rfl:=ae hL_10
    refine ai (aa (vB (decide ((k_3:Int)<(l_1.length:Int)))) (ah ?_))
    refine ak (aA rfl (drop_nil hD_6) (aX ?_))
    exact aU (s_8) rfl rfl (aK rfl)
   | cons x_5 l_4 =>
    obtain ⟨c_,hc_9,hL_10⟩:=bind_some hL_10
    refine ai (aa (vB (decide ((k_3:Int)<(l_1.length:Int)))) (ah ?_))
    refine ak (aB rfl (bD hD_6) (ax ?_))
    unfold ll at hc_9
    refine ak (aN (ai (dR FB rfl rfl (bR hD_6) rfl wz (bQ wQ G9 rfl (.d (.agg (Rect.enc x_5))) rfl wz (dI 0 (.inl rfl) z60 rfl wz (λn_13=>fP 0 il ft 0 wQ rfl rfl (Rect.v x_5) rfl wz (ah (ai (aF 0 0 il ft wQ G9 rfl rfl (.d (.agg (Rect.enc x_5))) rfl wz ?_)))))))))
    obtain ⟨r_14,hr_15,hc_9⟩:=bind_some hc_9
    refine aD (qw hr_15) rfl hb56 rfl rfl rfl rfl wz (aa (vI r_14) (ah (ai (aa (vI r_14) (aa (vB (r_14 != 0)) (ah ?_))))))
    rcases aj hc_9 with⟨hc_16,hc_9⟩|⟨hc_16,hc_9⟩
    ·refine aB rfl hc_16 (ai (aa (vI r_14) (aa (vI r_14) (ah ?_))))
     obtain rfl:=ae hc_9
     obtain rfl:=ae hL_10
     obtain rfl:=ae hF
     exact ay (aJ [(vI r_14)] ⟨rfl,trivial⟩)
    ·refine aA rfl hc_16 (ax (au (eY (bH hD_6 hn_7) wz rfl (aa (vI ((k_3+1:Nat):Int)) (ah ?_)))))
     obtain rfl:=ae hc_9
     exact aY (k_3+1,l_4,()) ⟨hL_10,aZ hD_6⟩ (ls_ _) rfl (aK rfl)
  ·rintro s_8 ho_ sl_ H_ hp_ hq_
   subst ho_
   refine aO _ hp_ hq_ (ai (aa (vI 0) (ah ?_)))
   obtain rfl:=ae hF
   exact ay (aJ [(vI 0)] ⟨rfl,trivial⟩)
theorem mY {n_1:Int} {r:Bool} (hF:fQ n_1=some r) :
  FnM Tryz.prog 74 [.nil,(vI n_1)] [] (kV r (av 0) 4 ([]:List Rect)) (kO r 4):=by
 refine FnM.of_wH ⟨Tryz.prog,27,[],[]⟩ rfl Tryz.func74 rfl rfl (lb_ rfl) (by kernel_rfl) ?_
 unfold fQ at hF
 refine ai (aa .nil (ah (ak (ai (aa (vI n_1) (aa (vB (decide (n_1<0))) (ah ?_)))))))
 rcases aj hF with⟨hc_2,hF⟩|⟨hc_2,hF⟩
 ·refine aB rfl hc_2 (au ?_)
  cases hF
 ·refine aA rfl hc_2 (ax (ak (ai (aa (vI n_1) (aa .nil (ML Jq rfl wz (aa .nil (Ny zT rfl wz (aa (vI (w64 (0-0))) (aa (vI (w64 (n_1-(w64 (0-0))))) (aa (vI (w64 (n_1-(w64 (0-0))))) (ah (ai (aa (vI (w64 (n_1-(w64 (0-0))))) (aa (vB (decide ((w64 (n_1-(w64 (0-0))))>0))) (ah ?_))))))))))))))))
  rcases aj hF with⟨hc_3,hF⟩|⟨hc_3,hF⟩
  ·refine aB rfl hc_3 (au (aa .nil (aa .nil (ML Jq rfl wz (aH .nil wz (by kernel_rfl) (aa (vI (w64 (n_1-(w64 (0-0))))) ?_))))))
   obtain ⟨_,hz_5,hF⟩:=bind_some hF
   refine h_appz (enc:=Rect.enc) 0 (.inl rfl) Jq (by kernel_rfl) wQ z60 rfl (by decide) by60 rfl rfl hz_5 wz (λn_4=>aa .nil (Ny zT rfl wz (h_cutm (m:=0) zT wQ rfl rfl rfl (Nat.zero_le _) wz (aa (.vs n_4 4 0 0) (ah (ai (aa (.vs n_4 4 0 0) (aa (.vs n_4 4 0 0) (ah ?_)))))))))
   obtain rfl:=ae hF
   exact ay (finK (.inr rfl) 0 rfl rfl)
  ·refine aA rfl hc_3 (ax (ai (aa .nil (aa .nil (ah ?_)))))
   obtain rfl:=ae hF
   exact ay (finK0 (.inr rfl) rfl)
theorem mV {slices_1:(List (List Rect))} {r:(List Rect)} (hF:dZ slices_1=some r) :
  FnM Tryz.prog 57 [(vL (eL Rect.enc) slices_1)] [] (vL Rect.enc r) []:=by
 refine FnM.of_wH ⟨Tryz.prog,36,[],[]⟩ rfl Tryz.func57 rfl rfl (lb_ rfl) (by kernel_rfl) ?_
 unfold dZ at hF
 refine ai (aa .nil (ah (ai (aa (vI 0) (ah (ak (ai (aa (vL (eL Rect.enc) slices_1) (bW un132 rfl wz (aa (vI 0) (ah ?_)))))))))))
 obtain ⟨o_10,hj_11,hF⟩:=bind_some hF
 obtain ⟨hn_6,hj_11⟩:=bv hj_11
 refine di (λ(s_7:Int)=>[(0,(vL (eL Rect.enc) slices_1)),(3,(vI s_7))]) (λ(s_7:Int)=>[]) (λ(k_2:Nat)=>(λ(s_7:Int)=>[(0,(vL (eL Rect.enc) slices_1)),(3,(vI s_7)),(9,(vL (eL Rect.enc) slices_1)),(10,(vI (slices_1.length:Int))),(11,(vI (k_2:Int)))])) (λk x s=>fB k x s) o_10 slices_1 0 hj_11 rfl (aK rfl) ?_ ?_
 ·rintro ⟨k_2,l_3,s_7⟩ ⟨hL_9,hD_5⟩
  dsimp only at hL_9 hD_5
  cases l_3 with
  | nil =>
   obtain rfl:=ae hL_9
   refine ai (aa (vB (decide ((k_2:Int)<(slices_1.length:Int)))) (ah ?_))
   refine ak (aA rfl (drop_nil hD_5) (aX ?_))
   exact aU (s_7) rfl rfl (aK rfl)
  | cons x_4 l_3 =>
   obtain ⟨c_,hc_8,hL_9⟩:=bind_some hL_9
   refine ai (aa (vB (decide ((k_2:Int)<(slices_1.length:Int)))) (ah ?_))
   refine ak (aB rfl (bD hD_5) (ax ?_))
   unfold fB at hc_8
   refine ak (aN (ai (dR MZ rfl rfl (bR hD_5) rfl wz (bQ Mo Ls rfl (vL Rect.enc x_4) rfl wz (aa (vL Rect.enc x_4) (ah (ai (aa (vI s_7) (aa (vL Rect.enc x_4) (bW zT rfl wz (aa (vI (w64 (s_7+(x_4.length:Int)))) (aa (vI (w64 (s_7+(x_4.length:Int)))) (ah (ai (aa (vI (w64 (s_7+(x_4.length:Int)))) (aa (vB (decide ((w64 (s_7+(x_4.length:Int)))<0))) (ah ?_)))))))))))))))))
   obtain ⟨v_12,h_13,hc_8⟩:=bind_some hc_8
   refine aP [(0,(vL (eL Rect.enc) slices_1)),(3,(vI (w64 (s_7+(x_4.length:Int))))),(9,(vL (eL Rect.enc) slices_1)),(10,(vI (slices_1.length:Int))),(11,(vI (k_2:Int)))] [] ?_ ?_
   ·rcases aj h_13 with⟨hc_14,h_13⟩|⟨hc_14,h_13⟩
    ·refine aB rfl hc_14 (au ?_)
     cases h_13
    ·refine aA rfl hc_14 (ax ?_)
     obtain rfl:=ae h_13
     exact cu
   ·rintro ⟨⟩ _ sl_ H_ hp_ hq_
    refine aO _ hp_ hq_ (au (eY (bH hD_5 hn_6) wz rfl (aa (vI ((k_2+1:Nat):Int)) (ah ?_))))
    obtain rfl:=ae hc_8
    exact aY (k_2+1,l_3,(w64 (s_7+(x_4.length:Int)))) ⟨hL_9,aZ hD_5⟩ (ls_ _) rfl (aK rfl)
 ·rintro s_7 ho_ sl_ H_ hp_ hq_
  subst ho_
  refine aO _ hp_ hq_ (ai (aa (vI s_7) ?_))
  obtain ⟨b_15,hr_16,hF⟩:=bind_some hF
  refine h_callk (enc:=Rect.enc) (mY hr_16) rfl hb74 (by kernel_rfl) rfl (by kernel_rfl) wz (λn_17=>aa (kV b_15 n_17 4 ([]:List Rect)) (ah (ak (ai (aa (vL (eL Rect.enc) slices_1) (bW un132 rfl wz (aa (vI 0) (ah ?_))))))))
  obtain ⟨o_28,hj_29,hF⟩:=bind_some hF
  obtain ⟨hn_22,hj_29⟩:=bv hj_29
  refine jk (σ:=(List Rect)) (N:=Nm) (λp=>(λ(s_23:List Rect) (n_25:Nm)=>([(6,(kV b_15 n_25 4 s_23))]:SL_)) p.1 p.2) (λp=>(λ(s_23:List Rect) (n_25:Nm)=>([(n_25,kB b_15 4 Rect.enc s_23)]:Hp)) p.1 p.2) (λ(k_18:Nat)=>(λp=>(λ(s_23:List Rect) (n_25:Nm)=>([(6,(kV b_15 n_25 4 s_23)),(25,(vL (eL Rect.enc) slices_1)),(26,(vI (slices_1.length:Int))),(27,(vI (k_18:Int)))]:SL_)) p.1 p.2)) (λk x s=>fC k x s) o_28 slices_1 (([]:List Rect),n_17) hj_29 rfl (aK rfl) ?_ ?_
  ·rintro ⟨k_18,l_19,s_23,n_25⟩ ⟨hL_27,hD_21⟩
   dsimp only at hL_27 hD_21
   cases l_19 with
   | nil =>
    obtain rfl:=ae hL_27
    refine ai (aa (vB (decide ((k_18:Int)<(slices_1.length:Int)))) (ah ?_))
    refine ak (aA rfl (drop_nil hD_21) (aX ?_))
    exact aU (s_23,n_25) rfl rfl (aK rfl)
   | cons x_20 l_19 =>
    obtain ⟨c_,hc_26,hL_27⟩:=bind_some hL_27
    refine ai (aa (vB (decide ((k_18:Int)<(slices_1.length:Int)))) (ah ?_))
    refine ak (aB rfl (bD hD_21) (ax ?_))
    unfold fC at hc_26
    refine ak (aN (ai (dR MZ rfl rfl (bR hD_21) rfl wz (bQ Mo Ls rfl (vL Rect.enc x_20) rfl wz (aa (vL Rect.enc x_20) (ah (au (aa (kV b_15 n_25 4 s_23) (aa (vL Rect.enc x_20) ?_)))))))))
    obtain ⟨a_30,hz_31,hc_26⟩:=bind_some hc_26
    refine h_appk 0 il ft (i:=0) Jq Jq wQ z60 rfl (by decide) by60 (by decide) (λ_=>rfl) rfl rfl rfl hz_31 wz (λn_32=>aa (kV b_15 n_32 4 a_30) (ah (au (eY (bH hD_21 hn_22) wz rfl (aa (vI ((k_18+1:Nat):Int)) (ah ?_))))))
    obtain rfl:=ae hc_26
    exact aY (k_18+1,l_19,a_30,n_32) ⟨hL_27,aZ hD_21⟩ (ls_ _) rfl (aK rfl)
  ·rintro ⟨s_23,n_25⟩ ho_ sl_ H_ hp_ hq_
   subst ho_
   refine aO _ hp_ hq_ (ai (aa (kV b_15 n_25 4 s_23) (aa (kV b_15 n_25 4 s_23) (ah (Ow 0 rfl (Jk 2 0 rfl rfl (Jk 6 0 rfl rfl (Jk 35 0 rfl rfl ?_))))))))
   obtain rfl:=ae hF
   exact ay (aJ [(vL Rect.enc s_23)] ⟨rfl,trivial⟩)
theorem rQ {x r:(List Int)} (hF:iw x=some r) :
  FnM Tryz.prog 58 [(dV (av 0) 1 x)] (([]:List Box)++gI 1 eI x) (.tup []) (([]:List Box).map some++gT x (gB 1 eI r)) :=
 MF Tryz.slices_Sort_int Tryz.slices_Sort_int_none hF
end Go.Proofs.YtekmkepojbhafabGreatDoor.Law

