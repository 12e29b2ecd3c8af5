/-
 The machine computes these plain functions (written by a program of ours).
-/
import Derived.Test.YtkjlhdminmpmkacGreatDoorFacts
import Derived.Test.YtkjlhdminmpmkacGreatDoorDefs
import Derived.Test.YtkjlhdminmpmkacGreatDoorPf1
open Go Go.Eng Go.Proofs
namespace Go.Proofs.YtkjlhdminmpmkacGreatDoor.Law
set_option maxRecDepth 100000
set_option linter.unusedVariables false
set_option maxHeartbeats 1000000
theorem nS {x_1:(List ByteArray)} {target_2:ByteArray} {r:Int×Bool} (hF:dz x_1 target_2=some r) :
  FnM Tryz.prog 51 [(vL eS x_1),(vS target_2)] [] (.tup [(vI r.1),(vB r.2)]) []:=by
 refine FnM.of_wH ⟨Tryz.prog,54,[],[]⟩ rfl Tryz.func51 rfl rfl (lb_ rfl) (by kernel_rfl) ?_
 unfold dz at hF
 refine ai (aa (vI 0) (aa (vB false) (af (ai (aa (vL eS x_1) (bH xq rfl wz (aa (vI (x_1.length:Int)) (af (ai (aa (vI (x_1.length:Int)) (aa (vI 0) (aa (vI (x_1.length:Int)) (af (ak ?_))))))))))))))
 obtain ⟨o_11,hj_12,hF⟩:=bind_some hF
 obtain ⟨nq_34,hj_12⟩:=dR hj_12
 refine gD (λ(s_8:Int×Int)=>[(0,(vL eS x_1)),(1,(vS target_2)),(6,(vI (x_1.length:Int))),(7,(vI s_8.1))]) (λ(s_8:Int×Int)=>[]) (λ(k_3:Nat)=>(λ(s_8:Int×Int)=>[(0,(vL eS x_1)),(1,(vS target_2)),(6,(vI (x_1.length:Int))),(7,(vI s_8.1)),(8,(vI s_8.2))])) (λs=>bn x_1 target_2 s) o_11 nq_34 (0,(x_1.length:Int)) hj_12 rfl (aK rfl) ?_ ?_
 ·rintro ⟨k_3,s_8⟩ hL_10
  dsimp only at hL_10
  cases k_3 with
  | zero=>cases hL_10
  | succ k_3 =>
   obtain ⟨c_,hc_9,hL_10⟩:=bind_some hL_10
   unfold bn at hc_9
   refine ak (ai (aa (vI s_8.1) (aa (vI s_8.2) (aa (vB (decide (s_8.1<s_8.2))) (af ?_)))))
   rcases aj hc_9 with⟨hc_13,hc_9⟩|⟨hc_13,hc_9⟩
   ·refine aB rfl hc_13 (ax (aM (ai (aa (vI s_8.1) (aa (vI s_8.2) (aa (vI (w64 (s_8.1+s_8.2))) (zH un3 Kg rfl wz ?_)))))))
    obtain ⟨q_14,hz_15,hc_9⟩:=bind_some hc_9
    refine JN rfl rfl hz_15 wz (zH Kg un3 rfl wz (aa (vI (w64 q_14)) (af (ai (aa (vL eS x_1) (aa (vI (w64 q_14)) ?_))))))
    obtain ⟨y_16,hy_17,hc_9⟩:=bind_some hc_9
    refine dC pz rfl rfl hy_17 rfl wz (bK sz9 ag9 rfl (vS y_16) rfl wz (aa (vS target_2) ?_))
    obtain ⟨r_18,hr_19,hc_9⟩:=bind_some hc_9
    refine aF (zX hr_19) rfl hb73 rfl rfl rfl rfl wz (af ?_)
    rcases aj hc_9 with⟨hc_20,hc_9⟩|⟨hc_20,hc_9⟩
    ·refine aB rfl hc_20 (au (aa (vI (w64 q_14)) (aa (vI (w64 ((w64 q_14)+1))) (aa (vI (w64 ((w64 q_14)+1))) (af ?_)))))
     obtain rfl:=ae hc_9
     exact aV (k_3,((w64 ((w64 q_14)+1)),s_8.2)) hL_10 (ls_ _) rfl (aK rfl)
    ·refine ay rfl hc_20 (au (aa (vI (w64 q_14)) (aa (vI (w64 q_14)) (af ?_))))
     obtain rfl:=ae hc_9
     exact aV (k_3,(s_8.1,(w64 q_14))) hL_10 (ls_ _) rfl (aK rfl)
   ·refine ay rfl hc_13 (aW ?_)
    obtain rfl:=ae hc_9
    obtain rfl:=ae hL_10
    exact aU ((s_8.1,s_8.2)) rfl rfl (aK rfl)
 ·rintro s_8 ho_ sl_ H_ hp_ hq_
  subst ho_
  refine aO _ hp_ hq_ (ak ?_)
  obtain ⟨v_21,h_22,hF⟩:=bind_some hF
  refine aS [(4,(vI s_8.1)),(5,(vB v_21))] [] ?_ ?_
  ·refine au (aa (vI s_8.1) (aa (vI s_8.1) (aa (vI (x_1.length:Int)) (aa (vB (decide (s_8.1<(x_1.length:Int)))) ?_))))
   rcases aj h_22 with⟨hc_23,h_22⟩|⟨hc_23,h_22⟩
   ·refine aD rfl hc_23 wz (aJ (vL eS x_1) wa rfl (aJ (vI s_8.1) wa rfl ?_))
    obtain ⟨y_24,hy_25,h_22⟩:=bind_some h_22
    refine dC pz rfl rfl hy_25 rfl wa (bK sz9 ag9 rfl (vS y_24) rfl wa (aJ (vS target_2) wa rfl (aJ (vB (sEq y_24 target_2)) wa rfl ?_)))
    rcases aj h_22 with⟨hc_26,h_22⟩|⟨hc_26,h_22⟩
    ·refine aD rfl hc_26 wa (ah (ah (ah (ah (ah (ah (bZ (wn rfl rfl) (bZ (wn rfl rfl) (ah (aJ (vB true) wa rfl (aa (vB true) (aa (vI s_8.1) (aa (vB true) (af ?_))))))))))))))
     obtain rfl:=ae h_22
     exact cu
    ·refine aD rfl hc_26 wa (aJ (vL eS x_1) wa rfl (aJ (vI s_8.1) wa rfl ?_))
     obtain ⟨y_27,hy_28,h_22⟩:=bind_some h_22
     refine dC pz rfl rfl hy_28 rfl wa (bK sz9 ag9 rfl (vS y_27) rfl wa ?_)
     obtain ⟨r_29,hr_30,h_22⟩:=bind_some h_22
     refine aF (pF hr_30) rfl hb74 rfl rfl rfl rfl wa ?_
     rcases aj h_22 with⟨hc_31,h_22⟩|⟨hc_31,h_22⟩
     ·refine aD rfl hc_31 wa (aJ (vS target_2) wa rfl ?_)
      obtain ⟨r_32,hr_33,h_22⟩:=bind_some h_22
      refine aF (pF hr_33) rfl hb74 rfl rfl rfl rfl wa (aJ (vB r_32) wa rfl (aJ (vB r_32) wa rfl (aa (vB r_32) (aa (vI s_8.1) (aa (vB r_32) (af ?_))))))
      obtain rfl:=ae h_22
      exact cu
     ·refine aD rfl hc_31 wa (ah (ah (aJ (vB false) wa rfl (aJ (vB false) wa rfl (aa (vB false) (aa (vI s_8.1) (aa (vB false) (af ?_))))))))
      obtain rfl:=ae h_22
      exact cu
   ·refine aD rfl hc_23 wz (ah (ah (ah (ah (ah (ah (ah (bZ (wn rfl rfl) (bZ (wn rfl rfl) (bZ (wn rfl rfl) (bZ (wn rfl rfl) (bZ (wn rfl rfl) (bZ (wn rfl rfl) (bZ (wn rfl rfl) (bZ (wn rfl rfl) (bZ (wn rfl rfl) (ah (aa (vB false) (aa (vI s_8.1) (aa (vB false) (af ?_)))))))))))))))))))))
    obtain rfl:=ae h_22
    exact cu
  ·rintro ⟨⟩ _ sl_ H_ hp_ hq_
   refine aO _ hp_ hq_ ?_
   obtain rfl:=ae hF
   exact aA (aL [(vI s_8.1),(vB v_21)] ⟨rfl,⟨rfl,trivial⟩⟩)
theorem wh {c_1:Campaign} {s_2:Spot} {r:Bool} (hF:lS c_1 s_2=some r) :
  FnM Tryz.prog 30 [(.d (.agg (Campaign.enc c_1))),(.d (.agg (Spot.enc s_2)))] [] (vB r) []:=by
 refine FnM.of_wH ⟨Tryz.prog,42,[],[]⟩ rfl Tryz.func30 rfl rfl (lb_ rfl) (by kernel_rfl) ?_
 unfold lS at hF
 refine ai (gz 0 (.inl rfl) (Campaign.v c_1) rfl rfl wz (λn_3=>gz 0 (.inl rfl) (Spot.v s_2) rfl rfl wz (λn_4=>aa (vB false) (af (ak (ak ?_))))))
 obtain ⟨v_5,h_6,hF⟩:=bind_some hF
 refine aS [(2,(.ref n_3 0 0)),(3,(.ref n_4 0 0)),(24,(vB v_5))] [(n_3,some (.cells 8 (Campaign.v c_1))),(n_4,some (.cells 5 (Spot.v s_2)))] ?_ ?_
 ·refine au (aG EU rfl 1 rfl wz (aG mF rfl 1 rfl wz (aC 0 1 il ft sz3 ag3 rfl rfl (vI s_2.Time.From) rfl wz (aG qZ rfl 2 rfl wz (aG mF rfl 2 rfl wz (aC 0 0 il ft sz3 ag3 rfl rfl (vI c_1.Time.From) rfl wz (aa (vB (decide (s_2.Time.From<c_1.Time.From))) ?_)))))))
  rcases aj h_6 with⟨hc_7,h_6⟩|⟨hc_7,h_6⟩
  ·refine aD rfl hc_7 wz (ah (ah (ah (ah (ah (ah (ah (aa (vB true) (af ?_)))))))))
   obtain rfl:=ae h_6
   exact cu
  ·refine aD rfl hc_7 wz (aG EU rfl 1 rfl wa (aG mq rfl 2 rfl wa (aC 0 1 il ft sz3 ag3 rfl rfl (vI s_2.Time.To) rfl wa (aG qZ rfl 2 rfl wa (aG mq rfl 3 rfl wa (aC 0 0 il ft sz3 ag3 rfl rfl (vI c_1.Time.To) rfl wa (aJ (vB (decide (s_2.Time.To>c_1.Time.To))) wa rfl (aa (vB (decide (s_2.Time.To>c_1.Time.To))) (af ?_)))))))))
   obtain rfl:=ae h_6
   exact cu
 ·rintro ⟨⟩ _ sl_ H_ hp_ hq_
  refine aO _ hp_ hq_ ?_
  rcases aj hF with⟨hc_8,hF⟩|⟨hc_8,hF⟩
  ·refine aB rfl hc_8 (ai (aa (vB false) (af ?_)))
   obtain rfl:=ae hF
   exact aA (aL [(vB false)] ⟨rfl,trivial⟩)
  ·refine ay rfl hc_8 (ax (ak (ai (aG EC rfl 4 rfl wz (aC 0 0 il ft zf AR rfl rfl (vL eS c_1.Tags) rfl wz (bH xq rfl wz (aa (vI 0) (af ?_))))))))
   obtain ⟨o_17,hj_18,hF⟩:=bind_some hF
   obtain ⟨hn_13,hj_18⟩:=aY hj_18
   refine bN (λ(s_14:Unit)=>[]) (λ(s_14:Unit)=>[(n_3,some (.cells 8 (Campaign.v c_1))),(n_4,some (.cells 5 (Spot.v s_2)))]) (λ(k_9:Nat)=>(λ(s_14:Unit)=>[(3,(.ref n_4 0 0)),(26,(vL eS c_1.Tags)),(27,(vI (c_1.Tags.length:Int))),(28,(vI (k_9:Int)))])) (λk x s=>iY s_2 k x s) o_17 c_1.Tags () hj_18 rfl (aK rfl) ?_ ?_
   ·rintro ⟨k_9,l_10,s_14⟩ ⟨hL_16,hD_12⟩
    dsimp only at hL_16 hD_12
    cases l_10 with
    | nil =>
     obtain rfl:=ae hL_16
     refine ai (aa (vB (decide ((k_9:Int)<(c_1.Tags.length:Int)))) (af ?_))
     refine ak (ay rfl (drop_nil hD_12) (aW ?_))
     exact aU (s_14) rfl rfl (aK rfl)
    | cons x_11 l_10 =>
     obtain ⟨c_,hc_15,hL_16⟩:=bind_some hL_16
     refine ai (aa (vB (decide ((k_9:Int)<(c_1.Tags.length:Int)))) (af ?_))
     refine ak (aB rfl (bu hD_12) (ax ?_))
     unfold iY at hc_15
     refine ak (aM (ai (dC pz rfl rfl (bD hD_12) rfl wz (bK sz9 ag9 rfl (vS x_11) rfl wz (aa (vS x_11) (af (ai (aG Cc rfl 4 rfl wz (aC 0 1 il ft zf AR rfl rfl (vL eS s_2.Tags) rfl wz (aa (vS x_11) ?_))))))))))
     obtain ⟨r_19,hr_20,hc_15⟩:=bind_some hc_15
     refine aF (nS hr_20) rfl hb51 rfl rfl rfl rfl wz (aa (.tup [(vI r_19.1),(vB r_19.2)]) (aa (vI r_19.1) (aa (vB r_19.2) (aa (vI r_19.1) (aa (vB r_19.2) (af (ai (aa (vB r_19.2) (aa (vB (!r_19.2)) (af ?_))))))))))
     rcases aj hc_15 with⟨hc_21,hc_15⟩|⟨hc_21,hc_15⟩
     ·refine aB rfl hc_21 (ai (aa (vB false) (af ?_)))
      obtain rfl:=ae hc_15
      obtain rfl:=ae hL_16
      obtain rfl:=ae hF
      exact aA (aL [(vB false)] ⟨rfl,trivial⟩)
     ·refine ay rfl hc_21 (ax (au (dB (bv hD_12 hn_13) wz rfl (aa (vI ((k_9+1:Nat):Int)) (af ?_)))))
      obtain rfl:=ae hc_15
      exact aV (k_9+1,l_10,()) ⟨hL_16,aR hD_12⟩ (ls_ _) rfl (aK rfl)
   ·rintro s_14 ho_ sl_ H_ hp_ hq_
    subst ho_
    refine aO _ hp_ hq_ (ai (aa (vB true) (af ?_)))
    obtain rfl:=ae hF
    exact aA (aL [(vB true)] ⟨rfl,trivial⟩)
theorem nO {wv_1:Web} {k_2:Int} {r:Int} (hF:gW wv_1 k_2=some r) :
  FnM Tryz.prog 32 [(.ref (av 0) 0 0),(vI k_2)] (ll 2 1 eI [(vI wv_1.f_camps)] wv_1.f_can) (vI r) (gJ 2 1 eI [(vI wv_1.f_camps)] wv_1.f_can):=by
 refine FnM.of_wHg (cs:=[(vI wv_1.f_camps)]) ⟨Tryz.prog,12,[],[]⟩ rfl Tryz.func32 rfl rfl (lb_ rfl) (by kernel_rfl) ?_
 unfold gW at hF
 refine ai (aa (vI 0) (af (ai (aa (.ref (av 0) 0 0) (aa (.ref (av 0) 0 0) (aG pl80_1 rfl 1 rfl wz (aC 0 0 il ft sz3 ag3 rfl rfl (vI wv_1.f_camps) rfl wz (aa (vI (w64 (2+wv_1.f_camps))) (aa (vI k_2) (aa (vI (w64 ((w64 (2+wv_1.f_camps))+k_2))) (aa (vI (w64 ((w64 (2+wv_1.f_camps))+k_2))) (af ?_))))))))))))
 obtain rfl:=ae hF
 exact aA (MW (k:=2) (cs:=[(vI wv_1.f_camps)]) (cs':=[(vI wv_1.f_camps)]) (rows:=wv_1.f_can) (rows':=wv_1.f_can) ([]:Hp) (.inr rfl) [(vI (w64 ((w64 (2+wv_1.f_camps))+k_2)))] ⟨rfl,trivial⟩ rfl rfl rfl rfl rfl rfl)
theorem uw {spots_1:(List Spot)} {l_2:(List Campaign)} {r:Web} (hF:ji spots_1 l_2=some r) :
  FnM Tryz.prog 27 [(vL Spot.enc spots_1),(vL Campaign.enc l_2)] [] (.ref (av 0) 0 0) (gJ 2 1 eI [(vI r.f_camps)] r.f_can):=by
 refine FnM.of_wH ⟨Tryz.prog,110,[],[]⟩ rfl Tryz.func27 rfl rfl (lb_ rfl) (by kernel_rfl) ?_
 unfold ji at hF
 refine ai (aa (.d .nilp) (af (ai (aa (vL Spot.enc spots_1) (bH Fa rfl wz (aa (vI (w64 (2+(spots_1.length:Int)))) (aa (vL Campaign.enc l_2) (bH BA rfl wz (aa (vI (w64 ((w64 (2+(spots_1.length:Int)))+(l_2.length:Int)))) (aa (vI (w64 ((w64 (2+(spots_1.length:Int)))+(l_2.length:Int)))) (af (ai (aa (vI (w64 ((w64 (2+(spots_1.length:Int)))+(l_2.length:Int)))) ?_)))))))))))))
 obtain ⟨m_3,hm_4,hF⟩:=bind_some hF
 obtain ⟨_,hz_5,hF⟩:=bind_some hF
 refine PZ (α:=Int) (enc:=eI) (sz:=1) 0 (.inl rfl) el78 uS z22 by22 rfl rfl hm_4 (nzI_ne hz_5) wz (λn_6 ns_7=>aa (vL Campaign.enc l_2) (bH BA rfl wz (aJ (.agg [(.vs n_6 1 0 m_3),(vI (l_2.length:Int))]) wz (by kernel_rfl) (gz 0 (.inl rfl) [(.vs n_6 1 0 m_3),(vI (l_2.length:Int))] rfl rfl wz (λn_8=>rY (C0:=([(n_6,some (.cells 1 (aI 1 ns_7 (List.replicate m_3 ([]:List Int)))))]:Hp)) (T:=(aP 1 eI ns_7 (List.replicate m_3 ([]:List Int)))) (X:=([(n_8,some (.cells 2 [(.vs n_6 1 0 m_3),(vI (l_2.length:Int))]))]:Hp)) (aa (.ref n_8 0 0) (af (ak (ai (aa (.ref n_8 0 0) (aa (.ref n_8 0 0) (aG nM rfl 0 rfl wz (aC 0 1 il ft y9 y8 rfl rfl (.vs n_6 1 0 m_3) rfl wz (Jg un78 rfl wz (aa (vI 0) (af ?_))))))))))))))))
 obtain ⟨o_19,hj_20,hF⟩:=bind_some hF
 obtain ⟨hn_13,hj_20⟩:=aY hj_20
 refine fT (σ:=(List (List Int))) (N:=(Nat->Nm)) (λp=>(λ(s_14:(List (List Int))) (ns_16:(Nat->Nm))=>([(0,(vL Spot.enc spots_1)),(1,(vL Campaign.enc l_2)),(6,(.ref n_8 0 0))]:SL_)) p.1 p.2) (λp=>(λ(s_14:(List (List Int))) (ns_16:(Nat->Nm))=>(([(n_6,some (.cells 1 (aI 1 ns_16 s_14))),(n_8,some (.cells 2 [(.vs n_6 1 0 m_3),(vI (l_2.length:Int))]))]:Hp)++(aP 1 eI ns_16 s_14))) p.1 p.2) (λ(k_9:Nat)=>(λp=>(λ(s_14:(List (List Int))) (ns_16:(Nat->Nm))=>([(0,(vL Spot.enc spots_1)),(1,(vL Campaign.enc l_2)),(5,(vI (w64 ((w64 (2+(spots_1.length:Int)))+(l_2.length:Int))))),(6,(.ref n_8 0 0)),(30,(vI ((m_3:Nat):Int))),(31,(vI (k_9:Int)))]:SL_)) p.1 p.2)) (λk x s=>jW spots_1 l_2 m_3 k x s) o_19 (List.range (((m_3:Nat):Int)).toNat) ((List.replicate m_3 ([]:List Int)),ns_7) hj_20 rfl (dh (C1:=([(n_6,some (.cells 1 (aI 1 ns_7 (List.replicate m_3 ([]:List Int))))),(n_8,some (.cells 2 [(.vs n_6 1 0 m_3),(vI (l_2.length:Int))]))]:Hp)) (T:=(aP 1 eI ns_7 (List.replicate m_3 ([]:List Int)))) [0,1] (by decide) rfl rfl) ?_ ?_
 ·rintro ⟨k_9,l_10,s_14,ns_16⟩ ⟨hL_18,hD_12⟩
  dsimp only at hL_18 hD_12
  cases l_10 with
  | nil =>
   obtain rfl:=ae hL_18
   refine ai (aa (vB (decide ((k_9:Int)<((m_3:Nat):Int)))) (af ?_))
   refine ak (ay rfl (oV hD_12) (aW ?_))
   exact aU (s_14,ns_16) rfl rfl (dh (C1:=([(n_6,some (.cells 1 (aI 1 ns_16 s_14))),(n_8,some (.cells 2 [(.vs n_6 1 0 m_3),(vI (l_2.length:Int))]))]:Hp)) (T:=(aP 1 eI ns_16 s_14)) [0,1] (by decide) rfl rfl)
  | cons x_11 l_10 =>
   obtain ⟨c_,hc_17,hL_18⟩:=bind_some hL_18
   refine ai (aa (vB (decide ((k_9:Int)<((m_3:Nat):Int)))) (af ?_))
   refine ak (aB rfl (mP hD_12) (ax ?_))
   unfold jW at hc_17
   refine ak (aM (ai (aa (vI (k_9:Int)) (aa (vI (k_9:Int)) (af (bE (aa (.ref n_8 0 0) (aa (.ref n_8 0 0) (aG nM rfl 0 rfl wz (aC 3 1 (.inr (by kernel_rfl)) (λ_ _ ag=>trivial) y9 y8 rfl rfl (.vs n_6 1 0 m_3) rfl wz (aa (vI (k_9:Int)) (aa (vI (w64 ((w64 (2+(spots_1.length:Int)))+(l_2.length:Int)))) ?_))))))))))))
   obtain ⟨m_21,hm_22,hc_17⟩:=bind_some hc_17
   refine GD (enc:=eI) 6 (.inr (by kernel_rfl)) 0 Lh sz3 z3 by3 rfl rfl (by decide) rfl rfl rfl hm_22 wz (λn_23=>rY (C0:=([(n_6,some (.cells 1 (aI 1 ns_16 s_14))),(n_8,some (.cells 2 [(.vs n_6 1 0 m_3),(vI (l_2.length:Int))]))]:Hp)) (T:=(aP 1 eI ns_16 s_14)) (X:=([(n_23,some (bV 1 eI (List.replicate m_21 (0:Int))))]:Hp)) ?_)
   obtain ⟨_,hi_24,hc_17⟩:=bind_some hc_17
   refine j5 Aw rfl rfl (pU hi_24) (lw hi_24) wz ?_
   obtain ⟨_,hn_25,hc_17⟩:=bind_some hc_17
   replace hn_25:=Qg hn_25
   refine gG (v':=(gV n_23 1 (List.replicate m_21 (0:Int)))) 40 rfl (vV_gV hn_25) (xz 2 rfl (ME hn_25).symm ?_)
   obtain ⟨r_26,hr_27,hc_17⟩:=bind_some hc_17
   refine h_gst 8 0 (.inr (by kernel_rfl)) (λ_ _ ag=>⟨.inr (.inr (by kernel_rfl)),⟨.inr (.inr (by kernel_rfl)),trivial⟩⟩) uS rfl rfl rfl (PR hr_27) wz (kZ (H0:=(([(n_6,some (.cells 1 (aI 1 (xE ns_16 (0+((k_9:Int)).toNat) n_23) (s_14.set (0+((k_9:Int)).toNat) (List.replicate m_21 (0:Int)))))),(n_8,some (.cells 2 [(.vs n_6 1 0 m_3),(vI (l_2.length:Int))]))]:Hp)++[(n_23,gB 1 eI (List.replicate m_21 (0:Int)))]++(aP 1 eI ns_16 s_14))) rfl (h_rowin (PR hr_27) (af (au (dB (oO hD_12 hn_13) wz rfl (aa (vI ((k_9+1:Nat):Int)) (af ?_)))))))
   obtain rfl:=ae hc_17
   exact aV (k_9+1,l_10,(s_14.set (0+((k_9:Int)).toNat) (List.replicate m_21 (0:Int))),(xE ns_16 (0+((k_9:Int)).toNat) n_23)) ⟨hL_18,aR hD_12⟩ (ls_ _) rfl (dh (C1:=([(n_6,some (.cells 1 (aI 1 (xE ns_16 (0+((k_9:Int)).toNat) n_23) (s_14.set (0+((k_9:Int)).toNat) (List.replicate m_21 (0:Int)))))),(n_8,some (.cells 2 [(.vs n_6 1 0 m_3),(vI (l_2.length:Int))]))]:Hp)) (T:=(aP 1 eI (xE ns_16 (0+((k_9:Int)).toNat) n_23) (s_14.set (0+((k_9:Int)).toNat) (List.replicate m_21 (0:Int))))) [0,1] (by decide) rfl rfl)
 ·rintro ⟨s_14,ns_16⟩ ho_ sl_ H_ hp_ hq_
  subst ho_
  refine aO _ hp_ hq_ (ak (ai (aa (vL Campaign.enc l_2) (bH BA rfl wz (aa (vI 0) (af ?_))))))
  obtain ⟨o_36,hj_37,hF⟩:=bind_some hF
  obtain ⟨hn_32,hj_37⟩:=aY hj_37
  refine bN (λ(s_33:(List (List Int)))=>[(0,(vL Spot.enc spots_1)),(6,(.ref n_8 0 0))]) (λ(s_33:(List (List Int)))=>(([(n_6,some (.cells 1 (aI 1 ns_16 s_33))),(n_8,some (.cells 2 [(.vs n_6 1 0 m_3),(vI (l_2.length:Int))]))]:Hp)++(aP 1 eI ns_16 s_33))) (λ(k_28:Nat)=>(λ(s_33:(List (List Int)))=>[(0,(vL Spot.enc spots_1)),(6,(.ref n_8 0 0)),(43,(vL Campaign.enc l_2)),(44,(vI (l_2.length:Int))),(45,(vI (k_28:Int)))])) (λk x s=>iE m_3 l_2 spots_1 k x s) o_36 l_2 s_14 hj_37 rfl (dh (C1:=([(n_6,some (.cells 1 (aI 1 ns_16 s_14))),(n_8,some (.cells 2 [(.vs n_6 1 0 m_3),(vI (l_2.length:Int))]))]:Hp)) (T:=(aP 1 eI ns_16 s_14)) [0,1] (by decide) rfl rfl) ?_ ?_
  ·rintro ⟨k_28,l_29,s_33⟩ ⟨hL_35,hD_31⟩
   dsimp only at hL_35 hD_31
   cases l_29 with
   | nil =>
    obtain rfl:=ae hL_35
    refine ai (aa (vB (decide ((k_28:Int)<(l_2.length:Int)))) (af ?_))
    refine ak (ay rfl (drop_nil hD_31) (aW ?_))
    exact aU (s_33) rfl rfl (dh (C1:=([(n_6,some (.cells 1 (aI 1 ns_16 s_33))),(n_8,some (.cells 2 [(.vs n_6 1 0 m_3),(vI (l_2.length:Int))]))]:Hp)) (T:=(aP 1 eI ns_16 s_33)) [0,1] (by decide) rfl rfl)
   | cons x_30 l_29 =>
    obtain ⟨c_,hc_34,hL_35⟩:=bind_some hL_35
    refine ai (aa (vB (decide ((k_28:Int)<(l_2.length:Int)))) (af ?_))
    refine ak (aB rfl (bu hD_31) (ax ?_))
    unfold iE at hc_34
    refine ak (aM (ai (aa (vI (k_28:Int)) (dC Am rfl rfl (bD hD_31) rfl wz (bK oD vG rfl (.d (.agg (Campaign.enc x_30))) rfl wz (cz 0 (.inl rfl) z48 rfl wz (λn_38=>rY (C0:=([(n_6,some (.cells 1 (aI 1 ns_16 s_33))),(n_8,some (.cells 2 [(.vs n_6 1 0 m_3),(vI (l_2.length:Int))]))]:Hp)) (T:=(aP 1 eI ns_16 s_33)) (X:=([(n_38,some (.cells 8 [(vS (⟨#[]⟩:ByteArray)),(vS (⟨#[]⟩:ByteArray)),(vI 0),(vI 0),.nil,(vI 0),(vI 0),(vI 0)]))]:Hp)) (aa (vI (k_28:Int)) (eB 0 il ft 2 oD rfl rfl (Campaign.v x_30) rfl wz (af (ak (bE (aa (.ref n_8 0 0) (aa (.ref n_8 0 0) (aG nM rfl 0 rfl wz (aC 3 1 (.inr (by kernel_rfl)) (λ_ _ ag=>trivial) y9 y8 rfl rfl (.vs n_6 1 0 m_3) rfl wz ?_))))))))))))))))
    obtain ⟨_,hi_39,hc_34⟩:=bind_some hc_34
    refine j5 Aw rfl rfl (pU hi_39) (lw hi_39) wz ?_
    obtain ⟨r_40,hr_41,hc_34⟩:=bind_some hc_34
    refine qg 5 0 (.inr (by kernel_rfl)) (λ_ _ ag=>⟨.inl ⟨rfl,rfl⟩,trivial⟩) uS xu rfl rfl hr_41 wz (aa (.ref n_8 0 0) (aa (vI (k_28:Int)) ?_))
    obtain ⟨_,hn_44,hc_34⟩:=bind_some hc_34
    obtain ⟨_,hm_45,hc_34⟩:=bind_some hc_34
    obtain ⟨r_42,hr_43,hc_34⟩:=bind_some hc_34
    refine kZ (H0:=(([(n_6,some (.cells 1 (aI 1 ns_16 s_33))),(n_8,some (.cells 2 [(.vs n_6 1 0 m_3),(vI (l_2.length:Int))])),(n_38,some (.cells 8 (Campaign.v x_30)))]:Hp)++(aP 1 eI ns_16 s_33))) rfl (tC 8 1 0 (.inr (by kernel_rfl)) (λ_ _ ag=>by exact⟨.inl ⟨rfl,rfl⟩,⟨.inl ⟨rfl,rfl⟩,trivial⟩⟩) (nR hr_43) rfl hb31 rfl rfl (by decide) (pM hm_45) (rD hn_44) rfl (by kernel_rfl) (λ_=>by kernel_rfl) (by kernel_rfl) (by kernel_rfl) wz (aG zT rfl 5 rfl wz (aC 10 2 (.inr (by kernel_rfl)) (λ_ _ ag=>⟨.inl ⟨rfl,rfl⟩,⟨.inl ⟨rfl,rfl⟩,⟨.inl ⟨rfl,rfl⟩,trivial⟩⟩⟩) sz3 ag3 rfl rfl (vI x_30.Goal) rfl wz ?_)))
    obtain ⟨_,hi_46,hc_34⟩:=bind_some hc_34
    refine jG gq rfl rfl (gp hi_46) (dK hi_46) wz ?_
    obtain ⟨r_47,hr_48,hc_34⟩:=bind_some hc_34
    obtain ⟨e_49,hy_50,hc_34⟩:=bind_some hc_34
    refine kZ (H0:=(([(n_6,some (.cells 1 (aI 1 ns_16 s_33))),(n_8,some (.cells 2 [(.vs n_6 1 0 m_3),(vI (l_2.length:Int))])),(n_38,some (.cells 8 (Campaign.v x_30)))]:Hp)++(aP 1 eI ns_16 s_33))) rfl (AP 12 (.inr (by kernel_rfl)) (λ_ _ ag=>⟨.inr (.inr (by kernel_rfl)),⟨.inr (.inr (by kernel_rfl)),⟨.inr (.inr (by kernel_rfl)),⟨.inr (.inr (by kernel_rfl)),trivial⟩⟩⟩⟩) sz3 rfl hr_48 hy_50 x_30.Goal rfl wz (xz (b':=some (.cells 1 (aI 1 ns_16 (s_33.set (0+(0:Int).toNat) (r_47.set (0+(r_42).toNat) x_30.Goal))))) 0 rfl (sj hr_48) (af (ai (aa (vL Spot.enc spots_1) (bH Fa rfl wz (aa (vI 0) (af ?_))))))))
    obtain ⟨o_59,hj_60,hc_34⟩:=bind_some hc_34
    obtain ⟨hn_55,hj_60⟩:=aY hj_60
    refine bN (λ(s_56:(List (List Int)))=>[(0,(vL Spot.enc spots_1)),(6,(.ref n_8 0 0)),(43,(vL Campaign.enc l_2)),(44,(vI (l_2.length:Int))),(45,(vI (k_28:Int)))]) (λ(s_56:(List (List Int)))=>(([(n_6,some (.cells 1 (aI 1 ns_16 s_56))),(n_8,some (.cells 2 [(.vs n_6 1 0 m_3),(vI (l_2.length:Int))])),(n_38,some (.cells 8 (Campaign.v x_30)))]:Hp)++(aP 1 eI ns_16 s_56))) (λ(k_51:Nat)=>(λ(s_56:(List (List Int)))=>[(0,(vL Spot.enc spots_1)),(6,(.ref n_8 0 0)),(8,(vI (k_28:Int))),(9,(.ref n_38 0 0)),(43,(vL Campaign.enc l_2)),(44,(vI (l_2.length:Int))),(45,(vI (k_28:Int))),(62,(vL Spot.enc spots_1)),(63,(vI (spots_1.length:Int))),(64,(vI (k_51:Int)))])) (λk x s=>iC x_30 m_3 l_2 k_28 k x s) o_59 spots_1 (s_33.set (0+(0:Int).toNat) (r_47.set (0+(r_42).toNat) x_30.Goal)) hj_60 rfl (dh (C1:=([(n_6,some (.cells 1 (aI 1 ns_16 (s_33.set (0+(0:Int).toNat) (r_47.set (0+(r_42).toNat) x_30.Goal))))),(n_8,some (.cells 2 [(.vs n_6 1 0 m_3),(vI (l_2.length:Int))])),(n_38,some (.cells 8 (Campaign.v x_30)))]:Hp)) (T:=(aP 1 eI ns_16 (s_33.set (0+(0:Int).toNat) (r_47.set (0+(r_42).toNat) x_30.Goal)))) [0,1,2] (by decide) rfl rfl) ?_ ?_
    ·rintro ⟨k_51,l_52,s_56⟩ ⟨hL_58,hD_54⟩
     dsimp only at hL_58 hD_54
     cases l_52 with
     | nil =>
      obtain rfl:=ae hL_58
      refine ai (aa (vB (decide ((k_51:Int)<(spots_1.length:Int)))) (af ?_))
      refine ak (ay rfl (drop_nil hD_54) (aW ?_))
      exact aU (s_56) rfl rfl (dh (C1:=([(n_6,some (.cells 1 (aI 1 ns_16 s_56))),(n_8,some (.cells 2 [(.vs n_6 1 0 m_3),(vI (l_2.length:Int))])),(n_38,some (.cells 8 (Campaign.v x_30)))]:Hp)) (T:=(aP 1 eI ns_16 s_56)) [0,1,2] (by decide) rfl rfl)
     | cons x_53 l_52 =>
      obtain ⟨c_,hc_57,hL_58⟩:=bind_some hL_58
      refine ai (aa (vB (decide ((k_51:Int)<(spots_1.length:Int)))) (af ?_))
      refine ak (aB rfl (bu hD_54) (ax ?_))
      unfold iC at hc_57
      refine ak (aM (ai (aa (vI (k_51:Int)) (dC Dr rfl rfl (bD hD_54) rfl wz (bK uq Db rfl (.d (.agg (Spot.enc x_53))) rfl wz (cz 0 (.inl rfl) z57 rfl wz (λn_61=>rY (C0:=([(n_6,some (.cells 1 (aI 1 ns_16 s_56))),(n_8,some (.cells 2 [(.vs n_6 1 0 m_3),(vI (l_2.length:Int))])),(n_38,some (.cells 8 (Campaign.v x_30)))]:Hp)) (T:=(aP 1 eI ns_16 s_56)) (X:=([(n_61,some (.cells 5 [(vS (⟨#[]⟩:ByteArray)),(vI 0),(vI 0),(vI 0),.nil]))]:Hp)) (aa (vI (k_51:Int)) (eB 0 il ft 3 uq rfl rfl (Spot.v x_53) rfl wz (af (ai (aC 0 2 il ft oD vG rfl rfl (.d (.agg (Campaign.enc x_30))) rfl wz (aC 0 3 il ft uq Db rfl rfl (.d (.agg (Spot.enc x_53))) rfl wz ?_)))))))))))))
      obtain ⟨r_62,hr_63,hc_57⟩:=bind_some hc_57
      refine aF (wh hr_63) rfl hb30 rfl rfl rfl rfl wz (af ?_)
      obtain ⟨v_64,h_65,hc_57⟩:=bind_some hc_57
      refine aS [(0,(vL Spot.enc spots_1)),(6,(.ref n_8 0 0)),(8,(vI (k_28:Int))),(9,(.ref n_38 0 0)),(43,(vL Campaign.enc l_2)),(44,(vI (l_2.length:Int))),(45,(vI (k_28:Int))),(62,(vL Spot.enc spots_1)),(63,(vI (spots_1.length:Int))),(64,(vI (k_51:Int)))] (([(n_6,some (.cells 1 (aI 1 ns_16 v_64))),(n_8,some (.cells 2 [(.vs n_6 1 0 m_3),(vI (l_2.length:Int))])),(n_38,some (.cells 8 (Campaign.v x_30))),(n_61,some (.cells 5 (Spot.v x_53)))]:Hp)++(aP 1 eI ns_16 v_64)) ?_ ?_
      ·rcases aj h_65 with⟨hc_66,h_65⟩|⟨hc_66,h_65⟩
       ·refine aB rfl hc_66 (bE (aa (.ref n_8 0 0) (aa (.ref n_8 0 0) (aG nM rfl 0 rfl wz (aC 3 1 (.inr (by kernel_rfl)) (λ_ _ ag=>trivial) y9 y8 rfl rfl (.vs n_6 1 0 m_3) rfl wz (aa (.ref n_8 0 0) (aa (vI (k_28:Int)) ?_)))))))
        obtain ⟨_,hn_69,h_65⟩:=bind_some h_65
        obtain ⟨_,hm_70,h_65⟩:=bind_some h_65
        obtain ⟨r_67,hr_68,h_65⟩:=bind_some h_65
        refine kZ (H0:=(([(n_6,some (.cells 1 (aI 1 ns_16 s_56))),(n_8,some (.cells 2 [(.vs n_6 1 0 m_3),(vI (l_2.length:Int))])),(n_38,some (.cells 8 (Campaign.v x_30))),(n_61,some (.cells 5 (Spot.v x_53)))]:Hp)++(aP 1 eI ns_16 s_56))) rfl (tC 6 1 0 (.inr (by kernel_rfl)) (λ_ _ ag=>by exact⟨.inl ⟨rfl,rfl⟩,trivial⟩) (nR hr_68) rfl hb31 rfl rfl (by decide) (pM hm_70) (rD hn_69) rfl (by kernel_rfl) (λ_=>by kernel_rfl) (by kernel_rfl) (by kernel_rfl) wz ?_)
        obtain ⟨_,hi_71,h_65⟩:=bind_some h_65
        refine j5 Aw rfl rfl (pU hi_71) (lw hi_71) wz ?_
        obtain ⟨r_72,hr_73,h_65⟩:=bind_some h_65
        refine qg 8 0 (.inr (by kernel_rfl)) (λ_ _ ag=>⟨.inl ⟨rfl,rfl⟩,⟨.inl ⟨rfl,rfl⟩,trivial⟩⟩) uS xu rfl rfl hr_73 wz (aa (.ref n_8 0 0) (aa (vI (k_51:Int)) ?_))
        obtain ⟨_,hn_76,h_65⟩:=bind_some h_65
        obtain ⟨_,hm_77,h_65⟩:=bind_some h_65
        obtain ⟨r_74,hr_75,h_65⟩:=bind_some h_65
        refine kZ (H0:=(([(n_6,some (.cells 1 (aI 1 ns_16 s_56))),(n_8,some (.cells 2 [(.vs n_6 1 0 m_3),(vI (l_2.length:Int))])),(n_38,some (.cells 8 (Campaign.v x_30))),(n_61,some (.cells 5 (Spot.v x_53)))]:Hp)++(aP 1 eI ns_16 s_56))) rfl (tC 11 1 0 (.inr (by kernel_rfl)) (λ_ _ ag=>by exact⟨.inl ⟨rfl,rfl⟩,⟨.inl ⟨rfl,rfl⟩,⟨.inl ⟨rfl,rfl⟩,trivial⟩⟩⟩) (nO hr_75) rfl hb32 rfl rfl (by decide) (pM hm_77) (rD hn_76) rfl (by kernel_rfl) (λ_=>by kernel_rfl) (by kernel_rfl) (by kernel_rfl) wz (aG Me rfl 6 rfl wz (aC 13 2 (.inr (by kernel_rfl)) (λ_ _ ag=>⟨.inl ⟨rfl,rfl⟩,⟨.inl ⟨rfl,rfl⟩,⟨.inl ⟨rfl,rfl⟩,⟨.inl ⟨rfl,rfl⟩,trivial⟩⟩⟩⟩) sz3 ag3 rfl rfl (vI x_30.Most) rfl wz ?_)))
        obtain ⟨_,hi_78,h_65⟩:=bind_some h_65
        refine jG gq rfl rfl (gp hi_78) (dK hi_78) wz ?_
        obtain ⟨r_79,hr_80,h_65⟩:=bind_some h_65
        obtain ⟨e_81,hy_82,h_65⟩:=bind_some h_65
        refine kZ (H0:=(([(n_6,some (.cells 1 (aI 1 ns_16 s_56))),(n_8,some (.cells 2 [(.vs n_6 1 0 m_3),(vI (l_2.length:Int))])),(n_38,some (.cells 8 (Campaign.v x_30))),(n_61,some (.cells 5 (Spot.v x_53)))]:Hp)++(aP 1 eI ns_16 s_56))) rfl (AP 15 (.inr (by kernel_rfl)) (λ_ _ ag=>⟨.inr (.inr (by kernel_rfl)),⟨.inr (.inr (by kernel_rfl)),⟨.inr (.inr (by kernel_rfl)),⟨.inr (.inr (by kernel_rfl)),⟨.inr (.inr (by kernel_rfl)),trivial⟩⟩⟩⟩⟩) sz3 rfl hr_80 hy_82 x_30.Most rfl wz (xz (b':=some (.cells 1 (aI 1 ns_16 (s_56.set (0+(r_67).toNat) (r_79.set (0+(r_74).toNat) x_30.Most))))) 0 rfl (sj hr_80) (af ?_)))
        obtain rfl:=ae h_65
        exact aU () trivial rfl (dh (C1:=([(n_6,some (.cells 1 (aI 1 ns_16 (s_56.set (0+(r_67).toNat) (r_79.set (0+(r_74).toNat) x_30.Most))))),(n_8,some (.cells 2 [(.vs n_6 1 0 m_3),(vI (l_2.length:Int))])),(n_38,some (.cells 8 (Campaign.v x_30))),(n_61,some (.cells 5 (Spot.v x_53)))]:Hp)) (T:=(aP 1 eI ns_16 (s_56.set (0+(r_67).toNat) (r_79.set (0+(r_74).toNat) x_30.Most)))) [0,1,2,3] (by decide) rfl rfl)
       ·refine ay rfl hc_66 (ax ?_)
        obtain rfl:=ae h_65
        exact aU () trivial rfl (dh (C1:=([(n_6,some (.cells 1 (aI 1 ns_16 s_56))),(n_8,some (.cells 2 [(.vs n_6 1 0 m_3),(vI (l_2.length:Int))])),(n_38,some (.cells 8 (Campaign.v x_30))),(n_61,some (.cells 5 (Spot.v x_53)))]:Hp)) (T:=(aP 1 eI ns_16 s_56)) [0,1,2,3] (by decide) rfl rfl)
      ·rintro ⟨⟩ _ sl_ H_ hp_ hq_
       refine aO _ hp_ hq_ (au (dB (bv hD_54 hn_55) wz rfl (aa (vI ((k_51+1:Nat):Int)) (af ?_))))
       obtain rfl:=ae hc_57
       exact aV (k_51+1,l_52,v_64) ⟨hL_58,aR hD_54⟩ (ls_ _) rfl (dh (C1:=([(n_6,some (.cells 1 (aI 1 ns_16 v_64))),(n_8,some (.cells 2 [(.vs n_6 1 0 m_3),(vI (l_2.length:Int))])),(n_38,some (.cells 8 (Campaign.v x_30))),(n_61,some (.cells 5 (Spot.v x_53)))]:Hp)) (T:=(aP 1 eI ns_16 v_64)) [0,1,2] (by decide) rfl rfl)
    ·rintro s_56 ho_ sl_ H_ hp_ hq_
     subst ho_
     refine aO _ hp_ hq_ (au (dB (bv hD_31 hn_32) wz rfl (aa (vI ((k_28+1:Nat):Int)) (af ?_))))
     obtain rfl:=ae hc_34
     exact aV (k_28+1,l_29,s_56) ⟨hL_35,aR hD_31⟩ (ls_ _) rfl (dh (C1:=([(n_6,some (.cells 1 (aI 1 ns_16 s_56))),(n_8,some (.cells 2 [(.vs n_6 1 0 m_3),(vI (l_2.length:Int))])),(n_38,some (.cells 8 (Campaign.v x_30)))]:Hp)) (T:=(aP 1 eI ns_16 s_56)) [0,1] (by decide) rfl rfl)
  ·rintro s_33 ho_ sl_ H_ hp_ hq_
   subst ho_
   refine aO _ hp_ hq_ (ak (ai (aa (vL Spot.enc spots_1) (bH Fa rfl wz (aa (vI 0) (af ?_))))))
   obtain ⟨o_91,hj_92,hF⟩:=bind_some hF
   obtain ⟨hn_87,hj_92⟩:=aY hj_92
   refine bN (λ(s_88:(List (List Int)))=>[(6,(.ref n_8 0 0))]) (λ(s_88:(List (List Int)))=>(([(n_6,some (.cells 1 (aI 1 ns_16 s_88))),(n_8,some (.cells 2 [(.vs n_6 1 0 m_3),(vI (l_2.length:Int))]))]:Hp)++(aP 1 eI ns_16 s_88))) (λ(k_83:Nat)=>(λ(s_88:(List (List Int)))=>[(6,(.ref n_8 0 0)),(89,(vL Spot.enc spots_1)),(90,(vI (spots_1.length:Int))),(91,(vI (k_83:Int)))])) (λk x s=>jS m_3 l_2 k x s) o_91 spots_1 s_33 hj_92 rfl (dh (C1:=([(n_6,some (.cells 1 (aI 1 ns_16 s_33))),(n_8,some (.cells 2 [(.vs n_6 1 0 m_3),(vI (l_2.length:Int))]))]:Hp)) (T:=(aP 1 eI ns_16 s_33)) [0,1] (by decide) rfl rfl) ?_ ?_
   ·rintro ⟨k_83,l_84,s_88⟩ ⟨hL_90,hD_86⟩
    dsimp only at hL_90 hD_86
    cases l_84 with
    | nil =>
     obtain rfl:=ae hL_90
     refine ai (aa (vB (decide ((k_83:Int)<(spots_1.length:Int)))) (af ?_))
     refine ak (ay rfl (drop_nil hD_86) (aW ?_))
     exact aU (s_88) rfl rfl (dh (C1:=([(n_6,some (.cells 1 (aI 1 ns_16 s_88))),(n_8,some (.cells 2 [(.vs n_6 1 0 m_3),(vI (l_2.length:Int))]))]:Hp)) (T:=(aP 1 eI ns_16 s_88)) [0,1] (by decide) rfl rfl)
    | cons x_85 l_84 =>
     obtain ⟨c_,hc_89,hL_90⟩:=bind_some hL_90
     refine ai (aa (vB (decide ((k_83:Int)<(spots_1.length:Int)))) (af ?_))
     refine ak (aB rfl (bu hD_86) (ax ?_))
     unfold jS at hc_89
     refine ak (aM (ai (aa (vI (k_83:Int)) (dC Dr rfl rfl (bD hD_86) rfl wz (bK uq Db rfl (.d (.agg (Spot.enc x_85))) rfl wz (cz 0 (.inl rfl) z57 rfl wz (λn_93=>rY (C0:=([(n_6,some (.cells 1 (aI 1 ns_16 s_88))),(n_8,some (.cells 2 [(.vs n_6 1 0 m_3),(vI (l_2.length:Int))]))]:Hp)) (T:=(aP 1 eI ns_16 s_88)) (X:=([(n_93,some (.cells 5 [(vS (⟨#[]⟩:ByteArray)),(vI 0),(vI 0),(vI 0),.nil]))]:Hp)) (aa (vI (k_83:Int)) (eB 0 il ft 2 uq rfl rfl (Spot.v x_85) rfl wz (af (bE (aa (.ref n_8 0 0) (aa (.ref n_8 0 0) (aG nM rfl 0 rfl wz (aC 3 1 (.inr (by kernel_rfl)) (λ_ _ ag=>trivial) y9 y8 rfl rfl (.vs n_6 1 0 m_3) rfl wz (aa (.ref n_8 0 0) (aa (vI (k_83:Int)) ?_)))))))))))))))))
     obtain ⟨_,hn_96,hc_89⟩:=bind_some hc_89
     obtain ⟨_,hm_97,hc_89⟩:=bind_some hc_89
     obtain ⟨r_94,hr_95,hc_89⟩:=bind_some hc_89
     refine kZ (H0:=(([(n_6,some (.cells 1 (aI 1 ns_16 s_88))),(n_8,some (.cells 2 [(.vs n_6 1 0 m_3),(vI (l_2.length:Int))])),(n_93,some (.cells 5 (Spot.v x_85)))]:Hp)++(aP 1 eI ns_16 s_88))) rfl (tC 6 1 0 (.inr (by kernel_rfl)) (λ_ _ ag=>by exact⟨.inl ⟨rfl,rfl⟩,trivial⟩) (nO hr_95) rfl hb32 rfl rfl (by decide) (pM hm_97) (rD hn_96) rfl (by kernel_rfl) (λ_=>by kernel_rfl) (by kernel_rfl) (by kernel_rfl) wz ?_)
     obtain ⟨_,hi_98,hc_89⟩:=bind_some hc_89
     refine j5 Aw rfl rfl (pU hi_98) (lw hi_98) wz ?_
     obtain ⟨r_99,hr_100,hc_89⟩:=bind_some hc_89
     refine qg 8 0 (.inr (by kernel_rfl)) (λ_ _ ag=>⟨.inl ⟨rfl,rfl⟩,⟨.inl ⟨rfl,rfl⟩,trivial⟩⟩) uS xu rfl rfl hr_100 wz (aG z8 rfl 3 rfl wz (aC 10 2 (.inr (by kernel_rfl)) (λ_ _ ag=>⟨.inl ⟨rfl,rfl⟩,⟨.inl ⟨rfl,rfl⟩,⟨.inl ⟨rfl,rfl⟩,trivial⟩⟩⟩) sz3 ag3 rfl rfl (vI x_85.Room) rfl wz ?_))
     obtain ⟨_,hi_101,hc_89⟩:=bind_some hc_89
     refine jG gq rfl rfl (gp hi_101) (dK hi_101) wz ?_
     obtain ⟨r_102,hr_103,hc_89⟩:=bind_some hc_89
     obtain ⟨e_104,hy_105,hc_89⟩:=bind_some hc_89
     refine kZ (H0:=(([(n_6,some (.cells 1 (aI 1 ns_16 s_88))),(n_8,some (.cells 2 [(.vs n_6 1 0 m_3),(vI (l_2.length:Int))])),(n_93,some (.cells 5 (Spot.v x_85)))]:Hp)++(aP 1 eI ns_16 s_88))) rfl (AP 12 (.inr (by kernel_rfl)) (λ_ _ ag=>⟨.inr (.inr (by kernel_rfl)),⟨.inr (.inr (by kernel_rfl)),⟨.inr (.inr (by kernel_rfl)),⟨.inr (.inr (by kernel_rfl)),trivial⟩⟩⟩⟩) sz3 rfl hr_103 hy_105 x_85.Room rfl wz (xz (b':=some (.cells 1 (aI 1 ns_16 (s_88.set (0+(r_94).toNat) (r_102.set (0+(1:Int).toNat) x_85.Room))))) 0 rfl (sj hr_103) (af (au (dB (bv hD_86 hn_87) wz rfl (aa (vI ((k_83+1:Nat):Int)) (af ?_)))))))
     obtain rfl:=ae hc_89
     exact aV (k_83+1,l_84,(s_88.set (0+(r_94).toNat) (r_102.set (0+(1:Int).toNat) x_85.Room))) ⟨hL_90,aR hD_86⟩ (ls_ _) rfl (dh (C1:=([(n_6,some (.cells 1 (aI 1 ns_16 (s_88.set (0+(r_94).toNat) (r_102.set (0+(1:Int).toNat) x_85.Room))))),(n_8,some (.cells 2 [(.vs n_6 1 0 m_3),(vI (l_2.length:Int))])),(n_93,some (.cells 5 (Spot.v x_85)))]:Hp)) (T:=(aP 1 eI ns_16 (s_88.set (0+(r_94).toNat) (r_102.set (0+(1:Int).toNat) x_85.Room)))) [0,1] (by decide) rfl rfl)
   ·rintro s_88 ho_ sl_ H_ hp_ hq_
    subst ho_
    refine aO _ hp_ hq_ (ai (aa (.ref n_8 0 0) (aa (.ref n_8 0 0) (af ?_))))
    obtain ⟨_,hk_,hF⟩:=bind_some hF
    obtain rfl:=ae hF
    exact aA (finGrN 1 0 (.inr rfl) rfl rfl (pM hk_) (by decide) rfl rfl rfl)
theorem zI {wv_1:Web} {fromv_2:Int} {tov_3:Int} {r:(List Int)×Bool} (hF:lG wv_1 fromv_2 tov_3=some r) :
  FnM Tryz.prog 50 [(.ref (av 0) 0 0),(vI fromv_2),(vI tov_3)] (ll 2 1 eI [(vI wv_1.f_camps)] wv_1.f_can) (.tup [(vL eI r.1),(vB r.2)]) (gJ 2 1 eI [(vI wv_1.f_camps)] wv_1.f_can):=by
 refine FnM.of_wHg (cs:=[(vI wv_1.f_camps)]) ⟨Tryz.prog,87,[33],[]⟩ rfl Tryz.func50 rfl rfl (lb_ rfl) (by kernel_rfl) ?_
 unfold lG at hF
 refine ai (aa .nil (aa (vB false) (af (ai (aa (.ref (av 0) 0 0) (aa (.ref (av 0) 0 0) (aG nM rfl 0 rfl wz (aC 0 0 il ft y9 y8 rfl rfl (.vs (av 1) 1 0 wv_1.f_can.length) rfl wz (Jg un78 rfl wz ?_)))))))))
 obtain ⟨m_4,hm_5,hF⟩:=bind_some hF
 refine GD (enc:=eI) 0 (.inl rfl) 0 Lh sz3 z3 by3 rfl rfl (by decide) rfl rfl rfl hm_5 wz (λn_6=>rY (C0:=([((av 0),some (.cells 2 [(.vs (av 1) 1 0 wv_1.f_can.length),(vI wv_1.f_camps)])),((av 1),some (.cells 1 (aI 1 bS wv_1.f_can)))]:Hp)) (T:=(aP 1 eI bS wv_1.f_can)) (X:=([(n_6,some (bV 1 eI (List.replicate m_4 (0:Int))))]:Hp)) (aa (vV n_6 1 (List.replicate m_4 (0:Int))) (af (ak (ai (aa (vV n_6 1 (List.replicate m_4 (0:Int))) (P7 uT rfl wz (aa (vI 0) (af ?_)))))))))
 obtain ⟨o_15,hj_16,hF⟩:=bind_some hF
 obtain ⟨hn_11,hj_16⟩:=aY hj_16
 refine bN (λ(s_12:List Int)=>[(0,(.ref (av 0) 0 0)),(1,(vI fromv_2)),(2,(vI tov_3)),(8,(vV n_6 1 s_12))]) (λ(s_12:List Int)=>(([((av 0),some (.cells 2 [(.vs (av 1) 1 0 wv_1.f_can.length),(vI wv_1.f_camps)])),((av 1),some (.cells 1 (aI 1 bS wv_1.f_can))),(n_6,some (bV 1 eI s_12))]:Hp)++(aP 1 eI bS wv_1.f_can))) (λ(k_7:Nat)=>(λ(s_12:List Int)=>[(0,(.ref (av 0) 0 0)),(1,(vI fromv_2)),(2,(vI tov_3)),(8,(vV n_6 1 s_12)),(20,(vI ((List.replicate m_4 (0:Int)).length:Int))),(21,(vI (k_7:Int)))])) (λk x s=>jk k x s) o_15 (List.range (((List.replicate m_4 (0:Int)).length:Int)).toNat) (List.replicate m_4 (0:Int)) hj_16 rfl (dh (C1:=([((av 0),some (.cells 2 [(.vs (av 1) 1 0 wv_1.f_can.length),(vI wv_1.f_camps)])),((av 1),some (.cells 1 (aI 1 bS wv_1.f_can))),(n_6,some (bV 1 eI (List.replicate m_4 (0:Int))))]:Hp)) (T:=(aP 1 eI bS wv_1.f_can)) [0,1,2] (by decide) rfl rfl) ?_ ?_
 ·rintro ⟨k_7,l_8,s_12⟩ ⟨hL_14,hD_10⟩
  dsimp only at hL_14 hD_10
  cases l_8 with
  | nil =>
   obtain rfl:=ae hL_14
   refine ai (aa (vB (decide ((k_7:Int)<((List.replicate m_4 (0:Int)).length:Int)))) (af ?_))
   refine ak (ay rfl (oV hD_10) (aW ?_))
   exact aU (s_12) rfl rfl (dh (C1:=([((av 0),some (.cells 2 [(.vs (av 1) 1 0 wv_1.f_can.length),(vI wv_1.f_camps)])),((av 1),some (.cells 1 (aI 1 bS wv_1.f_can))),(n_6,some (bV 1 eI s_12))]:Hp)) (T:=(aP 1 eI bS wv_1.f_can)) [0,1,2] (by decide) rfl rfl)
  | cons x_9 l_8 =>
   obtain ⟨c_,hc_13,hL_14⟩:=bind_some hL_14
   refine ai (aa (vB (decide ((k_7:Int)<((List.replicate m_4 (0:Int)).length:Int)))) (af ?_))
   refine ak (aB rfl (mP hD_10) (ax ?_))
   unfold jk at hc_13
   refine ak (aM (ai (aa (vI (k_7:Int)) (aa (vI (k_7:Int)) (af (au (aa (vV n_6 1 s_12) (aa (vI (k_7:Int)) ?_))))))))
   obtain ⟨_,hi_17,hc_13⟩:=bind_some hc_13
   refine j5 gq rfl rfl (gp hi_17) (dK hi_17) wz ?_
   obtain ⟨e_18,hy_19,hc_13⟩:=bind_some hc_13
   refine JB 0 il ft 2 sz3 rfl rfl hy_19 (-1) rfl wz (gG (v':=(vV n_6 1 (s_12.set (0+((k_7:Int)).toNat) (-1)))) 8 rfl (uL (by simp)) (gG (v':=(vV n_6 1 (s_12.set (0+((k_7:Int)).toNat) (-1)))) 24 rfl (uL (by simp)) (af (au (dB (oO hD_10 hn_11) wz rfl (aa (vI ((k_7+1:Nat):Int)) (af ?_)))))))
   obtain rfl:=ae hc_13
   exact aV (k_7+1,l_8,(s_12.set (0+((k_7:Int)).toNat) (-1))) ⟨hL_14,aR hD_10⟩ (ls_ _) rfl (dh (C1:=([((av 0),some (.cells 2 [(.vs (av 1) 1 0 wv_1.f_can.length),(vI wv_1.f_camps)])),((av 1),some (.cells 1 (aI 1 bS wv_1.f_can))),(n_6,some (bV 1 eI (s_12.set (0+((k_7:Int)).toNat) (-1))))]:Hp)) (T:=(aP 1 eI bS wv_1.f_can)) [0,1,2] (by decide) rfl rfl)
 ·rintro s_12 ho_ sl_ H_ hp_ hq_
  subst ho_
  refine aO _ hp_ hq_ (ai (aa (vV n_6 1 s_12) (aa (vI fromv_2) (aa (vI fromv_2) ?_))))
  obtain ⟨_,hi_20,hF⟩:=bind_some hF
  refine j5 gq rfl rfl (gp hi_20) (dK hi_20) wz ?_
  obtain ⟨e_21,hy_22,hF⟩:=bind_some hF
  refine JB 0 il ft 2 sz3 rfl rfl hy_22 fromv_2 rfl wz (gG (v':=(vV n_6 1 (s_12.set (0+(fromv_2).toNat) fromv_2))) 8 rfl (uL (by simp)) (gG (v':=(vV n_6 1 (s_12.set (0+(fromv_2).toNat) fromv_2))) 28 rfl (uL (by simp)) (af (ak (ai (aa (vI fromv_2) (h_litv 0 (.inl rfl) (([fromv_2]:List Int).map eI) gq zJ rfl rfl rfl rfl rfl wz (λn_23=>rY (C0:=([((av 0),some (.cells 2 [(.vs (av 1) 1 0 wv_1.f_can.length),(vI wv_1.f_camps)])),((av 1),some (.cells 1 (aI 1 bS wv_1.f_can))),(n_6,some (bV 1 eI (s_12.set (0+(fromv_2).toNat) fromv_2)))]:Hp)) (T:=(aP 1 eI bS wv_1.f_can)) (X:=([(n_23,some (bV 1 eI ([fromv_2]:List Int)))]:Hp)) (aa (vV n_23 1 ([fromv_2]:List Int)) (af ?_))))))))))
  obtain ⟨o_34,hj_35,hF⟩:=bind_some hF
  obtain ⟨nq_90,hj_35⟩:=dR hj_35
  refine D8 (σ:=(List Int)×(List Int)×Nat) (N:=Nm) (λp=>(λ(s_29:(List Int)×(List Int)×Nat) (n_31:Nm)=>([(2,(vI tov_3)),(8,(vV n_6 1 s_29.1))]:SL_)) p.1 p.2) (λp=>(λ(s_29:(List Int)×(List Int)×Nat) (n_31:Nm)=>(([((av 0),some (.cells 2 [(.vs (av 1) 1 0 wv_1.f_can.length),(vI wv_1.f_camps)])),((av 1),some (.cells 1 (aI 1 bS wv_1.f_can))),(n_6,some (bV 1 eI s_29.1)),(n_31,some (bV 1 eI s_29.2.1))]:Hp)++(aP 1 eI bS wv_1.f_can))) p.1 p.2) (λ(k_24:Nat)=>(λp=>(λ(s_29:(List Int)×(List Int)×Nat) (n_31:Nm)=>([(0,(.ref (av 0) 0 0)),(2,(vI tov_3)),(8,(vV n_6 1 s_29.1)),(10,(qV n_31 1 s_29.2.1 s_29.2.2))]:SL_)) p.1 p.2)) (λs=>fM tov_3 wv_1 s) o_34 nq_90 (((s_12.set (0+(fromv_2).toNat) fromv_2),([fromv_2]:List Int),0),n_23) hj_35 rfl (dh (C1:=([((av 0),some (.cells 2 [(.vs (av 1) 1 0 wv_1.f_can.length),(vI wv_1.f_camps)])),((av 1),some (.cells 1 (aI 1 bS wv_1.f_can))),(n_6,some (bV 1 eI (s_12.set (0+(fromv_2).toNat) fromv_2))),(n_23,some (bV 1 eI ([fromv_2]:List Int)))]:Hp)) (T:=(aP 1 eI bS wv_1.f_can)) [0,1,2,3] (by decide) rfl rfl) ?_ ?_
  ·rintro ⟨k_24,s_29,n_31⟩ hL_33
   dsimp only at hL_33
   cases k_24 with
   | zero=>cases hL_33
   | succ k_24 =>
    obtain ⟨c_,hc_32,hL_33⟩:=bind_some hL_33
    unfold fM at hc_32
    refine ak (ak ?_)
    obtain ⟨v_36,h_37,hc_32⟩:=bind_some hc_32
    refine aS [(0,(.ref (av 0) 0 0)),(2,(vI tov_3)),(8,(vV n_6 1 s_29.1)),(10,(qV n_31 1 s_29.2.1 s_29.2.2)),(43,(vB v_36))] (([((av 0),some (.cells 2 [(.vs (av 1) 1 0 wv_1.f_can.length),(vI wv_1.f_camps)])),((av 1),some (.cells 1 (aI 1 bS wv_1.f_can))),(n_6,some (bV 1 eI s_29.1)),(n_31,some (bV 1 eI s_29.2.1))]:Hp)++(aP 1 eI bS wv_1.f_can)) ?_ ?_
    ·refine au (aa (qV n_31 1 s_29.2.1 s_29.2.2) (Jg uT rfl wz (aa (vB (decide ((((s_29.2.1.length-s_29.2.2):Nat):Int)>0))) ?_)))
     rcases aj h_37 with⟨hc_38,h_37⟩|⟨hc_38,h_37⟩
     ·refine aD rfl hc_38 wz (aJ (vV n_6 1 s_29.1) wa rfl (aJ (vI tov_3) wa rfl ?_))
      obtain ⟨_,hi_39,h_37⟩:=bind_some h_37
      refine j5 gq rfl rfl (gp hi_39) (dK hi_39) wa ?_
      obtain ⟨e_40,hy_41,h_37⟩:=bind_some h_37
      refine Bh 0 2 il ft sz3 ag3 rfl rfl hy_41 (vI e_40) rfl wa (aJ (vB (decide (e_40<0))) wa rfl (aa (vB (decide (e_40<0))) (af ?_)))
      obtain rfl:=ae h_37
      exact aU () trivial rfl (dh (C1:=([((av 0),some (.cells 2 [(.vs (av 1) 1 0 wv_1.f_can.length),(vI wv_1.f_camps)])),((av 1),some (.cells 1 (aI 1 bS wv_1.f_can))),(n_6,some (bV 1 eI s_29.1)),(n_31,some (bV 1 eI s_29.2.1))]:Hp)) (T:=(aP 1 eI bS wv_1.f_can)) [0,1,2,3] (by decide) rfl rfl)
     ·refine aD rfl hc_38 wz (ah (ah (ah (ah (ah (aa (vB false) (af ?_)))))))
      obtain rfl:=ae h_37
      exact aU () trivial rfl (dh (C1:=([((av 0),some (.cells 2 [(.vs (av 1) 1 0 wv_1.f_can.length),(vI wv_1.f_camps)])),((av 1),some (.cells 1 (aI 1 bS wv_1.f_can))),(n_6,some (bV 1 eI s_29.1)),(n_31,some (bV 1 eI s_29.2.1))]:Hp)) (T:=(aP 1 eI bS wv_1.f_can)) [0,1,2,3] (by decide) rfl rfl)
    ·rintro ⟨⟩ _ sl_ H_ hp_ hq_
     refine aO _ hp_ hq_ ?_
     rcases aj hc_32 with⟨hc_42,hc_32⟩|⟨hc_42,hc_32⟩
     ·refine aB rfl hc_42 (ax (ak (aM (ak (bE (aa (.ref (av 0) 0 0) (aa (.ref (av 0) 0 0) (aG nM rfl 0 rfl wz (aC 3 0 (.inr (by kernel_rfl)) (λ_ _ ag=>trivial) y9 y8 rfl rfl (.vs (av 1) 1 0 wv_1.f_can.length) rfl wz (aa (qV n_31 1 s_29.2.1 s_29.2.2) ?_))))))))))
      obtain ⟨_,hi_43,hc_32⟩:=bind_some hc_32
      refine j5 gq rfl rfl (pU hi_43) (lw hi_43) wz ?_
      obtain ⟨e_44,hy_45,hc_32⟩:=bind_some hc_32
      refine Bh 6 3 (.inr (by kernel_rfl)) (λ_ _ ag=>⟨.inl ⟨rfl,rfl⟩,trivial⟩) sz3 ag3 rfl rfl hy_45 (vI e_44) rfl wz ?_
      obtain ⟨_,hi_46,hc_32⟩:=bind_some hc_32
      refine j5 Aw rfl rfl (pU hi_46) (lw hi_46) wz ?_
      obtain ⟨r_47,hr_48,hc_32⟩:=bind_some hc_32
      refine qg 8 1 (.inr (by kernel_rfl)) (λ_ _ ag=>⟨.inl ⟨rfl,rfl⟩,⟨.inl ⟨rfl,rfl⟩,trivial⟩⟩) uS xu rfl rfl hr_48 wz (IB uT rfl wz (aa (vI 0) (af ?_)))
      obtain ⟨o_59,hj_60,hc_32⟩:=bind_some hc_32
      obtain ⟨hn_53,hj_60⟩:=aY hj_60
      refine fT (σ:=(List Int)×(List Int)×Nat) (N:=Nm) (λp=>(λ(s_54:(List Int)×(List Int)×Nat) (n_56:Nm)=>([(0,(.ref (av 0) 0 0)),(2,(vI tov_3)),(8,(vV n_6 1 s_54.1)),(10,(qV n_56 1 s_54.2.1 s_54.2.2))]:SL_)) p.1 p.2) (λp=>(λ(s_54:(List Int)×(List Int)×Nat) (n_56:Nm)=>(([((av 0),some (.cells 2 [(.vs (av 1) 1 0 wv_1.f_can.length),(vI wv_1.f_camps)])),((av 1),some (.cells 1 (aI 1 bS wv_1.f_can))),(n_6,some (bV 1 eI s_54.1)),(n_56,some (bV 1 eI s_54.2.1))]:Hp)++(aP 1 eI bS wv_1.f_can))) p.1 p.2) (λ(k_49:Nat)=>(λp=>(λ(s_54:(List Int)×(List Int)×Nat) (n_56:Nm)=>([(0,(.ref (av 0) 0 0)),(2,(vI tov_3)),(8,(vV n_6 1 s_54.1)),(10,(qV n_56 1 s_54.2.1 s_54.2.2)),(54,(gV (bS (0+(e_44).toNat)) 1 r_47)),(55,(vI (r_47.length:Int))),(56,(vI (k_49:Int)))]:SL_)) p.1 p.2)) (λk x s=>gX r_47 wv_1 e_44 k x s) o_59 (List.range ((r_47.length:Int)).toNat) ((s_29.1,s_29.2.1,s_29.2.2),n_31) hj_60 rfl (dh (C1:=([((av 0),some (.cells 2 [(.vs (av 1) 1 0 wv_1.f_can.length),(vI wv_1.f_camps)])),((av 1),some (.cells 1 (aI 1 bS wv_1.f_can))),(n_6,some (bV 1 eI s_29.1)),(n_31,some (bV 1 eI s_29.2.1))]:Hp)) (T:=(aP 1 eI bS wv_1.f_can)) [0,1,2,3] (by decide) rfl rfl) ?_ ?_
      ·rintro ⟨k_49,l_50,s_54,n_56⟩ ⟨hL_58,hD_52⟩
       dsimp only at hL_58 hD_52
       cases l_50 with
       | nil =>
        obtain rfl:=ae hL_58
        refine ai (aa (vB (decide ((k_49:Int)<(r_47.length:Int)))) (af ?_))
        refine ak (ay rfl (oV hD_52) (aW ?_))
        exact aU (s_54,n_56) rfl rfl (dh (C1:=([((av 0),some (.cells 2 [(.vs (av 1) 1 0 wv_1.f_can.length),(vI wv_1.f_camps)])),((av 1),some (.cells 1 (aI 1 bS wv_1.f_can))),(n_6,some (bV 1 eI s_54.1)),(n_56,some (bV 1 eI s_54.2.1))]:Hp)) (T:=(aP 1 eI bS wv_1.f_can)) [0,1,2,3] (by decide) rfl rfl)
       | cons x_51 l_50 =>
        obtain ⟨c_,hc_57,hL_58⟩:=bind_some hL_58
        refine ai (aa (vB (decide ((k_49:Int)<(r_47.length:Int)))) (af ?_))
        refine ak (aB rfl (mP hD_52) (ax ?_))
        unfold gX at hc_57
        refine ak (aM (ai (aa (vI (k_49:Int)) ?_)))
        obtain ⟨_,hi_61,hc_57⟩:=bind_some hc_57
        refine jG gq rfl rfl (gp hi_61) (dK hi_61) wz ?_
        obtain ⟨r_62,hr_63,hc_57⟩:=bind_some hc_57
        obtain ⟨e_64,hy_65,hc_57⟩:=bind_some hc_57
        refine kZ (H0:=(([((av 0),some (.cells 2 [(.vs (av 1) 1 0 wv_1.f_can.length),(vI wv_1.f_camps)])),((av 1),some (.cells 1 (aI 1 bS wv_1.f_can))),(n_6,some (bV 1 eI s_54.1)),(n_56,some (bV 1 eI s_54.2.1))]:Hp)++(aP 1 eI bS wv_1.f_can))) rfl (F9 0 il ft sz3 ag3 rfl hr_63 hy_65 (vI e_64) rfl wz (aa (vI (k_49:Int)) (aa (vI e_64) (af (ak ?_)))))
        obtain ⟨v_66,h_67,hc_57⟩:=bind_some hc_57
        refine aS [(0,(.ref (av 0) 0 0)),(2,(vI tov_3)),(8,(vV n_6 1 s_54.1)),(10,(qV n_56 1 s_54.2.1 s_54.2.2)),(11,(vI (k_49:Int))),(54,(gV (bS (0+(e_44).toNat)) 1 r_47)),(55,(vI (r_47.length:Int))),(56,(vI (k_49:Int))),(69,(vB v_66))] (([((av 0),some (.cells 2 [(.vs (av 1) 1 0 wv_1.f_can.length),(vI wv_1.f_camps)])),((av 1),some (.cells 1 (aI 1 bS wv_1.f_can))),(n_6,some (bV 1 eI s_54.1)),(n_56,some (bV 1 eI s_54.2.1))]:Hp)++(aP 1 eI bS wv_1.f_can)) ?_ ?_
        ·refine au (aa (vI e_64) (aa (vB (decide (e_64>0))) ?_))
         rcases aj h_67 with⟨hc_68,h_67⟩|⟨hc_68,h_67⟩
         ·refine aD rfl hc_68 wz (aJ (vV n_6 1 s_54.1) wa rfl (aJ (vI (k_49:Int)) wa rfl ?_))
          obtain ⟨_,hi_69,h_67⟩:=bind_some h_67
          refine j5 gq rfl rfl (gp hi_69) (dK hi_69) wa ?_
          obtain ⟨e_70,hy_71,h_67⟩:=bind_some h_67
          refine Bh 0 2 il ft sz3 ag3 rfl rfl hy_71 (vI e_70) rfl wa (aJ (vB (decide (e_70<0))) wa rfl (aa (vB (decide (e_70<0))) (af ?_)))
          obtain rfl:=ae h_67
          exact aU () trivial rfl (dh (C1:=([((av 0),some (.cells 2 [(.vs (av 1) 1 0 wv_1.f_can.length),(vI wv_1.f_camps)])),((av 1),some (.cells 1 (aI 1 bS wv_1.f_can))),(n_6,some (bV 1 eI s_54.1)),(n_56,some (bV 1 eI s_54.2.1))]:Hp)) (T:=(aP 1 eI bS wv_1.f_can)) [0,1,2,3] (by decide) rfl rfl)
         ·refine aD rfl hc_68 wz (ah (ah (ah (ah (ah (aa (vB false) (af ?_)))))))
          obtain rfl:=ae h_67
          exact aU () trivial rfl (dh (C1:=([((av 0),some (.cells 2 [(.vs (av 1) 1 0 wv_1.f_can.length),(vI wv_1.f_camps)])),((av 1),some (.cells 1 (aI 1 bS wv_1.f_can))),(n_6,some (bV 1 eI s_54.1)),(n_56,some (bV 1 eI s_54.2.1))]:Hp)) (T:=(aP 1 eI bS wv_1.f_can)) [0,1,2,3] (by decide) rfl rfl)
        ·rintro ⟨⟩ _ sl_ H_ hp_ hq_
         refine aO _ hp_ hq_ ?_
         obtain ⟨v_72,h_73,hc_57⟩:=bind_some hc_57
         refine ko (β:=Nm) (λ(n_74:Nm)=>([(0,(.ref (av 0) 0 0)),(2,(vI tov_3)),(8,(vV n_6 1 v_72.1)),(10,(qV n_74 1 v_72.2.1 v_72.2.2)),(54,(gV (bS (0+(e_44).toNat)) 1 r_47)),(55,(vI (r_47.length:Int))),(56,(vI (k_49:Int)))]:SL_)) (λ(n_74:Nm)=>(([((av 0),some (.cells 2 [(.vs (av 1) 1 0 wv_1.f_can.length),(vI wv_1.f_camps)])),((av 1),some (.cells 1 (aI 1 bS wv_1.f_can))),(n_6,some (bV 1 eI v_72.1)),(n_74,some (bV 1 eI v_72.2.1))]:Hp)++(aP 1 eI bS wv_1.f_can))) (λ_=>True) ?_ ?_
         ·rcases aj h_73 with⟨hc_75,h_73⟩|⟨hc_75,h_73⟩
          ·refine aB rfl hc_75 (ai (aa (vV n_6 1 s_54.1) (aa (vI (k_49:Int)) (aa (qV n_56 1 s_54.2.1 s_54.2.2) ?_))))
           obtain ⟨_,hi_76,h_73⟩:=bind_some h_73
           refine j5 gq rfl rfl (pU hi_76) (lw hi_76) wz ?_
           obtain ⟨e_77,hy_78,h_73⟩:=bind_some h_73
           refine Bh 0 3 il ft sz3 ag3 rfl rfl hy_78 (vI e_77) rfl wz ?_
           obtain ⟨_,hi_79,h_73⟩:=bind_some h_73
           refine j5 gq rfl rfl (gp hi_79) (dK hi_79) wz ?_
           obtain ⟨e_80,hy_81,h_73⟩:=bind_some h_73
           refine JB 0 il ft 2 sz3 rfl rfl hy_81 e_77 rfl wz (gG (v':=(vV n_6 1 (s_54.1.set (0+((k_49:Int)).toNat) e_77))) 8 rfl (uL (by simp)) (gG (v':=(vV n_6 1 (s_54.1.set (0+((k_49:Int)).toNat) e_77))) 70 rfl (uL (by simp)) (af (au (aa (qV n_56 1 s_54.2.1 s_54.2.2) (aa (vI (k_49:Int)) (dU (([(k_49:Int)]:List Int).map eI) gq zJ rfl rfl rfl rfl rfl wz ?_)))))))
           obtain ⟨_,hk_85,h_73⟩:=bind_some h_73
           obtain ⟨a_82,hz_83,h_73⟩:=bind_some h_73
           refine h_appq 0 il ft (i:=3) Lh Lh sz3 z3 rfl (by decide) by3 (by decide) (λ_=>rfl) rfl (leN_le hk_85) rfl rfl (List.cons_ne_nil _ _) hz_83 wz (λn_84=>aa (vV n_84 1 a_82) (af ?_))
           obtain rfl:=ae h_73
           exact aU n_84 trivial rfl (dh (C1:=([((av 0),some (.cells 2 [(.vs (av 1) 1 0 wv_1.f_can.length),(vI wv_1.f_camps)])),((av 1),some (.cells 1 (aI 1 bS wv_1.f_can))),(n_6,some (bV 1 eI (s_54.1.set (0+((k_49:Int)).toNat) e_77))),(n_84,some (bV 1 eI a_82))]:Hp)) (T:=(aP 1 eI bS wv_1.f_can)) [0,1,2,3] (by decide) rfl rfl)
          ·refine ay rfl hc_75 (ax ?_)
           obtain rfl:=ae h_73
           exact aU n_56 trivial rfl (dh (C1:=([((av 0),some (.cells 2 [(.vs (av 1) 1 0 wv_1.f_can.length),(vI wv_1.f_camps)])),((av 1),some (.cells 1 (aI 1 bS wv_1.f_can))),(n_6,some (bV 1 eI s_54.1)),(n_56,some (bV 1 eI s_54.2.1))]:Hp)) (T:=(aP 1 eI bS wv_1.f_can)) [0,1,2,3] (by decide) rfl rfl)
         ·rintro n_74 _ sl_ H_ hp_ hq_
          refine aO _ hp_ hq_ (au (dB (oO hD_52 hn_53) wz rfl (aa (vI ((k_49+1:Nat):Int)) (af ?_))))
          obtain rfl:=ae hc_57
          exact aV (k_49+1,l_50,(v_72.1,v_72.2.1,v_72.2.2),n_74) ⟨hL_58,aR hD_52⟩ (ls_ _) rfl (dh (C1:=([((av 0),some (.cells 2 [(.vs (av 1) 1 0 wv_1.f_can.length),(vI wv_1.f_camps)])),((av 1),some (.cells 1 (aI 1 bS wv_1.f_can))),(n_6,some (bV 1 eI v_72.1)),(n_74,some (bV 1 eI v_72.2.1))]:Hp)) (T:=(aP 1 eI bS wv_1.f_can)) [0,1,2,3] (by decide) rfl rfl)
      ·rintro ⟨s_54,n_56⟩ ho_ sl_ H_ hp_ hq_
       subst ho_
       refine aO _ hp_ hq_ (au (aa (qV n_56 1 s_54.2.1 s_54.2.2) ?_))
       obtain ⟨_,hl_86,hc_32⟩:=bind_some hc_32
       refine h_qpop (n:=n_56) (xs:=s_54.2.1) (k:=s_54.2.2) uT sz3 rfl (ltN_lt hl_86) wz (aa (qV n_56 1 s_54.2.1 (s_54.2.2+1)) (af ?_))
       obtain rfl:=ae hc_32
       exact aV (k_24,(s_54.1,s_54.2.1,(s_54.2.2+1)),n_56) hL_33 (ls_ _) rfl (dh (C1:=([((av 0),some (.cells 2 [(.vs (av 1) 1 0 wv_1.f_can.length),(vI wv_1.f_camps)])),((av 1),some (.cells 1 (aI 1 bS wv_1.f_can))),(n_6,some (bV 1 eI s_54.1)),(n_56,some (bV 1 eI s_54.2.1))]:Hp)) (T:=(aP 1 eI bS wv_1.f_can)) [0,1,2,3] (by decide) rfl rfl)
     ·refine ay rfl hc_42 (aW ?_)
      obtain rfl:=ae hc_32
      obtain rfl:=ae hL_33
      exact aU ((s_29.1,s_29.2.1,s_29.2.2),n_31) rfl rfl (dh (C1:=([((av 0),some (.cells 2 [(.vs (av 1) 1 0 wv_1.f_can.length),(vI wv_1.f_camps)])),((av 1),some (.cells 1 (aI 1 bS wv_1.f_can))),(n_6,some (bV 1 eI s_29.1)),(n_31,some (bV 1 eI s_29.2.1))]:Hp)) (T:=(aP 1 eI bS wv_1.f_can)) [0,1,2,3] (by decide) rfl rfl)
  ·rintro ⟨s_29,n_31⟩ ho_ sl_ H_ hp_ hq_
   subst ho_
   refine aO _ hp_ hq_ (ak (bE (aa (vV n_6 1 s_29.1) (aa (vV n_6 1 s_29.1) (aa (vI tov_3) ?_)))))
   obtain ⟨_,hi_87,hF⟩:=bind_some hF
   refine j5 gq rfl rfl (gp hi_87) (dK hi_87) wz ?_
   obtain ⟨e_88,hy_89,hF⟩:=bind_some hF
   refine Bh 4 2 (.inr (by kernel_rfl)) (λ_ _ ag=>trivial) sz3 ag3 rfl rfl hy_89 (vI e_88) rfl wz (aa (vB (decide (e_88>=0))) (aa (vV n_6 1 s_29.1) (aa (vB (decide (e_88>=0))) (af (DR 2 rfl (zA 6 2 rfl rfl (zA 8 2 rfl rfl (zA 81 2 rfl rfl (zA 82 2 rfl rfl ?_)))))))))
   obtain rfl:=ae hF
   exact aA (MW (k:=2) (cs:=[(vI wv_1.f_camps)]) (cs':=[(vI wv_1.f_camps)]) (rows:=wv_1.f_can) (rows':=wv_1.f_can) ([(n_6,some (bF 1 eI s_29.1)),(n_31,some (bV 1 eI s_29.2.1))]:Hp) (.inr rfl) [(vL eI s_29.1),(vB (decide (e_88>=0)))] ⟨rfl,⟨rfl,trivial⟩⟩ rfl rfl rfl rfl rfl rfl)
theorem nL {wv_1:Web} {fromv_2:Int} {tov_3:Int} {most_4:Int} {r:Int×Web} (hF:fQ wv_1 fromv_2 tov_3 most_4=some r) :
  FnM Tryz.prog 28 [(.ref (av 0) 0 0),(vI fromv_2),(vI tov_3),(vI most_4)] (ll 2 1 eI [(vI wv_1.f_camps)] wv_1.f_can) (vI r.1) (gJ 2 1 eI [(vI r.2.f_camps)] r.2.f_can):=by
 refine FnM.of_wHg (cs:=[(vI wv_1.f_camps)]) ⟨Tryz.prog,97,[],[]⟩ rfl Tryz.func28 rfl rfl (lb_ rfl) (by kernel_rfl) ?_
 unfold fQ at hF
 refine ai (aa (vI 0) (af (ai (aa (vI 0) (af (ak ?_))))))
 obtain ⟨o_13,hj_14,hF⟩:=bind_some hF
 obtain ⟨nq_89,hj_14⟩:=dR hj_14
 refine gD (λ(s_10:(List (List Int))×Int)=>[(9,(vI s_10.2))]) (λ(s_10:(List (List Int))×Int)=>(([((av 0),some (.cells 2 [(.vs (av 1) 1 0 wv_1.f_can.length),(vI wv_1.f_camps)])),((av 1),some (.cells 1 (aI 1 bS s_10.1)))]:Hp)++(aP 1 eI bS s_10.1))) (λ(k_5:Nat)=>(λ(s_10:(List (List Int))×Int)=>[(0,(.ref (av 0) 0 0)),(1,(vI fromv_2)),(2,(vI tov_3)),(3,(vI most_4)),(9,(vI s_10.2))])) (λs=>fC most_4 wv_1 fromv_2 tov_3 s) o_13 nq_89 (wv_1.f_can,0) hj_14 rfl (dh (C1:=([((av 0),some (.cells 2 [(.vs (av 1) 1 0 wv_1.f_can.length),(vI wv_1.f_camps)])),((av 1),some (.cells 1 (aI 1 bS wv_1.f_can)))]:Hp)) (T:=(aP 1 eI bS wv_1.f_can)) [0,1] (by decide) rfl rfl) ?_ ?_
 ·rintro ⟨k_5,s_10⟩ hL_12
  dsimp only at hL_12
  cases k_5 with
  | zero=>cases hL_12
  | succ k_5 =>
   obtain ⟨c_,hc_11,hL_12⟩:=bind_some hL_12
   unfold fC at hc_11
   refine ak (ai (aa (vI s_10.2) (aa (vI most_4) (aa (vB (decide (s_10.2<most_4))) (af ?_)))))
   rcases aj hc_11 with⟨hc_15,hc_11⟩|⟨hc_15,hc_11⟩
   ·refine aB rfl hc_15 (ax (aM (ai (aa (.ref (av 0) 0 0) (aa (vI fromv_2) (aa (vI tov_3) ?_))))))
    obtain ⟨_,hn_18,hc_11⟩:=bind_some hc_11
    obtain ⟨_,hm_19,hc_11⟩:=bind_some hc_11
    obtain ⟨r_16,hr_17,hc_11⟩:=bind_some hc_11
    refine kZ (H0:=(([((av 0),some (.cells 2 [(.vs (av 1) 1 0 wv_1.f_can.length),(vI wv_1.f_camps)])),((av 1),some (.cells 1 (aI 1 bS s_10.1)))]:Hp)++(aP 1 eI bS s_10.1))) rfl (tC 0 0 1 il ft (zI hr_17) rfl hb50 rfl rfl (by decide) (pM hm_19) (rD hn_18) rfl (by kernel_rfl) (λ_=>by kernel_rfl) (by kernel_rfl) (by kernel_rfl) wz (aa (.tup [(vL eI r_16.1),(vB r_16.2)]) (aa (vL eI r_16.1) (aa (vB r_16.2) (aa (vL eI r_16.1) (aa (vB r_16.2) (af (ak (ai (aa (vB r_16.2) (aa (vB (!r_16.2)) (af ?_))))))))))))
    rcases aj hc_11 with⟨hc_20,hc_11⟩|⟨hc_20,hc_11⟩
    ·refine aB rfl hc_20 (aW ?_)
     obtain rfl:=ae hc_11
     obtain rfl:=ae hL_12
     exact aU ((s_10.1,s_10.2)) rfl rfl (dh (C1:=([((av 0),some (.cells 2 [(.vs (av 1) 1 0 wv_1.f_can.length),(vI wv_1.f_camps)])),((av 1),some (.cells 1 (aI 1 bS s_10.1)))]:Hp)) (T:=(aP 1 eI bS s_10.1)) [0,1] (by decide) rfl rfl)
    ·refine ay rfl hc_20 (ax (ai (aa (vI most_4) (aa (vI s_10.2) (aa (vI (w64 (most_4-s_10.2))) (aa (vI (w64 (most_4-s_10.2))) (af (ak (ai (aa (vI tov_3) (aa (vI tov_3) (af ?_))))))))))))
     obtain ⟨o_29,hj_30,hc_11⟩:=bind_some hc_11
     obtain ⟨nq_88,hj_30⟩:=dR hj_30
     refine gD (λ(s_26:Int×Int)=>[(0,(.ref (av 0) 0 0)),(1,(vI fromv_2)),(2,(vI tov_3)),(3,(vI most_4)),(9,(vI s_10.2)),(10,(vL eI r_16.1)),(12,(vI s_26.1))]) (λ(s_26:Int×Int)=>(([((av 0),some (.cells 2 [(.vs (av 1) 1 0 wv_1.f_can.length),(vI wv_1.f_camps)])),((av 1),some (.cells 1 (aI 1 bS s_10.1)))]:Hp)++(aP 1 eI bS s_10.1))) (λ(k_21:Nat)=>(λ(s_26:Int×Int)=>[(0,(.ref (av 0) 0 0)),(1,(vI fromv_2)),(2,(vI tov_3)),(3,(vI most_4)),(9,(vI s_10.2)),(10,(vL eI r_16.1)),(12,(vI s_26.1)),(13,(vI s_26.2))])) (λs=>fA fromv_2 r_16 wv_1 s_10 s) o_29 nq_88 ((w64 (most_4-s_10.2)),tov_3) hj_30 rfl (dh (C1:=([((av 0),some (.cells 2 [(.vs (av 1) 1 0 wv_1.f_can.length),(vI wv_1.f_camps)])),((av 1),some (.cells 1 (aI 1 bS s_10.1)))]:Hp)) (T:=(aP 1 eI bS s_10.1)) [0,1] (by decide) rfl rfl) ?_ ?_
     ·rintro ⟨k_21,s_26⟩ hL_28
      dsimp only at hL_28
      cases k_21 with
      | zero=>cases hL_28
      | succ k_21 =>
       obtain ⟨c_,hc_27,hL_28⟩:=bind_some hL_28
       unfold fA at hc_27
       refine ak (ai (aa (vI s_26.2) (aa (vI fromv_2) (aa (vB (s_26.2 != fromv_2)) (af ?_)))))
       rcases aj hc_27 with⟨hc_31,hc_27⟩|⟨hc_31,hc_27⟩
       ·refine aB rfl hc_31 (ax (ak (aM (bE (aa (vI s_26.1) (aa (.ref (av 0) 0 0) (aa (.ref (av 0) 0 0) (aG nM rfl 0 rfl wz (aC 4 0 (.inr (by kernel_rfl)) (λ_ _ ag=>trivial) y9 y8 rfl rfl (.vs (av 1) 1 0 wv_1.f_can.length) rfl wz (aa (vL eI r_16.1) (aa (vI s_26.2) ?_)))))))))))
        obtain ⟨y_32,hy_33,hc_27⟩:=bind_some hc_27
        refine dC gq rfl rfl hy_33 rfl wz (bK sz3 ag3 rfl (vI y_32) rfl wz ?_)
        obtain ⟨_,hi_34,hc_27⟩:=bind_some hc_27
        refine j5 Aw rfl rfl (pU hi_34) (lw hi_34) wz ?_
        obtain ⟨r_35,hr_36,hc_27⟩:=bind_some hc_27
        refine qg 10 1 (.inr (by kernel_rfl)) (λ_ _ ag=>⟨.inl ⟨rfl,rfl⟩,trivial⟩) uS xu rfl rfl hr_36 wz (aa (vI s_26.2) ?_)
        obtain ⟨_,hi_37,hc_27⟩:=bind_some hc_27
        refine jG gq rfl rfl (gp hi_37) (dK hi_37) wz ?_
        obtain ⟨r_38,hr_39,hc_27⟩:=bind_some hc_27
        obtain ⟨e_40,hy_41,hc_27⟩:=bind_some hc_27
        refine kZ (H0:=(([((av 0),some (.cells 2 [(.vs (av 1) 1 0 wv_1.f_can.length),(vI wv_1.f_camps)])),((av 1),some (.cells 1 (aI 1 bS s_10.1)))]:Hp)++(aP 1 eI bS s_10.1))) rfl (F9 13 (.inr (by kernel_rfl)) (λ_ _ ag=>⟨.inl ⟨rfl,rfl⟩,⟨.inl ⟨rfl,rfl⟩,trivial⟩⟩) sz3 ag3 rfl hr_39 hy_41 (vI e_40) rfl wz (tF (vI (zS s_26.1 e_40)) rfl (.inl rfl) wz (aa (vI (zS s_26.1 e_40)) (af (au (aa (vL eI r_16.1) (aa (vI s_26.2) ?_)))))))
        obtain ⟨y_42,hy_43,hc_27⟩:=bind_some hc_27
        refine dC gq rfl rfl hy_43 rfl wz (bK sz3 ag3 rfl (vI y_42) rfl wz (aa (vI y_42) (af ?_)))
        obtain rfl:=ae hc_27
        exact aV (k_21,((zS s_26.1 e_40),y_42)) hL_28 (ls_ _) rfl (dh (C1:=([((av 0),some (.cells 2 [(.vs (av 1) 1 0 wv_1.f_can.length),(vI wv_1.f_camps)])),((av 1),some (.cells 1 (aI 1 bS s_10.1)))]:Hp)) (T:=(aP 1 eI bS s_10.1)) [0,1] (by decide) rfl rfl)
       ·refine ay rfl hc_31 (aW ?_)
        obtain rfl:=ae hc_27
        obtain rfl:=ae hL_28
        exact aU ((s_26.1,s_26.2)) rfl rfl (dh (C1:=([((av 0),some (.cells 2 [(.vs (av 1) 1 0 wv_1.f_can.length),(vI wv_1.f_camps)])),((av 1),some (.cells 1 (aI 1 bS s_10.1)))]:Hp)) (T:=(aP 1 eI bS s_10.1)) [0,1] (by decide) rfl rfl)
     ·rintro s_26 ho_ sl_ H_ hp_ hq_
      subst ho_
      refine aO _ hp_ hq_ (ak (ai (aa (vI tov_3) (aa (vI tov_3) (af ?_)))))
      obtain ⟨o_52,hj_53,hc_11⟩:=bind_some hc_11
      obtain ⟨nq_87,hj_53⟩:=dR hj_53
      refine gD (λ(s_49:(List (List Int))×Int)=>[(0,(.ref (av 0) 0 0)),(1,(vI fromv_2)),(2,(vI tov_3)),(3,(vI most_4)),(9,(vI s_10.2)),(12,(vI s_26.1))]) (λ(s_49:(List (List Int))×Int)=>(([((av 0),some (.cells 2 [(.vs (av 1) 1 0 wv_1.f_can.length),(vI wv_1.f_camps)])),((av 1),some (.cells 1 (aI 1 bS s_49.1)))]:Hp)++(aP 1 eI bS s_49.1))) (λ(k_44:Nat)=>(λ(s_49:(List (List Int))×Int)=>[(0,(.ref (av 0) 0 0)),(1,(vI fromv_2)),(2,(vI tov_3)),(3,(vI most_4)),(9,(vI s_10.2)),(10,(vL eI r_16.1)),(12,(vI s_26.1)),(14,(vI s_49.2))])) (λs=>fD fromv_2 r_16 wv_1 s_26 s) o_52 nq_87 (s_10.1,tov_3) hj_53 rfl (dh (C1:=([((av 0),some (.cells 2 [(.vs (av 1) 1 0 wv_1.f_can.length),(vI wv_1.f_camps)])),((av 1),some (.cells 1 (aI 1 bS s_10.1)))]:Hp)) (T:=(aP 1 eI bS s_10.1)) [0,1] (by decide) rfl rfl) ?_ ?_
      ·rintro ⟨k_44,s_49⟩ hL_51
       dsimp only at hL_51
       cases k_44 with
       | zero=>cases hL_51
       | succ k_44 =>
        obtain ⟨c_,hc_50,hL_51⟩:=bind_some hL_51
        unfold fD at hc_50
        refine ak (ai (aa (vI s_49.2) (aa (vI fromv_2) (aa (vB (s_49.2 != fromv_2)) (af ?_)))))
        rcases aj hc_50 with⟨hc_54,hc_50⟩|⟨hc_54,hc_50⟩
        ·refine aB rfl hc_54 (ax (ak (aM (ak (bE (aa (.ref (av 0) 0 0) (aa (.ref (av 0) 0 0) (aG nM rfl 0 rfl wz (aC 3 0 (.inr (by kernel_rfl)) (λ_ _ ag=>trivial) y9 y8 rfl rfl (.vs (av 1) 1 0 wv_1.f_can.length) rfl wz (aa (vL eI r_16.1) (aa (vI s_49.2) ?_)))))))))))
         obtain ⟨y_55,hy_56,hc_50⟩:=bind_some hc_50
         refine dC gq rfl rfl hy_56 rfl wz (bK sz3 ag3 rfl (vI y_55) rfl wz ?_)
         obtain ⟨_,hi_57,hc_50⟩:=bind_some hc_50
         refine j5 Aw rfl rfl (pU hi_57) (lw hi_57) wz ?_
         obtain ⟨r_58,hr_59,hc_50⟩:=bind_some hc_50
         refine qg 9 1 (.inr (by kernel_rfl)) (λ_ _ ag=>⟨.inl ⟨rfl,rfl⟩,trivial⟩) uS xu rfl rfl hr_59 wz (aa (vI s_49.2) ?_)
         obtain ⟨_,hi_60,hc_50⟩:=bind_some hc_50
         refine jG gq rfl rfl (gp hi_60) (dK hi_60) wz ?_
         obtain ⟨r_61,hr_62,hc_50⟩:=bind_some hc_50
         obtain ⟨e_63,hy_64,hc_50⟩:=bind_some hc_50
         refine kZ (H0:=(([((av 0),some (.cells 2 [(.vs (av 1) 1 0 wv_1.f_can.length),(vI wv_1.f_camps)])),((av 1),some (.cells 1 (aI 1 bS s_49.1)))]:Hp)++(aP 1 eI bS s_49.1))) rfl (F9 12 (.inr (by kernel_rfl)) (λ_ _ ag=>⟨.inl ⟨rfl,rfl⟩,⟨.inl ⟨rfl,rfl⟩,trivial⟩⟩) sz3 ag3 rfl hr_62 hy_64 (vI e_63) rfl wz (aa (vI s_26.1) (aa (vI (w64 (e_63-s_26.1))) ?_)))
         obtain ⟨_,hi_65,hc_50⟩:=bind_some hc_50
         refine jG gq rfl rfl (gp hi_65) (dK hi_65) wz ?_
         obtain ⟨r_66,hr_67,hc_50⟩:=bind_some hc_50
         obtain ⟨e_68,hy_69,hc_50⟩:=bind_some hc_50
         refine kZ (H0:=(([((av 0),some (.cells 2 [(.vs (av 1) 1 0 wv_1.f_can.length),(vI wv_1.f_camps)])),((av 1),some (.cells 1 (aI 1 bS s_49.1)))]:Hp)++(aP 1 eI bS s_49.1))) rfl (AP 16 (.inr (by kernel_rfl)) (λ_ _ ag=>⟨.inr (.inr (by kernel_rfl)),⟨.inr (.inr (by kernel_rfl)),⟨.inr (.inr (by kernel_rfl)),trivial⟩⟩⟩) sz3 rfl hr_67 hy_69 (w64 (e_63-s_26.1)) rfl wz (xz (b':=some (.cells 1 (aI 1 bS (s_49.1.set (0+(y_55).toNat) (r_66.set (0+(s_49.2).toNat) (w64 (e_63-s_26.1))))))) 1 rfl (sj hr_67) (af (bE (aa (.ref (av 0) 0 0) (aa (.ref (av 0) 0 0) (aG nM rfl 0 rfl wz (aC 3 0 (.inr (by kernel_rfl)) (λ_ _ ag=>trivial) y9 y8 rfl rfl (.vs (av 1) 1 0 wv_1.f_can.length) rfl wz (aa (vI s_49.2) ?_)))))))))
         obtain ⟨_,hi_70,hc_50⟩:=bind_some hc_50
         refine j5 Aw rfl rfl (pU hi_70) (lw hi_70) wz ?_
         obtain ⟨r_71,hr_72,hc_50⟩:=bind_some hc_50
         refine qg 6 1 (.inr (by kernel_rfl)) (λ_ _ ag=>⟨.inl ⟨rfl,rfl⟩,trivial⟩) uS xu rfl rfl hr_72 wz (aa (vL eI r_16.1) (aa (vI s_49.2) ?_))
         obtain ⟨y_73,hy_74,hc_50⟩:=bind_some hc_50
         refine dC gq rfl rfl hy_74 rfl wz (bK sz3 ag3 rfl (vI y_73) rfl wz ?_)
         obtain ⟨_,hi_75,hc_50⟩:=bind_some hc_50
         refine jG gq rfl rfl (gp hi_75) (dK hi_75) wz ?_
         obtain ⟨r_76,hr_77,hc_50⟩:=bind_some hc_50
         obtain ⟨e_78,hy_79,hc_50⟩:=bind_some hc_50
         refine kZ (H0:=(([((av 0),some (.cells 2 [(.vs (av 1) 1 0 wv_1.f_can.length),(vI wv_1.f_camps)])),((av 1),some (.cells 1 (aI 1 bS (s_49.1.set (0+(y_55).toNat) (r_66.set (0+(s_49.2).toNat) (w64 (e_63-s_26.1)))))))]:Hp)++(aP 1 eI bS (s_49.1.set (0+(y_55).toNat) (r_66.set (0+(s_49.2).toNat) (w64 (e_63-s_26.1))))))) rfl (F9 12 (.inr (by kernel_rfl)) (λ_ _ ag=>⟨.inl ⟨rfl,rfl⟩,⟨.inl ⟨rfl,rfl⟩,trivial⟩⟩) sz3 ag3 rfl hr_77 hy_79 (vI e_78) rfl wz (aa (vI s_26.1) (aa (vI (w64 (e_78+s_26.1))) ?_)))
         obtain ⟨_,hi_80,hc_50⟩:=bind_some hc_50
         refine jG gq rfl rfl (gp hi_80) (dK hi_80) wz ?_
         obtain ⟨r_81,hr_82,hc_50⟩:=bind_some hc_50
         obtain ⟨e_83,hy_84,hc_50⟩:=bind_some hc_50
         refine kZ (H0:=(([((av 0),some (.cells 2 [(.vs (av 1) 1 0 wv_1.f_can.length),(vI wv_1.f_camps)])),((av 1),some (.cells 1 (aI 1 bS (s_49.1.set (0+(y_55).toNat) (r_66.set (0+(s_49.2).toNat) (w64 (e_63-s_26.1)))))))]:Hp)++(aP 1 eI bS (s_49.1.set (0+(y_55).toNat) (r_66.set (0+(s_49.2).toNat) (w64 (e_63-s_26.1))))))) rfl (AP 16 (.inr (by kernel_rfl)) (λ_ _ ag=>⟨.inr (.inr (by kernel_rfl)),⟨.inr (.inr (by kernel_rfl)),⟨.inr (.inr (by kernel_rfl)),trivial⟩⟩⟩) sz3 rfl hr_82 hy_84 (w64 (e_78+s_26.1)) rfl wz (xz (b':=some (.cells 1 (aI 1 bS ((s_49.1.set (0+(y_55).toNat) (r_66.set (0+(s_49.2).toNat) (w64 (e_63-s_26.1)))).set (0+(s_49.2).toNat) (r_81.set (0+(y_73).toNat) (w64 (e_78+s_26.1))))))) 1 rfl (sj hr_82) (af (aO (H0:=(([((av 0),some (.cells 2 [(.vs (av 1) 1 0 wv_1.f_can.length),(vI wv_1.f_camps)])),((av 1),some (.cells 1 (aI 1 bS ((s_49.1.set (0+(y_55).toNat) (r_66.set (0+(s_49.2).toNat) (w64 (e_63-s_26.1)))).set (0+(s_49.2).toNat) (r_81.set (0+(y_73).toNat) (w64 (e_78+s_26.1)))))))]:Hp)++(aP 1 eI bS ((s_49.1.set (0+(y_55).toNat) (r_66.set (0+(s_49.2).toNat) (w64 (e_63-s_26.1)))).set (0+(s_49.2).toNat) (r_81.set (0+(y_73).toNat) (w64 (e_78+s_26.1))))))) ([(0,(.ref (av 0) 0 0)),(1,(vI fromv_2)),(2,(vI tov_3)),(3,(vI most_4)),(9,(vI s_10.2)),(10,(vL eI r_16.1)),(12,(vI s_26.1)),(14,(vI s_49.2))]:SL_) (by kernel_rfl) (dh (C1:=([((av 0),some (.cells 2 [(.vs (av 1) 1 0 wv_1.f_can.length),(vI wv_1.f_camps)])),((av 1),some (.cells 1 (aI 1 bS ((s_49.1.set (0+(y_55).toNat) (r_66.set (0+(s_49.2).toNat) (w64 (e_63-s_26.1)))).set (0+(s_49.2).toNat) (r_81.set (0+(y_73).toNat) (w64 (e_78+s_26.1)))))))]:Hp)) (T:=(aP 1 eI bS ((s_49.1.set (0+(y_55).toNat) (r_66.set (0+(s_49.2).toNat) (w64 (e_63-s_26.1)))).set (0+(s_49.2).toNat) (r_81.set (0+(y_73).toNat) (w64 (e_78+s_26.1)))))) [0,1] (by decide) (by kernel_rfl) (by kernel_rfl)) (au (aa (vL eI r_16.1) (aa (vI s_49.2) ?_)))))))
         obtain ⟨y_85,hy_86,hc_50⟩:=bind_some hc_50
         refine dC gq rfl rfl hy_86 rfl wz (bK sz3 ag3 rfl (vI y_85) rfl wz (aa (vI y_85) (af ?_)))
         obtain rfl:=ae hc_50
         exact aV (k_44,(((s_49.1.set (0+(y_55).toNat) (r_66.set (0+(s_49.2).toNat) (w64 (e_63-s_26.1)))).set (0+(s_49.2).toNat) (r_81.set (0+(y_73).toNat) (w64 (e_78+s_26.1)))),y_85)) hL_51 (ls_ _) rfl (dh (C1:=([((av 0),some (.cells 2 [(.vs (av 1) 1 0 wv_1.f_can.length),(vI wv_1.f_camps)])),((av 1),some (.cells 1 (aI 1 bS ((s_49.1.set (0+(y_55).toNat) (r_66.set (0+(s_49.2).toNat) (w64 (e_63-s_26.1)))).set (0+(s_49.2).toNat) (r_81.set (0+(y_73).toNat) (w64 (e_78+s_26.1)))))))]:Hp)) (T:=(aP 1 eI bS ((s_49.1.set (0+(y_55).toNat) (r_66.set (0+(s_49.2).toNat) (w64 (e_63-s_26.1)))).set (0+(s_49.2).toNat) (r_81.set (0+(y_73).toNat) (w64 (e_78+s_26.1)))))) [0,1] (by decide) rfl rfl)
        ·refine ay rfl hc_54 (aW ?_)
         obtain rfl:=ae hc_50
         obtain rfl:=ae hL_51
         exact aU ((s_49.1,s_49.2)) rfl rfl (dh (C1:=([((av 0),some (.cells 2 [(.vs (av 1) 1 0 wv_1.f_can.length),(vI wv_1.f_camps)])),((av 1),some (.cells 1 (aI 1 bS s_49.1)))]:Hp)) (T:=(aP 1 eI bS s_49.1)) [0,1] (by decide) rfl rfl)
      ·rintro s_49 ho_ sl_ H_ hp_ hq_
       subst ho_
       refine aO _ hp_ hq_ (au (aa (vI s_10.2) (aa (vI s_26.1) (aa (vI (w64 (s_10.2+s_26.1))) (aa (vI (w64 (s_10.2+s_26.1))) (af ?_))))))
       obtain rfl:=ae hc_11
       exact aV (k_5,(s_49.1,(w64 (s_10.2+s_26.1)))) hL_12 (ls_ _) rfl (dh (C1:=([((av 0),some (.cells 2 [(.vs (av 1) 1 0 wv_1.f_can.length),(vI wv_1.f_camps)])),((av 1),some (.cells 1 (aI 1 bS s_49.1)))]:Hp)) (T:=(aP 1 eI bS s_49.1)) [0,1] (by decide) rfl rfl)
   ·refine ay rfl hc_15 (aW ?_)
    obtain rfl:=ae hc_11
    obtain rfl:=ae hL_12
    exact aU ((s_10.1,s_10.2)) rfl rfl (dh (C1:=([((av 0),some (.cells 2 [(.vs (av 1) 1 0 wv_1.f_can.length),(vI wv_1.f_camps)])),((av 1),some (.cells 1 (aI 1 bS s_10.1)))]:Hp)) (T:=(aP 1 eI bS s_10.1)) [0,1] (by decide) rfl rfl)
 ·rintro s_10 ho_ sl_ H_ hp_ hq_
  subst ho_
  refine aO _ hp_ hq_ (ai (aa (vI s_10.2) (aa (vI s_10.2) (af ?_))))
  obtain ⟨_,hk_,hF⟩:=bind_some hF
  obtain rfl:=ae hF
  exact aA (MW (k:=2) (cs:=[(vI wv_1.f_camps)]) (cs':=[(vI wv_1.f_camps)]) (rows:=wv_1.f_can) (rows':=s_10.1) ([]:Hp) (.inr rfl) [(vI s_10.2)] ⟨rfl,trivial⟩ rfl rfl rfl rfl (mR hk_) rfl)
theorem vZ {l_1:(List Campaign)} {r:Int} (hF:lU l_1=some r) :
  FnM Tryz.prog 29 [(vL Campaign.enc l_1)] [] (vI r) []:=by
 refine FnM.of_wH ⟨Tryz.prog,18,[],[]⟩ rfl Tryz.func29 rfl rfl (lb_ rfl) (by kernel_rfl) ?_
 unfold lU at hF
 refine ai (aa (vI 0) (af (ai (aa (vI 0) (af (ak (ai (aa (vL Campaign.enc l_1) (bH BA rfl wz (aa (vI 0) (af ?_)))))))))))
 obtain ⟨o_10,hj_11,hF⟩:=bind_some hF
 obtain ⟨hn_6,hj_11⟩:=aY hj_11
 refine bN (λ(s_7:Int)=>[(3,(vI s_7))]) (λ(s_7:Int)=>[]) (λ(k_2:Nat)=>(λ(s_7:Int)=>[(3,(vI s_7)),(6,(vL Campaign.enc l_1)),(7,(vI (l_1.length:Int))),(8,(vI (k_2:Int)))])) (λk x s=>kC k x s) o_10 l_1 0 hj_11 rfl (aK rfl) ?_ ?_
 ·rintro ⟨k_2,l_3,s_7⟩ ⟨hL_9,hD_5⟩
  dsimp only at hL_9 hD_5
  cases l_3 with
  | nil =>
   obtain rfl:=ae hL_9
   refine ai (aa (vB (decide ((k_2:Int)<(l_1.length:Int)))) (af ?_))
   refine ak (ay rfl (drop_nil hD_5) (aW ?_))
   exact aU (s_7) rfl rfl (aK rfl)
  | cons x_4 l_3 =>
   obtain ⟨c_,hc_8,hL_9⟩:=bind_some hL_9
   refine ai (aa (vB (decide ((k_2:Int)<(l_1.length:Int)))) (af ?_))
   refine ak (aB rfl (bu hD_5) (ax ?_))
   unfold kC at hc_8
   refine ak (aM (ai (dC Am rfl rfl (bD hD_5) rfl wz (bK oD vG rfl (.d (.agg (Campaign.enc x_4))) rfl wz (cz 0 (.inl rfl) z48 rfl wz (λn_12=>eB 0 il ft 0 oD rfl rfl (Campaign.v x_4) rfl wz (af (au (aa (vI s_7) (aG zT rfl 5 rfl wz (aC 0 0 il ft sz3 ag3 rfl rfl (vI x_4.Goal) rfl wz (aa (vI (w64 (s_7+x_4.Goal))) (aa (vI (w64 (s_7+x_4.Goal))) (af (au (dB (bv hD_5 hn_6) wz rfl (aa (vI ((k_2+1:Nat):Int)) (af ?_))))))))))))))))))
   obtain rfl:=ae hc_8
   exact aV (k_2+1,l_3,(w64 (s_7+x_4.Goal))) ⟨hL_9,aR hD_5⟩ (ls_ _) rfl (aK rfl)
 ·rintro s_7 ho_ sl_ H_ hp_ hq_
  subst ho_
  refine aO _ hp_ hq_ (ai (aa (vI s_7) (aa (vI s_7) (af ?_))))
  obtain rfl:=ae hF
  exact aA (aL [(vI s_7)] ⟨rfl,trivial⟩)
end Go.Proofs.YtkjlhdminmpmkacGreatDoor.Law

