/-
 The machine computes these plain functions (written by a program of ours).
-/
import Derived.Test.YtnkgapmhkhcanaaGreatDoorFacts
import Derived.Test.YtnkgapmhkhcanaaGreatDoorDefs
import Derived.Test.YtnkgapmhkhcanaaGreatDoorPf2
open Go Go.Eng Go.Proofs
namespace Go.Proofs.YtnkgapmhkhcanaaGreatDoor.Law
set_option maxRecDepth 100000
set_option linter.unusedVariables false
set_option maxHeartbeats 1000000
theorem xO {l_1:(List Rect)} {m_2:(List Rect)} {r:(List Rect)×Int} (hF:kR l_1 m_2=some r) :
  FnM Tryz.prog 9 [(vL Rect.enc l_1),(vL Rect.enc m_2)] [] (kG [.int .i64 r.2] (gV (aJ 0) 4 r.1)) (([]:List Box).map some++gO 4 Rect.enc r.1):=by
 refine FnM.of_wH ⟨Tryz.prog,27,[],[]⟩ rfl Tryz.func9 rfl rfl (lb_ rfl) (by kernel_rfl) ?_
 unfold kR at hF
 refine ai (aa .nil (aa (vI 0) (ah (ak (ai (aa (vL Rect.enc l_1) (aa (vL Rect.enc m_2) (aI (.d (.agg [dl Rect.enc l_1,dl Rect.enc m_2])) wz (by kernel_rfl) (aa (vI 0) (ah ?_))))))))))
 obtain ⟨o_11,hj_12,hF⟩:=bind_some hF
 obtain ⟨hn_7,hj_12⟩:=aR hj_12
 refine bL (λ(s_8:Unit)=>[(0,(vL Rect.enc l_1)),(1,(vL Rect.enc m_2))]) (λ(s_8:Unit)=>[]) (λ(k_3:Nat)=>(λ(s_8:Unit)=>[(0,(vL Rect.enc l_1)),(1,(vL Rect.enc m_2)),(11,(.d (.agg [dl Rect.enc l_1,dl Rect.enc m_2]))),(12,(vI (k_3:Int)))])) (λk x s=>fG l_1 m_2 k x s) o_11 (List.range (2:Int).toNat) () hj_12 rfl (aG rfl) ?_ ?_
 ·rintro ⟨k_3,l_4,s_8⟩ ⟨hL_10,hD_6⟩
  dsimp only at hL_10 hD_6
  cases l_4 with
  | nil =>
   obtain rfl:=ae hL_10
   refine ai (aa (vB (decide ((k_3:Int)<2))) (ah ?_))
   refine ak (aB rfl (rP hD_6) (aS ?_))
   exact aV (s_8) rfl rfl (aG rfl)
  | cons x_5 l_4 =>
   obtain ⟨c_,hc_9,hL_10⟩:=bind_some hL_10
   refine ai (aa (vB (decide ((k_3:Int)<2))) (ah ?_))
   refine ak (aC rfl (pM hD_6) (ax ?_))
   unfold fG at hc_9
   refine ak (aL (ai ?_))
   obtain ⟨y_13,hy_14,hc_9⟩:=bind_some hc_9
   refine h_idxa (enc:=(eL Rect.enc)) (xs:=([l_1,m_2]:List (List Rect))) un73 Lh KU rfl rfl rfl rfl hy_14 (λ_=>rfl) (.inr rfl) (vL Rect.enc y_13) rfl wz (aa (vL Rect.enc y_13) (ah (ai (aa (vL Rect.enc y_13) ?_))))
   obtain ⟨r_15,hr_16,hc_9⟩:=bind_some hc_9
   refine aD (mG hr_16) rfl hb24 rfl rfl rfl rfl wz (aa (vI r_15) (ah (ai (aa (vI r_15) (aa (vB (r_15 != 0)) (ah ?_))))))
   rcases aj hc_9 with⟨hc_17,hc_9⟩|⟨hc_17,hc_9⟩
   ·refine aC rfl hc_17 (ai (aa (vI r_15) (aa .nil (aa (vI r_15) (ah (iV (λn_18 => ?_)))))))
    obtain rfl:=ae hc_9
    obtain rfl:=ae hL_10
    obtain rfl:=ae hF
    exact aA (wO (outs:=([]:List Box)) [.int .i64 r_15] (.inr rfl) 0 rfl ⟨rfl,trivial⟩ rfl rfl (by kernel_rfl) (by kernel_rfl))
   ·refine aB rfl hc_17 (ax (au (dL (rT hD_6 hn_7) wz rfl (aa (vI ((k_3+1:Nat):Int)) (ah ?_)))))
    obtain rfl:=ae hc_9
    exact aU (k_3+1,l_4,()) ⟨hL_10,aN hD_6⟩ (ls_ _) rfl (aG rfl)
 ·rintro s_8 ho_ sl_ H_ hp_ hq_
  subst ho_
  refine aM _ hp_ hq_ (ai (aa (vL Rect.enc l_1) (aa (vL Rect.enc m_2) ?_)))
  obtain ⟨r_19,hr_20,hF⟩:=bind_some hF
  refine Iw [] (oZ hr_20) rfl O5 rfl (by kernel_rfl) (by kernel_rfl) (by kernel_rfl) (by kernel_rfl) (by kernel_rfl) rfl (by decide) (by kernel_rfl) wz ([]:Hp) (λ_=>by kernel_rfl) (λn_22 => ?_)
  obtain ⟨r_23,hr_24,hF⟩:=bind_some hF
  obtain ⟨_,ht_25,hF⟩:=bind_some hF
  refine zD [.int .i64 r_23.2] 0 [] 0 0 il ft (l5 hr_24) (Cg ht_25) rfl hb25 rfl rfl (by kernel_rfl) (by kernel_rfl) rfl rfl (by kernel_rfl) (by kernel_rfl) (by kernel_rfl) rfl (by decide) (by kernel_rfl) wz ([(n_22,gB 4 Rect.enc r_23.1)]:Hp) (by kernel_rfl) (aa (gV n_22 4 r_23.1) (aa (vI r_23.2) (aa (gV n_22 4 r_23.1) (aa (vI r_23.2) (ah ?_)))))
  obtain rfl:=ae hF
  exact aA (wO (outs:=([]:List Box)) [.int .i64 r_23.2] (.inr rfl) 0 rfl ⟨rfl,trivial⟩ rfl rfl (by kernel_rfl) (by kernel_rfl))
theorem eu {s_1:ByteArray} {r:Bool} (hF:eG s_1=some r) :
  FnM Tryz.prog 54 [(vS s_1)] [] (vB r) []:=by
 refine FnM.of_wH ⟨Tryz.prog,48,[],[]⟩ rfl Tryz.func54 rfl rfl (lb_ rfl) (by kernel_rfl) ?_
 unfold eG at hF
 refine ai (aa (vB false) (ah (ak (ai (aa (vI 0) (ah ?_))))))
 obtain ⟨o_10,hj_11,hF⟩:=bind_some hF
 obtain ⟨nq_33,hj_11⟩:=fE hj_11
 refine iG (λ(s_7:Int)=>[(0,(vS s_1))]) (λ(s_7:Int)=>[]) (λ(k_2:Nat)=>(λ(s_7:Int)=>[(0,(vS s_1)),(3,(vI s_7))])) (λs=>jR s_1 s) o_10 nq_33 0 hj_11 rfl (aG rfl) ?_ ?_
 ·rintro ⟨k_2,s_7⟩ hL_9
  dsimp only at hL_9
  cases k_2 with
  | zero=>cases hL_9
  | succ k_2 =>
   obtain ⟨c_,hc_8,hL_9⟩:=bind_some hL_9
   unfold jR at hc_8
   refine ak (ai (aa (vI s_7) (aa (vS s_1) (mq un9 rfl wz (aa (vB (decide (s_7<(s_1.size:Int)))) (ah ?_))))))
   rcases aj hc_8 with⟨hc_12,hc_8⟩|⟨hc_12,hc_8⟩
   ·refine aC rfl hc_12 (ax (ak (aL (ai (aa (vS s_1) (aa (vI s_7) ?_))))))
    obtain ⟨b_13,hy_14,hc_8⟩:=bind_some hc_8
    refine kS un9 rfl rfl hy_14 wz (aa (.d (.int .u8 (b_13.toNat:Int))) (ah (ak ?_)))
    obtain ⟨v_15,h_16,hc_8⟩:=bind_some hc_8
    refine aP [(0,(vS s_1)),(3,(vI s_7)),(40,(vB v_15))] [] ?_ ?_
    ·refine au (aa (.d (.int .u8 (b_13.toNat:Int))) (aa (vB (decide ((b_13.toNat:Int)>=97))) ?_))
     rcases aj h_16 with⟨hc_17,h_16⟩|⟨hc_17,h_16⟩
     ·refine aF rfl hc_17 wz (aI (.d (.int .u8 (b_13.toNat:Int))) wa rfl (aI (vB (decide ((b_13.toNat:Int)<=122))) wa rfl (aa (vB (decide ((b_13.toNat:Int)<=122))) ?_)))
      rcases aj h_16 with⟨hc_18,h_16⟩|⟨hc_18,h_16⟩
      ·refine aF rfl hc_18 wz (af (af (af (dD (wn rfl rfl) (dD (wn rfl rfl) (dD (wn rfl rfl) (dD (wn rfl rfl) (dD (wn rfl rfl) (dD (wn rfl rfl) (dD (wn rfl rfl) (dD (wn rfl rfl) (dD (wn rfl rfl) (dD (wn rfl rfl) (dD (wn rfl rfl) (dD (wn rfl rfl) (dD (wn rfl rfl) (dD (wn rfl rfl) (af (aa (vB true) (aa (vB false) (ah ?_)))))))))))))))))))))
       obtain rfl:=ae h_16
       exact cu
      ·refine aF rfl hc_18 wz (aI (vI s_7) wa rfl (aI (vB (decide (s_7>0))) wa rfl ?_))
       rcases aj h_16 with⟨hc_19,h_16⟩|⟨hc_19,h_16⟩
       ·refine aF rfl hc_19 wa (aI (.d (.int .u8 (b_13.toNat:Int))) wa rfl (aI (vB (decide ((b_13.toNat:Int)>=48))) wa rfl ?_))
        rcases aj h_16 with⟨hc_20,h_16⟩|⟨hc_20,h_16⟩
        ·refine aF rfl hc_20 wa (aI (.d (.int .u8 (b_13.toNat:Int))) wa rfl (aI (vB (decide ((b_13.toNat:Int)<=57))) wa rfl (aI (vB (decide ((b_13.toNat:Int)<=57))) wa rfl ?_)))
         rcases aj h_16 with⟨hc_21,h_16⟩|⟨hc_21,h_16⟩
         ·refine aF rfl hc_21 wa (af (af (aI (vB true) wa rfl (aI (vB true) wa rfl (af (af (aI (vB true) wa rfl (aI (vB true) wa rfl (aa (vB true) (aa (vB false) (ah ?_)))))))))))
          obtain rfl:=ae h_16
          exact cu
         ·refine aF rfl hc_21 wa (aI (.d (.int .u8 (b_13.toNat:Int))) wa rfl (aI (vB ((b_13.toNat:Int)==45)) wa rfl (aI (vB ((b_13.toNat:Int)==45)) wa rfl ?_)))
          rcases aj h_16 with⟨hc_22,h_16⟩|⟨hc_22,h_16⟩
          ·refine aF rfl hc_22 wa (af (af (aI (vB true) wa rfl (aI (vB true) wa rfl (aa (vB true) (aa (vB false) (ah ?_)))))))
           obtain rfl:=ae h_16
           exact cu
          ·refine aF rfl hc_22 wa (aI (.d (.int .u8 (b_13.toNat:Int))) wa rfl (aI (vB ((b_13.toNat:Int)==95)) wa rfl (aI (vB ((b_13.toNat:Int)==95)) wa rfl (aI (vB ((b_13.toNat:Int)==95)) wa rfl (aa (vB ((b_13.toNat:Int)==95)) (aa (vB (!((b_13.toNat:Int)==95))) (ah ?_)))))))
           obtain rfl:=ae h_16
           exact cu
        ·refine aF rfl hc_20 wa (af (af (aI (vB false) wa rfl (aI (vB false) wa rfl (aI (.d (.int .u8 (b_13.toNat:Int))) wa rfl (aI (vB ((b_13.toNat:Int)==45)) wa rfl (aI (vB ((b_13.toNat:Int)==45)) wa rfl ?_)))))))
         rcases aj h_16 with⟨hc_23,h_16⟩|⟨hc_23,h_16⟩
         ·refine aF rfl hc_23 wa (af (af (aI (vB true) wa rfl (aI (vB true) wa rfl (aa (vB true) (aa (vB false) (ah ?_)))))))
          obtain rfl:=ae h_16
          exact cu
         ·refine aF rfl hc_23 wa (aI (.d (.int .u8 (b_13.toNat:Int))) wa rfl (aI (vB ((b_13.toNat:Int)==95)) wa rfl (aI (vB ((b_13.toNat:Int)==95)) wa rfl (aI (vB ((b_13.toNat:Int)==95)) wa rfl (aa (vB ((b_13.toNat:Int)==95)) (aa (vB (!((b_13.toNat:Int)==95))) (ah ?_)))))))
          obtain rfl:=ae h_16
          exact cu
       ·refine aF rfl hc_19 wa (af (af (af (dD (wn rfl rfl) (dD (wn rfl rfl) (af (af (dD (wn rfl rfl) (dD (wn rfl rfl) (af (af (dD (wn rfl rfl) (dD (wn rfl rfl) (af (aI (vB false) wa rfl (aa (vB false) (aa (vB true) (ah ?_))))))))))))))))))
        obtain rfl:=ae h_16
        exact cu
     ·refine aF rfl hc_17 wz (af (af (aa (vB false) (aa (vB false) (aI (vI s_7) wa rfl (aI (vB (decide (s_7>0))) wa rfl ?_))))))
      rcases aj h_16 with⟨hc_24,h_16⟩|⟨hc_24,h_16⟩
      ·refine aF rfl hc_24 wa (aI (.d (.int .u8 (b_13.toNat:Int))) wa rfl (aI (vB (decide ((b_13.toNat:Int)>=48))) wa rfl ?_))
       rcases aj h_16 with⟨hc_25,h_16⟩|⟨hc_25,h_16⟩
       ·refine aF rfl hc_25 wa (aI (.d (.int .u8 (b_13.toNat:Int))) wa rfl (aI (vB (decide ((b_13.toNat:Int)<=57))) wa rfl (aI (vB (decide ((b_13.toNat:Int)<=57))) wa rfl ?_)))
        rcases aj h_16 with⟨hc_26,h_16⟩|⟨hc_26,h_16⟩
        ·refine aF rfl hc_26 wa (af (af (aI (vB true) wa rfl (aI (vB true) wa rfl (af (af (aI (vB true) wa rfl (aI (vB true) wa rfl (aa (vB true) (aa (vB false) (ah ?_)))))))))))
         obtain rfl:=ae h_16
         exact cu
        ·refine aF rfl hc_26 wa (aI (.d (.int .u8 (b_13.toNat:Int))) wa rfl (aI (vB ((b_13.toNat:Int)==45)) wa rfl (aI (vB ((b_13.toNat:Int)==45)) wa rfl ?_)))
         rcases aj h_16 with⟨hc_27,h_16⟩|⟨hc_27,h_16⟩
         ·refine aF rfl hc_27 wa (af (af (aI (vB true) wa rfl (aI (vB true) wa rfl (aa (vB true) (aa (vB false) (ah ?_)))))))
          obtain rfl:=ae h_16
          exact cu
         ·refine aF rfl hc_27 wa (aI (.d (.int .u8 (b_13.toNat:Int))) wa rfl (aI (vB ((b_13.toNat:Int)==95)) wa rfl (aI (vB ((b_13.toNat:Int)==95)) wa rfl (aI (vB ((b_13.toNat:Int)==95)) wa rfl (aa (vB ((b_13.toNat:Int)==95)) (aa (vB (!((b_13.toNat:Int)==95))) (ah ?_)))))))
          obtain rfl:=ae h_16
          exact cu
       ·refine aF rfl hc_25 wa (af (af (aI (vB false) wa rfl (aI (vB false) wa rfl (aI (.d (.int .u8 (b_13.toNat:Int))) wa rfl (aI (vB ((b_13.toNat:Int)==45)) wa rfl (aI (vB ((b_13.toNat:Int)==45)) wa rfl ?_)))))))
        rcases aj h_16 with⟨hc_28,h_16⟩|⟨hc_28,h_16⟩
        ·refine aF rfl hc_28 wa (af (af (aI (vB true) wa rfl (aI (vB true) wa rfl (aa (vB true) (aa (vB false) (ah ?_)))))))
         obtain rfl:=ae h_16
         exact cu
        ·refine aF rfl hc_28 wa (aI (.d (.int .u8 (b_13.toNat:Int))) wa rfl (aI (vB ((b_13.toNat:Int)==95)) wa rfl (aI (vB ((b_13.toNat:Int)==95)) wa rfl (aI (vB ((b_13.toNat:Int)==95)) wa rfl (aa (vB ((b_13.toNat:Int)==95)) (aa (vB (!((b_13.toNat:Int)==95))) (ah ?_)))))))
         obtain rfl:=ae h_16
         exact cu
      ·refine aF rfl hc_24 wa (af (af (af (dD (wn rfl rfl) (dD (wn rfl rfl) (af (af (dD (wn rfl rfl) (dD (wn rfl rfl) (af (af (dD (wn rfl rfl) (dD (wn rfl rfl) (af (aI (vB false) wa rfl (aa (vB false) (aa (vB true) (ah ?_))))))))))))))))))
       obtain rfl:=ae h_16
       exact cu
    ·rintro ⟨⟩ _ sl_ H_ hp_ hq_
     refine aM _ hp_ hq_ ?_
     rcases aj hc_8 with⟨hc_29,hc_8⟩|⟨hc_29,hc_8⟩
     ·refine aC rfl hc_29 (ai (aa (vB false) (ah ?_)))
      obtain rfl:=ae hc_8
      obtain rfl:=ae hL_9
      obtain rfl:=ae hF
      exact aA (aK [(vB false)] ⟨rfl,trivial⟩)
     ·refine aB rfl hc_29 (ax (au (aa (vI s_7) (aa (vI (w64 (s_7+1))) (aa (vI (w64 (s_7+1))) (ah ?_))))))
      obtain rfl:=ae hc_8
      exact aU (k_2,(w64 (s_7+1))) hL_9 (ls_ _) rfl (aG rfl)
   ·refine aB rfl hc_12 (aS ?_)
    obtain rfl:=ae hc_8
    obtain rfl:=ae hL_9
    exact aV (s_7) rfl rfl (aG rfl)
 ·rintro s_7 ho_ sl_ H_ hp_ hq_
  subst ho_
  refine aM _ hp_ hq_ (ak ?_)
  obtain ⟨v_30,h_31,hF⟩:=bind_some hF
  refine aP [(2,(vB v_30))] [] ?_ ?_
  ·refine au (aa (vS s_1) (aa (vB (sNe s_1 (⟨#[]⟩:ByteArray))) ?_))
   rcases aj h_31 with⟨hc_32,h_31⟩|⟨hc_32,h_31⟩
   ·refine aF rfl hc_32 wz (aI (vS s_1) wa rfl (mq un9 rfl wa (aI (vB (decide ((s_1.size:Int)<=40))) wa rfl (aa (vB (decide ((s_1.size:Int)<=40))) (aa (vB (decide ((s_1.size:Int)<=40))) (ah ?_))))))
    obtain rfl:=ae h_31
    exact cu
   ·refine aF rfl hc_32 wz (af (af (af (aa (vB false) (aa (vB false) (ah ?_))))))
    obtain rfl:=ae h_31
    exact cu
  ·rintro ⟨⟩ _ sl_ H_ hp_ hq_
   refine aM _ hp_ hq_ ?_
   obtain rfl:=ae hF
   exact aA (aK [(vB v_30)] ⟨rfl,trivial⟩)
theorem Bl {n_1:Int} {r:Bool} (hF:nK n_1=some r) :
  FnM Tryz.prog 79 [(vI n_1)] [] (vB r) []:=by
 refine FnM.of_wH ⟨Tryz.prog,6,[],[]⟩ rfl Tryz.func79 rfl rfl (lb_ rfl) (by kernel_rfl) ?_
 unfold nK at hF
 refine ai (aa (vB false) (ah (ai (aa (vI n_1) ?_))))
 obtain ⟨r_2,hr_3,hF⟩:=bind_some hF
 refine aD (bv hr_3) rfl qV rfl rfl rfl rfl wz (aa (vB (!r_2)) (aa (vB (!r_2)) (ah ?_)))
 obtain rfl:=ae hF
 exact aA (aK [(vB (!r_2))] ⟨rfl,trivial⟩)
theorem qJ {l_1:(List Int)} {r:Int} (hF:iE l_1=some r) :
  FnM Tryz.prog 55 [(vL eI l_1)] [] (vI r) []:=by
 refine FnM.of_wH ⟨Tryz.prog,15,[],[]⟩ rfl Tryz.func55 rfl rfl (lb_ rfl) (by kernel_rfl) ?_
 unfold iE at hF
 refine ai (aa (vI 0) (ah (ak (ai (aa (vL eI l_1) (bJ vF rfl wz (aa (vI 0) (ah ?_))))))))
 obtain ⟨o_10,hj_11,hF⟩:=bind_some hF
 obtain ⟨hn_6,hj_11⟩:=aR hj_11
 refine bL (λ(s_7:Unit)=>[]) (λ(s_7:Unit)=>[]) (λ(k_2:Nat)=>(λ(s_7:Unit)=>[(5,(vL eI l_1)),(6,(vI (l_1.length:Int))),(7,(vI (k_2:Int)))])) (λk x s=>jT k x s) o_10 l_1 () hj_11 rfl (aG rfl) ?_ ?_
 ·rintro ⟨k_2,l_3,s_7⟩ ⟨hL_9,hD_5⟩
  dsimp only at hL_9 hD_5
  cases l_3 with
  | nil =>
   obtain rfl:=ae hL_9
   refine ai (aa (vB (decide ((k_2:Int)<(l_1.length:Int)))) (ah ?_))
   refine ak (aB rfl (drop_nil hD_5) (aS ?_))
   exact aV (s_7) rfl rfl (aG rfl)
  | cons x_4 l_3 =>
   obtain ⟨c_,hc_8,hL_9⟩:=bind_some hL_9
   refine ai (aa (vB (decide ((k_2:Int)<(l_1.length:Int)))) (ah ?_))
   refine ak (aC rfl (aW hD_5) (ax ?_))
   unfold jT at hc_8
   refine ak (aL (ai (dM o9 rfl rfl (bu hD_5) rfl wz (bI sz3 ag3 rfl (vI x_4) rfl wz (aa (vI x_4) (ah (ai (aa (vI x_4) ?_))))))))
   obtain ⟨r_12,hr_13,hc_8⟩:=bind_some hc_8
   refine aD (Bl hr_13) rfl hb79 rfl rfl rfl rfl wz (aa (vB (!r_12)) (ah ?_))
   rcases aj hc_8 with⟨hc_14,hc_8⟩|⟨hc_14,hc_8⟩
   ·refine aC rfl hc_14 (ai (aa (vI 1) (ah ?_)))
    obtain rfl:=ae hc_8
    obtain rfl:=ae hL_9
    obtain rfl:=ae hF
    exact aA (aK [(vI 1)] ⟨rfl,trivial⟩)
   ·refine aB rfl hc_14 (ax (au (dL (aZ hD_5 hn_6) wz rfl (aa (vI ((k_2+1:Nat):Int)) (ah ?_)))))
    obtain rfl:=ae hc_8
    exact aU (k_2+1,l_3,()) ⟨hL_9,aN hD_5⟩ (ls_ _) rfl (aG rfl)
 ·rintro s_7 ho_ sl_ H_ hp_ hq_
  subst ho_
  refine aM _ hp_ hq_ (ai (aa (vI 0) (ah ?_)))
  obtain rfl:=ae hF
  exact aA (aK [(vI 0)] ⟨rfl,trivial⟩)
theorem uX {r_1:Rect} {wv_2:Int} {h_3:Int} {r:Bool} (hF:lJ r_1 wv_2 h_3=some r) :
  FnM Tryz.prog 56 [(.d (.agg (Rect.enc r_1))),(vI wv_2),(vI h_3)] [] (vB r) []:=by
 refine FnM.of_wH ⟨Tryz.prog,33,[],[]⟩ rfl Tryz.func56 rfl rfl (lb_ rfl) (by kernel_rfl) ?_
 unfold lJ at hF
 refine ai (dY 0 (.inl rfl) (Rect.v r_1) rfl rfl wz (λn_4=>aa (vB false) (ah (ak ?_))))
 obtain ⟨v_5,h_6,hF⟩:=bind_some hF
 refine aP [(6,(vB v_5))] [(n_4,some (.cells 4 (Rect.v r_1)))] ?_ ?_
 ·refine au (ay ic rfl 0 rfl wz (av 0 0 il ft sz3 ag3 rfl rfl (vI r_1.X) rfl wz (aa (vB (decide (r_1.X>=0))) ?_)))
  rcases aj h_6 with⟨hc_7,h_6⟩|⟨hc_7,h_6⟩
  ·refine aF rfl hc_7 wz (ay gu rfl 1 rfl wa (av 0 0 il ft sz3 ag3 rfl rfl (vI r_1.Y) rfl wa (aI (vB (decide (r_1.Y>=0))) wa rfl (aa (vB (decide (r_1.Y>=0))) ?_))))
   rcases aj h_6 with⟨hc_8,h_6⟩|⟨hc_8,h_6⟩
   ·refine aF rfl hc_8 wz (ay ic rfl 0 rfl wa (av 0 0 il ft sz3 ag3 rfl rfl (vI r_1.X) rfl wa (ay mg rfl 2 rfl wa (av 0 0 il ft sz3 ag3 rfl rfl (vI r_1.W) rfl wa (aI (vI (w64 (r_1.X+r_1.W))) wa rfl (aI (vI wv_2) wa rfl (aI (vB (decide ((w64 (r_1.X+r_1.W))<=wv_2))) wa rfl (aa (vB (decide ((w64 (r_1.X+r_1.W))<=wv_2))) ?_))))))))
    rcases aj h_6 with⟨hc_9,h_6⟩|⟨hc_9,h_6⟩
    ·refine aF rfl hc_9 wz (ay gu rfl 1 rfl wa (av 0 0 il ft sz3 ag3 rfl rfl (vI r_1.Y) rfl wa (ay lQ rfl 3 rfl wa (av 0 0 il ft sz3 ag3 rfl rfl (vI r_1.H) rfl wa (aI (vI (w64 (r_1.Y+r_1.H))) wa rfl (aI (vI h_3) wa rfl (aI (vB (decide ((w64 (r_1.Y+r_1.H))<=h_3))) wa rfl (aa (vB (decide ((w64 (r_1.Y+r_1.H))<=h_3))) (aa (vB (decide ((w64 (r_1.Y+r_1.H))<=h_3))) (ah ?_))))))))))
     obtain rfl:=ae h_6
     exact cu
    ·refine aF rfl hc_9 wz (af (af (af (af (af (af (af (aa (vB false) (aa (vB false) (ah ?_))))))))))
     obtain rfl:=ae h_6
     exact cu
   ·refine aF rfl hc_8 wz (af (af (af (af (af (af (af (aa (vB false) (aa (vB false) (af (af (af (af (af (af (af (aa (vB false) (aa (vB false) (ah ?_)))))))))))))))))))
    obtain rfl:=ae h_6
    exact cu
  ·refine aF rfl hc_7 wz (af (af (af (aa (vB false) (aa (vB false) (af (af (af (af (af (af (af (aa (vB false) (aa (vB false) (af (af (af (af (af (af (af (aa (vB false) (aa (vB false) ?_)))))))))))))))))))))))
   refine ah ?_
   obtain rfl:=ae h_6
   exact cu
 ·rintro ⟨⟩ _ sl_ H_ hp_ hq_
  refine aM _ hp_ hq_ ?_
  obtain rfl:=ae hF
  exact aA (aK [(vB v_5)] ⟨rfl,trivial⟩)
theorem xw {a_1:Rect} {b_2:Rect} {r:Rect×Bool} (hF:kW a_1 b_2=some r) :
  FnM Tryz.prog 32 [(.d (.agg (Rect.enc a_1))),(.d (.agg (Rect.enc b_2)))] [] (.tup [(.d (.agg (Rect.enc r.1))),(vB r.2)]) []:=by
 refine FnM.of_wH ⟨Tryz.prog,58,[],[]⟩ rfl Tryz.func32 rfl rfl (lb_ rfl) (by kernel_rfl) ?_
 unfold kW at hF
 refine ai (dY 0 (.inl rfl) (Rect.v a_1) rfl rfl wz (λn_3=>dY 0 (.inl rfl) (Rect.v b_2) rfl rfl wz (λn_4=>bf 0 (.inl rfl) z27 rfl wz (λn_5=>aa (vB false) (ah (ak (bz (ay ic rfl 0 rfl wz (av 1 0 (.inr (by kernel_rfl)) (λ_ _ ag=>trivial) sz3 ag3 rfl rfl (vI a_1.X) rfl wz (ay ic rfl 0 rfl wz (av 3 1 (.inr (by kernel_rfl)) (λ_ _ ag=>⟨.inl ⟨rfl,rfl⟩,trivial⟩) sz3 ag3 rfl rfl (vI b_2.X) rfl wz (jV (vI (bW a_1.X b_2.X)) rfl (.inr rfl) wz (ay gu rfl 1 rfl wz (av 6 0 (.inr (by kernel_rfl)) (λ_ _ ag=>⟨.inl ⟨rfl,rfl⟩,⟨.inl ⟨rfl,rfl⟩,trivial⟩⟩) sz3 ag3 rfl rfl (vI a_1.Y) rfl wz (ay gu rfl 1 rfl wz (av 8 1 (.inr (by kernel_rfl)) (λ_ _ ag=>⟨.inl ⟨rfl,rfl⟩,⟨.inl ⟨rfl,rfl⟩,⟨.inl ⟨rfl,rfl⟩,trivial⟩⟩⟩) sz3 ag3 rfl rfl (vI b_2.Y) rfl wz (jV (vI (bW a_1.Y b_2.Y)) rfl (.inr rfl) wz (aa (vI (bW a_1.X b_2.X)) (aa (vI (bW a_1.Y b_2.Y)) (ah (ak (bz (ay ic rfl 0 rfl wz ?_)))))))))))))))))))))))
 refine av 1 0 (.inr (by kernel_rfl)) (λ_ _ ag=>trivial) sz3 ag3 rfl rfl (vI a_1.X) rfl wz (ay mg rfl 2 rfl wz (av 3 0 (.inr (by kernel_rfl)) (λ_ _ ag=>⟨.inl ⟨rfl,rfl⟩,trivial⟩) sz3 ag3 rfl rfl (vI a_1.W) rfl wz (aa (vI (w64 (a_1.X+a_1.W))) (ay ic rfl 0 rfl wz (av 6 1 (.inr (by kernel_rfl)) (λ_ _ ag=>⟨.inl ⟨rfl,rfl⟩,⟨.inl ⟨rfl,rfl⟩,trivial⟩⟩) sz3 ag3 rfl rfl (vI b_2.X) rfl wz (ay mg rfl 2 rfl wz (av 8 1 (.inr (by kernel_rfl)) (λ_ _ ag=>⟨.inl ⟨rfl,rfl⟩,⟨.inl ⟨rfl,rfl⟩,⟨.inl ⟨rfl,rfl⟩,trivial⟩⟩⟩) sz3 ag3 rfl rfl (vI b_2.W) rfl wz (aa (vI (w64 (b_2.X+b_2.W))) (jV (vI (fD (w64 (a_1.X+a_1.W)) (w64 (b_2.X+b_2.W)))) rfl (.inl rfl) wz (aa (vI (bW a_1.X b_2.X)) (aa (vI (w64 ((fD (w64 (a_1.X+a_1.W)) (w64 (b_2.X+b_2.W)))-(bW a_1.X b_2.X)))) (ay gu rfl 1 rfl wz (av 14 0 (.inr (by kernel_rfl)) (λ_ _ ag=>⟨.inl ⟨rfl,rfl⟩,⟨.inl ⟨rfl,rfl⟩,⟨.inl ⟨rfl,rfl⟩,⟨.inl ⟨rfl,rfl⟩,trivial⟩⟩⟩⟩) sz3 ag3 rfl rfl (vI a_1.Y) rfl wz (ay lQ rfl 3 rfl wz (av 16 0 (.inr (by kernel_rfl)) (λ_ _ ag=>⟨.inl ⟨rfl,rfl⟩,⟨.inl ⟨rfl,rfl⟩,⟨.inl ⟨rfl,rfl⟩,⟨.inl ⟨rfl,rfl⟩,⟨.inl ⟨rfl,rfl⟩,trivial⟩⟩⟩⟩⟩) sz3 ag3 rfl rfl (vI a_1.H) rfl wz (aa (vI (w64 (a_1.Y+a_1.H))) (ay gu rfl 1 rfl wz (av 19 1 (.inr (by kernel_rfl)) (λ_ _ ag=>⟨.inl ⟨rfl,rfl⟩,⟨.inl ⟨rfl,rfl⟩,⟨.inl ⟨rfl,rfl⟩,⟨.inl ⟨rfl,rfl⟩,⟨.inl ⟨rfl,rfl⟩,⟨.inl ⟨rfl,rfl⟩,trivial⟩⟩⟩⟩⟩⟩) sz3 ag3 rfl rfl (vI b_2.Y) rfl wz (ay lQ rfl 3 rfl wz (av 21 1 (.inr (by kernel_rfl)) (λ_ _ ag=>⟨.inl ⟨rfl,rfl⟩,⟨.inl ⟨rfl,rfl⟩,⟨.inl ⟨rfl,rfl⟩,⟨.inl ⟨rfl,rfl⟩,⟨.inl ⟨rfl,rfl⟩,⟨.inl ⟨rfl,rfl⟩,⟨.inl ⟨rfl,rfl⟩,trivial⟩⟩⟩⟩⟩⟩⟩) sz3 ag3 rfl rfl (vI b_2.H) rfl wz (aa (vI (w64 (b_2.Y+b_2.H))) (jV (vI (fD (w64 (a_1.Y+a_1.H)) (w64 (b_2.Y+b_2.H)))) rfl (.inl rfl) wz (aa (vI (bW a_1.Y b_2.Y)) ?_)))))))))))))))))))))))
 refine aa (vI (w64 ((fD (w64 (a_1.Y+a_1.H)) (w64 (b_2.Y+b_2.H)))-(bW a_1.Y b_2.Y)))) (aa (vI (w64 ((fD (w64 (a_1.X+a_1.W)) (w64 (b_2.X+b_2.W)))-(bW a_1.X b_2.X)))) (aa (vI (w64 ((fD (w64 (a_1.Y+a_1.H)) (w64 (b_2.Y+b_2.H)))-(bW a_1.Y b_2.Y)))) (ah (aM (H0:=([(n_3,some (.cells 4 (Rect.v a_1))),(n_4,some (.cells 4 (Rect.v b_2))),(n_5,some (.cells 4 [(vI 0),(vI 0),(vI 0),(vI 0)]))]:Hp)) ([(4,(.ref n_5 0 0)),(6,(vI (bW a_1.X b_2.X))),(7,(vI (bW a_1.Y b_2.Y))),(8,(vI (w64 ((fD (w64 (a_1.X+a_1.W)) (w64 (b_2.X+b_2.W)))-(bW a_1.X b_2.X))))),(9,(vI (w64 ((fD (w64 (a_1.Y+a_1.H)) (w64 (b_2.Y+b_2.H)))-(bW a_1.Y b_2.Y)))))]:SL_) (by kernel_rfl) (oF (by kernel_rfl)) (ak (ak ?_))))))
 obtain ⟨v_6,h_7,hF⟩:=bind_some hF
 refine aP [(4,(.ref n_5 0 0)),(6,(vI (bW a_1.X b_2.X))),(7,(vI (bW a_1.Y b_2.Y))),(8,(vI (w64 ((fD (w64 (a_1.X+a_1.W)) (w64 (b_2.X+b_2.W)))-(bW a_1.X b_2.X))))),(9,(vI (w64 ((fD (w64 (a_1.Y+a_1.H)) (w64 (b_2.Y+b_2.H)))-(bW a_1.Y b_2.Y))))),(51,(vB v_6))] [(n_3,some (.cells 4 (Rect.v a_1))),(n_4,some (.cells 4 (Rect.v b_2))),(n_5,some (.cells 4 [(vI 0),(vI 0),(vI 0),(vI 0)]))] ?_ ?_
 ·refine au (aa (vI (w64 ((fD (w64 (a_1.X+a_1.W)) (w64 (b_2.X+b_2.W)))-(bW a_1.X b_2.X)))) (aa (vB (decide ((w64 ((fD (w64 (a_1.X+a_1.W)) (w64 (b_2.X+b_2.W)))-(bW a_1.X b_2.X)))<=0))) ?_))
  rcases aj h_7 with⟨hc_8,h_7⟩|⟨hc_8,h_7⟩
  ·refine aF rfl hc_8 wz (af (af (aa (vB true) (ah ?_))))
   obtain rfl:=ae h_7
   exact cu
  ·refine aF rfl hc_8 wz (aI (vI (w64 ((fD (w64 (a_1.Y+a_1.H)) (w64 (b_2.Y+b_2.H)))-(bW a_1.Y b_2.Y)))) wa rfl (aI (vB (decide ((w64 ((fD (w64 (a_1.Y+a_1.H)) (w64 (b_2.Y+b_2.H)))-(bW a_1.Y b_2.Y)))<=0))) wa rfl (aa (vB (decide ((w64 ((fD (w64 (a_1.Y+a_1.H)) (w64 (b_2.Y+b_2.H)))-(bW a_1.Y b_2.Y)))<=0))) (ah ?_))))
   obtain rfl:=ae h_7
   exact cu
 ·rintro ⟨⟩ _ sl_ H_ hp_ hq_
  refine aM _ hp_ hq_ ?_
  rcases aj hF with⟨hc_9,hF⟩|⟨hc_9,hF⟩
  ·refine aC rfl hc_9 (ai (aI (.d (.agg (Rect.enc (⟨0,0,0,0⟩:Rect)))) wz (by kernel_rfl) (cz 0 il ft 2 eU rfl rfl [(vI 0),(vI 0),(vI 0),(vI 0)] rfl wz (aa (vB false) (ah ?_)))))
   obtain rfl:=ae hF
   exact aA (aK [(.d (.agg (Rect.enc (⟨0,0,0,0⟩:Rect)))),(vB false)] ⟨⟨2,_,_,_,_,_,_,_,rfl,rfl,eU,jN,rfl⟩,⟨rfl,trivial⟩⟩)
  ·refine aB rfl hc_9 (ax (ai (aa (vI (bW a_1.X b_2.X)) (aa (vI (bW a_1.Y b_2.Y)) (aa (vI (w64 ((fD (w64 (a_1.X+a_1.W)) (w64 (b_2.X+b_2.W)))-(bW a_1.X b_2.X)))) (aa (vI (w64 ((fD (w64 (a_1.Y+a_1.H)) (w64 (b_2.Y+b_2.H)))-(bW a_1.Y b_2.Y)))) (aI (.d (.agg (Rect.enc (⟨(bW a_1.X b_2.X),(bW a_1.Y b_2.Y),(w64 ((fD (w64 (a_1.X+a_1.W)) (w64 (b_2.X+b_2.W)))-(bW a_1.X b_2.X))),(w64 ((fD (w64 (a_1.Y+a_1.H)) (w64 (b_2.Y+b_2.H)))-(bW a_1.Y b_2.Y)))⟩:Rect)))) wz (by kernel_rfl) (cz 0 il ft 2 eU rfl rfl [(vI (bW a_1.X b_2.X)),(vI (bW a_1.Y b_2.Y)),(vI (w64 ((fD (w64 (a_1.X+a_1.W)) (w64 (b_2.X+b_2.W)))-(bW a_1.X b_2.X)))),(vI (w64 ((fD (w64 (a_1.Y+a_1.H)) (w64 (b_2.Y+b_2.H)))-(bW a_1.Y b_2.Y))))] rfl wz (aa (vB true) (ah ?_))))))))))
   obtain rfl:=ae hF
   exact aA (aK [(.d (.agg (Rect.enc (⟨(bW a_1.X b_2.X),(bW a_1.Y b_2.Y),(w64 ((fD (w64 (a_1.X+a_1.W)) (w64 (b_2.X+b_2.W)))-(bW a_1.X b_2.X))),(w64 ((fD (w64 (a_1.Y+a_1.H)) (w64 (b_2.Y+b_2.H)))-(bW a_1.Y b_2.Y)))⟩:Rect)))),(vB true)] ⟨⟨2,_,_,_,_,_,_,_,rfl,rfl,eU,jN,rfl⟩,⟨rfl,trivial⟩⟩)
theorem rA {wv_1:Wall} {r:Int} (hF:dJ wv_1=some r) :
  FnM Tryz.prog 27 [(.d (.agg (Wall.enc wv_1)))] [] (vI r) []:=by
 refine FnM.of_wH ⟨Tryz.prog,99,[],[]⟩ rfl Tryz.func27 rfl rfl (lb_ rfl) (by kernel_rfl) ?_
 unfold dJ at hF
 refine ai (dY 0 (.inl rfl) (Wall.v wv_1) rfl rfl wz (λn_2=>aa (vI 0) (ah (ak (ai (ay PK rfl 0 rfl wz (av 0 0 il ft sz9 ag9 rfl rfl (vS wv_1.Key) rfl wz ?_)))))))
 obtain ⟨r_3,hr_4,hF⟩:=bind_some hF
 refine aD (eu hr_4) rfl zP rfl rfl rfl rfl wz (aa (vB (!r_3)) (ah ?_))
 rcases aj hF with⟨hc_5,hF⟩|⟨hc_5,hF⟩
 ·refine aC rfl hc_5 (ai (aa (vI 5) (ah ?_)))
  obtain rfl:=ae hF
  exact aA (aK [(vI 5)] ⟨rfl,trivial⟩)
 ·refine aB rfl hc_5 (ax (ak (ai (ay xn rfl 1 rfl wz (av 0 0 il ft sz3 ag3 rfl rfl (vI wv_1.W) rfl wz (ay xm rfl 2 rfl wz (av 0 0 il ft sz3 ag3 rfl rfl (vI wv_1.H) rfl wz (fI (([wv_1.W,wv_1.H]:List Int).map eI) o9 D8 rfl rfl rfl rfl rfl wz ?_))))))))
  obtain ⟨r_6,hr_7,hF⟩:=bind_some hF
  refine aD (qJ hr_7) rfl hb55 rfl rfl rfl rfl wz (aa (vI r_6) (ah (ai (aa (vI r_6) (aa (vB (r_6 != 0)) (ah ?_))))))
  rcases aj hF with⟨hc_8,hF⟩|⟨hc_8,hF⟩
  ·refine aC rfl hc_8 (ai (aa (vI r_6) (aa (vI r_6) (ah ?_))))
   obtain rfl:=ae hF
   exact aA (aK [(vI r_6)] ⟨rfl,trivial⟩)
  ·refine aB rfl hc_8 (ax (ak (ai (ay nY rfl 3 rfl wz (av 0 0 il ft zC Am rfl rfl (vL Screen.enc wv_1.Screens) rfl wz (bJ yK rfl wz (aa (vB (decide ((wv_1.Screens.length:Int)>50))) (ah ?_))))))))
   rcases aj hF with⟨hc_9,hF⟩|⟨hc_9,hF⟩
   ·refine aC rfl hc_9 (ai (aa (vI 2) (ah ?_)))
    obtain rfl:=ae hF
    exact aA (aK [(vI 2)] ⟨rfl,trivial⟩)
   ·refine aB rfl hc_9 (ax (ak (ai (ay nY rfl 3 rfl wz (av 0 0 il ft zC Am rfl rfl (vL Screen.enc wv_1.Screens) rfl wz (bJ yK rfl wz (aa (vI 0) (ah ?_))))))))
    obtain ⟨o_18,hj_19,hF⟩:=bind_some hF
    obtain ⟨hn_14,hj_19⟩:=aR hj_19
    refine bL (λ(s_15:Unit)=>[(1,(.ref n_2 0 0))]) (λ(s_15:Unit)=>[(n_2,some (.cells 4 (Wall.v wv_1)))]) (λ(k_10:Nat)=>(λ(s_15:Unit)=>[(1,(.ref n_2 0 0)),(31,(vL Screen.enc wv_1.Screens)),(32,(vI (wv_1.Screens.length:Int))),(33,(vI (k_10:Int)))])) (λk x s=>iO wv_1 k x s) o_18 wv_1.Screens () hj_19 rfl (aG rfl) ?_ ?_
    ·rintro ⟨k_10,l_11,s_15⟩ ⟨hL_17,hD_13⟩
     dsimp only at hL_17 hD_13
     cases l_11 with
     | nil =>
      obtain rfl:=ae hL_17
      refine ai (aa (vB (decide ((k_10:Int)<(wv_1.Screens.length:Int)))) (ah ?_))
      refine ak (aB rfl (drop_nil hD_13) (aS ?_))
      exact aV (s_15) rfl rfl (aG rfl)
     | cons x_12 l_11 =>
      obtain ⟨c_,hc_16,hL_17⟩:=bind_some hL_17
      refine ai (aa (vB (decide ((k_10:Int)<(wv_1.Screens.length:Int)))) (ah ?_))
      refine ak (aC rfl (aW hD_13) (ax ?_))
      unfold iO at hc_16
      refine ak (aL (ai (aa (vI (k_10:Int)) (dM BZ rfl rfl (bu hD_13) rfl wz (bI rO Fj rfl (.d (.agg (Screen.enc x_12))) rfl wz (bf 0 (.inl rfl) z59 rfl wz (λn_20=>aa (vI (k_10:Int)) (cz 0 il ft 1 rO rfl rfl (Screen.v x_12) rfl wz (ah (ak (ai (ay zh rfl 0 rfl wz (av 0 1 il ft sz9 ag9 rfl rfl (vS x_12.Key) rfl wz ?_)))))))))))))
      obtain ⟨r_21,hr_22,hc_16⟩:=bind_some hc_16
      refine aD (eu hr_22) rfl zP rfl rfl rfl rfl wz (aa (vB (!r_21)) (ah ?_))
      rcases aj hc_16 with⟨hc_23,hc_16⟩|⟨hc_23,hc_16⟩
      ·refine aC rfl hc_23 (ai (aa (vI 5) (ah ?_)))
       obtain rfl:=ae hc_16
       obtain rfl:=ae hL_17
       obtain rfl:=ae hF
       exact aA (aK [(vI 5)] ⟨rfl,trivial⟩)
      ·refine aB rfl hc_23 (ax (ak (ai (ay nV rfl 1 rfl wz (av 0 1 il ft eU jN rfl rfl (.d (.agg (Rect.enc x_12.On))) rfl wz ?_)))))
       obtain ⟨r_24,hr_25,hc_16⟩:=bind_some hc_16
       refine aD (j5 hr_25) rfl hb47 rfl rfl rfl rfl wz (aa (vI r_24) (ah (ai (aa (vI r_24) (aa (vB (r_24 != 0)) (ah ?_))))))
       rcases aj hc_16 with⟨hc_26,hc_16⟩|⟨hc_26,hc_16⟩
       ·refine aC rfl hc_26 (ai (aa (vI r_24) (aa (vI r_24) (ah ?_))))
        obtain rfl:=ae hc_16
        obtain rfl:=ae hL_17
        obtain rfl:=ae hF
        exact aA (aK [(vI r_24)] ⟨rfl,trivial⟩)
       ·refine aB rfl hc_26 (ax (ak (ai (ay nV rfl 1 rfl wz (av 0 1 il ft eU jN rfl rfl (.d (.agg (Rect.enc x_12.On))) rfl wz (ay xn rfl 1 rfl wz (av 0 0 il ft sz3 ag3 rfl rfl (vI wv_1.W) rfl wz (ay xm rfl 2 rfl wz (av 0 0 il ft sz3 ag3 rfl rfl (vI wv_1.H) rfl wz ?_)))))))))
        obtain ⟨r_27,hr_28,hc_16⟩:=bind_some hc_16
        refine aD (uX hr_28) rfl hb56 rfl rfl rfl rfl wz (aa (vB (!r_27)) (ah ?_))
        rcases aj hc_16 with⟨hc_29,hc_16⟩|⟨hc_29,hc_16⟩
        ·refine aC rfl hc_29 (ai (aa (vI 3) (ah ?_)))
         obtain rfl:=ae hc_16
         obtain rfl:=ae hL_17
         obtain rfl:=ae hF
         exact aA (aK [(vI 3)] ⟨rfl,trivial⟩)
        ·refine aB rfl hc_29 (ax (ak ?_))
         obtain ⟨v_30,h_31,hc_16⟩:=bind_some hc_16
         refine aP [(1,(.ref n_2 0 0)),(31,(vL Screen.enc wv_1.Screens)),(32,(vI (wv_1.Screens.length:Int))),(33,(vI (k_10:Int))),(69,(vB v_30))] [(n_2,some (.cells 4 (Wall.v wv_1))),(n_20,some (.cells 5 (Screen.v x_12)))] ?_ ?_
         ·refine bz (aa (vI (k_10:Int)) (aa (vB (decide ((k_10:Int)>0))) ?_))
          rcases aj h_31 with⟨hc_32,h_31⟩|⟨hc_32,h_31⟩
          ·refine aF rfl hc_32 wz (ay zh rfl 0 rfl wa (av 4 1 (.inr (by kernel_rfl)) (λ_ _ ag=>trivial) sz9 ag9 rfl rfl (vS x_12.Key) rfl wa (ay nY rfl 3 rfl wa (av 6 0 (.inr (by kernel_rfl)) (λ_ _ ag=>⟨.inl ⟨rfl,rfl⟩,trivial⟩) zC Am rfl rfl (vL Screen.enc wv_1.Screens) rfl wa (aI (vI (k_10:Int)) wa rfl (aI (vI (w64 ((k_10:Int)-1))) wa rfl ?_))))))
           obtain ⟨y_33,hy_34,h_31⟩:=bind_some h_31
           refine dM BZ rfl rfl hy_34 rfl wa (ng zh rfl [.str y_33.Key,.int .i64 y_33.On.X,.int .i64 y_33.On.Y,.int .i64 y_33.On.W,.int .i64 y_33.On.H] rfl rfl wa (bI sz9 ag9 rfl (vS y_33.Key) rfl wa (aI (vB (sLe x_12.Key y_33.Key)) wa rfl (aa (vB (sLe x_12.Key y_33.Key)) (ah ?_)))))
           obtain rfl:=ae h_31
           exact cu
          ·refine aF rfl hc_32 wz (af (af (af (af (af (af (af (af (af (af (aa (vB false) (ah ?_))))))))))))
           obtain rfl:=ae h_31
           exact cu
         ·rintro ⟨⟩ _ sl_ H_ hp_ hq_
          refine aM _ hp_ hq_ ?_
          rcases aj hc_16 with⟨hc_35,hc_16⟩|⟨hc_35,hc_16⟩
          ·refine aC rfl hc_35 (ai (aa (vI 7) (ah ?_)))
           obtain rfl:=ae hc_16
           obtain rfl:=ae hL_17
           obtain rfl:=ae hF
           exact aA (aK [(vI 7)] ⟨rfl,trivial⟩)
          ·refine aB rfl hc_35 (ax (au (dL (aZ hD_13 hn_14) wz rfl (aa (vI ((k_10+1:Nat):Int)) (ah ?_)))))
           obtain rfl:=ae hc_16
           exact aU (k_10+1,l_11,()) ⟨hL_17,aN hD_13⟩ (ls_ _) rfl (aG rfl)
    ·rintro s_15 ho_ sl_ H_ hp_ hq_
     subst ho_
     refine aM _ hp_ hq_ (ak (ai (ay nY rfl 3 rfl wz (av 0 0 il ft zC Am rfl rfl (vL Screen.enc wv_1.Screens) rfl wz (bJ yK rfl wz (aa (vI 0) (ah ?_)))))))
     obtain ⟨o_44,hj_45,hF⟩:=bind_some hF
     obtain ⟨hn_40,hj_45⟩:=aR hj_45
     refine bL (λ(s_41:Unit)=>[]) (λ(s_41:Unit)=>[(n_2,some (.cells 4 (Wall.v wv_1)))]) (λ(k_36:Nat)=>(λ(s_41:Unit)=>[(1,(.ref n_2 0 0)),(72,(vL Screen.enc wv_1.Screens)),(73,(vI (wv_1.Screens.length:Int))),(74,(vI (k_36:Int)))])) (λk x s=>bH wv_1 k x s) o_44 wv_1.Screens () hj_45 rfl (aG rfl) ?_ ?_
     ·rintro ⟨k_36,l_37,s_41⟩ ⟨hL_43,hD_39⟩
      dsimp only at hL_43 hD_39
      cases l_37 with
      | nil =>
       obtain rfl:=ae hL_43
       refine ai (aa (vB (decide ((k_36:Int)<(wv_1.Screens.length:Int)))) (ah ?_))
       refine ak (aB rfl (drop_nil hD_39) (aS ?_))
       exact aV (s_41) rfl rfl (aG rfl)
      | cons x_38 l_37 =>
       obtain ⟨c_,hc_42,hL_43⟩:=bind_some hL_43
       refine ai (aa (vB (decide ((k_36:Int)<(wv_1.Screens.length:Int)))) (ah ?_))
       refine ak (aC rfl (aW hD_39) (ax ?_))
       unfold bH at hc_42
       refine ak (aL (ai (aa (vI (k_36:Int)) (dM BZ rfl rfl (bu hD_39) rfl wz (bI rO Fj rfl (.d (.agg (Screen.enc x_38))) rfl wz (bf 0 (.inl rfl) z59 rfl wz (λn_46=>aa (vI (k_36:Int)) (cz 0 il ft 1 rO rfl rfl (Screen.v x_38) rfl wz (ah (ai (ay nY rfl 3 rfl wz (av 0 0 il ft zC Am rfl rfl (vL Screen.enc wv_1.Screens) rfl wz (aa (vI (k_36:Int)) ?_)))))))))))))
       obtain ⟨y_47,hy_48,hc_42⟩:=bind_some hc_42
       refine wQ yK rO (λ_=>rfl) rfl rfl hy_48 wz (bJ yK rfl wz (aa (vI 0) (ah ?_)))
       obtain ⟨o_57,hj_58,hc_42⟩:=bind_some hc_42
       obtain ⟨hn_53,hj_58⟩:=aR hj_58
       refine bL (λ(s_54:Unit)=>[(1,(.ref n_2 0 0)),(72,(vL Screen.enc wv_1.Screens)),(73,(vI (wv_1.Screens.length:Int))),(74,(vI (k_36:Int)))]) (λ(s_54:Unit)=>[(n_2,some (.cells 4 (Wall.v wv_1))),(n_46,some (.cells 5 (Screen.v x_38)))]) (λ(k_49:Nat)=>(λ(s_54:Unit)=>[(1,(.ref n_2 0 0)),(8,(.ref n_46 0 0)),(72,(vL Screen.enc wv_1.Screens)),(73,(vI (wv_1.Screens.length:Int))),(74,(vI (k_36:Int))),(82,(vL Screen.enc y_47)),(83,(vI (y_47.length:Int))),(84,(vI (k_49:Int)))])) (λk x s=>dn x_38 k x s) o_57 y_47 () hj_58 rfl (aG rfl) ?_ ?_
       ·rintro ⟨k_49,l_50,s_54⟩ ⟨hL_56,hD_52⟩
        dsimp only at hL_56 hD_52
        cases l_50 with
        | nil =>
         obtain rfl:=ae hL_56
         refine ai (aa (vB (decide ((k_49:Int)<(y_47.length:Int)))) (ah ?_))
         refine ak (aB rfl (drop_nil hD_52) (aS ?_))
         exact aV (s_54) rfl rfl (aG rfl)
        | cons x_51 l_50 =>
         obtain ⟨c_,hc_55,hL_56⟩:=bind_some hL_56
         refine ai (aa (vB (decide ((k_49:Int)<(y_47.length:Int)))) (ah ?_))
         refine ak (aC rfl (aW hD_52) (ax ?_))
         unfold dn at hc_55
         refine ak (aL (ai (dM BZ rfl rfl (bu hD_52) rfl wz (bI rO Fj rfl (.d (.agg (Screen.enc x_51))) rfl wz (bf 0 (.inl rfl) z59 rfl wz (λn_59=>cz 0 il ft 2 rO rfl rfl (Screen.v x_51) rfl wz (ah (ai (ay nV rfl 1 rfl wz (av 0 1 il ft eU jN rfl rfl (.d (.agg (Rect.enc x_38.On))) rfl wz (ay nV rfl 1 rfl wz (av 0 2 il ft eU jN rfl rfl (.d (.agg (Rect.enc x_51.On))) rfl wz ?_))))))))))))
         obtain ⟨r_60,hr_61,hc_55⟩:=bind_some hc_55
         refine aD (xw hr_61) rfl hb32 rfl rfl rfl rfl wz (aa (.tup [(.d (.agg (Rect.enc r_60.1))),(vB r_60.2)]) (aa (.d (.agg (Rect.enc r_60.1))) (aa (vB r_60.2) (bf 0 (.inl rfl) z27 rfl wz (λn_62=>cz 0 il ft 3 eU rfl rfl (Rect.v r_60.1) rfl wz (aa (vB r_60.2) (ah (ai (aa (vB r_60.2) (ah ?_))))))))))
         rcases aj hc_55 with⟨hc_63,hc_55⟩|⟨hc_63,hc_55⟩
         ·refine aC rfl hc_63 (ai (aa (vI 13) (ah ?_)))
          obtain rfl:=ae hc_55
          obtain rfl:=ae hL_56
          obtain rfl:=ae hc_42
          obtain rfl:=ae hL_43
          obtain rfl:=ae hF
          exact aA (aK [(vI 13)] ⟨rfl,trivial⟩)
         ·refine aB rfl hc_63 (ax (au (dL (aZ hD_52 hn_53) wz rfl (aa (vI ((k_49+1:Nat):Int)) (ah ?_)))))
          obtain rfl:=ae hc_55
          exact aU (k_49+1,l_50,()) ⟨hL_56,aN hD_52⟩ (ls_ _) rfl (aG rfl)
       ·rintro s_54 ho_ sl_ H_ hp_ hq_
        subst ho_
        refine aM _ hp_ hq_ (au (dL (aZ hD_39 hn_40) wz rfl (aa (vI ((k_36+1:Nat):Int)) (ah ?_))))
        obtain rfl:=ae hc_42
        exact aU (k_36+1,l_37,()) ⟨hL_43,aN hD_39⟩ (ls_ _) rfl (aG rfl)
     ·rintro s_41 ho_ sl_ H_ hp_ hq_
      subst ho_
      refine aM _ hp_ hq_ (ai (aa (vI 0) (ah ?_)))
      obtain rfl:=ae hF
      exact aA (aK [(vI 0)] ⟨rfl,trivial⟩)
theorem F3 {wv_1:Wall} {r:(List Rect)} (hF:sD wv_1=some r) :
  FnM Tryz.prog 28 [(.d (.agg (Wall.enc wv_1)))] [] (vL Rect.enc r) []:=by
 refine FnM.of_wH ⟨Tryz.prog,20,[],[]⟩ rfl Tryz.func28 rfl rfl (lb_ rfl) (by kernel_rfl) ?_
 unfold sD at hF
 refine ai (dY 0 (.inl rfl) (Wall.v wv_1) rfl rfl wz (λn_2=>aa .nil (ah (ai (aa .nil (ah (ak (ai (ay nY rfl 3 rfl wz (av 0 0 il ft zC Am rfl rfl (vL Screen.enc wv_1.Screens) rfl wz (bJ yK rfl wz (aa (vI 0) (ah (iV (λn_9 => ?_)))))))))))))))
 obtain ⟨o_14,hj_15,hF⟩:=bind_some hF
 obtain ⟨hn_7,hj_15⟩:=aR hj_15
 refine fK (σ:=(List Rect)) (N:=Nm) (λp=>(λ(s_8:List Rect) (n_11:Nm)=>([(3,(gV n_11 4 s_8))]:SL_)) p.1 p.2) (λp=>(λ(s_8:List Rect) (n_11:Nm)=>([(n_2,some (.cells 4 (Wall.v wv_1))),(n_11,gB 4 Rect.enc s_8)]:Hp)) p.1 p.2) (λ(k_3:Nat)=>(λp=>(λ(s_8:List Rect) (n_11:Nm)=>([(3,(gV n_11 4 s_8)),(7,(vL Screen.enc wv_1.Screens)),(8,(vI (wv_1.Screens.length:Int))),(9,(vI (k_3:Int)))]:SL_)) p.1 p.2)) (λk x s=>qc k x s) o_14 wv_1.Screens (([]:List Rect),n_9) hj_15 rfl (aG rfl) ?_ ?_
 ·rintro ⟨k_3,l_4,s_8,n_11⟩ ⟨hL_13,hD_6⟩
  dsimp only at hL_13 hD_6
  cases l_4 with
  | nil =>
   obtain rfl:=ae hL_13
   refine ai (aa (vB (decide ((k_3:Int)<(wv_1.Screens.length:Int)))) (ah ?_))
   refine ak (aB rfl (drop_nil hD_6) (aS ?_))
   exact aV (s_8,n_11) rfl rfl (aG rfl)
  | cons x_5 l_4 =>
   obtain ⟨c_,hc_12,hL_13⟩:=bind_some hL_13
   refine ai (aa (vB (decide ((k_3:Int)<(wv_1.Screens.length:Int)))) (ah ?_))
   refine ak (aC rfl (aW hD_6) (ax ?_))
   unfold qc at hc_12
   refine ak (aL (ai (dM BZ rfl rfl (bu hD_6) rfl wz (bI rO Fj rfl (.d (.agg (Screen.enc x_5))) rfl wz (bf 0 (.inl rfl) z59 rfl wz (λn_16=>cz 0 il ft 2 rO rfl rfl (Screen.v x_5) rfl wz (ah (au (aa (gV n_11 4 s_8) (ay nV rfl 1 rfl wz (av 0 2 il ft eU jN rfl rfl (.d (.agg (Rect.enc x_5.On))) rfl wz (fI (([x_5.On]:List Rect).map Rect.enc) tO FI rfl rfl rfl rfl rfl wz ?_))))))))))))
   obtain ⟨a_17,hz_18,hc_12⟩:=bind_some hc_12
   refine kH 0 il ft (i:=1) Cb Cb eU z27 rfl (by decide) M8 (by decide) (λ_=>rfl) rfl rfl rfl hz_18 wz (λn_19=>aa (gV n_19 4 a_17) (ah (au (dL (aZ hD_6 hn_7) wz rfl (aa (vI ((k_3+1:Nat):Int)) (ah ?_))))))
   obtain rfl:=ae hc_12
   exact aU (k_3+1,l_4,a_17,n_19) ⟨hL_13,aN hD_6⟩ (ls_ _) rfl (aG rfl)
 ·rintro ⟨s_8,n_11⟩ ho_ sl_ H_ hp_ hq_
  subst ho_
  refine aM _ hp_ hq_ (ai (aa (gV n_11 4 s_8) (aa (gV n_11 4 s_8) (ah (jc 1 rfl (fF 2 1 rfl rfl (fF 3 1 rfl rfl (fF 19 1 rfl rfl ?_))))))))
  obtain rfl:=ae hF
  exact aA (aK [(vL Rect.enc s_8)] ⟨rfl,trivial⟩)
theorem Ah {wv_1:Wall} {r:(List Rect)×Int} (hF:nD wv_1=some r) :
  FnM Tryz.prog 10 [(.d (.agg (Wall.enc wv_1)))] [] (kG [.int .i64 r.2] (gV (aJ 0) 4 r.1)) (([]:List Box).map some++gO 4 Rect.enc r.1):=by
 refine FnM.of_wH ⟨Tryz.prog,22,[],[]⟩ rfl Tryz.func10 rfl rfl (lb_ rfl) (by kernel_rfl) ?_
 unfold nD at hF
 refine ai (dY 0 (.inl rfl) (Wall.v wv_1) rfl rfl wz (λn_2=>aa .nil (aa (vI 0) (ah (ak (ai (av 0 0 il ft xC EA rfl rfl (.d (.agg (Wall.enc wv_1))) rfl wz ?_)))))))
 obtain ⟨r_3,hr_4,hF⟩:=bind_some hF
 refine aD (rA hr_4) rfl hb27 rfl rfl rfl rfl wz (aa (vI r_3) (ah (ai (aa (vI r_3) (aa (vB (r_3 != 0)) (ah ?_))))))
 rcases aj hF with⟨hc_5,hF⟩|⟨hc_5,hF⟩
 ·refine aC rfl hc_5 (ai (aa (vI r_3) (aa .nil (aa (vI r_3) (ah (iV (λn_6 => ?_)))))))
  obtain rfl:=ae hF
  exact aA (wO (outs:=([]:List Box)) [.int .i64 r_3] (.inr rfl) 1 rfl ⟨rfl,trivial⟩ rfl rfl (by kernel_rfl) (by kernel_rfl))
 ·refine aB rfl hc_5 (ax (ak (bz (ay xn rfl 1 rfl wz (av 1 0 (.inr (by kernel_rfl)) (λ_ _ ag=>trivial) sz3 ag3 rfl rfl (vI wv_1.W) rfl wz (ay xm rfl 2 rfl wz (av 3 0 (.inr (by kernel_rfl)) (λ_ _ ag=>⟨.inl ⟨rfl,rfl⟩,trivial⟩) sz3 ag3 rfl rfl (vI wv_1.H) rfl wz (aI (.d (.agg (Rect.enc (⟨0,0,wv_1.W,wv_1.H⟩:Rect)))) wz (by kernel_rfl) (fI (([(⟨0,0,wv_1.W,wv_1.H⟩:Rect)]:List Rect).map Rect.enc) tO FI rfl rfl rfl rfl rfl wz (av 6 0 (.inr (by kernel_rfl)) (λ_ _ ag=>⟨.inl ⟨rfl,rfl⟩,⟨.inl ⟨rfl,rfl⟩,trivial⟩⟩) xC EA rfl rfl (.d (.agg (Wall.enc wv_1))) rfl wz ?_))))))))))
  obtain ⟨r_7,hr_8,hF⟩:=bind_some hF
  refine aD (F3 hr_8) rfl hb28 rfl rfl rfl rfl wz ?_
  obtain ⟨r_9,hr_10,hF⟩:=bind_some hF
  refine JJ 8 (.inr (by kernel_rfl)) (oZ hr_10) rfl O5 (by kernel_rfl) (by kernel_rfl) (by kernel_rfl) wz (λn_11 => ?_)
  obtain ⟨r_12,hr_13,hF⟩:=bind_some hF
  obtain ⟨_,ht_14,hF⟩:=bind_some hF
  refine zD [.int .i64 r_12.2] 9 [] 1 0 (.inr (by kernel_rfl)) (λ_ _ ag=>by exact⟨.inr (.inr (by kernel_rfl)),⟨.inr (.inr (by kernel_rfl)),⟨.inr (.inr (by kernel_rfl)),⟨.inr (.inr (by kernel_rfl)),trivial⟩⟩⟩⟩) (l5 hr_13) (Cg ht_14) rfl hb25 rfl rfl (by kernel_rfl) (by kernel_rfl) rfl rfl (by kernel_rfl) (by kernel_rfl) (by kernel_rfl) rfl (by decide) (by kernel_rfl) wz ([(n_2,some (.cells 4 (Wall.v wv_1))),(n_11,gB 4 Rect.enc r_12.1)]:Hp) (by kernel_rfl) (aa (gV n_11 4 r_12.1) (aa (vI r_12.2) (aa (gV n_11 4 r_12.1) (aa (vI r_12.2) (ah ?_)))))
  obtain rfl:=ae hF
  exact aA (wO (outs:=([]:List Box)) [.int .i64 r_12.2] (.inr rfl) 1 rfl ⟨rfl,trivial⟩ rfl rfl (by kernel_rfl) (by kernel_rfl))
theorem pE {l_1:Layout} {r:Int} (hF:eZ l_1=some r) :
  FnM Tryz.prog 29 [(.d (.agg (Layout.enc l_1)))] [] (vI r) []:=by
 refine FnM.of_wH ⟨Tryz.prog,68,[],[]⟩ rfl Tryz.func29 rfl rfl (lb_ rfl) (by kernel_rfl) ?_
 unfold eZ at hF
 refine ai (dY 0 (.inl rfl) (Layout.v l_1) rfl rfl wz (λn_2=>aa (vI 0) (ah (ak (ai (ay Kl rfl 0 rfl wz (av 0 0 il ft sz9 ag9 rfl rfl (vS l_1.Key) rfl wz ?_)))))))
 obtain ⟨r_3,hr_4,hF⟩:=bind_some hF
 refine aD (eu hr_4) rfl zP rfl rfl rfl rfl wz (aa (vB (!r_3)) (ah ?_))
 rcases aj hF with⟨hc_5,hF⟩|⟨hc_5,hF⟩
 ·refine aC rfl hc_5 (ai (aa (vI 5) (ah ?_)))
  obtain rfl:=ae hF
  exact aA (aK [(vI 5)] ⟨rfl,trivial⟩)
 ·refine aB rfl hc_5 (ax (ak (ai (ay zq rfl 1 rfl wz (av 0 0 il ft sz3 ag3 rfl rfl (vI l_1.W) rfl wz (ay zQ rfl 2 rfl wz (av 0 0 il ft sz3 ag3 rfl rfl (vI l_1.H) rfl wz (fI (([l_1.W,l_1.H]:List Int).map eI) o9 D8 rfl rfl rfl rfl rfl wz ?_))))))))
  obtain ⟨r_6,hr_7,hF⟩:=bind_some hF
  refine aD (qJ hr_7) rfl hb55 rfl rfl rfl rfl wz (aa (vI r_6) (ah (ai (aa (vI r_6) (aa (vB (r_6 != 0)) (ah ?_))))))
  rcases aj hF with⟨hc_8,hF⟩|⟨hc_8,hF⟩
  ·refine aC rfl hc_8 (ai (aa (vI r_6) (aa (vI r_6) (ah ?_))))
   obtain rfl:=ae hF
   exact aA (aK [(vI r_6)] ⟨rfl,trivial⟩)
  ·refine aB rfl hc_8 (ax (ak (ai (ay qU rfl 3 rfl wz (av 0 0 il ft CO Dw rfl rfl (vL Zone.enc l_1.Zones) rfl wz (bJ J8 rfl wz (aa (vB (decide ((l_1.Zones.length:Int)>30))) (ah ?_))))))))
   rcases aj hF with⟨hc_9,hF⟩|⟨hc_9,hF⟩
   ·refine aC rfl hc_9 (ai (aa (vI 2) (ah ?_)))
    obtain rfl:=ae hF
    exact aA (aK [(vI 2)] ⟨rfl,trivial⟩)
   ·refine aB rfl hc_9 (ax (ak (ai (ay qU rfl 3 rfl wz (av 0 0 il ft CO Dw rfl rfl (vL Zone.enc l_1.Zones) rfl wz (bJ J8 rfl wz (aa (vI 0) (ah ?_))))))))
    obtain ⟨o_18,hj_19,hF⟩:=bind_some hF
    obtain ⟨hn_14,hj_19⟩:=aR hj_19
    refine bL (λ(s_15:Unit)=>[]) (λ(s_15:Unit)=>[(n_2,some (.cells 4 (Layout.v l_1)))]) (λ(k_10:Nat)=>(λ(s_15:Unit)=>[(1,(.ref n_2 0 0)),(25,(vL Zone.enc l_1.Zones)),(26,(vI (l_1.Zones.length:Int))),(27,(vI (k_10:Int)))])) (λk x s=>gN l_1 k x s) o_18 l_1.Zones () hj_19 rfl (aG rfl) ?_ ?_
    ·rintro ⟨k_10,l_11,s_15⟩ ⟨hL_17,hD_13⟩
     dsimp only at hL_17 hD_13
     cases l_11 with
     | nil =>
      obtain rfl:=ae hL_17
      refine ai (aa (vB (decide ((k_10:Int)<(l_1.Zones.length:Int)))) (ah ?_))
      refine ak (aB rfl (drop_nil hD_13) (aS ?_))
      exact aV (s_15) rfl rfl (aG rfl)
     | cons x_12 l_11 =>
      obtain ⟨c_,hc_16,hL_17⟩:=bind_some hL_17
      refine ai (aa (vB (decide ((k_10:Int)<(l_1.Zones.length:Int)))) (ah ?_))
      refine ak (aC rfl (aW hD_13) (ax ?_))
      unfold gN at hc_16
      refine ak (aL (ai (aa (vI (k_10:Int)) (dM A8 rfl rfl (bu hD_13) rfl wz (bI BS Lu rfl (.d (.agg (Zone.enc x_12))) rfl wz (bf 0 (.inl rfl) z70 rfl wz (λn_20=>aa (vI (k_10:Int)) (cz 0 il ft 1 BS rfl rfl (Zone.v x_12) rfl wz (ah (ak (ai (ay Ed rfl 0 rfl wz (av 0 1 il ft sz9 ag9 rfl rfl (vS x_12.Key) rfl wz ?_)))))))))))))
      obtain ⟨r_21,hr_22,hc_16⟩:=bind_some hc_16
      refine aD (eu hr_22) rfl zP rfl rfl rfl rfl wz (aa (vB (!r_21)) (ah ?_))
      rcases aj hc_16 with⟨hc_23,hc_16⟩|⟨hc_23,hc_16⟩
      ·refine aC rfl hc_23 (ai (aa (vI 5) (ah ?_)))
       obtain rfl:=ae hc_16
       obtain rfl:=ae hL_17
       obtain rfl:=ae hF
       exact aA (aK [(vI 5)] ⟨rfl,trivial⟩)
      ·refine aB rfl hc_23 (ax (ak (ai (ay xI rfl 1 rfl wz (av 0 1 il ft eU jN rfl rfl (.d (.agg (Rect.enc x_12.On))) rfl wz ?_)))))
       obtain ⟨r_24,hr_25,hc_16⟩:=bind_some hc_16
       refine aD (j5 hr_25) rfl hb47 rfl rfl rfl rfl wz (aa (vI r_24) (ah (ai (aa (vI r_24) (aa (vB (r_24 != 0)) (ah ?_))))))
       rcases aj hc_16 with⟨hc_26,hc_16⟩|⟨hc_26,hc_16⟩
       ·refine aC rfl hc_26 (ai (aa (vI r_24) (aa (vI r_24) (ah ?_))))
        obtain rfl:=ae hc_16
        obtain rfl:=ae hL_17
        obtain rfl:=ae hF
        exact aA (aK [(vI r_24)] ⟨rfl,trivial⟩)
       ·refine aB rfl hc_26 (ax (ak (ai (ay xI rfl 1 rfl wz (av 0 1 il ft eU jN rfl rfl (.d (.agg (Rect.enc x_12.On))) rfl wz (ay zq rfl 1 rfl wz (av 0 0 il ft sz3 ag3 rfl rfl (vI l_1.W) rfl wz (ay zQ rfl 2 rfl wz (av 0 0 il ft sz3 ag3 rfl rfl (vI l_1.H) rfl wz ?_)))))))))
        obtain ⟨r_27,hr_28,hc_16⟩:=bind_some hc_16
        refine aD (uX hr_28) rfl hb56 rfl rfl rfl rfl wz (aa (vB (!r_27)) (ah ?_))
        rcases aj hc_16 with⟨hc_29,hc_16⟩|⟨hc_29,hc_16⟩
        ·refine aC rfl hc_29 (ai (aa (vI 3) (ah ?_)))
         obtain rfl:=ae hc_16
         obtain rfl:=ae hL_17
         obtain rfl:=ae hF
         exact aA (aK [(vI 3)] ⟨rfl,trivial⟩)
        ·refine aB rfl hc_29 (ax (ak (ai (ay FE rfl 5 rfl wz (av 0 1 il ft sz3 ag3 rfl rfl (vI x_12.Order) rfl wz ?_)))))
         obtain ⟨r_30,hr_31,hc_16⟩:=bind_some hc_16
         refine aD (bv hr_31) rfl qV rfl rfl rfl rfl wz (ah ?_)
         rcases aj hc_16 with⟨hc_32,hc_16⟩|⟨hc_32,hc_16⟩
         ·refine aC rfl hc_32 (ai (aa (vI 1) (ah ?_)))
          obtain rfl:=ae hc_16
          obtain rfl:=ae hL_17
          obtain rfl:=ae hF
          exact aA (aK [(vI 1)] ⟨rfl,trivial⟩)
         ·refine aB rfl hc_32 (ax (ak ?_))
          obtain ⟨v_33,h_34,hc_16⟩:=bind_some hc_16
          refine aP [(1,(.ref n_2 0 0)),(25,(vL Zone.enc l_1.Zones)),(26,(vI (l_1.Zones.length:Int))),(27,(vI (k_10:Int))),(66,(vB v_33))] [(n_2,some (.cells 4 (Layout.v l_1))),(n_20,some (.cells 6 (Zone.v x_12)))] ?_ ?_
          ·refine bz (aa (vI (k_10:Int)) (aa (vB (decide ((k_10:Int)>0))) ?_))
           rcases aj h_34 with⟨hc_35,h_34⟩|⟨hc_35,h_34⟩
           ·refine aF rfl hc_35 wz (ay Ed rfl 0 rfl wa (av 4 1 (.inr (by kernel_rfl)) (λ_ _ ag=>trivial) sz9 ag9 rfl rfl (vS x_12.Key) rfl wa (ay qU rfl 3 rfl wa (av 6 0 (.inr (by kernel_rfl)) (λ_ _ ag=>⟨.inl ⟨rfl,rfl⟩,trivial⟩) CO Dw rfl rfl (vL Zone.enc l_1.Zones) rfl wa (aI (vI (k_10:Int)) wa rfl (aI (vI (w64 ((k_10:Int)-1))) wa rfl ?_))))))
            obtain ⟨y_36,hy_37,h_34⟩:=bind_some h_34
            refine dM A8 rfl rfl hy_37 rfl wa (ng Ed rfl (Zone.enc y_36) rfl rfl wa (bI sz9 ag9 rfl (vS y_36.Key) rfl wa (aI (vB (sLe x_12.Key y_36.Key)) wa rfl (aa (vB (sLe x_12.Key y_36.Key)) (ah ?_)))))
            obtain rfl:=ae h_34
            exact cu
           ·refine aF rfl hc_35 wz (af (af (af (af (af (af (af (af (af (af (aa (vB false) (ah ?_))))))))))))
            obtain rfl:=ae h_34
            exact cu
          ·rintro ⟨⟩ _ sl_ H_ hp_ hq_
           refine aM _ hp_ hq_ ?_
           rcases aj hc_16 with⟨hc_38,hc_16⟩|⟨hc_38,hc_16⟩
           ·refine aC rfl hc_38 (ai (aa (vI 7) (ah ?_)))
            obtain rfl:=ae hc_16
            obtain rfl:=ae hL_17
            obtain rfl:=ae hF
            exact aA (aK [(vI 7)] ⟨rfl,trivial⟩)
           ·refine aB rfl hc_38 (ax (au (dL (aZ hD_13 hn_14) wz rfl (aa (vI ((k_10+1:Nat):Int)) (ah ?_)))))
            obtain rfl:=ae hc_16
            exact aU (k_10+1,l_11,()) ⟨hL_17,aN hD_13⟩ (ls_ _) rfl (aG rfl)
    ·rintro s_15 ho_ sl_ H_ hp_ hq_
     subst ho_
     refine aM _ hp_ hq_ (ai (aa (vI 0) (ah ?_)))
     obtain rfl:=ae hF
     exact aA (aK [(vI 0)] ⟨rfl,trivial⟩)
theorem BV {l_1:(List Zone)} {i_2:Int} {k_3:Int} {r:Bool} (hF:nC l_1 i_2 k_3=some r) :
  FnM Tryz.prog 80 [(vL Zone.enc l_1),(vI i_2),(vI k_3)] [] (vB r) []:=by
 refine FnM.of_wH ⟨Tryz.prog,36,[],[]⟩ rfl Tryz.func80 rfl rfl (lb_ rfl) (by kernel_rfl) ?_
 unfold nC at hF
 refine ai (aa (vB false) (ah (ak ?_)))
 obtain ⟨v_4,h_5,hF⟩:=bind_some hF
 refine aP [(6,(vB v_4))] [] ?_ ?_
 ·refine bz (aa (vL Zone.enc l_1) (aa (vI i_2) ?_))
  obtain ⟨y_6,hy_7,h_5⟩:=bind_some h_5
  refine dM A8 rfl rfl hy_7 rfl wz (ng FE rfl [.int .i64 y_6.Order] rfl rfl wz (bI sz3 ag3 rfl (vI y_6.Order) rfl wz (aa (vL Zone.enc l_1) (aa (vI k_3) ?_))))
  obtain ⟨y_8,hy_9,h_5⟩:=bind_some h_5
  refine dM A8 rfl rfl hy_9 rfl wz (ng FE rfl [.int .i64 y_8.Order] rfl rfl wz (bI sz3 ag3 rfl (vI y_8.Order) rfl wz (aa (vB (decide (y_6.Order>y_8.Order))) ?_)))
  rcases aj h_5 with⟨hc_10,h_5⟩|⟨hc_10,h_5⟩
  ·refine aF rfl hc_10 wz (af (af (af (af (af (af (af (af (af (af (af (af (dD (wn rfl rfl) (dD (wn rfl rfl) (dD (wn rfl rfl) (af (aa (vB true) (aa (vB true) (ah ?_)))))))))))))))))))
   obtain rfl:=ae h_5
   exact cu
  ·refine aF rfl hc_10 wz (aI (vL Zone.enc l_1) wa rfl (aI (vI i_2) wa rfl ?_))
   obtain ⟨y_11,hy_12,h_5⟩:=bind_some h_5
   refine dM A8 rfl rfl hy_12 rfl wa (ng FE rfl [.int .i64 y_11.Order] rfl rfl wa (bI sz3 ag3 rfl (vI y_11.Order) rfl wa (aI (vL Zone.enc l_1) wa rfl (aI (vI k_3) wa rfl ?_))))
   obtain ⟨y_13,hy_14,h_5⟩:=bind_some h_5
   refine dM A8 rfl rfl hy_14 rfl wa (ng FE rfl [.int .i64 y_13.Order] rfl rfl wa (bI sz3 ag3 rfl (vI y_13.Order) rfl wa (aI (vB (y_11.Order==y_13.Order)) wa rfl ?_)))
   rcases aj h_5 with⟨hc_15,h_5⟩|⟨hc_15,h_5⟩
   ·refine aF rfl hc_15 wa (aI (vI i_2) wa rfl (aI (vI k_3) wa rfl (aI (vB (decide (i_2>k_3))) wa rfl (aI (vB (decide (i_2>k_3))) wa rfl (aa (vB (decide (i_2>k_3))) (aa (vB (decide (i_2>k_3))) (ah ?_)))))))
    obtain rfl:=ae h_5
    exact cu
   ·refine aF rfl hc_15 wa (af (af (af (aI (vB false) wa rfl (aa (vB false) (aa (vB false) (ah ?_)))))))
    obtain rfl:=ae h_5
    exact cu
 ·rintro ⟨⟩ _ sl_ H_ hp_ hq_
  refine aM _ hp_ hq_ ?_
  obtain rfl:=ae hF
  exact aA (aK [(vB v_4)] ⟨rfl,trivial⟩)
theorem uG {l_1:Layout} {k_2:Int} {r:(List Rect)} (hF:gY l_1 k_2=some r) :
  FnM Tryz.prog 58 [(.d (.agg (Layout.enc l_1))),(vI k_2)] [] (vL Rect.enc r) []:=by
 refine FnM.of_wH ⟨Tryz.prog,36,[],[]⟩ rfl Tryz.func58 rfl rfl (lb_ rfl) (by kernel_rfl) ?_
 unfold gY at hF
 refine ai (dY 0 (.inl rfl) (Layout.v l_1) rfl rfl wz (λn_3=>aa .nil (ah (ai (aa .nil (ah (ak (ai (ay qU rfl 3 rfl wz (av 0 0 il ft CO Dw rfl rfl (vL Zone.enc l_1.Zones) rfl wz (bJ J8 rfl wz (aa (vI 0) (ah (iV (λn_10 => ?_)))))))))))))))
 obtain ⟨o_15,hj_16,hF⟩:=bind_some hF
 obtain ⟨hn_8,hj_16⟩:=aR hj_16
 refine fK (σ:=(List Rect)) (N:=Nm) (λp=>(λ(s_9:List Rect) (n_12:Nm)=>([(1,(vI k_2)),(2,(.ref n_3 0 0)),(5,(gV n_12 4 s_9))]:SL_)) p.1 p.2) (λp=>(λ(s_9:List Rect) (n_12:Nm)=>([(n_3,some (.cells 4 (Layout.v l_1))),(n_12,gB 4 Rect.enc s_9)]:Hp)) p.1 p.2) (λ(k_4:Nat)=>(λp=>(λ(s_9:List Rect) (n_12:Nm)=>([(1,(vI k_2)),(2,(.ref n_3 0 0)),(5,(gV n_12 4 s_9)),(9,(vL Zone.enc l_1.Zones)),(10,(vI (l_1.Zones.length:Int))),(11,(vI (k_4:Int)))]:SL_)) p.1 p.2)) (λk x s=>iZ l_1 k_2 k x s) o_15 l_1.Zones (([]:List Rect),n_10) hj_16 rfl (aG rfl) ?_ ?_
 ·rintro ⟨k_4,l_5,s_9,n_12⟩ ⟨hL_14,hD_7⟩
  dsimp only at hL_14 hD_7
  cases l_5 with
  | nil =>
   obtain rfl:=ae hL_14
   refine ai (aa (vB (decide ((k_4:Int)<(l_1.Zones.length:Int)))) (ah ?_))
   refine ak (aB rfl (drop_nil hD_7) (aS ?_))
   exact aV (s_9,n_12) rfl rfl (aG rfl)
  | cons x_6 l_5 =>
   obtain ⟨c_,hc_13,hL_14⟩:=bind_some hL_14
   refine ai (aa (vB (decide ((k_4:Int)<(l_1.Zones.length:Int)))) (ah ?_))
   refine ak (aC rfl (aW hD_7) (ax ?_))
   unfold iZ at hc_13
   refine ak (aL (ai (aa (vI (k_4:Int)) (dM A8 rfl rfl (bu hD_7) rfl wz (bI BS Lu rfl (.d (.agg (Zone.enc x_6))) rfl wz (bf 0 (.inl rfl) z70 rfl wz (λn_17=>aa (vI (k_4:Int)) (cz 0 il ft 2 BS rfl rfl (Zone.v x_6) rfl wz (ah (ai (ay qU rfl 3 rfl wz (av 0 0 il ft CO Dw rfl rfl (vL Zone.enc l_1.Zones) rfl wz (aa (vI (k_4:Int)) (aa (vI k_2) ?_))))))))))))))
   obtain ⟨r_18,hr_19,hc_13⟩:=bind_some hc_13
   refine aD (BV hr_19) rfl hb80 rfl rfl rfl rfl wz (ah ?_)
   obtain ⟨v_20,h_21,hc_13⟩:=bind_some hc_13
   refine lS (β:=Nm) (λ(n_22:Nm)=>([(1,(vI k_2)),(2,(.ref n_3 0 0)),(5,(gV n_22 4 v_20)),(9,(vL Zone.enc l_1.Zones)),(10,(vI (l_1.Zones.length:Int))),(11,(vI (k_4:Int)))]:SL_)) (λ(n_22:Nm)=>([(n_3,some (.cells 4 (Layout.v l_1))),(n_22,gB 4 Rect.enc v_20),(n_17,some (.cells 6 (Zone.v x_6)))]:Hp)) (λ_=>True) ?_ ?_
   ·rcases aj h_21 with⟨hc_23,h_21⟩|⟨hc_23,h_21⟩
    ·refine aC rfl hc_23 (au (aa (gV n_12 4 s_9) (ay xI rfl 1 rfl wz (av 0 2 il ft eU jN rfl rfl (.d (.agg (Rect.enc x_6.On))) rfl wz (fI (([x_6.On]:List Rect).map Rect.enc) tO FI rfl rfl rfl rfl rfl wz ?_)))))
     obtain ⟨a_24,hz_25,h_21⟩:=bind_some h_21
     refine kH 0 il ft (i:=1) Cb Cb eU z27 rfl (by decide) M8 (by decide) (λ_=>rfl) rfl rfl rfl hz_25 wz (λn_26=>aa (gV n_26 4 a_24) (ah ?_))
     obtain rfl:=ae h_21
     exact aV n_26 trivial rfl (aG rfl)
    ·refine aB rfl hc_23 (ax ?_)
     obtain rfl:=ae h_21
     exact aV n_12 trivial rfl (aG rfl)
   ·rintro n_22 _ sl_ H_ hp_ hq_
    refine aM _ hp_ hq_ (au (dL (aZ hD_7 hn_8) wz rfl (aa (vI ((k_4+1:Nat):Int)) (ah ?_))))
    obtain rfl:=ae hc_13
    exact aU (k_4+1,l_5,v_20,n_22) ⟨hL_14,aN hD_7⟩ (ls_ _) rfl (aG rfl)
 ·rintro ⟨s_9,n_12⟩ ho_ sl_ H_ hp_ hq_
  subst ho_
  refine aM _ hp_ hq_ (ak (jc 1 rfl (fF 5 1 rfl rfl (au (ay qU rfl 3 rfl wz (av 0 0 il ft CO Dw rfl rfl (vL Zone.enc l_1.Zones) rfl wz (aa (vI k_2) ?_)))))))
  obtain ⟨y_27,hy_28,hF⟩:=bind_some hF
  refine dM A8 rfl rfl hy_28 rfl wz (ng xI rfl [.int .i64 y_27.On.X,.int .i64 y_27.On.Y,.int .i64 y_27.On.W,.int .i64 y_27.On.H,.int .i64 y_27.Order] rfl rfl wz (bI eU jN rfl (.d (.agg (Rect.enc y_27.On))) rfl wz (fI (([y_27.On]:List Rect).map Rect.enc) tO FI rfl rfl rfl rfl rfl wz (aa (vL Rect.enc s_9) ?_))))
  obtain ⟨r_29,hr_30,hF⟩:=bind_some hF
  refine aD (uK hr_30) rfl O5 rfl rfl rfl rfl wz (aa (vL Rect.enc r_29) (ah ?_))
  obtain rfl:=ae hF
  exact aA (aK [(vL Rect.enc r_29)] ⟨rfl,trivial⟩)
theorem FH {l_1:Layout} {r:(List Piece)×Int} (hF:jM l_1=some r) :
  FnM Tryz.prog 30 [(.d (.agg (Layout.enc l_1)))] [] (.tup [(vL Piece.enc r.1),(vI r.2)]) []:=by
 refine FnM.of_wH ⟨Tryz.prog,38,[],[]⟩ rfl Tryz.func30 rfl rfl (lb_ rfl) (by kernel_rfl) ?_
 unfold jM at hF
 refine ai (dY 0 (.inl rfl) (Layout.v l_1) rfl rfl wz (λn_2=>aa .nil (aa (vI 0) (ah (ai (aa .nil (ah (ak (ai (ay qU rfl 3 rfl wz (av 0 0 il ft CO Dw rfl rfl (vL Zone.enc l_1.Zones) rfl wz (bJ J8 rfl wz (aa (vI 0) (ah (iV (λn_9 => ?_))))))))))))))))
 obtain ⟨o_14,hj_15,hF⟩:=bind_some hF
 obtain ⟨hn_7,hj_15⟩:=aR hj_15
 refine fK (σ:=(List Piece)) (N:=Nm) (λp=>(λ(s_8:List Piece) (n_11:Nm)=>([(4,(gV n_11 5 s_8))]:SL_)) p.1 p.2) (λp=>(λ(s_8:List Piece) (n_11:Nm)=>([(n_2,some (.cells 4 (Layout.v l_1))),(n_11,gB 5 Piece.enc s_8)]:Hp)) p.1 p.2) (λ(k_3:Nat)=>(λp=>(λ(s_8:List Piece) (n_11:Nm)=>([(1,(.ref n_2 0 0)),(4,(gV n_11 5 s_8)),(10,(vL Zone.enc l_1.Zones)),(11,(vI (l_1.Zones.length:Int))),(12,(vI (k_3:Int)))]:SL_)) p.1 p.2)) (λk x s=>ig l_1 k x s) o_14 l_1.Zones (([]:List Piece),n_9) hj_15 rfl (aG rfl) ?_ ?_
 ·rintro ⟨k_3,l_4,s_8,n_11⟩ ⟨hL_13,hD_6⟩
  dsimp only at hL_13 hD_6
  cases l_4 with
  | nil =>
   obtain rfl:=ae hL_13
   refine ai (aa (vB (decide ((k_3:Int)<(l_1.Zones.length:Int)))) (ah ?_))
   refine ak (aB rfl (drop_nil hD_6) (aS ?_))
   exact aV (s_8,n_11) rfl rfl (aG rfl)
  | cons x_5 l_4 =>
   obtain ⟨c_,hc_12,hL_13⟩:=bind_some hL_13
   refine ai (aa (vB (decide ((k_3:Int)<(l_1.Zones.length:Int)))) (ah ?_))
   refine ak (aC rfl (aW hD_6) (ax ?_))
   unfold ig at hc_12
   refine ak (aL (ai (aa (vI (k_3:Int)) (dM A8 rfl rfl (bu hD_6) rfl wz (bI BS Lu rfl (.d (.agg (Zone.enc x_5))) rfl wz (bf 0 (.inl rfl) z70 rfl wz (λn_16=>aa (vI (k_3:Int)) (cz 0 il ft 2 BS rfl rfl (Zone.v x_5) rfl wz (ah (ai (av 0 0 il ft xe BD rfl rfl (.d (.agg (Layout.enc l_1))) rfl wz (aa (vI (k_3:Int)) ?_))))))))))))
   obtain ⟨r_17,hr_18,hc_12⟩:=bind_some hc_12
   refine aD (uG hr_18) rfl hb58 rfl rfl rfl rfl wz (bJ uC rfl wz (aa (vI 0) (ah ?_)))
   obtain ⟨o_29,hj_30,hc_12⟩:=bind_some hc_12
   obtain ⟨hn_23,hj_30⟩:=aR hj_30
   refine fK (σ:=(List Piece)) (N:=Nm) (λp=>(λ(s_24:List Piece) (n_26:Nm)=>([(1,(.ref n_2 0 0)),(4,(gV n_26 5 s_24)),(10,(vL Zone.enc l_1.Zones)),(11,(vI (l_1.Zones.length:Int))),(12,(vI (k_3:Int)))]:SL_)) p.1 p.2) (λp=>(λ(s_24:List Piece) (n_26:Nm)=>([(n_2,some (.cells 4 (Layout.v l_1))),(n_26,gB 5 Piece.enc s_24),(n_16,some (.cells 6 (Zone.v x_5)))]:Hp)) p.1 p.2) (λ(k_19:Nat)=>(λp=>(λ(s_24:List Piece) (n_26:Nm)=>([(1,(.ref n_2 0 0)),(4,(gV n_26 5 s_24)),(6,(.ref n_16 0 0)),(10,(vL Zone.enc l_1.Zones)),(11,(vI (l_1.Zones.length:Int))),(12,(vI (k_3:Int))),(19,(vL Rect.enc r_17)),(20,(vI (r_17.length:Int))),(21,(vI (k_19:Int)))]:SL_)) p.1 p.2)) (λk x s=>kv x_5 k x s) o_29 r_17 (s_8,n_11) hj_30 rfl (aG rfl) ?_ ?_
   ·rintro ⟨k_19,l_20,s_24,n_26⟩ ⟨hL_28,hD_22⟩
    dsimp only at hL_28 hD_22
    cases l_20 with
    | nil =>
     obtain rfl:=ae hL_28
     refine ai (aa (vB (decide ((k_19:Int)<(r_17.length:Int)))) (ah ?_))
     refine ak (aB rfl (drop_nil hD_22) (aS ?_))
     exact aV (s_24,n_26) rfl rfl (aG rfl)
    | cons x_21 l_20 =>
     obtain ⟨c_,hc_27,hL_28⟩:=bind_some hL_28
     refine ai (aa (vB (decide ((k_19:Int)<(r_17.length:Int)))) (ah ?_))
     refine ak (aC rfl (aW hD_22) (ax ?_))
     unfold kv at hc_27
     refine ak (aL (ai (dM tO rfl rfl (bu hD_22) rfl wz (bI eU jN rfl (.d (.agg (Rect.enc x_21))) rfl wz (bf 0 (.inl rfl) z27 rfl wz (λn_31=>cz 0 il ft 3 eU rfl rfl (Rect.v x_21) rfl wz (ah (au (aa (gV n_26 5 s_24) (ay Ed rfl 0 rfl wz (av 0 2 il ft sz9 ag9 rfl rfl (vS x_5.Key) rfl wz (av 0 3 il ft eU jN rfl rfl (.d (.agg (Rect.enc x_21))) rfl wz (aI (.d (.agg (Piece.enc (⟨x_5.Key,x_21⟩:Piece)))) wz (by kernel_rfl) (fI (([(⟨x_5.Key,x_21⟩:Piece)]:List Piece).map Piece.enc) NL ez44 rfl rfl rfl rfl rfl wz ?_))))))))))))))
     obtain ⟨a_32,hz_33,hc_27⟩:=bind_some hc_27
     refine kH 0 il ft (i:=1) NP NP IE z49 rfl (by decide) by49 (by decide) (λ_=>rfl) rfl rfl rfl hz_33 wz (λn_34=>aa (gV n_34 5 a_32) (ah (au (dL (aZ hD_22 hn_23) wz rfl (aa (vI ((k_19+1:Nat):Int)) (ah ?_))))))
     obtain rfl:=ae hc_27
     exact aU (k_19+1,l_20,a_32,n_34) ⟨hL_28,aN hD_22⟩ (ls_ _) rfl (aG rfl)
   ·rintro ⟨s_24,n_26⟩ ho_ sl_ H_ hp_ hq_
    subst ho_
    refine aM _ hp_ hq_ (au (dL (aZ hD_6 hn_7) wz rfl (aa (vI ((k_3+1:Nat):Int)) (ah ?_))))
    obtain rfl:=ae hc_12
    exact aU (k_3+1,l_4,s_24,n_26) ⟨hL_13,aN hD_6⟩ (ls_ _) rfl (aG rfl)
 ·rintro ⟨s_8,n_11⟩ ho_ sl_ H_ hp_ hq_
  subst ho_
  refine aM _ hp_ hq_ (ak (ai (aa (gV n_11 5 s_8) (Cf PD rfl wz (aa (vB (decide ((s_8.length:Int)>2000))) (ah ?_))))))
  rcases aj hF with⟨hc_35,hF⟩|⟨hc_35,hF⟩
  ·refine aC rfl hc_35 (ai (aa .nil (aa (vI 2) (ah ?_))))
   obtain rfl:=ae hF
   exact aA (aK [.nil,(vI 2)] ⟨rfl,⟨rfl,trivial⟩⟩)
  ·refine aB rfl hc_35 (ax (ai (aa (gV n_11 5 s_8) (aa (gV n_11 5 s_8) (aa (vI 0) (ah (jc 1 rfl (fF 2 1 rfl rfl (fF 4 1 rfl rfl (fF 34 1 rfl rfl (fF 37 1 rfl rfl ?_)))))))))))
   obtain rfl:=ae hF
   exact aA (aK [(vL Piece.enc s_8),(vI 0)] ⟨rfl,⟨rfl,trivial⟩⟩)
theorem sQ {l_1:(List Piece)} {r:(List Piece)} (hF:iB l_1=some r) :
  FnM Tryz.prog 12 [(dV (aJ 0) 5 l_1)] (([]:List Box)++gI 5 Piece.enc l_1) (.tup []) (([]:List Box).map some++gT l_1 (gB 5 Piece.enc r)):=by
 refine FnM.of_wHv ⟨Tryz.prog,14,[],[]⟩ rfl Tryz.func12 rfl rfl (lb_ rfl) (by kernel_rfl) ?_
 unfold iB at hF
 refine ai (bf 0 (.inl rfl) z49 rfl wz (λn_2=>ah (ai (aa (dV (aJ 0) 5 l_1) (Bv PD rfl wz (aa (vI 0) (ah ?_)))))))
 obtain ⟨o_11,hj_12,hF⟩:=bind_some hF
 obtain ⟨hn_7,hj_12⟩:=aR hj_12
 refine bL (λ(s_8:List Piece)=>[]) (λ(s_8:List Piece)=>[((aJ 0),gB 5 Piece.enc s_8),(n_2,some (.cells 5 [(vS (⟨#[]⟩:ByteArray)),(vI 0),(vI 0),(vI 0),(vI 0)]))]) (λ(k_3:Nat)=>(λ(s_8:List Piece)=>[(0,(dV (aJ 0) 5 s_8)),(2,(.ref n_2 0 0)),(5,(vI (l_1.length:Int))),(6,(vI (k_3:Int)))])) (λk x s=>ji k x s) o_11 (List.range ((l_1.length:Int)).toNat) l_1 hj_12 rfl (aG rfl) ?_ ?_
 ·rintro ⟨k_3,l_4,s_8⟩ ⟨hL_10,hD_6⟩
  dsimp only at hL_10 hD_6
  cases l_4 with
  | nil =>
   obtain rfl:=ae hL_10
   refine ai (aa (vB (decide ((k_3:Int)<(l_1.length:Int)))) (ah ?_))
   refine ak (aB rfl (rP hD_6) (aS ?_))
   exact aV (s_8) rfl rfl (aG rfl)
  | cons x_5 l_4 =>
   obtain ⟨c_,hc_9,hL_10⟩:=bind_some hL_10
   refine ai (aa (vB (decide ((k_3:Int)<(l_1.length:Int)))) (ah ?_))
   refine ak (aC rfl (pM hD_6) (ax ?_))
   unfold ji at hc_9
   refine ak (aL (ai (aa (vI (k_3:Int)) (aa (vI (k_3:Int)) (ah (au (aa (dV (aJ 0) 5 s_8) (aa (vI (k_3:Int)) (av 0 1 il ft IE ag49 rfl rfl (.d (.agg (Piece.enc (⟨(⟨#[]⟩:ByteArray),(⟨0,0,0,0⟩:Rect)⟩:Piece)))) rfl wz ?_)))))))))
   obtain ⟨_,hi_13,hc_9⟩:=bind_some hc_9
   refine tH NL rfl rfl (qC hi_13) (mE hi_13) wz ?_
   obtain ⟨e_14,hy_15,hc_9⟩:=bind_some hc_9
   refine zm 0 il ft 0 IE rfl rfl hy_15 (⟨(⟨#[]⟩:ByteArray),(⟨0,0,0,0⟩:Rect)⟩:Piece) rfl wz (gP (v':=(dV (aJ 0) 5 (s_8.set (0+((k_3:Int)).toNat) (⟨(⟨#[]⟩:ByteArray),(⟨0,0,0,0⟩:Rect)⟩:Piece)))) 0 rfl (jX (by simp)) (gP (v':=(dV (aJ 0) 5 (s_8.set (0+((k_3:Int)).toNat) (⟨(⟨#[]⟩:ByteArray),(⟨0,0,0,0⟩:Rect)⟩:Piece)))) 9 rfl (jX (by simp)) (ah (au (dL (rT hD_6 hn_7) wz rfl (aa (vI ((k_3+1:Nat):Int)) (ah ?_)))))))
   obtain rfl:=ae hc_9
   exact aU (k_3+1,l_4,(s_8.set (0+((k_3:Int)).toNat) (⟨(⟨#[]⟩:ByteArray),(⟨0,0,0,0⟩:Rect)⟩:Piece))) ⟨hL_10,aN hD_6⟩ (ls_ _) rfl (aG rfl)
 ·rintro s_8 ho_ sl_ H_ hp_ hq_
  subst ho_
  show uw _ _ _ _ _ _ _ _
  obtain rfl:=ae hF
  exact Al (H0:=([((aJ 0),gB 5 Piece.enc s_8),(n_2,some (.cells 5 [(vS (⟨#[]⟩:ByteArray)),(vI 0),(vI 0),(vI 0),(vI 0)]))]:Hp)) (sl':=envS []) hq_ (FK (bs:=([]:List Box)) (os:=([]:List Box)) (xs:=l_1) (o:=gB 5 Piece.enc s_8) (.inl rfl) [] trivial rfl rfl rfl rfl rfl (by kernel_rfl) pz rfl)
theorem CV {l_1:Layout} {r:(List Piece)×Int} (hF:jM l_1=some r) :
  FnM Tryz.prog 30 [(.d (.agg (Layout.enc l_1)))] [] (kG [.int .i64 r.2] (gV (aJ 0) 5 r.1)) (([]:List Box).map some++gO 5 Piece.enc r.1):=by
 refine FnM.of_wH ⟨Tryz.prog,38,[],[]⟩ rfl Tryz.func30 rfl rfl (lb_ rfl) (by kernel_rfl) ?_
 unfold jM at hF
 refine ai (dY 0 (.inl rfl) (Layout.v l_1) rfl rfl wz (λn_2=>aa .nil (aa (vI 0) (ah (ai (aa .nil (ah (ak (ai (ay qU rfl 3 rfl wz (av 0 0 il ft CO Dw rfl rfl (vL Zone.enc l_1.Zones) rfl wz (bJ J8 rfl wz (aa (vI 0) (ah (iV (λn_9 => ?_))))))))))))))))
 obtain ⟨o_14,hj_15,hF⟩:=bind_some hF
 obtain ⟨hn_7,hj_15⟩:=aR hj_15
 refine fK (σ:=(List Piece)) (N:=Nm) (λp=>(λ(s_8:List Piece) (n_11:Nm)=>([(4,(gV n_11 5 s_8))]:SL_)) p.1 p.2) (λp=>(λ(s_8:List Piece) (n_11:Nm)=>([(n_2,some (.cells 4 (Layout.v l_1))),(n_11,gB 5 Piece.enc s_8)]:Hp)) p.1 p.2) (λ(k_3:Nat)=>(λp=>(λ(s_8:List Piece) (n_11:Nm)=>([(1,(.ref n_2 0 0)),(4,(gV n_11 5 s_8)),(10,(vL Zone.enc l_1.Zones)),(11,(vI (l_1.Zones.length:Int))),(12,(vI (k_3:Int)))]:SL_)) p.1 p.2)) (λk x s=>ig l_1 k x s) o_14 l_1.Zones (([]:List Piece),n_9) hj_15 rfl (aG rfl) ?_ ?_
 ·rintro ⟨k_3,l_4,s_8,n_11⟩ ⟨hL_13,hD_6⟩
  dsimp only at hL_13 hD_6
  cases l_4 with
  | nil =>
   obtain rfl:=ae hL_13
   refine ai (aa (vB (decide ((k_3:Int)<(l_1.Zones.length:Int)))) (ah ?_))
   refine ak (aB rfl (drop_nil hD_6) (aS ?_))
   exact aV (s_8,n_11) rfl rfl (aG rfl)
  | cons x_5 l_4 =>
   obtain ⟨c_,hc_12,hL_13⟩:=bind_some hL_13
   refine ai (aa (vB (decide ((k_3:Int)<(l_1.Zones.length:Int)))) (ah ?_))
   refine ak (aC rfl (aW hD_6) (ax ?_))
   unfold ig at hc_12
   refine ak (aL (ai (aa (vI (k_3:Int)) (dM A8 rfl rfl (bu hD_6) rfl wz (bI BS Lu rfl (.d (.agg (Zone.enc x_5))) rfl wz (bf 0 (.inl rfl) z70 rfl wz (λn_16=>aa (vI (k_3:Int)) (cz 0 il ft 2 BS rfl rfl (Zone.v x_5) rfl wz (ah (ai (av 0 0 il ft xe BD rfl rfl (.d (.agg (Layout.enc l_1))) rfl wz (aa (vI (k_3:Int)) ?_))))))))))))
   obtain ⟨r_17,hr_18,hc_12⟩:=bind_some hc_12
   refine aD (uG hr_18) rfl hb58 rfl rfl rfl rfl wz (bJ uC rfl wz (aa (vI 0) (ah ?_)))
   obtain ⟨o_29,hj_30,hc_12⟩:=bind_some hc_12
   obtain ⟨hn_23,hj_30⟩:=aR hj_30
   refine fK (σ:=(List Piece)) (N:=Nm) (λp=>(λ(s_24:List Piece) (n_26:Nm)=>([(1,(.ref n_2 0 0)),(4,(gV n_26 5 s_24)),(10,(vL Zone.enc l_1.Zones)),(11,(vI (l_1.Zones.length:Int))),(12,(vI (k_3:Int)))]:SL_)) p.1 p.2) (λp=>(λ(s_24:List Piece) (n_26:Nm)=>([(n_2,some (.cells 4 (Layout.v l_1))),(n_26,gB 5 Piece.enc s_24),(n_16,some (.cells 6 (Zone.v x_5)))]:Hp)) p.1 p.2) (λ(k_19:Nat)=>(λp=>(λ(s_24:List Piece) (n_26:Nm)=>([(1,(.ref n_2 0 0)),(4,(gV n_26 5 s_24)),(6,(.ref n_16 0 0)),(10,(vL Zone.enc l_1.Zones)),(11,(vI (l_1.Zones.length:Int))),(12,(vI (k_3:Int))),(19,(vL Rect.enc r_17)),(20,(vI (r_17.length:Int))),(21,(vI (k_19:Int)))]:SL_)) p.1 p.2)) (λk x s=>kv x_5 k x s) o_29 r_17 (s_8,n_11) hj_30 rfl (aG rfl) ?_ ?_
   ·rintro ⟨k_19,l_20,s_24,n_26⟩ ⟨hL_28,hD_22⟩
    dsimp only at hL_28 hD_22
    cases l_20 with
    | nil =>
     obtain rfl:=ae hL_28
     refine ai (aa (vB (decide ((k_19:Int)<(r_17.length:Int)))) (ah ?_))
     refine ak (aB rfl (drop_nil hD_22) (aS ?_))
     exact aV (s_24,n_26) rfl rfl (aG rfl)
    | cons x_21 l_20 =>
     obtain ⟨c_,hc_27,hL_28⟩:=bind_some hL_28
     refine ai (aa (vB (decide ((k_19:Int)<(r_17.length:Int)))) (ah ?_))
     refine ak (aC rfl (aW hD_22) (ax ?_))
     unfold kv at hc_27
     refine ak (aL (ai (dM tO rfl rfl (bu hD_22) rfl wz (bI eU jN rfl (.d (.agg (Rect.enc x_21))) rfl wz (bf 0 (.inl rfl) z27 rfl wz (λn_31=>cz 0 il ft 3 eU rfl rfl (Rect.v x_21) rfl wz (ah (au (aa (gV n_26 5 s_24) (ay Ed rfl 0 rfl wz (av 0 2 il ft sz9 ag9 rfl rfl (vS x_5.Key) rfl wz (av 0 3 il ft eU jN rfl rfl (.d (.agg (Rect.enc x_21))) rfl wz (aI (.d (.agg (Piece.enc (⟨x_5.Key,x_21⟩:Piece)))) wz (by kernel_rfl) (fI (([(⟨x_5.Key,x_21⟩:Piece)]:List Piece).map Piece.enc) NL ez44 rfl rfl rfl rfl rfl wz ?_))))))))))))))
     obtain ⟨a_32,hz_33,hc_27⟩:=bind_some hc_27
     refine kH 0 il ft (i:=1) NP NP IE z49 rfl (by decide) by49 (by decide) (λ_=>rfl) rfl rfl rfl hz_33 wz (λn_34=>aa (gV n_34 5 a_32) (ah (au (dL (aZ hD_22 hn_23) wz rfl (aa (vI ((k_19+1:Nat):Int)) (ah ?_))))))
     obtain rfl:=ae hc_27
     exact aU (k_19+1,l_20,a_32,n_34) ⟨hL_28,aN hD_22⟩ (ls_ _) rfl (aG rfl)
   ·rintro ⟨s_24,n_26⟩ ho_ sl_ H_ hp_ hq_
    subst ho_
    refine aM _ hp_ hq_ (au (dL (aZ hD_6 hn_7) wz rfl (aa (vI ((k_3+1:Nat):Int)) (ah ?_))))
    obtain rfl:=ae hc_12
    exact aU (k_3+1,l_4,s_24,n_26) ⟨hL_13,aN hD_6⟩ (ls_ _) rfl (aG rfl)
 ·rintro ⟨s_8,n_11⟩ ho_ sl_ H_ hp_ hq_
  subst ho_
  refine aM _ hp_ hq_ (ak (ai (aa (gV n_11 5 s_8) (Cf PD rfl wz (aa (vB (decide ((s_8.length:Int)>2000))) (ah ?_))))))
  rcases aj hF with⟨hc_35,hF⟩|⟨hc_35,hF⟩
  ·refine aC rfl hc_35 (ai (aa .nil (aa (vI 2) (ah (iV (λn_36 => ?_))))))
   obtain rfl:=ae hF
   exact aA (wO (outs:=([]:List Box)) [.int .i64 2] (.inr rfl) 2 rfl ⟨rfl,trivial⟩ rfl rfl (by kernel_rfl) (by kernel_rfl))
  ·refine aB rfl hc_35 (ax (ai (aa (gV n_11 5 s_8) (aa (gV n_11 5 s_8) (aa (vI 0) (ah ?_))))))
   obtain rfl:=ae hF
   exact aA (wO (outs:=([]:List Box)) [.int .i64 0] (.inr rfl) 1 rfl ⟨rfl,trivial⟩ rfl rfl (by kernel_rfl) (by kernel_rfl))
theorem CQ {l_1:Layout} {r:(List Piece)×Int} (hF:qp l_1=some r) :
  FnM Tryz.prog 11 [(.d (.agg (Layout.enc l_1)))] [] (kG [.int .i64 r.2] (gV (aJ 0) 5 r.1)) (([]:List Box).map some++gO 5 Piece.enc r.1):=by
 refine FnM.of_wH ⟨Tryz.prog,14,[],[]⟩ rfl Tryz.func11 rfl rfl (lb_ rfl) (by kernel_rfl) ?_
 unfold qp at hF
 refine ai (dY 0 (.inl rfl) (Layout.v l_1) rfl rfl wz (λn_2=>aa .nil (aa (vI 0) (ah (ak (ai (av 0 0 il ft xe BD rfl rfl (.d (.agg (Layout.enc l_1))) rfl wz ?_)))))))
 obtain ⟨r_3,hr_4,hF⟩:=bind_some hF
 refine aD (pE hr_4) rfl hb29 rfl rfl rfl rfl wz (aa (vI r_3) (ah (ai (aa (vI r_3) (aa (vB (r_3 != 0)) (ah ?_))))))
 rcases aj hF with⟨hc_5,hF⟩|⟨hc_5,hF⟩
 ·refine aC rfl hc_5 (ai (aa (vI r_3) (aa .nil (aa (vI r_3) (ah (iV (λn_6 => ?_)))))))
  obtain rfl:=ae hF
  exact aA (wO (outs:=([]:List Box)) [.int .i64 r_3] (.inr rfl) 1 rfl ⟨rfl,trivial⟩ rfl rfl (by kernel_rfl) (by kernel_rfl))
 ·refine aB rfl hc_5 (ax (ai (av 0 0 il ft xe BD rfl rfl (.d (.agg (Layout.enc l_1))) rfl wz ?_)))
  obtain ⟨r_7,hr_8,hF⟩:=bind_some hF
  refine ve [.int .i64 r_7.2] [] (CV hr_8) rfl hb30 rfl (by kernel_rfl) (by kernel_rfl) (by kernel_rfl) (by kernel_rfl) (by kernel_rfl) rfl (by decide) (by kernel_rfl) wz ([(n_2,some (.cells 4 (Layout.v l_1)))]:Hp) (λ_=>by kernel_rfl) (λn_10=>aa (gV n_10 5 r_7.1) (aa (vI r_7.2) (aa (gV n_10 5 r_7.1) (aa (vI r_7.2) (ah ?_)))))
  obtain rfl:=ae hF
  exact aA (wO (outs:=([]:List Box)) [.int .i64 r_7.2] (.inr rfl) 1 rfl ⟨rfl,trivial⟩ rfl rfl (by kernel_rfl) (by kernel_rfl))
theorem CR {r_1:Rect} {wv_2:Int} {h_3:Int} {toW_4:Int} {toH_5:Int} {r:Rect} (hF:lh r_1 wv_2 h_3 toW_4 toH_5=some r) :
  FnM Tryz.prog 59 [(.d (.agg (Rect.enc r_1))),(vI wv_2),(vI h_3),(vI toW_4),(vI toH_5)] [] (.d (.agg (Rect.enc r))) []:=by
 refine FnM.of_wH ⟨Tryz.prog,61,[],[]⟩ rfl Tryz.func59 rfl rfl (lb_ rfl) (by kernel_rfl) ?_
 unfold lh at hF
 refine ai (dY 0 (.inl rfl) (Rect.v r_1) rfl rfl wz (λn_6=>bf 0 (.inl rfl) z27 rfl wz (λn_7=>ah (ak (bz (ay ic rfl 0 rfl wz (av 1 0 (.inr (by kernel_rfl)) (λ_ _ ag=>trivial) sz3 ag3 rfl rfl (vI r_1.X) rfl wz (aa (vI toW_4) (aa (vI (w64 (r_1.X*toW_4))) (aa (vI wv_2) ?_))))))))))
 obtain ⟨q_8,hz_9,hF⟩:=bind_some hF
 refine DX rfl rfl hz_9 wz (ay gu rfl 1 rfl wz (av 7 0 (.inr (by kernel_rfl)) (λ_ _ ag=>⟨.inl ⟨rfl,rfl⟩,trivial⟩) sz3 ag3 rfl rfl (vI r_1.Y) rfl wz (aa (vI toH_5) (aa (vI (w64 (r_1.Y*toH_5))) (aa (vI h_3) ?_)))))
 obtain ⟨q_10,hz_11,hF⟩:=bind_some hF
 refine DX rfl rfl hz_11 wz (aa (vI q_8) (aa (vI q_10) (ah (ak (bz (aa (vI q_8) (aa (vI q_10) (ay ic rfl 0 rfl wz (av 3 0 (.inr (by kernel_rfl)) (λ_ _ ag=>trivial) sz3 ag3 rfl rfl (vI r_1.X) rfl wz (ay mg rfl 2 rfl wz (av 5 0 (.inr (by kernel_rfl)) (λ_ _ ag=>⟨.inl ⟨rfl,rfl⟩,trivial⟩) sz3 ag3 rfl rfl (vI r_1.W) rfl wz (aa (vI (w64 (r_1.X+r_1.W))) (aa (vI toW_4) (aa (vI (w64 ((w64 (r_1.X+r_1.W))*toW_4))) (aa (vI wv_2) ?_)))))))))))))))
 obtain ⟨q_12,hz_13,hF⟩:=bind_some hF
 refine DX rfl rfl hz_13 wz (aa (vI q_8) (aa (vI (w64 (q_12-q_8))) (ay gu rfl 1 rfl wz (av 14 0 (.inr (by kernel_rfl)) (λ_ _ ag=>⟨.inl ⟨rfl,rfl⟩,⟨.inl ⟨rfl,rfl⟩,trivial⟩⟩) sz3 ag3 rfl rfl (vI r_1.Y) rfl wz (ay lQ rfl 3 rfl wz (av 16 0 (.inr (by kernel_rfl)) (λ_ _ ag=>⟨.inl ⟨rfl,rfl⟩,⟨.inl ⟨rfl,rfl⟩,⟨.inl ⟨rfl,rfl⟩,trivial⟩⟩⟩) sz3 ag3 rfl rfl (vI r_1.H) rfl wz (aa (vI (w64 (r_1.Y+r_1.H))) (aa (vI toH_5) (aa (vI (w64 ((w64 (r_1.Y+r_1.H))*toH_5))) (aa (vI h_3) ?_))))))))))
 obtain ⟨q_14,hz_15,hF⟩:=bind_some hF
 refine DX rfl rfl hz_15 wz (aa (vI q_10) (aa (vI (w64 (q_14-q_10))) (aI (.d (.agg (Rect.enc (⟨q_8,q_10,(w64 (q_12-q_8)),(w64 (q_14-q_10))⟩:Rect)))) wz (by kernel_rfl) (bf 25 (.inr (by kernel_rfl)) z27 rfl wz (λn_16=>cz 26 (.inr (by kernel_rfl)) (λ_ _ ag=>⟨.inr (.inr (by kernel_rfl)),⟨.inr (.inr (by kernel_rfl)),⟨.inr (.inr (by kernel_rfl)),⟨.inr (.inr (by kernel_rfl)),⟨.inr (.inr (by kernel_rfl)),trivial⟩⟩⟩⟩⟩) 2 eU rfl rfl [(vI q_8),(vI q_10),(vI (w64 (q_12-q_8))),(vI (w64 (q_14-q_10)))] rfl wz (ah (aM (H0:=([(n_6,some (.cells 4 (Rect.v r_1))),(n_7,some (.cells 4 [(vI 0),(vI 0),(vI 0),(vI 0)])),(n_16,some (.cells 4 [(vI q_8),(vI q_10),(vI (w64 (q_12-q_8))),(vI (w64 (q_14-q_10)))]))]:Hp)) ([(10,(.ref n_7 0 0)),(13,(.ref n_16 0 0))]:SL_) (by kernel_rfl) (oF (by kernel_rfl)) (ak (ak ?_)))))))))
 obtain ⟨v_17,h_18,hF⟩:=bind_some hF
 refine aP [(10,(.ref n_7 0 0)),(13,(.ref n_16 0 0)),(58,(vB v_17))] [(n_6,some (.cells 4 (Rect.v r_1))),(n_7,some (.cells 4 [(vI 0),(vI 0),(vI 0),(vI 0)])),(n_16,some (.cells 4 [(vI q_8),(vI q_10),(vI (w64 (q_12-q_8))),(vI (w64 (q_14-q_10)))]))] ?_ ?_
 ·refine au (ay mg rfl 2 rfl wz (av 0 2 il ft sz3 ag3 rfl rfl (vI (w64 (q_12-q_8))) rfl wz (aa (vB ((w64 (q_12-q_8))==0)) ?_)))
  rcases aj h_18 with⟨hc_19,h_18⟩|⟨hc_19,h_18⟩
  ·refine aF rfl hc_19 wz (af (af (af (aa (vB true) (ah ?_)))))
   obtain rfl:=ae h_18
   exact cu
  ·refine aF rfl hc_19 wz (ay lQ rfl 3 rfl wa (av 0 2 il ft sz3 ag3 rfl rfl (vI (w64 (q_14-q_10))) rfl wa (aI (vB ((w64 (q_14-q_10))==0)) wa rfl (aa (vB ((w64 (q_14-q_10))==0)) (ah ?_)))))
   obtain rfl:=ae h_18
   exact cu
 ·rintro ⟨⟩ _ sl_ H_ hp_ hq_
  refine aM _ hp_ hq_ ?_
  rcases aj hF with⟨hc_20,hF⟩|⟨hc_20,hF⟩
  ·refine aC rfl hc_20 (ai (aI (.d (.agg (Rect.enc (⟨0,0,0,0⟩:Rect)))) wz (by kernel_rfl) (cz 0 il ft 1 eU rfl rfl [(vI 0),(vI 0),(vI 0),(vI 0)] rfl wz (ah ?_))))
   obtain rfl:=ae hF
   exact aA (aK [(.d (.agg (Rect.enc (⟨0,0,0,0⟩:Rect))))] ⟨⟨1,_,_,_,_,_,_,_,rfl,rfl,eU,jN,rfl⟩,trivial⟩)
  ·refine aB rfl hc_20 (ax (ai (av 0 2 il ft eU jN rfl rfl (.d (.agg (Rect.enc (⟨q_8,q_10,(w64 (q_12-q_8)),(w64 (q_14-q_10))⟩:Rect)))) rfl wz (cz 0 il ft 1 eU rfl rfl [(vI q_8),(vI q_10),(vI (w64 (q_12-q_8))),(vI (w64 (q_14-q_10)))] rfl wz (ah ?_)))))
   obtain rfl:=ae hF
   exact aA (aK [(.d (.agg (Rect.enc (⟨q_8,q_10,(w64 (q_12-q_8)),(w64 (q_14-q_10))⟩:Rect))))] ⟨⟨1,_,_,_,_,_,_,_,rfl,rfl,eU,jN,rfl⟩,trivial⟩)
end Go.Proofs.YtnkgapmhkhcanaaGreatDoor.Law

