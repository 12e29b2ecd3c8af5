/-
 The machine computes these plain functions (written by a program of ours).
-/
import Derived.Test.YtnfojnnfidnikaaGreatDoorFacts
import Derived.Test.YtnfojnnfidnikaaGreatDoorDefs
import Derived.Test.YtnfojnnfidnikaaGreatDoorPf4
open Go Go.Eng Go.Proofs
namespace Go.Proofs.YtnfojnnfidnikaaGreatDoor.Law
set_option maxRecDepth 100000
set_option linter.unusedVariables false
set_option maxHeartbeats 1000000
theorem xw {a_1:Alert} {r:Int} (hF:jP a_1=some r) :
  FnM Tryz.prog 128 [(.d (.agg (Alert.enc a_1)))] [] (vI r) []:=by
 refine FnM.of_wH ⟨Tryz.prog,92,[],[]⟩ rfl Tryz.func128 rfl rfl (lb_ rfl) (by kernel_rfl) ?_
 unfold jP at hF
 refine ai (fJ 0 (.inl rfl) (Alert.v a_1) rfl rfl wz (λn_2=>aa (vI 0) (ah (ak (ak ?_)))))
 obtain ⟨v_3,h_4,hF⟩:=bind_some hF
 refine aS [(1,(.ref n_2 0 0)),(17,(vB v_3))] [(n_2,some (.cells 9 (Alert.v a_1)))] ?_ ?_
 ·refine au (aH zV rfl 0 rfl wz (aG 0 0 il ft sz9 ag9 rfl rfl (vS a_1.Id) rfl wz ?_))
  obtain ⟨r_5,hr_6,h_4⟩:=bind_some h_4
  refine aB (dx hr_6) rfl yw rfl rfl rfl rfl wz (aa (vB (!r_5)) ?_)
  rcases aj h_4 with⟨hc_7,h_4⟩|⟨hc_7,h_4⟩
  ·refine aC rfl hc_7 wz (af (af (af (af (aa (vB true) (ah ?_))))))
   obtain rfl:=ae h_4
   exact cu
  ·refine aC rfl hc_7 wz (aH pl88_1 rfl 1 rfl wa (aG 0 0 il ft sz9 ag9 rfl rfl (vS a_1.Sender) rfl wa ?_))
   obtain ⟨r_8,hr_9,h_4⟩:=bind_some h_4
   refine aB (dx hr_9) rfl yw rfl rfl rfl rfl wa (aJ (vB (!r_8)) wa rfl (aa (vB (!r_8)) (ah ?_)))
   obtain rfl:=ae h_4
   exact cu
 ·rintro ⟨⟩ _ sl_ H_ hp_ hq_
  refine aR _ hp_ hq_ ?_
  rcases aj hF with⟨hc_10,hF⟩|⟨hc_10,hF⟩
  ·refine aA rfl hc_10 (ai (aa (vI 5) (ah ?_)))
   obtain rfl:=ae hF
   exact ay (aM [(vI 5)] ⟨rfl,trivial⟩)
  ·refine ax rfl hc_10 (av (ak (ai (aH KL rfl 2 rfl wz (aG 0 0 il ft sz3 ag3 rfl rfl (vI a_1.Kind) rfl wz ?_)))))
   obtain ⟨r_11,hr_12,hF⟩:=bind_some hF
   refine aB (aV hr_12) rfl nZ rfl rfl rfl rfl wz (ah ?_)
   rcases aj hF with⟨hc_13,hF⟩|⟨hc_13,hF⟩
   ·refine aA rfl hc_13 (ai (aa (vI 4) (ah ?_)))
    obtain rfl:=ae hF
    exact ay (aM [(vI 4)] ⟨rfl,trivial⟩)
   ·refine ax rfl hc_13 (av (ak (ai (aG 0 0 il ft Bp Hw rfl rfl (.d (.agg (Alert.enc a_1))) rfl wz ?_))))
    obtain ⟨r_14,hr_15,hF⟩:=bind_some hF
    refine aB (xR hr_15) rfl hb145 rfl rfl rfl rfl wz (aa (vI r_14) (ah (ai (aa (vI r_14) (aa (vB (r_14 != 0)) (ah ?_))))))
    rcases aj hF with⟨hc_16,hF⟩|⟨hc_16,hF⟩
    ·refine aA rfl hc_16 (ai (aa (vI r_14) (aa (vI r_14) (ah ?_))))
     obtain rfl:=ae hF
     exact ay (aM [(vI r_14)] ⟨rfl,trivial⟩)
    ·refine ax rfl hc_16 (av (ak (ak ?_)))
     obtain ⟨v_17,h_18,hF⟩:=bind_some hF
     refine aS [(1,(.ref n_2 0 0)),(45,(vB v_17))] [(n_2,some (.cells 9 (Alert.v a_1)))] ?_ ?_
     ·refine au (aH Eg rfl 4 rfl wz (aG 0 0 il ft sz3 ag3 rfl rfl (vI a_1.At) rfl wz ?_))
      obtain ⟨r_19,hr_20,h_18⟩:=bind_some h_18
      refine aB (eY hr_20) rfl GU rfl rfl rfl rfl wz (aa (vB (!r_19)) ?_)
      rcases aj h_18 with⟨hc_21,h_18⟩|⟨hc_21,h_18⟩
      ·refine aC rfl hc_21 wz (af (af (af (af (af (af (af (af (af (aa (vB true) (aa (vB true) (af (af (af (aa (vB true) (ah ?_))))))))))))))))
       obtain rfl:=ae h_18
       exact cu
      ·refine aC rfl hc_21 wz (aH pl88_5 rfl 5 rfl wa (aG 0 0 il ft sz3 ag3 rfl rfl (vI a_1.Until) rfl wa (aH Eg rfl 4 rfl wa (aG 0 0 il ft sz3 ag3 rfl rfl (vI a_1.At) rfl wa (aJ (vI (w64 (a_1.At+1))) wa rfl (aH Eg rfl 4 rfl wa (aG 0 0 il ft sz3 ag3 rfl rfl (vI a_1.At) rfl wa (aJ (vI (w64 (a_1.At+2592000000))) wa rfl ?_))))))))
       obtain ⟨r_22,hr_23,h_18⟩:=bind_some h_18
       refine aB (aV hr_23) rfl nZ rfl rfl rfl rfl wa (aa (vB r_22) ?_)
       rcases aj h_18 with⟨hc_24,h_18⟩|⟨hc_24,h_18⟩
       ·refine aC rfl hc_24 wz (af (af (af (aa (vB true) (ah ?_)))))
        obtain rfl:=ae h_18
        exact cu
       ·refine aC rfl hc_24 wz (aH pl88_6 rfl 6 rfl wa (aG 0 0 il ft sz3 ag3 rfl rfl (vI a_1.Weight) rfl wa ?_))
        obtain ⟨r_25,hr_26,h_18⟩:=bind_some h_18
        refine aB (aV hr_26) rfl nZ rfl rfl rfl rfl wa (aa (vB r_25) (ah ?_))
        obtain rfl:=ae h_18
        exact cu
     ·rintro ⟨⟩ _ sl_ H_ hp_ hq_
      refine aR _ hp_ hq_ ?_
      rcases aj hF with⟨hc_27,hF⟩|⟨hc_27,hF⟩
      ·refine aA rfl hc_27 (ai (aa (vI 1) (ah ?_)))
       obtain rfl:=ae hF
       exact ay (aM [(vI 1)] ⟨rfl,trivial⟩)
      ·refine ax rfl hc_27 (av (ak (ai (aH FK rfl 7 rfl wz (aG 0 0 il ft Mx Mi rfl rfl (vL Rect.enc a_1.Areas) rfl wz (bN Ao rfl wz (aa (vB (decide ((a_1.Areas.length:Int)>20))) (ah ?_))))))))
       rcases aj hF with⟨hc_28,hF⟩|⟨hc_28,hF⟩
       ·refine aA rfl hc_28 (ai (aa (vI 2) (ah ?_)))
        obtain rfl:=ae hF
        exact ay (aM [(vI 2)] ⟨rfl,trivial⟩)
       ·refine ax rfl hc_28 (av (ak (ai (aH FK rfl 7 rfl wz (aG 0 0 il ft Mx Mi rfl rfl (vL Rect.enc a_1.Areas) rfl wz (bN Ao rfl wz (aa (vI 0) (ah ?_))))))))
        obtain ⟨o_37,hj_38,hF⟩:=bind_some hF
        obtain ⟨hn_33,hj_38⟩:=bv hj_38
        refine bW (λ(s_34:Unit)=>[(1,(.ref n_2 0 0))]) (λ(s_34:Unit)=>[(n_2,some (.cells 9 (Alert.v a_1)))]) (λ(k_29:Nat)=>(λ(s_34:Unit)=>[(1,(.ref n_2 0 0)),(51,(vL Rect.enc a_1.Areas)),(52,(vI (a_1.Areas.length:Int))),(53,(vI (k_29:Int)))])) (λk x s=>jv k x s) o_37 a_1.Areas () hj_38 rfl (aK rfl) ?_ ?_
        ·rintro ⟨k_29,l_30,s_34⟩ ⟨hL_36,hD_32⟩
         dsimp only at hL_36 hD_32
         cases l_30 with
         | nil =>
          obtain rfl:=ae hL_36
          refine ai (aa (vB (decide ((k_29:Int)<(a_1.Areas.length:Int)))) (ah ?_))
          refine ak (ax rfl (drop_nil hD_32) (bf ?_))
          exact aY (s_34) rfl rfl (aK rfl)
         | cons x_31 l_30 =>
          obtain ⟨c_,hc_35,hL_36⟩:=bind_some hL_36
          refine ai (aa (vB (decide ((k_29:Int)<(a_1.Areas.length:Int)))) (ah ?_))
          refine ak (aA rfl (bA hD_32) (av ?_))
          unfold jv at hc_35
          refine ak (aQ (ai (dB FQ rfl rfl (bK hD_32) rfl wz (bH vR IU rfl (.d (.agg (Rect.enc x_31))) rfl wz (di 0 (.inl rfl) z74 rfl wz (λn_39=>gu 0 il ft 1 vR rfl rfl (Rect.v x_31) rfl wz (ah (ai (aG 0 1 il ft vR IU rfl rfl (.d (.agg (Rect.enc x_31))) rfl wz ?_)))))))))
          obtain ⟨r_40,hr_41,hc_35⟩:=bind_some hc_35
          refine aB (qh hr_41) rfl hb87 rfl rfl rfl rfl wz (aa (vI r_40) (ah (ai (aa (vI r_40) (aa (vB (r_40 != 0)) (ah ?_))))))
          rcases aj hc_35 with⟨hc_42,hc_35⟩|⟨hc_42,hc_35⟩
          ·refine aA rfl hc_42 (ai (aa (vI r_40) (aa (vI r_40) (ah ?_))))
           obtain rfl:=ae hc_35
           obtain rfl:=ae hL_36
           obtain rfl:=ae hF
           exact ay (aM [(vI r_40)] ⟨rfl,trivial⟩)
          ·refine ax rfl hc_42 (av (au (fw (bE hD_32 hn_33) wz rfl (aa (vI ((k_29+1:Nat):Int)) (ah ?_)))))
           obtain rfl:=ae hc_35
           exact aZ (k_29+1,l_30,()) ⟨hL_36,aX hD_32⟩ (ls_ _) rfl (aK rfl)
        ·rintro s_34 ho_ sl_ H_ hp_ hq_
         subst ho_
         refine aR _ hp_ hq_ (ai (aH KL rfl 2 rfl wz (aG 0 0 il ft sz3 ag3 rfl rfl (vI a_1.Kind) rfl wz (aa (vB (a_1.Kind==3)) (aa (vB (a_1.Kind==3)) (ah (ak (aQ (ai (aa (vB (a_1.Kind==3)) (aH FK rfl 7 rfl wz (aG 0 0 il ft Mx Mi rfl rfl (vL Rect.enc a_1.Areas) rfl wz (bN Ao rfl wz (aa (vB ((a_1.Areas.length:Int)==0)) (O1 un4 rfl rfl wz (aa (vB (!((a_1.Kind==3)==((a_1.Areas.length:Int)==0)))) (ah ?_)))))))))))))))))
         rcases aj hF with⟨hc_43,hF⟩|⟨hc_43,hF⟩
         ·refine aA rfl hc_43 (ai (aa (vI 3) (ah ?_)))
          obtain rfl:=ae hF
          exact ay (aM [(vI 3)] ⟨rfl,trivial⟩)
         ·refine ax rfl hc_43 (ai (aH Kr rfl 8 rfl wz (aG 0 0 il ft sz9 ag9 rfl rfl (vS a_1.Text) rfl wz (Cs un9 rfl wz (aa (vB (decide ((a_1.Text.size:Int)>500))) (aa (vB (decide ((a_1.Text.size:Int)>500))) (ah ?_)))))))
          rcases aj hF with⟨hc_44,hF⟩|⟨hc_44,hF⟩
          ·refine aA rfl hc_44 (ai (aa (vI 2) (ah ?_)))
           obtain rfl:=ae hF
           exact ay (aM [(vI 2)] ⟨rfl,trivial⟩)
          ·refine ax rfl hc_44 (ak ?_)
           obtain ⟨v_45,h_46,hF⟩:=bind_some hF
           refine aS [(78,(vB v_45))] [(n_2,some (.cells 9 (Alert.v a_1)))] ?_ ?_
           ·refine au (aH Kr rfl 8 rfl wz (aG 0 0 il ft sz9 ag9 rfl rfl (vS a_1.Text) rfl wz ?_))
            obtain ⟨r_47,hr_48,h_46⟩:=bind_some h_46
            refine aB (CB hr_48) rfl hb146 rfl rfl rfl rfl wz (aa (vB (!r_47)) ?_)
            rcases aj h_46 with⟨hc_49,h_46⟩|⟨hc_49,h_46⟩
            ·refine aC rfl hc_49 wz (af (af (af (af (bX (wn rfl rfl) (bX (wn rfl rfl) (af (aa (vB true) (aa (vB true) (ah ?_))))))))))
             obtain rfl:=ae h_46
             exact cu
            ·refine aC rfl hc_49 wz (aH Kr rfl 8 rfl wa (aG 0 0 il ft sz9 ag9 rfl rfl (vS a_1.Text) rfl wa (aJ (vB (sEq a_1.Text (⟨#[]⟩:ByteArray))) wa rfl ?_)))
             rcases aj h_46 with⟨hc_50,h_46⟩|⟨hc_50,h_46⟩
             ·refine aC rfl hc_50 wa (aJ (vB (a_1.Kind==3)) wa rfl (aJ (vB (!(a_1.Kind==3))) wa rfl (aJ (vB (!(a_1.Kind==3))) wa rfl (aa (vB (!(a_1.Kind==3))) (aa (vB (!(a_1.Kind==3))) (ah ?_))))))
              obtain rfl:=ae h_46
              exact cu
             ·refine aC rfl hc_50 wa (af (af (aJ (vB false) wa rfl (aa (vB false) (aa (vB false) (ah ?_))))))
              obtain rfl:=ae h_46
              exact cu
           ·rintro ⟨⟩ _ sl_ H_ hp_ hq_
            refine aR _ hp_ hq_ ?_
            rcases aj hF with⟨hc_51,hF⟩|⟨hc_51,hF⟩
            ·refine aA rfl hc_51 (ai (aa (vI 3) (ah ?_)))
             obtain rfl:=ae hF
             exact ay (aM [(vI 3)] ⟨rfl,trivial⟩)
            ·refine ax rfl hc_51 (av (ai (aa (vI 0) (ah ?_))))
             obtain rfl:=ae hF
             exact ay (aM [(vI 0)] ⟨rfl,trivial⟩)
theorem zx {a_1:Alert} {b_2:Alert} {r:Int} (hF:oN a_1 b_2=some r) :
  FnM Tryz.prog 129 [(.d (.agg (Alert.enc a_1))),(.d (.agg (Alert.enc b_2)))] [] (vI r) []:=by
 refine FnM.of_wH ⟨Tryz.prog,17,[],[]⟩ rfl Tryz.func129 rfl rfl (lb_ rfl) (by kernel_rfl) ?_
 unfold oN at hF
 refine ai (fJ 0 (.inl rfl) (Alert.v a_1) rfl rfl wz (λn_3=>fJ 0 (.inl rfl) (Alert.v b_2) rfl rfl wz (λn_4=>aa (vI 0) (ah (ak (bC (aH Eg rfl 4 rfl wz (aG 1 0 (.inr (by kernel_rfl)) (λ_ _ ag=>trivial) sz3 ag3 rfl rfl (vI a_1.At) rfl wz (aH Eg rfl 4 rfl wz (aG 3 1 (.inr (by kernel_rfl)) (λ_ _ ag=>⟨.inl ⟨rfl,rfl⟩,trivial⟩) sz3 ag3 rfl rfl (vI b_2.At) rfl wz ?_))))))))))
 obtain ⟨r_5,hr_6,hF⟩:=bind_some hF
 refine aB (gq hr_6) rfl Mk rfl rfl rfl rfl wz (aH zV rfl 0 rfl wz (aG 6 0 (.inr (by kernel_rfl)) (λ_ _ ag=>⟨.inl ⟨rfl,rfl⟩,⟨.inl ⟨rfl,rfl⟩,trivial⟩⟩) sz9 ag9 rfl rfl (vS a_1.Id) rfl wz (aH zV rfl 0 rfl wz (aG 8 1 (.inr (by kernel_rfl)) (λ_ _ ag=>⟨.inl ⟨rfl,rfl⟩,⟨.inl ⟨rfl,rfl⟩,⟨.inl ⟨rfl,rfl⟩,trivial⟩⟩⟩) sz9 ag9 rfl rfl (vS b_2.Id) rfl wz ?_))))
 obtain ⟨r_7,hr_8,hF⟩:=bind_some hF
 refine aB (fV hr_8) rfl MS rfl rfl rfl rfl wz (fq (([r_5,r_7]:List Int).map eI) mQ x9 rfl rfl rfl rfl rfl wz ?_)
 obtain ⟨r_9,hr_10,hF⟩:=bind_some hF
 refine aB (mH hr_10) rfl NA rfl rfl rfl rfl wz (aa (vI r_9) (ah ?_))
 obtain rfl:=ae hF
 exact ay (aM [(vI r_9)] ⟨rfl,trivial⟩)
theorem vY {l_1:(List Alert)} {r:Int} (hF:jf l_1=some r) :
  FnM Tryz.prog 98 [(vL Alert.enc l_1)] [] (vI r) []:=by
 refine FnM.of_wH ⟨Tryz.prog,52,[],[]⟩ rfl Tryz.func98 rfl rfl (lb_ rfl) (by kernel_rfl) ?_
 unfold jf at hF
 refine ai (aa (vI 0) (ah (ak (ai (aa (vL Alert.enc l_1) (bN OA rfl wz (aa (vB (decide ((l_1.length:Int)>300))) (ah ?_))))))))
 rcases aj hF with⟨hc_2,hF⟩|⟨hc_2,hF⟩
 ·refine aA rfl hc_2 (ai (aa (vI 2) (ah ?_)))
  obtain rfl:=ae hF
  exact ay (aM [(vI 2)] ⟨rfl,trivial⟩)
 ·refine ax rfl hc_2 (av (ak (ai (aa (vL Alert.enc l_1) (bN OA rfl wz (aa (vI 0) (ah ?_)))))))
  obtain ⟨o_11,hj_12,hF⟩:=bind_some hF
  obtain ⟨hn_7,hj_12⟩:=bv hj_12
  refine bW (λ(s_8:Unit)=>[(0,(vL Alert.enc l_1))]) (λ(s_8:Unit)=>[]) (λ(k_3:Nat)=>(λ(s_8:Unit)=>[(0,(vL Alert.enc l_1)),(12,(vL Alert.enc l_1)),(13,(vI (l_1.length:Int))),(14,(vI (k_3:Int)))])) (λk x s=>gD l_1 k x s) o_11 l_1 () hj_12 rfl (aK rfl) ?_ ?_
  ·rintro ⟨k_3,l_4,s_8⟩ ⟨hL_10,hD_6⟩
   dsimp only at hL_10 hD_6
   cases l_4 with
   | nil =>
    obtain rfl:=ae hL_10
    refine ai (aa (vB (decide ((k_3:Int)<(l_1.length:Int)))) (ah ?_))
    refine ak (ax rfl (drop_nil hD_6) (bf ?_))
    exact aY (s_8) rfl rfl (aK rfl)
   | cons x_5 l_4 =>
    obtain ⟨c_,hc_9,hL_10⟩:=bind_some hL_10
    refine ai (aa (vB (decide ((k_3:Int)<(l_1.length:Int)))) (ah ?_))
    refine ak (aA rfl (bA hD_6) (av ?_))
    unfold gD at hc_9
    refine ak (aQ (ai (aa (vI (k_3:Int)) (dB Lx rfl rfl (bK hD_6) rfl wz (bH Bp Hw rfl (.d (.agg (Alert.enc x_5))) rfl wz (di 0 (.inl rfl) z88 rfl wz (λn_13=>aa (vI (k_3:Int)) (gu 0 il ft 0 Bp rfl rfl (Alert.v x_5) rfl wz (ah (ak (ai (aG 0 0 il ft Bp Hw rfl rfl (.d (.agg (Alert.enc x_5))) rfl wz ?_))))))))))))
    obtain ⟨r_14,hr_15,hc_9⟩:=bind_some hc_9
    refine aB (xw hr_15) rfl hb128 rfl rfl rfl rfl wz (aa (vI r_14) (ah (ai (aa (vI r_14) (aa (vB (r_14 != 0)) (ah ?_))))))
    rcases aj hc_9 with⟨hc_16,hc_9⟩|⟨hc_16,hc_9⟩
    ·refine aA rfl hc_16 (ai (aa (vI r_14) (aa (vI r_14) (ah ?_))))
     obtain rfl:=ae hc_9
     obtain rfl:=ae hL_10
     obtain rfl:=ae hF
     exact ay (aM [(vI r_14)] ⟨rfl,trivial⟩)
    ·refine ax rfl hc_16 (av (ak ?_))
     obtain ⟨v_17,h_18,hc_9⟩:=bind_some hc_9
     refine aS [(0,(vL Alert.enc l_1)),(12,(vL Alert.enc l_1)),(13,(vI (l_1.length:Int))),(14,(vI (k_3:Int))),(35,(vB v_17))] [(n_13,some (.cells 9 (Alert.v x_5)))] ?_ ?_
     ·refine bC (aa (vI (k_3:Int)) (aa (vB (decide ((k_3:Int)>0))) ?_))
      rcases aj h_18 with⟨hc_19,h_18⟩|⟨hc_19,h_18⟩
      ·refine aC rfl hc_19 wz (aJ (vL Alert.enc l_1) wa rfl (aJ (vI (k_3:Int)) wa rfl (aJ (vI (w64 ((k_3:Int)-1))) wa rfl ?_)))
       obtain ⟨y_20,hy_21,h_18⟩:=bind_some h_18
       refine dB Lx rfl rfl hy_21 rfl wa (bH Bp Hw rfl (.d (.agg (Alert.enc y_20))) rfl wa (aG 8 0 (.inr (by kernel_rfl)) (λ_ _ ag=>trivial) Bp Hw rfl rfl (.d (.agg (Alert.enc x_5))) rfl wa ?_))
       obtain ⟨r_22,hr_23,h_18⟩:=bind_some h_18
       refine aB (zx hr_23) rfl hb129 rfl rfl rfl rfl wa (aJ (vB (decide (r_22>=0))) wa rfl (aa (vB (decide (r_22>=0))) (ah ?_)))
       obtain rfl:=ae h_18
       exact cu
      ·refine aC rfl hc_19 wz (af (af (af (af (af (af (af (af (aa (vB false) (ah ?_))))))))))
       obtain rfl:=ae h_18
       exact cu
     ·rintro ⟨⟩ _ sl_ H_ hp_ hq_
      refine aR _ hp_ hq_ ?_
      rcases aj hc_9 with⟨hc_24,hc_9⟩|⟨hc_24,hc_9⟩
      ·refine aA rfl hc_24 (ai (aa (vI 7) (ah ?_)))
       obtain rfl:=ae hc_9
       obtain rfl:=ae hL_10
       obtain rfl:=ae hF
       exact ay (aM [(vI 7)] ⟨rfl,trivial⟩)
      ·refine ax rfl hc_24 (av (au (fw (bE hD_6 hn_7) wz rfl (aa (vI ((k_3+1:Nat):Int)) (ah ?_)))))
       obtain rfl:=ae hc_9
       exact aZ (k_3+1,l_4,()) ⟨hL_10,aX hD_6⟩ (ls_ _) rfl (aK rfl)
  ·rintro s_8 ho_ sl_ H_ hp_ hq_
   subst ho_
   refine aR _ hp_ hq_ (ai (Me 0 (.inl rfl) wz (λn_25=>Mh (b':=some (bM D.str D.bool ([]:List (ByteArray×Bool)))) 0 rfl rfl (aa (.map n_25) (ah (ak (ai (aa (vL Alert.enc l_1) (bN OA rfl wz (aa (vI 0) (ah ?_)))))))))))
   obtain ⟨o_34,hj_35,hF⟩:=bind_some hF
   obtain ⟨hn_30,hj_35⟩:=bv hj_35
   refine bW (λ(s_31:(List (ByteArray×Bool)))=>[]) (λ(s_31:(List (ByteArray×Bool)))=>[(n_25,some (bM D.str D.bool s_31))]) (λ(k_26:Nat)=>(λ(s_31:(List (ByteArray×Bool)))=>[(6,(.map n_25)),(38,(vL Alert.enc l_1)),(39,(vI (l_1.length:Int))),(40,(vI (k_26:Int)))])) (λk x s=>jl k x s) o_34 l_1 ([]:List (ByteArray×Bool)) hj_35 rfl (aK rfl) ?_ ?_
   ·rintro ⟨k_26,l_27,s_31⟩ ⟨hL_33,hD_29⟩
    dsimp only at hL_33 hD_29
    cases l_27 with
    | nil =>
     obtain rfl:=ae hL_33
     refine ai (aa (vB (decide ((k_26:Int)<(l_1.length:Int)))) (ah ?_))
     refine ak (ax rfl (drop_nil hD_29) (bf ?_))
     exact aY (s_31) rfl rfl (aK rfl)
    | cons x_28 l_27 =>
     obtain ⟨c_,hc_32,hL_33⟩:=bind_some hL_33
     refine ai (aa (vB (decide ((k_26:Int)<(l_1.length:Int)))) (ah ?_))
     refine ak (aA rfl (bA hD_29) (av ?_))
     unfold jl at hc_32
     refine ak (aQ (ai (dB Lx rfl rfl (bK hD_29) rfl wz (bH Bp Hw rfl (.d (.agg (Alert.enc x_28))) rfl wz (di 0 (.inl rfl) z88 rfl wz (λn_36=>gu 0 il ft 1 Bp rfl rfl (Alert.v x_28) rfl wz (ah (ak (ai (aa (.map n_25) (aH zV rfl 0 rfl wz (aG 0 1 il ft sz9 ag9 rfl rfl (vS x_28.Id) rfl wz (Oi (eq:=eqS) (kD:=D.str) (vD:=D.bool) (es:=s_31) (k:=x_28.Id) (z:=false) 0 0 il ft (λ_ _=>rfl) mt194 (by kernel_rfl) (by kernel_rfl) rfl rfl rfl (vB ((KF eqS s_31 x_28.Id).getD false)) rfl wz (ah ?_))))))))))))))
     rcases aj hc_32 with⟨hc_37,hc_32⟩|⟨hc_37,hc_32⟩
     ·refine aA rfl hc_37 (ai (aa (vI 6) (ah ?_)))
      obtain rfl:=ae hc_32
      obtain rfl:=ae hL_33
      obtain rfl:=ae hF
      exact ay (aM [(vI 6)] ⟨rfl,trivial⟩)
     ·refine ax rfl hc_37 (av (au (aa (.map n_25) (aH zV rfl 0 rfl wz (aG 0 1 il ft sz9 ag9 rfl rfl (vS x_28.Id) rfl wz (Oy (eq:=eqS) (kD:=D.str) (vD:=D.bool) (es:=s_31) (k:=x_28.Id) (v:=true) 0 0 il ft (λ_ _=>rfl) mt194 (by kernel_rfl) rfl rfl rfl rfl wz (ah (au (fw (bE hD_29 hn_30) wz rfl (aa (vI ((k_26+1:Nat):Int)) (ah ?_)))))))))))
      obtain rfl:=ae hc_32
      exact aZ (k_26+1,l_27,(Nu eqS s_31 x_28.Id true)) ⟨hL_33,aX hD_29⟩ (ls_ _) rfl (aK rfl)
   ·rintro s_31 ho_ sl_ H_ hp_ hq_
    subst ho_
    refine aR _ hp_ hq_ (ai (aa (vI 0) (ah ?_)))
    obtain rfl:=ae hF
    exact ay (aM [(vI 0)] ⟨rfl,trivial⟩)
theorem xu {l_1:(List Post)} {r:Int} (hF:jK l_1=some r) :
  FnM Tryz.prog 99 [(vL Post.enc l_1)] [] (vI r) []:=by
 refine FnM.of_wH ⟨Tryz.prog,44,[],[]⟩ rfl Tryz.func99 rfl rfl (lb_ rfl) (by kernel_rfl) ?_
 unfold jK at hF
 refine ai (aa (vI 0) (ah (ak (ai (aa (vL Post.enc l_1) (bN un122 rfl wz (aa (vB (decide ((l_1.length:Int)>500))) (ah ?_))))))))
 rcases aj hF with⟨hc_2,hF⟩|⟨hc_2,hF⟩
 ·refine aA rfl hc_2 (ai (aa (vI 2) (ah ?_)))
  obtain rfl:=ae hF
  exact ay (aM [(vI 2)] ⟨rfl,trivial⟩)
 ·refine ax rfl hc_2 (av (ak (ai (aa (vL Post.enc l_1) (bN un122 rfl wz (aa (vI 0) (ah ?_)))))))
  obtain ⟨o_11,hj_12,hF⟩:=bind_some hF
  obtain ⟨hn_7,hj_12⟩:=bv hj_12
  refine bW (λ(s_8:Unit)=>[]) (λ(s_8:Unit)=>[]) (λ(k_3:Nat)=>(λ(s_8:Unit)=>[(0,(vL Post.enc l_1)),(8,(vL Post.enc l_1)),(9,(vI (l_1.length:Int))),(10,(vI (k_3:Int)))])) (λk x s=>ib l_1 k x s) o_11 l_1 () hj_12 rfl (aK rfl) ?_ ?_
  ·rintro ⟨k_3,l_4,s_8⟩ ⟨hL_10,hD_6⟩
   dsimp only at hL_10 hD_6
   cases l_4 with
   | nil =>
    obtain rfl:=ae hL_10
    refine ai (aa (vB (decide ((k_3:Int)<(l_1.length:Int)))) (ah ?_))
    refine ak (ax rfl (drop_nil hD_6) (bf ?_))
    exact aY (s_8) rfl rfl (aK rfl)
   | cons x_5 l_4 =>
    obtain ⟨c_,hc_9,hL_10⟩:=bind_some hL_10
    refine ai (aa (vB (decide ((k_3:Int)<(l_1.length:Int)))) (ah ?_))
    refine ak (aA rfl (bA hD_6) (av ?_))
    unfold ib at hc_9
    refine ak (aQ (ai (aa (vI (k_3:Int)) (dB Ow rfl rfl (bK hD_6) rfl wz (bH sz92 ag92 rfl (.d (.agg (Post.enc x_5))) rfl wz (di 0 (.inl rfl) z92 rfl wz (λn_13=>aa (vI (k_3:Int)) (gu 0 il ft 0 sz92 rfl rfl (Post.v x_5) rfl wz (ah (aQ (ai (aH Kl rfl 0 rfl wz (aG 0 0 il ft sz9 ag9 rfl rfl (vS x_5.Player) rfl wz ?_)))))))))))))
    obtain ⟨r_14,hr_15,hc_9⟩:=bind_some hc_9
    refine aB (dx hr_15) rfl yw rfl rfl rfl rfl wz (aa (vB (!r_14)) (aa (vB (!r_14)) (ah ?_)))
    rcases aj hc_9 with⟨hc_16,hc_9⟩|⟨hc_16,hc_9⟩
    ·refine aA rfl hc_16 (ai (aa (vI 5) (ah ?_)))
     obtain rfl:=ae hc_9
     obtain rfl:=ae hL_10
     obtain rfl:=ae hF
     exact ay (aM [(vI 5)] ⟨rfl,trivial⟩)
    ·refine ax rfl hc_16 (ak ?_)
     obtain ⟨v_17,h_18,hc_9⟩:=bind_some hc_9
     refine aS [(0,(vL Post.enc l_1)),(3,(vI (k_3:Int))),(4,(.ref n_13 0 0)),(8,(vL Post.enc l_1)),(9,(vI (l_1.length:Int))),(10,(vI (k_3:Int))),(20,(vB v_17))] [(n_13,some (.cells 3 (Post.v x_5)))] ?_ ?_
     ·refine au (aH Ki rfl 1 rfl wz (aG 0 0 il ft sz3 ag3 rfl rfl (vI x_5.X) rfl wz ?_))
      obtain ⟨r_19,hr_20,h_18⟩:=bind_some h_18
      refine aB (aV hr_20) rfl nZ rfl rfl rfl rfl wz ?_
      rcases aj h_18 with⟨hc_21,h_18⟩|⟨hc_21,h_18⟩
      ·refine aC rfl hc_21 wz (af (af (af (aa (vB true) (aa (vB true) (ah ?_))))))
       obtain rfl:=ae h_18
       exact cu
      ·refine aC rfl hc_21 wz (aH JP rfl 2 rfl wa (aG 0 0 il ft sz3 ag3 rfl rfl (vI x_5.Y) rfl wa ?_))
       obtain ⟨r_22,hr_23,h_18⟩:=bind_some h_18
       refine aB (aV hr_23) rfl nZ rfl rfl rfl rfl wa (aa (vB r_22) (aa (vB r_22) (ah ?_)))
       obtain rfl:=ae h_18
       exact cu
     ·rintro ⟨⟩ _ sl_ H_ hp_ hq_
      refine aR _ hp_ hq_ ?_
      rcases aj hc_9 with⟨hc_24,hc_9⟩|⟨hc_24,hc_9⟩
      ·refine aA rfl hc_24 (ai (aa (vI 1) (ah ?_)))
       obtain rfl:=ae hc_9
       obtain rfl:=ae hL_10
       obtain rfl:=ae hF
       exact ay (aM [(vI 1)] ⟨rfl,trivial⟩)
      ·refine ax rfl hc_24 (ak ?_)
       obtain ⟨v_25,h_26,hc_9⟩:=bind_some hc_9
       refine aS [(0,(vL Post.enc l_1)),(8,(vL Post.enc l_1)),(9,(vI (l_1.length:Int))),(10,(vI (k_3:Int))),(29,(vB v_25))] [(n_13,some (.cells 3 (Post.v x_5)))] ?_ ?_
       ·refine bC (aa (vI (k_3:Int)) (aa (vB (decide ((k_3:Int)>0))) ?_))
        rcases aj h_26 with⟨hc_27,h_26⟩|⟨hc_27,h_26⟩
        ·refine aC rfl hc_27 wz (aH Kl rfl 0 rfl wa (aG 4 0 (.inr (by kernel_rfl)) (λ_ _ ag=>trivial) sz9 ag9 rfl rfl (vS x_5.Player) rfl wa (aJ (vL Post.enc l_1) wa rfl (aJ (vI (k_3:Int)) wa rfl (aJ (vI (w64 ((k_3:Int)-1))) wa rfl ?_)))))
         obtain ⟨y_28,hy_29,h_26⟩:=bind_some h_26
         refine dB Ow rfl rfl hy_29 rfl wa (kv Kl rfl [.str y_28.Player,.int .i64 y_28.X,.int .i64 y_28.Y] rfl rfl wa (bH sz9 ag9 rfl (vS y_28.Player) rfl wa (aJ (vB (sLe x_5.Player y_28.Player)) wa rfl (aa (vB (sLe x_5.Player y_28.Player)) (aa (vB (sLe x_5.Player y_28.Player)) (ah ?_))))))
         obtain rfl:=ae h_26
         exact cu
        ·refine aC rfl hc_27 wz (af (af (af (af (af (af (af (af (af (aa (vB false) (aa (vB false) (ah ?_))))))))))))
         obtain rfl:=ae h_26
         exact cu
       ·rintro ⟨⟩ _ sl_ H_ hp_ hq_
        refine aR _ hp_ hq_ ?_
        rcases aj hc_9 with⟨hc_30,hc_9⟩|⟨hc_30,hc_9⟩
        ·refine aA rfl hc_30 (ai (aa (vI 7) (ah ?_)))
         obtain rfl:=ae hc_9
         obtain rfl:=ae hL_10
         obtain rfl:=ae hF
         exact ay (aM [(vI 7)] ⟨rfl,trivial⟩)
        ·refine ax rfl hc_30 (av (au (fw (bE hD_6 hn_7) wz rfl (aa (vI ((k_3+1:Nat):Int)) (ah ?_)))))
         obtain rfl:=ae hc_9
         exact aZ (k_3+1,l_4,()) ⟨hL_10,aX hD_6⟩ (ls_ _) rfl (aK rfl)
  ·rintro s_8 ho_ sl_ H_ hp_ hq_
   subst ho_
   refine aR _ hp_ hq_ (ai (aa (vI 0) (ah ?_)))
   obtain rfl:=ae hF
   exact ay (aM [(vI 0)] ⟨rfl,trivial⟩)
theorem xY {l_1:(List Alert)} {posts_2:(List Post)} {r:Int} (hF:kG l_1 posts_2=some r) :
  FnM Tryz.prog 62 [(vL Alert.enc l_1),(vL Post.enc posts_2)] [] (vI r) []:=by
 refine FnM.of_wH ⟨Tryz.prog,13,[],[]⟩ rfl Tryz.func62 rfl rfl (lb_ rfl) (by kernel_rfl) ?_
 unfold kG at hF
 refine ai (aa (vI 0) (ah (ak (ai (aa (vL Alert.enc l_1) ?_)))))
 obtain ⟨r_3,hr_4,hF⟩:=bind_some hF
 refine aB (vY hr_4) rfl hb98 rfl rfl rfl rfl wz (aa (vI r_3) (ah (ai (aa (vI r_3) (aa (vB (r_3 != 0)) (ah ?_))))))
 rcases aj hF with⟨hc_5,hF⟩|⟨hc_5,hF⟩
 ·refine aA rfl hc_5 (ai (aa (vI r_3) (aa (vI r_3) (ah ?_))))
  obtain rfl:=ae hF
  exact ay (aM [(vI r_3)] ⟨rfl,trivial⟩)
 ·refine ax rfl hc_5 (av (ai (aa (vL Post.enc posts_2) ?_)))
  obtain ⟨r_6,hr_7,hF⟩:=bind_some hF
  refine aB (xu hr_7) rfl hb99 rfl rfl rfl rfl wz (aa (vI r_6) (ah ?_))
  obtain rfl:=ae hF
  exact ay (aM [(vI r_6)] ⟨rfl,trivial⟩)
theorem xV {r_1:Rect} {p_2:Post} {r:Bool} (hF:qa r_1 p_2=some r) :
  FnM Tryz.prog 101 [(.d (.agg (Rect.enc r_1))),(.ref (aI 0) 0 0)] [(.cells 3 (Post.v p_2))] (vB r) [some (.cells 3 (Post.v p_2))]:=by
 refine FnM.of_wH ⟨Tryz.prog,36,[],[]⟩ rfl Tryz.func101 rfl rfl (lb_ rfl) (by kernel_rfl) ?_
 unfold qa at hF
 refine ai (fJ 0 (.inl rfl) (Rect.v r_1) rfl rfl wz (λn_3=>aa (vB false) (ah (ak ?_))))
 obtain ⟨v_4,h_5,hF⟩:=bind_some hF
 refine aS [(3,(vB v_4))] [((aI 0),some (.cells 3 (Post.v p_2))),(n_3,some (.cells 4 (Rect.v r_1)))] ?_ ?_
 ·refine au (aH zK rfl 0 rfl wz (aG 0 1 il ft sz3 ag3 rfl rfl (vI r_1.X) rfl wz (aH Ki rfl 1 rfl wz (aG 0 0 il ft sz3 ag3 rfl rfl (vI p_2.X) rfl wz (aa (vB (decide (r_1.X<=p_2.X))) ?_)))))
  rcases aj h_5 with⟨hc_6,h_5⟩|⟨hc_6,h_5⟩
  ·refine aC rfl hc_6 wz (aH Ki rfl 1 rfl wa (aG 0 0 il ft sz3 ag3 rfl rfl (vI p_2.X) rfl wa (aH zK rfl 0 rfl wa (aG 0 1 il ft sz3 ag3 rfl rfl (vI r_1.X) rfl wa (aH Hu rfl 2 rfl wa (aG 0 1 il ft sz3 ag3 rfl rfl (vI r_1.W) rfl wa (aJ (vI (w64 (r_1.X+r_1.W))) wa rfl (aJ (vB (decide (p_2.X<(w64 (r_1.X+r_1.W))))) wa rfl (aa (vB (decide (p_2.X<(w64 (r_1.X+r_1.W))))) ?_)))))))))
   rcases aj h_5 with⟨hc_7,h_5⟩|⟨hc_7,h_5⟩
   ·refine aC rfl hc_7 wz (aH vJ rfl 1 rfl wa (aG 0 1 il ft sz3 ag3 rfl rfl (vI r_1.Y) rfl wa (aH JP rfl 2 rfl wa (aG 0 0 il ft sz3 ag3 rfl rfl (vI p_2.Y) rfl wa (aJ (vB (decide (r_1.Y<=p_2.Y))) wa rfl (aa (vB (decide (r_1.Y<=p_2.Y))) ?_))))))
    rcases aj h_5 with⟨hc_8,h_5⟩|⟨hc_8,h_5⟩
    ·refine aC rfl hc_8 wz (aH JP rfl 2 rfl wa (aG 0 0 il ft sz3 ag3 rfl rfl (vI p_2.Y) rfl wa (aH vJ rfl 1 rfl wa (aG 0 1 il ft sz3 ag3 rfl rfl (vI r_1.Y) rfl wa (aH Co rfl 3 rfl wa (aG 0 1 il ft sz3 ag3 rfl rfl (vI r_1.H) rfl wa (aJ (vI (w64 (r_1.Y+r_1.H))) wa rfl (aJ (vB (decide (p_2.Y<(w64 (r_1.Y+r_1.H))))) wa rfl (aa (vB (decide (p_2.Y<(w64 (r_1.Y+r_1.H))))) (aa (vB (decide (p_2.Y<(w64 (r_1.Y+r_1.H))))) (ah ?_)))))))))))
     obtain rfl:=ae h_5
     exact cu
    ·refine aC rfl hc_8 wz (af (af (af (af (af (af (af (af (aa (vB false) (aa (vB false) (ah ?_)))))))))))
     obtain rfl:=ae h_5
     exact cu
   ·refine aC rfl hc_7 wz (af (af (af (af (af (aa (vB false) (aa (vB false) (af (af (af (af (af (af (af (af (aa (vB false) (aa (vB false) (ah ?_))))))))))))))))))
    obtain rfl:=ae h_5
    exact cu
  ·refine aC rfl hc_6 wz (af (af (af (af (af (af (af (af (aa (vB false) (aa (vB false) (af (af (af (af (af (aa (vB false) (aa (vB false) (af (af (af (af (af (af ?_)))))))))))))))))))))))
   refine af (af (aa (vB false) (aa (vB false) (ah ?_))))
   obtain rfl:=ae h_5
   exact cu
 ·rintro ⟨⟩ _ sl_ H_ hp_ hq_
  refine aR _ hp_ hq_ ?_
  obtain rfl:=ae hF
  exact ay (EC (.inr rfl) [(vB v_4)] _ [0] [aI 0] ⟨rfl,trivial⟩ (.cons (l7 rfl rfl) (.nil)) (by kernel_rfl) ⟨(by kernel_rfl),trivial⟩ (by decide) (by kernel_rfl))
theorem l9 {s_1:(List Rect)} {f_2:Rect->Option Bool} {r:Int} {gid:FuncId} {caps:List V} {Sin:List Box} (hfn:∀x0 r,f_2 x0=some r->FnM Tryz.prog gid ([(.d (.agg (Rect.enc x0)))]++caps) Sin (vB r) (Sin.map some)) (hbF:aL Tryz.prog gid=true) (hcapF:caps.flatMap frz=[]/\caps.map co0=caps) (hokF:okL Sin.length caps=true) (hsF:∀b∈Sin,b.ok Sin.length=true) (hmF:∀b∈Sin,b.mut=true) (hF:fD s_1 f_2=some r) :
  FnM Tryz.prog 130 [(vL Rect.enc s_1),(.fn gid caps)] Sin (vI r) (Sin.map some):=by
 refine FnM.of_wH ⟨Tryz.prog,19,[],[]⟩ rfl Tryz.func130 rfl rfl (lb_ rfl) (by kernel_rfl) ?_
 unfold fD at hF
 refine ai (aa (vI 0) (ah (ak (ai (aa (vL Rect.enc s_1) (bN Ao rfl wz (aa (vI 0) (ah ?_))))))))
 obtain ⟨o_11,hj_12,hF⟩:=bind_some hF
 obtain ⟨hn_7,hj_12⟩:=bv hj_12
 refine bW (λ(s_8:Unit)=>[]) (λ(s_8:Unit)=>(pG 0 Sin)) (λ(k_3:Nat)=>(λ(s_8:Unit)=>[(0,(vL Rect.enc s_1)),(1,(.fn gid caps)),(7,(vI (s_1.length:Int))),(8,(vI (k_3:Int)))])) (λk x s=>dU f_2 k x s) o_11 s_1 () hj_12 rfl (Dx _) ?_ ?_
 ·rintro ⟨k_3,l_4,s_8⟩ ⟨hL_10,hD_6⟩
  dsimp only at hL_10 hD_6
  cases l_4 with
  | nil =>
   obtain rfl:=ae hL_10
   refine ai (aa (vB (decide ((k_3:Int)<(s_1.length:Int)))) (ah ?_))
   refine ak (ax rfl (drop_nil hD_6) (bf ?_))
   exact aY (s_8) rfl rfl (Dx _)
  | cons x_5 l_4 =>
   obtain ⟨c_,hc_9,hL_10⟩:=bind_some hL_10
   refine ai (aa (vB (decide ((k_3:Int)<(s_1.length:Int)))) (ah ?_))
   refine ak (aA rfl (bA hD_6) (av ?_))
   unfold dU at hc_9
   refine ak (aQ (ai (aa (vI (k_3:Int)) (aa (vI (k_3:Int)) (ah (ai (aa (.fn gid caps) (aa (vL Rect.enc s_1) (aa (vI (k_3:Int)) (dB FQ rfl rfl (bK hD_6) rfl wz (bH vR IU rfl (.d (.agg (Rect.enc x_5))) rfl wz ?_)))))))))))
   obtain ⟨r_13,hr_14,hc_9⟩:=bind_some hc_9
   refine LX (hfn _ _ hr_14) rfl hbF rfl rfl hcapF hokF hsF hmF rfl wz rfl (ah ?_)
   rcases aj hc_9 with⟨hc_15,hc_9⟩|⟨hc_15,hc_9⟩
   ·refine aA rfl hc_15 (ai (aa (vI (k_3:Int)) (aa (vI (k_3:Int)) (ah ?_))))
    obtain rfl:=ae hc_9
    obtain rfl:=ae hL_10
    obtain rfl:=ae hF
    exact ay (finS hsF (.inr rfl) [(vI (k_3:Int))] ⟨rfl,trivial⟩ rfl rfl rfl)
   ·refine ax rfl hc_15 (av (au (fw (bE hD_6 hn_7) wz rfl (aa (vI ((k_3+1:Nat):Int)) (ah ?_)))))
    obtain rfl:=ae hc_9
    exact aZ (k_3+1,l_4,()) ⟨hL_10,aX hD_6⟩ (ls_ _) rfl (Dx _)
 ·rintro s_8 ho_ sl_ H_ hp_ hq_
  subst ho_
  refine aR _ hp_ hq_ (ai (aa (vI (-1)) (ah ?_)))
  obtain rfl:=ae hF
  exact ay (finS hsF (.inr rfl) [(vI (-1))] ⟨rfl,trivial⟩ rfl rfl rfl)
theorem kK {s_1:(List Rect)} {f_2:Rect->Option Bool} {r:Bool} {gid:FuncId} {caps:List V} {Sin:List Box} (hfn:∀x0 r,f_2 x0=some r->FnM Tryz.prog gid ([(.d (.agg (Rect.enc x0)))]++caps) Sin (vB r) (Sin.map some)) (hbF:aL Tryz.prog gid=true) (hcapF:caps.flatMap frz=[]/\caps.map co0=caps) (hokF:okL Sin.length caps=true) (hsF:∀b∈Sin,b.ok Sin.length=true) (hmF:∀b∈Sin,b.mut=true) (hF:dW s_1 f_2=some r) :
  FnM Tryz.prog 100 [(vL Rect.enc s_1),(.fn gid caps)] Sin (vB r) (Sin.map some):=by
 refine FnM.of_wH ⟨Tryz.prog,9,[],[]⟩ rfl Tryz.func100 rfl rfl (lb_ rfl) (by kernel_rfl) ?_
 unfold dW at hF
 refine ai (aa (vB false) (ah (ai (aa (vL Rect.enc s_1) (aa (.fn gid caps) ?_)))))
 obtain ⟨r_3,hr_4,hF⟩:=bind_some hF
 refine LX (l9 (gid:=gid) (caps:=caps) (Sin:=Sin) hfn hbF hcapF hokF hsF hmF hr_4) rfl hb130 rfl rfl ⟨rfl,rfl⟩ (by simp [okL,okV,hokF]) hsF hmF rfl wz rfl (aa (vB (decide (r_3>=0))) (aa (vB (decide (r_3>=0))) (ah ?_)))
 obtain rfl:=ae hF
 exact ay (finS hsF (.inr rfl) [(vB (decide (r_3>=0)))] ⟨rfl,trivial⟩ rfl rfl rfl)
theorem zP {a_1:Alert} {p_2:Post} {r:Bool} (hF:oL a_1 p_2=some r) :
  FnM Tryz.prog 63 [(.d (.agg (Alert.enc a_1))),(.d (.agg (Post.enc p_2)))] [] (vB r) []:=by
 refine FnM.of_wH ⟨Tryz.prog,9,[],[]⟩ rfl Tryz.func63 rfl rfl (lb_ rfl) (by kernel_rfl) ?_
 unfold oL at hF
 refine ai (fJ 0 (.inl rfl) (Alert.v a_1) rfl rfl wz (λn_3=>fJ 0 (.inl rfl) (Post.v p_2) rfl rfl wz (λn_4=>aa (vB false) (ah (ai (aH FK rfl 7 rfl wz (aG 0 0 il ft Mx Mi rfl rfl (vL Rect.enc a_1.Areas) rfl wz (aa (.fn 101 [(.ref n_4 0 0)]) ?_))))))))
 obtain ⟨r_5,hr_6,hF⟩:=bind_some hF
 refine iq 0 [1] il ft (kK (gid:=101) (caps:=[.ref (aI 0) 0 0]) (Sin:=[(.cells 3 (Post.v p_2))]) (λ_ _ h_=>xV h_) hb101 ⟨rfl,rfl⟩ (by kernel_rfl) (all_ok (by kernel_rfl)) (all_mut (by kernel_rfl)) hr_6) rfl hb100 rfl (by kernel_rfl) (by kernel_rfl) (by kernel_rfl) (by kernel_rfl) (by kernel_rfl) (by kernel_rfl) (by kernel_rfl) (by decide) (by kernel_rfl) wz (vB r_5) (by kernel_rfl) ([(n_3,some (.cells 9 (Alert.v a_1))),(n_4,some (.cells 3 (Post.v p_2)))]:Hp) (by kernel_rfl) (aa (vB r_5) (ah ?_))
 obtain rfl:=ae hF
 exact ay (aM [(vB r_5)] ⟨rfl,trivial⟩)
theorem zT {a_1:Alert} {p_2:Post} {r:Bool×Int} (hF:mE a_1 p_2=some r) :
  FnM Tryz.prog 34 [(.d (.agg (Alert.enc a_1))),(.d (.agg (Post.enc p_2)))] [] (.tup [(vB r.1),(vI r.2)]) []:=by
 refine FnM.of_wH ⟨Tryz.prog,18,[],[]⟩ rfl Tryz.func34 rfl rfl (lb_ rfl) (by kernel_rfl) ?_
 unfold mE at hF
 refine ai (fJ 0 (.inl rfl) (Alert.v a_1) rfl rfl wz (λn_3=>fJ 0 (.inl rfl) (Post.v p_2) rfl rfl wz (λn_4=>aa (vB false) (aa (vI 0) (ah (ak (ai (aG 0 0 il ft Bp Hw rfl rfl (.d (.agg (Alert.enc a_1))) rfl wz (fq (([a_1]:List Alert).map Alert.enc) Lx ez121 rfl rfl rfl rfl rfl wz (aG 0 1 il ft sz92 ag92 rfl rfl (.d (.agg (Post.enc p_2))) rfl wz (fq (([p_2]:List Post).map Post.enc) Ow ez122 rfl rfl rfl rfl rfl wz ?_)))))))))))
 obtain ⟨r_5,hr_6,hF⟩:=bind_some hF
 refine aB (xY hr_6) rfl hb62 rfl rfl rfl rfl wz (aa (vI r_5) (ah (ai (aa (vI r_5) (aa (vB (r_5 != 0)) (ah ?_))))))
 rcases aj hF with⟨hc_7,hF⟩|⟨hc_7,hF⟩
 ·refine aA rfl hc_7 (ai (aa (vI r_5) (aa (vB false) (aa (vI r_5) (ah ?_)))))
  obtain rfl:=ae hF
  exact ay (aM [(vB false),(vI r_5)] ⟨rfl,⟨rfl,trivial⟩⟩)
 ·refine ax rfl hc_7 (av (ai (aG 0 0 il ft Bp Hw rfl rfl (.d (.agg (Alert.enc a_1))) rfl wz (aG 0 1 il ft sz92 ag92 rfl rfl (.d (.agg (Post.enc p_2))) rfl wz ?_))))
  obtain ⟨r_8,hr_9,hF⟩:=bind_some hF
  refine aB (zP hr_9) rfl hb63 rfl rfl rfl rfl wz (aa (vB r_8) (aa (vI 0) (ah ?_)))
  obtain rfl:=ae hF
  exact ay (aM [(vB r_8),(vI 0)] ⟨rfl,⟨rfl,trivial⟩⟩)
theorem GA {l_1:(List Int)} {r:Int} (hF:wV l_1=some r) :
  FnM Tryz.prog 35 [(vL eI l_1)] [] (vI r) []:=by
 refine FnM.of_wH ⟨Tryz.prog,15,[],[]⟩ rfl Tryz.func35 rfl rfl (lb_ rfl) (by kernel_rfl) ?_
 unfold wV at hF
 refine ai (aa (vI 0) (ah (ak (ai (aa (vL eI l_1) (bN un124 rfl wz (aa (vI 0) (ah ?_))))))))
 obtain ⟨o_10,hj_11,hF⟩:=bind_some hF
 obtain ⟨hn_6,hj_11⟩:=bv hj_11
 refine bW (λ(s_7:Unit)=>[]) (λ(s_7:Unit)=>[]) (λ(k_2:Nat)=>(λ(s_7:Unit)=>[(5,(vL eI l_1)),(6,(vI (l_1.length:Int))),(7,(vI (k_2:Int)))])) (λk x s=>ug k x s) o_10 l_1 () hj_11 rfl (aK rfl) ?_ ?_
 ·rintro ⟨k_2,l_3,s_7⟩ ⟨hL_9,hD_5⟩
  dsimp only at hL_9 hD_5
  cases l_3 with
  | nil =>
   obtain rfl:=ae hL_9
   refine ai (aa (vB (decide ((k_2:Int)<(l_1.length:Int)))) (ah ?_))
   refine ak (ax rfl (drop_nil hD_5) (bf ?_))
   exact aY (s_7) rfl rfl (aK rfl)
  | cons x_4 l_3 =>
   obtain ⟨c_,hc_8,hL_9⟩:=bind_some hL_9
   refine ai (aa (vB (decide ((k_2:Int)<(l_1.length:Int)))) (ah ?_))
   refine ak (aA rfl (bA hD_5) (av ?_))
   unfold ug at hc_8
   refine ak (aQ (ai (dB es124 rfl rfl (bK hD_5) rfl wz (bH sz31 ag31 rfl (vI x_4) rfl wz (aa (vI x_4) (ah (ai (aa (vI x_4) (aa (vB (x_4 != 0)) (ah ?_))))))))))
   rcases aj hc_8 with⟨hc_12,hc_8⟩|⟨hc_12,hc_8⟩
   ·refine aA rfl hc_12 (ai (aa (vI x_4) (aa (vI x_4) (ah ?_))))
    obtain rfl:=ae hc_8
    obtain rfl:=ae hL_9
    obtain rfl:=ae hF
    exact ay (aM [(vI x_4)] ⟨rfl,trivial⟩)
   ·refine ax rfl hc_12 (av (au (fw (bE hD_5 hn_6) wz rfl (aa (vI ((k_2+1:Nat):Int)) (ah ?_)))))
    obtain rfl:=ae hc_8
    exact aZ (k_2+1,l_3,()) ⟨hL_9,aX hD_5⟩ (ls_ _) rfl (aK rfl)
 ·rintro s_7 ho_ sl_ H_ hp_ hq_
  subst ho_
  refine aR _ hp_ hq_ (ai (aa (vI 0) (ah ?_)))
  obtain rfl:=ae hF
  exact ay (aM [(vI 0)] ⟨rfl,trivial⟩)
theorem EA {r:Bool} (hF:oC  = some r) :
  FnM Tryz.prog 10 [] [] (vB r) []:=by
 refine FnM.of_wH ⟨Tryz.prog,75,[],[]⟩ rfl Tryz.func10 rfl rfl (lb_ rfl) (by kernel_rfl) ?_
 unfold oC at hF
 refine ai (aa (vB false) (ah (ai (aJ (.d (.agg (Rect.enc (⟨0,0,2,2⟩:Rect)))) wz (by kernel_rfl) (aJ (.d (.agg (Rect.enc (⟨1,1,2,2⟩:Rect)))) wz (by kernel_rfl) (fq (([(⟨0,0,2,2⟩:Rect),(⟨1,1,2,2⟩:Rect)]:List Rect).map Rect.enc) FQ ez75 rfl rfl rfl rfl rfl wz ?_))))))
 obtain ⟨r_1,hr_2,hF⟩:=bind_some hF
 refine aB (Cc hr_2) rfl hb30 rfl rfl rfl rfl wz (aa (.tup [(vI r_1.1),(vI r_1.2)]) (aa (vI r_1.1) (aa (vI r_1.2) (aa (vI r_1.1) (aa (vI r_1.2) (ah (ai (aJ (.agg [(vS (⟨#[97]⟩:ByteArray)),(vS (⟨#[98]⟩:ByteArray)),(vI 0),(vI 0),(vI 0),(vI 1),(vI 127),.nil,(vI 1),(vI 2),(vI 0),.nil,(vB false)]) wz (by kernel_rfl) (aJ (.d (.agg (Window.enc (⟨0,86400000⟩:Window)))) wz (by kernel_rfl) ?_)))))))))
 obtain ⟨r_3,hr_4,hF⟩:=bind_some hF
 refine aB (zf hr_4) rfl hb31 rfl rfl rfl rfl wz (aa (.tup [(vL Window.enc r_3.1),(vI r_3.2)]) (aa (vL Window.enc r_3.1) (aa (vI r_3.2) (aa (vL Window.enc r_3.1) (aa (vI r_3.2) (ah (ai (aJ (.d (.agg (Window.enc (⟨0,100⟩:Window)))) wz (by kernel_rfl) (aJ (.agg [(vS (⟨#[97]⟩:ByteArray)),(vS (⟨#[]⟩:ByteArray)),(vI 0),(vI 100),.nil,(vI 10),(vI 0),(vI 0)]) wz (by kernel_rfl) ?_)))))))))
 obtain ⟨r_5,hr_6,hF⟩:=bind_some hF
 refine aB (Da hr_6) rfl hb32 rfl rfl rfl rfl wz (aa (.tup [(vI r_5.1),(vI r_5.2)]) (aa (vI r_5.1) (aa (vI r_5.2) (aa (vI r_5.1) (aa (vI r_5.2) (ah (ai (aJ (.d (.agg (Beat.enc (⟨(⟨#[112]⟩:ByteArray),0,100⟩:Beat)))) wz (by kernel_rfl) (aJ (.d (.agg (Beat.enc (⟨(⟨#[112]⟩:ByteArray),1000,1300⟩:Beat)))) wz (by kernel_rfl) (fq (([(⟨(⟨#[112]⟩:ByteArray),0,100⟩:Beat),(⟨(⟨#[112]⟩:ByteArray),1000,1300⟩:Beat)]:List Beat).map Beat.enc) KQ ez28 rfl rfl rfl rfl rfl wz ?_))))))))))
 obtain ⟨r_7,hr_8,hF⟩:=bind_some hF
 refine aB (De hr_8) rfl hb33 rfl rfl rfl rfl wz (aa (.tup [(vI r_7.1),(vI r_7.2)]) (aa (vI r_7.1) (aa (vI r_7.2) (aa (vI r_7.1) (aa (vI r_7.2) (ah (aR (H0:=([]:Hp)) ([(1,(vI r_1.1)),(2,(vI r_1.2)),(3,(vL Window.enc r_3.1)),(4,(vI r_3.2)),(5,(vI r_5.1)),(6,(vI r_5.2)),(7,(vI r_7.1)),(8,(vI r_7.2))]:SL_) (by kernel_rfl) (Ae (by kernel_rfl)) (ai (aJ (.d (.agg (Rect.enc (⟨0,0,2,2⟩:Rect)))) wz (by kernel_rfl) (fq (([(⟨0,0,2,2⟩:Rect)]:List Rect).map Rect.enc) FQ ez75 rfl rfl rfl rfl rfl wz (aJ (.agg [(vS (⟨#[97]⟩:ByteArray)),(vS (⟨#[115]⟩:ByteArray)),(vI 1),.nil,(vI 0),(vI 5),(vI 1),(vL Rect.enc ([(⟨0,0,2,2⟩:Rect)]:List Rect)),(vS (⟨#[120]⟩:ByteArray))]) wz (by kernel_rfl) (di 0 (.inl rfl) z88 rfl wz (λn_9=>gu 0 il ft 0 Bp rfl rfl [(vS (⟨#[97]⟩:ByteArray)),(vS (⟨#[115]⟩:ByteArray)),(vI 1),.nil,(vI 0),(vI 5),(vI 1),(vL Rect.enc ([(⟨0,0,2,2⟩:Rect)]:List Rect)),(vS (⟨#[120]⟩:ByteArray))] rfl wz (ah (ai (aG 0 0 il ft Bp Hw rfl rfl (.agg [(vS (⟨#[97]⟩:ByteArray)),(vS (⟨#[115]⟩:ByteArray)),(vI 1),.nil,(vI 0),(vI 5),(vI 1),(vL Rect.enc ([(⟨0,0,2,2⟩:Rect)]:List Rect)),(vS (⟨#[120]⟩:ByteArray))]) rfl wz (aJ (.d (.agg (Post.enc (⟨(⟨#[112]⟩:ByteArray),1,1⟩:Post)))) wz (by kernel_rfl) ?_)))))))))))))))))
 obtain ⟨r_10,hr_11,hF⟩:=bind_some hF
 refine aB (zT hr_11) rfl hb34 rfl rfl rfl rfl wz (aa (.tup [(vB r_10.1),(vI r_10.2)]) (aa (vB r_10.1) (aa (vI r_10.2) (aa (vB r_10.1) (aa (vI r_10.2) (ah (ak ?_)))))))
 obtain ⟨v_12,h_13,hF⟩:=bind_some hF
 refine aS [(0,(vB v_12))] [(n_9,some (.cells 9 [(vS (⟨#[97]⟩:ByteArray)),(vS (⟨#[115]⟩:ByteArray)),(vI 1),.nil,(vI 0),(vI 5),(vI 1),(vL Rect.enc ([(⟨0,0,2,2⟩:Rect)]:List Rect)),(vS (⟨#[120]⟩:ByteArray))]))] ?_ ?_
 ·refine au (aa (vI r_1.2) (aa (vI r_3.2) (aa (vI r_5.2) (aa (vI r_7.2) (aa (vI r_10.2) (fq (([r_1.2,r_3.2,r_5.2,r_7.2,r_10.2]:List Int).map eI) es124 ez124 rfl rfl rfl rfl rfl wz ?_))))))
  obtain ⟨r_14,hr_15,h_13⟩:=bind_some h_13
  refine aB (GA hr_15) rfl hb35 rfl rfl rfl rfl wz (aa (vB (r_14==0)) ?_)
  rcases aj h_13 with⟨hc_16,h_13⟩|⟨hc_16,h_13⟩
  ·refine aC rfl hc_16 wz (aJ (vI r_1.1) wa rfl (aJ (vB (r_1.1==7)) wa rfl (aa (vB (r_1.1==7)) ?_)))
   rcases aj h_13 with⟨hc_17,h_13⟩|⟨hc_17,h_13⟩
   ·refine aC rfl hc_17 wz (aJ (vL Window.enc r_3.1) wa rfl (bN un76 rfl wa (aJ (vB ((r_3.1.length:Int)==1)) wa rfl (aa (vB ((r_3.1.length:Int)==1)) ?_))))
    rcases aj h_13 with⟨hc_18,h_13⟩|⟨hc_18,h_13⟩
    ·refine aC rfl hc_18 wz (aJ (vI r_5.1) wa rfl (aJ (vB (r_5.1==5)) wa rfl (aa (vB (r_5.1==5)) ?_)))
     rcases aj h_13 with⟨hc_19,h_13⟩|⟨hc_19,h_13⟩
     ·refine aC rfl hc_19 wz (aJ (vI r_7.1) wa rfl (aJ (vB (r_7.1==500)) wa rfl (aa (vB (r_7.1==500)) ?_)))
      rcases aj h_13 with⟨hc_20,h_13⟩|⟨hc_20,h_13⟩
      ·refine aC rfl hc_20 wz (aJ (vB r_10.1) wa rfl (aa (vB r_10.1) (aa (vB r_10.1) (ah ?_))))
       obtain rfl:=ae h_13
       exact cu
      ·refine aC rfl hc_20 wz (af (aa (vB false) (aa (vB false) (ah ?_))))
       obtain rfl:=ae h_13
       exact cu
     ·refine aC rfl hc_19 wz (af (af (aa (vB false) (aa (vB false) (af (aa (vB false) (aa (vB false) (ah ?_))))))))
      obtain rfl:=ae h_13
      exact cu
    ·refine aC rfl hc_18 wz (af (af (aa (vB false) (aa (vB false) (af (af (aa (vB false) (aa (vB false) (af (aa (vB false) (aa (vB false) (ah ?_))))))))))))
     obtain rfl:=ae h_13
     exact cu
   ·refine aC rfl hc_17 wz (af (af (af (aa (vB false) (aa (vB false) (af (af (aa (vB false) (aa (vB false) (af (af (aa (vB false) (aa (vB false) (af (aa (vB false) (aa (vB false) (ah ?_)))))))))))))))))
    obtain rfl:=ae h_13
    exact cu
  ·refine aC rfl hc_16 wz (af (af (aa (vB false) (aa (vB false) (af (af (af (aa (vB false) (aa (vB false) (af (af (aa (vB false) (aa (vB false) (af (af (aa (vB false) (aa (vB false) (af (aa (vB false) (aa (vB false) (ah ?_)))))))))))))))))))))
   obtain rfl:=ae h_13
   exact cu
 ·rintro ⟨⟩ _ sl_ H_ hp_ hq_
  refine aR _ hp_ hq_ ?_
  obtain rfl:=ae hF
  exact ay (aM [(vB v_12)] ⟨rfl,trivial⟩)
theorem u7 {l_1:(List Int)} {r:Bool} (hF:jY l_1=some r) :
  FnM Tryz.prog 3 [(vL eI l_1)] [] (vB r) []:=by
 refine FnM.of_wH ⟨Tryz.prog,143,[],[]⟩ rfl Tryz.func3 rfl rfl (lb_ rfl) (by kernel_rfl) ?_
 unfold jY at hF
 refine ai (aa (vB false) (ah (ai (aa (vL eI l_1) (aJ (.d (.agg (Stream.enc (⟨l_1,0⟩:Stream)))) wz (by kernel_rfl) (fJ 0 (.inl rfl) [(vL eI l_1),(vI 0)] rfl rfl wz (λn_2=>aa (.ref n_2 0 0) (ah (ai (aa (.ref n_2 0 0) ?_))))))))))
 obtain ⟨r_3,hr_4,hF⟩:=bind_some hF
 refine iq 0 [0] il ft (tN hr_4) rfl hb4 rfl (by kernel_rfl) (by kernel_rfl) (by kernel_rfl) (by kernel_rfl) (by kernel_rfl) (by kernel_rfl) (by kernel_rfl) (by decide) (by kernel_rfl) wz (vL Log_.enc r_3.1) (by kernel_rfl) ([(n_2,some (.cells 2 [(vL eI r_3.2.L),(vI r_3.2.f_at)]))]:Hp) (by kernel_rfl) (aa (.ref n_2 0 0) ?_)
 obtain ⟨r_6,hr_7,hF⟩:=bind_some hF
 refine iq 0 [0] il ft (sM hr_7) rfl hb5 rfl (by kernel_rfl) (by kernel_rfl) (by kernel_rfl) (by kernel_rfl) (by kernel_rfl) (by kernel_rfl) (by kernel_rfl) (by decide) (by kernel_rfl) wz (vL Beat.enc r_6.1) (by kernel_rfl) ([(n_2,some (.cells 2 [(vL eI r_6.2.L),(vI r_6.2.f_at)]))]:Hp) (by kernel_rfl) (aa (vL Log_.enc r_3.1) (aa (vL Beat.enc r_6.1) (ah (ai (aa (vL Log_.enc r_3.1) (aa (vL Beat.enc r_6.1) ?_))))))
 obtain ⟨r_9,hr_10,hF⟩:=bind_some hF
 refine aB (Cw hr_10) rfl hb6 rfl rfl rfl rfl wz (aa (.tup [(vL Play.enc r_9.1),(vL eI r_9.2.1),(vI r_9.2.2)]) (aa (vL Play.enc r_9.1) (aa (vL eI r_9.2.1) (aa (vI r_9.2.2) (aa (vL Play.enc r_9.1) (aa (vL eI r_9.2.1) (aa (vI r_9.2.2) (ah (ak (ak ?_))))))))))
 obtain ⟨v_11,h_12,hF⟩:=bind_some hF
 refine aS [(3,(.ref n_2 0 0)),(6,(vL Play.enc r_9.1)),(49,(vB v_11))] [(n_2,some (.cells 2 [(vL eI r_6.2.L),(vI r_6.2.f_at)]))] ?_ ?_
 ·refine au (aa (vI r_9.2.2) (aa (vB (r_9.2.2 != 0)) ?_))
  rcases aj h_12 with⟨hc_13,h_12⟩|⟨hc_13,h_12⟩
  ·refine aC rfl hc_13 wz (af (af (af (af (af (af (af (af (aa (vB true) (aa (vB true) (af (af (af (aa (vB true) (ah ?_)))))))))))))))
   obtain rfl:=ae h_12
   exact cu
  ·refine aC rfl hc_13 wz (aJ (vL Play.enc r_9.1) wa rfl (bN Ko rfl wa (aJ (vL eI r_9.2.1) wa rfl (bN vk rfl wa (aJ (vI (w64 ((r_9.1.length:Int)+(r_9.2.1.length:Int)))) wa rfl (aJ (vL Log_.enc r_3.1) wa rfl (bN Pb rfl wa (aJ (vB ((w64 ((r_9.1.length:Int)+(r_9.2.1.length:Int))) != (r_3.1.length:Int))) wa rfl (aa (vB ((w64 ((r_9.1.length:Int)+(r_9.2.1.length:Int))) != (r_3.1.length:Int))) ?_)))))))))
   rcases aj h_12 with⟨hc_14,h_12⟩|⟨hc_14,h_12⟩
   ·refine aC rfl hc_14 wz (af (af (af (aa (vB true) (ah ?_)))))
    obtain rfl:=ae h_12
    exact cu
   ·refine aC rfl hc_14 wz (aJ (vL Play.enc r_9.1) wa rfl ?_)
    obtain ⟨r_15,hr_16,h_12⟩:=bind_some h_12
    refine aB (qo hr_16) rfl hb7 rfl rfl rfl rfl wa (aJ (vB (r_15 != 0)) wa rfl (aa (vB (r_15 != 0)) (ah ?_)))
    obtain rfl:=ae h_12
    exact cu
 ·rintro ⟨⟩ _ sl_ H_ hp_ hq_
  refine aR _ hp_ hq_ ?_
  rcases aj hF with⟨hc_17,hF⟩|⟨hc_17,hF⟩
  ·refine aA rfl hc_17 (ai (aa (vB false) (ah ?_)))
   obtain rfl:=ae hF
   exact ay (aM [(vB false)] ⟨rfl,trivial⟩)
  ·refine ax rfl hc_17 (av (ak (ai (aa (vL Play.enc r_9.1) (bN Ko rfl wz (aa (vI 0) (ah ?_)))))))
   obtain ⟨o_26,hj_27,hF⟩:=bind_some hF
   obtain ⟨hn_22,hj_27⟩:=bv hj_27
   refine bW (λ(s_23:Unit)=>[(3,(.ref n_2 0 0)),(6,(vL Play.enc r_9.1))]) (λ(s_23:Unit)=>[(n_2,some (.cells 2 [(vL eI r_6.2.L),(vI r_6.2.f_at)]))]) (λ(k_18:Nat)=>(λ(s_23:Unit)=>[(3,(.ref n_2 0 0)),(6,(vL Play.enc r_9.1)),(51,(vI (r_9.1.length:Int))),(52,(vI (k_18:Int)))])) (λk x s=>eO r_9 k x s) o_26 r_9.1 () hj_27 rfl (aK rfl) ?_ ?_
   ·rintro ⟨k_18,l_19,s_23⟩ ⟨hL_25,hD_21⟩
    dsimp only at hL_25 hD_21
    cases l_19 with
    | nil =>
     obtain rfl:=ae hL_25
     refine ai (aa (vB (decide ((k_18:Int)<(r_9.1.length:Int)))) (ah ?_))
     refine ak (ax rfl (drop_nil hD_21) (bf ?_))
     exact aY (s_23) rfl rfl (aK rfl)
    | cons x_20 l_19 =>
     obtain ⟨c_,hc_24,hL_25⟩:=bind_some hL_25
     refine ai (aa (vB (decide ((k_18:Int)<(r_9.1.length:Int)))) (ah ?_))
     refine ak (aA rfl (bA hD_21) (av ?_))
     unfold eO at hc_24
     refine ak (aQ (ai (aa (vI (k_18:Int)) (aa (vI (k_18:Int)) (ah (ak ?_))))))
     obtain ⟨v_28,h_29,hc_24⟩:=bind_some hc_24
     refine aS [(3,(.ref n_2 0 0)),(6,(vL Play.enc r_9.1)),(51,(vI (r_9.1.length:Int))),(52,(vI (k_18:Int))),(91,(vB v_28))] [(n_2,some (.cells 2 [(vL eI r_6.2.L),(vI r_6.2.f_at)]))] ?_ ?_
     ·refine bC (aa (vI (k_18:Int)) (aa (vB (decide ((k_18:Int)>0))) ?_))
      rcases aj h_29 with⟨hc_30,h_29⟩|⟨hc_30,h_29⟩
      ·refine aC rfl hc_30 wz (aJ (vL Play.enc r_9.1) wa rfl (aJ (vI (k_18:Int)) wa rfl (dB EB rfl rfl (bK hD_21) rfl wa (kv zI rfl [.str x_20.Player,.str x_20.Item,.int .i64 x_20.At,.int .i64 x_20.Long] rfl rfl wa (bH sz9 ag9 rfl (vS x_20.Player) rfl wa (aJ (vL Play.enc r_9.1) wa rfl (aJ (vI (k_18:Int)) wa rfl (aJ (vI (w64 ((k_18:Int)-1))) wa rfl ?_))))))))
       obtain ⟨y_31,hy_32,h_29⟩:=bind_some h_29
       refine dB EB rfl rfl hy_32 rfl wa (kv zI rfl [.str y_31.Player,.str y_31.Item,.int .i64 y_31.At,.int .i64 y_31.Long] rfl rfl wa (bH sz9 ag9 rfl (vS y_31.Player) rfl wa (aJ (vB (sEq x_20.Player y_31.Player)) wa rfl (aa (vB (sEq x_20.Player y_31.Player)) ?_))))
       rcases aj h_29 with⟨hc_33,h_29⟩|⟨hc_33,h_29⟩
       ·refine aC rfl hc_33 wz (aJ (vL Play.enc r_9.1) wa rfl (aJ (vI (k_18:Int)) wa rfl (dB EB rfl rfl (bK hD_21) rfl wa (kv Av rfl [.int .i64 x_20.At,.int .i64 x_20.Long] rfl rfl wa (bH sz3 ag3 rfl (vI x_20.At) rfl wa (aJ (vL Play.enc r_9.1) wa rfl (aJ (vI (k_18:Int)) wa rfl (aJ (vI (w64 ((k_18:Int)-1))) wa rfl ?_))))))))
        obtain ⟨y_34,hy_35,h_29⟩:=bind_some h_29
        refine dB EB rfl rfl hy_35 rfl wa (kv Av rfl [.int .i64 y_34.At,.int .i64 y_34.Long] rfl rfl wa (bH sz3 ag3 rfl (vI y_34.At) rfl wa (aJ (vL Play.enc r_9.1) wa rfl (aJ (vI (k_18:Int)) wa rfl (aJ (vI (w64 ((k_18:Int)-1))) wa rfl ?_)))))
        obtain ⟨y_36,hy_37,h_29⟩:=bind_some h_29
        refine dB EB rfl rfl hy_37 rfl wa (kv Gr rfl [.int .i64 y_36.Long] rfl rfl wa (bH sz3 ag3 rfl (vI y_36.Long) rfl wa (aJ (vI (w64 (y_34.At+y_36.Long))) wa rfl (aJ (vB (decide (x_20.At<(w64 (y_34.At+y_36.Long))))) wa rfl (aa (vB (decide (x_20.At<(w64 (y_34.At+y_36.Long))))) (ah ?_))))))
        obtain rfl:=ae h_29
        exact cu
       ·refine aC rfl hc_33 wz (af (af (af (af (af (af (af (af (af (af (af (af (af (af (af (af (af (af (af (aa (vB false) (ah ?_)))))))))))))))))))))
        obtain rfl:=ae h_29
        exact cu
      ·refine aC rfl hc_30 wz (af (af (af (af (af (af (af (af (af (af (af (af (aa (vB false) (aa (vB false) (af (af (af (af (af (af (af (af (af ?_)))))))))))))))))))))))
       refine af (af (af (af (af (af (af (af (af (af (aa (vB false) (ah ?_)))))))))))
       obtain rfl:=ae h_29
       exact cu
     ·rintro ⟨⟩ _ sl_ H_ hp_ hq_
      refine aR _ hp_ hq_ ?_
      rcases aj hc_24 with⟨hc_38,hc_24⟩|⟨hc_38,hc_24⟩
      ·refine aA rfl hc_38 (ai (aa (vB false) (ah ?_)))
       obtain rfl:=ae hc_24
       obtain rfl:=ae hL_25
       obtain rfl:=ae hF
       exact ay (aM [(vB false)] ⟨rfl,trivial⟩)
      ·refine ax rfl hc_38 (av (au (fw (bE hD_21 hn_22) wz rfl (aa (vI ((k_18+1:Nat):Int)) (ah ?_)))))
       obtain rfl:=ae hc_24
       exact aZ (k_18+1,l_19,()) ⟨hL_25,aX hD_21⟩ (ls_ _) rfl (aK rfl)
   ·rintro s_23 ho_ sl_ H_ hp_ hq_
    subst ho_
    refine aR _ hp_ hq_ (ai (aa (vL Play.enc r_9.1) (aa (.ref n_2 0 0) (fq (([0,60]:List Int).map eI) mQ x9 rfl rfl rfl rfl rfl wz ?_))))
    obtain ⟨r_39,hr_40,hF⟩:=bind_some hF
    refine iq 0 [0] il ft (gW hr_40) rfl hb9 rfl (by kernel_rfl) (by kernel_rfl) (by kernel_rfl) (by kernel_rfl) (by kernel_rfl) (by kernel_rfl) (by kernel_rfl) (by decide) (by kernel_rfl) wz (vI r_39.1) (by kernel_rfl) ([(n_2,some (.cells 2 [(vL eI r_39.2.L),(vI r_39.2.f_at)]))]:Hp) (by kernel_rfl) ?_
    obtain ⟨r_42,hr_43,hF⟩:=bind_some hF
    refine aB (Bt hr_43) rfl hb8 rfl rfl rfl rfl wz (aa (.tup [(vL Tally.enc r_42.1),(vI r_42.2)]) (aa (vL Tally.enc r_42.1) (aa (vI r_42.2) (aa (vL Tally.enc r_42.1) (aa (vI r_42.2) (ah (ai (aa (vI 0) (aa (vI 0) (aa (vI 0) (ah (ak (ai (aa (vL Tally.enc r_42.1) (bN un37 rfl wz (aa (vI 0) (ah ?_)))))))))))))))))
    obtain ⟨o_52,hj_53,hF⟩:=bind_some hF
    obtain ⟨hn_48,hj_53⟩:=bv hj_53
    refine bW (λ(s_49:Int×Int)=>[(6,(vL Play.enc r_9.1)),(11,(vI r_42.2)),(12,(vI s_49.1)),(13,(vI s_49.2)),(14,(vI 0))]) (λ(s_49:Int×Int)=>[(n_2,some (.cells 2 [(vL eI r_39.2.L),(vI r_39.2.f_at)]))]) (λ(k_44:Nat)=>(λ(s_49:Int×Int)=>[(6,(vL Play.enc r_9.1)),(11,(vI r_42.2)),(12,(vI s_49.1)),(13,(vI s_49.2)),(14,(vI 0)),(101,(vL Tally.enc r_42.1)),(102,(vI (r_42.1.length:Int))),(103,(vI (k_44:Int)))])) (λk x s=>eH k x s) o_52 r_42.1 (0,0) hj_53 rfl (aK rfl) ?_ ?_
    ·rintro ⟨k_44,l_45,s_49⟩ ⟨hL_51,hD_47⟩
     dsimp only at hL_51 hD_47
     cases l_45 with
     | nil =>
      obtain rfl:=ae hL_51
      refine ai (aa (vB (decide ((k_44:Int)<(r_42.1.length:Int)))) (ah ?_))
      refine ak (ax rfl (drop_nil hD_47) (bf ?_))
      exact aY (s_49) rfl rfl (aK rfl)
     | cons x_46 l_45 =>
      obtain ⟨c_,hc_50,hL_51⟩:=bind_some hL_51
      refine ai (aa (vB (decide ((k_44:Int)<(r_42.1.length:Int)))) (ah ?_))
      refine ak (aA rfl (bA hD_47) (av ?_))
      unfold eH at hc_50
      refine ak (aQ (ai (dB es37 rfl rfl (bK hD_47) rfl wz (bH Ca J9 rfl (.d (.agg (Tally.enc x_46))) rfl wz (di 0 (.inl rfl) z42 rfl wz (λn_54=>gu 0 il ft 1 Ca rfl rfl (Tally.v x_46) rfl wz (ah (ai (aa (vI s_49.1) (aH Kw rfl 3 rfl wz (aG 0 1 il ft sz3 ag3 rfl rfl (vI x_46.Many) rfl wz (aa (vI (w64 (s_49.1+x_46.Many))) (aa (vI (w64 (s_49.1+x_46.Many))) (ah (au (aa (vI s_49.2) (aH JA rfl 4 rfl wz (aG 0 1 il ft sz3 ag3 rfl rfl (vI x_46.Long) rfl wz (aa (vI (w64 (s_49.2+x_46.Long))) (aa (vI (w64 (s_49.2+x_46.Long))) (ah (au (fw (bE hD_47 hn_48) wz rfl ?_)))))))))))))))))))))))
      refine aa (vI ((k_44+1:Nat):Int)) (ah ?_)
      obtain rfl:=ae hc_50
      exact aZ (k_44+1,l_45,((w64 (s_49.1+x_46.Many)),(w64 (s_49.2+x_46.Long)))) ⟨hL_51,aX hD_47⟩ (ls_ _) rfl (aK rfl)
    ·rintro s_49 ho_ sl_ H_ hp_ hq_
     subst ho_
     refine aR _ hp_ hq_ (ak (ai (aa (vL Play.enc r_9.1) (bN Ko rfl wz (aa (vI 0) (ah ?_))))))
     obtain ⟨o_63,hj_64,hF⟩:=bind_some hF
     obtain ⟨hn_59,hj_64⟩:=bv hj_64
     refine bW (λ(s_60:Int)=>[(6,(vL Play.enc r_9.1)),(11,(vI r_42.2)),(12,(vI s_49.1)),(13,(vI s_49.2)),(14,(vI s_60))]) (λ(s_60:Int)=>[(n_2,some (.cells 2 [(vL eI r_39.2.L),(vI r_39.2.f_at)]))]) (λ(k_55:Nat)=>(λ(s_60:Int)=>[(6,(vL Play.enc r_9.1)),(11,(vI r_42.2)),(12,(vI s_49.1)),(13,(vI s_49.2)),(14,(vI s_60)),(116,(vL Play.enc r_9.1)),(117,(vI (r_9.1.length:Int))),(118,(vI (k_55:Int)))])) (λk x s=>eG k x s) o_63 r_9.1 0 hj_64 rfl (aK rfl) ?_ ?_
     ·rintro ⟨k_55,l_56,s_60⟩ ⟨hL_62,hD_58⟩
      dsimp only at hL_62 hD_58
      cases l_56 with
      | nil =>
       obtain rfl:=ae hL_62
       refine ai (aa (vB (decide ((k_55:Int)<(r_9.1.length:Int)))) (ah ?_))
       refine ak (ax rfl (drop_nil hD_58) (bf ?_))
       exact aY (s_60) rfl rfl (aK rfl)
      | cons x_57 l_56 =>
       obtain ⟨c_,hc_61,hL_62⟩:=bind_some hL_62
       refine ai (aa (vB (decide ((k_55:Int)<(r_9.1.length:Int)))) (ah ?_))
       refine ak (aA rfl (bA hD_58) (av ?_))
       unfold eG at hc_61
       refine ak (aQ (ai (dB EB rfl rfl (bK hD_58) rfl wz (bH Hm N8 rfl (.d (.agg (Play.enc x_57))) rfl wz (di 0 (.inl rfl) z36 rfl wz (λn_65=>gu 0 il ft 1 Hm rfl rfl (Play.v x_57) rfl wz (ah (au (aa (vI s_60) (aH Gr rfl 3 rfl wz (aG 0 1 il ft sz3 ag3 rfl rfl (vI x_57.Long) rfl wz (aa (vI (w64 (s_60+x_57.Long))) (aa (vI (w64 (s_60+x_57.Long))) (ah (au (fw (bE hD_58 hn_59) wz rfl (aa (vI ((k_55+1:Nat):Int)) (ah ?_))))))))))))))))))
       obtain rfl:=ae hc_61
       exact aZ (k_55+1,l_56,(w64 (s_60+x_57.Long))) ⟨hL_62,aX hD_58⟩ (ls_ _) rfl (aK rfl)
     ·rintro s_60 ho_ sl_ H_ hp_ hq_
      subst ho_
      refine aR _ hp_ hq_ (ak ?_)
      obtain ⟨v_66,h_67,hF⟩:=bind_some hF
      refine aS [(2,(vB v_66))] [(n_2,some (.cells 2 [(vL eI r_39.2.L),(vI r_39.2.f_at)]))] ?_ ?_
      ·refine au (aa (vI r_42.2) (aa (vB (r_42.2==0)) ?_))
       rcases aj h_67 with⟨hc_68,h_67⟩|⟨hc_68,h_67⟩
       ·refine aC rfl hc_68 wz (aJ (vI s_49.1) wa rfl (aJ (vL Play.enc r_9.1) wa rfl (bN Ko rfl wa (aJ (vB (s_49.1==(r_9.1.length:Int))) wa rfl (aa (vB (s_49.1==(r_9.1.length:Int))) ?_)))))
        rcases aj h_67 with⟨hc_69,h_67⟩|⟨hc_69,h_67⟩
        ·refine aC rfl hc_69 wz (aJ (vI s_49.2) wa rfl (aJ (vI s_60) wa rfl (aJ (vB (s_49.2==s_60)) wa rfl (aa (vB (s_49.2==s_60)) ?_))))
         rcases aj h_67 with⟨hc_70,h_67⟩|⟨hc_70,h_67⟩
         ·refine aC rfl hc_70 wz ?_
          obtain ⟨r_71,hr_72,h_67⟩:=bind_some h_67
          refine aB (EA hr_72) rfl hb10 rfl rfl rfl rfl wa (aa (vB r_71) (aa (vB r_71) (ah ?_)))
          obtain rfl:=ae h_67
          exact cu
         ·refine aC rfl hc_70 wz (af (aa (vB false) (aa (vB false) (ah ?_))))
          obtain rfl:=ae h_67
          exact cu
        ·refine aC rfl hc_69 wz (af (af (af (aa (vB false) (aa (vB false) (af (aa (vB false) (aa (vB false) (ah ?_)))))))))
         obtain rfl:=ae h_67
         exact cu
       ·refine aC rfl hc_68 wz (af (af (af (af (aa (vB false) (aa (vB false) (af (af (af (aa (vB false) (aa (vB false) (af (aa (vB false) (aa (vB false) (ah ?_)))))))))))))))
        obtain rfl:=ae h_67
        exact cu
      ·rintro ⟨⟩ _ sl_ H_ hp_ hq_
       refine aR _ hp_ hq_ ?_
       obtain rfl:=ae hF
       exact ay (aM [(vB v_66)] ⟨rfl,trivial⟩)
end Go.Proofs.YtnfojnnfidnikaaGreatDoor.Law

