/-
 The machine computes these plain functions (written by a program of ours).
-/
import Derived.Test.YtnfojnnfidnikaaGreatDoorFacts
import Derived.Test.YtnfojnnfidnikaaGreatDoorDefs
import Derived.Test.YtnfojnnfidnikaaGreatDoorPf3
import Derived.Test.YtnfojnnfidnikaaGreatDoorShelf
open Go Go.Eng Go.Proofs
namespace Go.Proofs.YtnfojnnfidnikaaGreatDoor.Law
set_option maxRecDepth 100000
set_option linter.unusedVariables false
set_option maxHeartbeats 1000000
theorem uu {e_1:Entry} {r:Int} (hF:ik e_1=some r) :
  FnM Tryz.prog 93 [(.d (.agg (Entry.enc e_1)))] [] (vI r) []:=by
 refine FnM.of_wH ⟨Tryz.prog,61,[],[]⟩ rfl Tryz.func93 rfl rfl (lb_ rfl) (by kernel_rfl) ?_
 unfold ik at hF
 refine ai (fJ 0 (.inl rfl) (Entry.v e_1) rfl rfl wz (λn_2=>aa (vI 0) (ah (ak (ak ?_)))))
 obtain ⟨v_3,h_4,hF⟩:=bind_some hF
 refine aS [(1,(.ref n_2 0 0)),(13,(vB v_3))] [(n_2,some (.cells 13 (Entry.v e_1)))] ?_ ?_
 ·refine au (aH J8 rfl 0 rfl wz (aG 0 0 il ft sz9 ag9 rfl rfl (vS e_1.Key) rfl wz ?_))
  obtain ⟨r_5,hr_6,h_4⟩:=bind_some h_4
  refine aB (dx hr_6) rfl yw rfl rfl rfl rfl wz (aa (vB (!r_5)) ?_)
  rcases aj h_4 with⟨hc_7,h_4⟩|⟨hc_7,h_4⟩
  ·refine aC rfl hc_7 wz (af (af (af (af (aa (vB true) (ah ?_))))))
   obtain rfl:=ae h_4
   exact cu
  ·refine aC rfl hc_7 wz (aH pl80_1 rfl 1 rfl wa (aG 0 0 il ft sz9 ag9 rfl rfl (vS e_1.Item) rfl wa ?_))
   obtain ⟨r_8,hr_9,h_4⟩:=bind_some h_4
   refine aB (dx hr_9) rfl yw rfl rfl rfl rfl wa (aJ (vB (!r_8)) wa rfl (aa (vB (!r_8)) (ah ?_)))
   obtain rfl:=ae h_4
   exact cu
 ·rintro ⟨⟩ _ sl_ H_ hp_ hq_
  refine aR _ hp_ hq_ ?_
  rcases aj hF with⟨hc_10,hF⟩|⟨hc_10,hF⟩
  ·refine aA rfl hc_10 (ai (aa (vI 5) (ah ?_)))
   obtain rfl:=ae hF
   exact ay (aM [(vI 5)] ⟨rfl,trivial⟩)
  ·refine ax rfl hc_10 (av (ak (ak ?_)))
   obtain ⟨v_11,h_12,hF⟩:=bind_some hF
   refine aS [(1,(.ref n_2 0 0)),(38,(vB v_11))] [(n_2,some (.cells 13 (Entry.v e_1)))] ?_ ?_
   ·refine au (aH pl80_2 rfl 2 rfl wz (aG 0 0 il ft sz3 ag3 rfl rfl (vI e_1.Version) rfl wz ?_))
    obtain ⟨r_13,hr_14,h_12⟩:=bind_some h_12
    refine aB (aV hr_14) rfl nZ rfl rfl rfl rfl wz ?_
    rcases aj h_12 with⟨hc_15,h_12⟩|⟨hc_15,h_12⟩
    ·refine aC rfl hc_15 wz (af (af (af (af (af (aa (vB true) (aa (vB true) (af (af (af (aa (vB true) (aa (vB true) (af (af (af (aa (vB true) (aa (vB true) (af (af (af (aa (vB true) (ah ?_))))))))))))))))))))))
     obtain rfl:=ae h_12
     exact cu
    ·refine aC rfl hc_15 wz (aH G6 rfl 3 rfl wa (aG 0 0 il ft sz3 ag3 rfl rfl (vI e_1.First) rfl wa (aH G5 rfl 4 rfl wa (aG 0 0 il ft sz3 ag3 rfl rfl (vI e_1.Last) rfl wa ?_))))
     obtain ⟨r_16,hr_17,h_12⟩:=bind_some h_12
     refine aB (aV hr_17) rfl nZ rfl rfl rfl rfl wa (aa (vB r_16) ?_)
     rcases aj h_12 with⟨hc_18,h_12⟩|⟨hc_18,h_12⟩
     ·refine aC rfl hc_18 wz (af (af (af (aa (vB true) (aa (vB true) (af (af (af (aa (vB true) (aa (vB true) (af (af (af (aa (vB true) (ah ?_)))))))))))))))
      obtain rfl:=ae h_12
      exact cu
     ·refine aC rfl hc_18 wz (aH G5 rfl 4 rfl wa (aG 0 0 il ft sz3 ag3 rfl rfl (vI e_1.Last) rfl wa (aJ (vB (decide (e_1.Last>4000))) wa rfl (aa (vB (decide (e_1.Last>4000))) ?_))))
      rcases aj h_12 with⟨hc_19,h_12⟩|⟨hc_19,h_12⟩
      ·refine aC rfl hc_19 wz (af (af (af (aa (vB true) (aa (vB true) (af (af (af (aa (vB true) (ah ?_))))))))))
       obtain rfl:=ae h_12
       exact cu
      ·refine aC rfl hc_19 wz (aH O0 rfl 5 rfl wa (aG 0 0 il ft sz3 ag3 rfl rfl (vI e_1.Every) rfl wa ?_))
       obtain ⟨r_20,hr_21,h_12⟩:=bind_some h_12
       refine aB (aV hr_21) rfl nZ rfl rfl rfl rfl wa (aa (vB r_20) ?_)
       rcases aj h_12 with⟨hc_22,h_12⟩|⟨hc_22,h_12⟩
       ·refine aC rfl hc_22 wz (af (af (af (aa (vB true) (ah ?_)))))
        obtain rfl:=ae h_12
        exact cu
       ·refine aC rfl hc_22 wz (aH PO rfl 6 rfl wa (aG 0 0 il ft sz3 ag3 rfl rfl (vI e_1.Days) rfl wa ?_))
        obtain ⟨r_23,hr_24,h_12⟩:=bind_some h_12
        refine aB (aV hr_24) rfl nZ rfl rfl rfl rfl wa (aa (vB r_23) (ah ?_))
        obtain rfl:=ae h_12
        exact cu
   ·rintro ⟨⟩ _ sl_ H_ hp_ hq_
    refine aR _ hp_ hq_ ?_
    rcases aj hF with⟨hc_25,hF⟩|⟨hc_25,hF⟩
    ·refine aA rfl hc_25 (ai (aa (vI 1) (ah ?_)))
     obtain rfl:=ae hF
     exact ay (aM [(vI 1)] ⟨rfl,trivial⟩)
    ·refine ax rfl hc_25 (av (ak (ai (aH OP rfl 7 rfl wz (aG 0 0 il ft MG MN rfl rfl (vL eI e_1.Except) rfl wz ?_)))))
     obtain ⟨r_26,hr_27,hF⟩:=bind_some hF
     refine aB (tL hr_27) rfl hb124 rfl rfl rfl rfl wz (aa (vI r_26) (ah (ai (aa (vI r_26) (aa (vB (r_26 != 0)) (ah ?_))))))
     rcases aj hF with⟨hc_28,hF⟩|⟨hc_28,hF⟩
     ·refine aA rfl hc_28 (ai (aa (vI r_26) (aa (vI r_26) (ah ?_))))
      obtain rfl:=ae hF
      exact ay (aM [(vI r_26)] ⟨rfl,trivial⟩)
     ·refine ax rfl hc_28 (av (ak (ak ?_)))
      obtain ⟨v_29,h_30,hF⟩:=bind_some hF
      refine aS [(1,(.ref n_2 0 0)),(57,(vB v_29))] [(n_2,some (.cells 13 (Entry.v e_1)))] ?_ ?_
      ·refine au (aH JS rfl 8 rfl wz (aG 0 0 il ft sz3 ag3 rfl rfl (vI e_1.From) rfl wz ?_))
       obtain ⟨r_31,hr_32,h_30⟩:=bind_some h_30
       refine aB (aV hr_32) rfl nZ rfl rfl rfl rfl wz ?_
       rcases aj h_30 with⟨hc_33,h_30⟩|⟨hc_33,h_30⟩
       ·refine aC rfl hc_33 wz (af (af (af (aa (vB true) (aa (vB true) (af (af (af (aa (vB true) (ah ?_))))))))))
        obtain rfl:=ae h_30
        exact cu
       ·refine aC rfl hc_33 wz (aH NP rfl 9 rfl wa (aG 0 0 il ft sz3 ag3 rfl rfl (vI e_1.To) rfl wa ?_))
        obtain ⟨r_34,hr_35,h_30⟩:=bind_some h_30
        refine aB (aV hr_35) rfl nZ rfl rfl rfl rfl wa (aa (vB r_34) ?_)
        rcases aj h_30 with⟨hc_36,h_30⟩|⟨hc_36,h_30⟩
        ·refine aC rfl hc_36 wz (af (af (af (aa (vB true) (ah ?_)))))
         obtain rfl:=ae h_30
         exact cu
        ·refine aC rfl hc_36 wz (aH pl80_10 rfl 10 rfl wa (aG 0 0 il ft sz3 ag3 rfl rfl (vI e_1.Prio) rfl wa ?_))
         obtain ⟨r_37,hr_38,h_30⟩:=bind_some h_30
         refine aB (aV hr_38) rfl nZ rfl rfl rfl rfl wa (aa (vB r_37) (ah ?_))
         obtain rfl:=ae h_30
         exact cu
      ·rintro ⟨⟩ _ sl_ H_ hp_ hq_
       refine aR _ hp_ hq_ ?_
       rcases aj hF with⟨hc_39,hF⟩|⟨hc_39,hF⟩
       ·refine aA rfl hc_39 (ai (aa (vI 1) (ah ?_)))
        obtain rfl:=ae hF
        exact ay (aM [(vI 1)] ⟨rfl,trivial⟩)
       ·refine ax rfl hc_39 (av (ai (aH pl80_11 rfl 11 rfl wz (aG 0 0 il ft MR Nk rfl rfl (vL eS e_1.Tags) rfl wz ?_))))
        obtain ⟨r_40,hr_41,hF⟩:=bind_some hF
        refine aB (uZ hr_41) rfl hb125 rfl rfl rfl rfl wz (aa (vI r_40) (ah ?_))
        obtain rfl:=ae hF
        exact ay (aM [(vI r_40)] ⟨rfl,trivial⟩)
theorem sD {l_1:(List Entry)} {r:Int} (hF:fU l_1=some r) :
  FnM Tryz.prog 55 [(vL Entry.enc l_1)] [] (vI r) []:=by
 refine FnM.of_wH ⟨Tryz.prog,35,[],[]⟩ rfl Tryz.func55 rfl rfl (lb_ rfl) (by kernel_rfl) ?_
 unfold fU at hF
 refine ai (aa (vI 0) (ah (ak (ai (aa (vL Entry.enc l_1) (bN un112 rfl wz (aa (vB (decide ((l_1.length:Int)>200))) (ah ?_))))))))
 rcases aj hF with⟨hc_2,hF⟩|⟨hc_2,hF⟩
 ·refine aA rfl hc_2 (ai (aa (vI 2) (ah ?_)))
  obtain rfl:=ae hF
  exact ay (aM [(vI 2)] ⟨rfl,trivial⟩)
 ·refine ax rfl hc_2 (av (ak (ai (aa (vL Entry.enc l_1) (bN un112 rfl wz (aa (vI 0) (ah ?_)))))))
  obtain ⟨o_11,hj_12,hF⟩:=bind_some hF
  obtain ⟨hn_7,hj_12⟩:=bv hj_12
  refine bW (λ(s_8:Unit)=>[]) (λ(s_8:Unit)=>[]) (λ(k_3:Nat)=>(λ(s_8:Unit)=>[(0,(vL Entry.enc l_1)),(9,(vL Entry.enc l_1)),(10,(vI (l_1.length:Int))),(11,(vI (k_3:Int)))])) (λk x s=>eU l_1 k x s) o_11 l_1 () hj_12 rfl (aK rfl) ?_ ?_
  ·rintro ⟨k_3,l_4,s_8⟩ ⟨hL_10,hD_6⟩
   dsimp only at hL_10 hD_6
   cases l_4 with
   | nil =>
    obtain rfl:=ae hL_10
    refine ai (aa (vB (decide ((k_3:Int)<(l_1.length:Int)))) (ah ?_))
    refine ak (ax rfl (drop_nil hD_6) (bf ?_))
    exact aY (s_8) rfl rfl (aK rfl)
   | cons x_5 l_4 =>
    obtain ⟨c_,hc_9,hL_10⟩:=bind_some hL_10
    refine ai (aa (vB (decide ((k_3:Int)<(l_1.length:Int)))) (ah ?_))
    refine ak (aA rfl (bA hD_6) (av ?_))
    unfold eU at hc_9
    refine ak (aQ (ai (aa (vI (k_3:Int)) (dB PR rfl rfl (bK hD_6) rfl wz (bH Ku Mt rfl (.d (.agg (Entry.enc x_5))) rfl wz (di 0 (.inl rfl) z80 rfl wz (λn_13=>aa (vI (k_3:Int)) (gu 0 il ft 0 Ku rfl rfl (Entry.v x_5) rfl wz (ah (ak (ai (aG 0 0 il ft Ku Mt rfl rfl (.d (.agg (Entry.enc x_5))) rfl wz ?_))))))))))))
    obtain ⟨r_14,hr_15,hc_9⟩:=bind_some hc_9
    refine aB (uu hr_15) rfl hb93 rfl rfl rfl rfl wz (aa (vI r_14) (ah (ai (aa (vI r_14) (aa (vB (r_14 != 0)) (ah ?_))))))
    rcases aj hc_9 with⟨hc_16,hc_9⟩|⟨hc_16,hc_9⟩
    ·refine aA rfl hc_16 (ai (aa (vI r_14) (aa (vI r_14) (ah ?_))))
     obtain rfl:=ae hc_9
     obtain rfl:=ae hL_10
     obtain rfl:=ae hF
     exact ay (aM [(vI r_14)] ⟨rfl,trivial⟩)
    ·refine ax rfl hc_16 (av (ak ?_))
     obtain ⟨v_17,h_18,hc_9⟩:=bind_some hc_9
     refine aS [(0,(vL Entry.enc l_1)),(9,(vL Entry.enc l_1)),(10,(vI (l_1.length:Int))),(11,(vI (k_3:Int))),(33,(vB v_17))] [(n_13,some (.cells 13 (Entry.v x_5)))] ?_ ?_
     ·refine bC (aa (vI (k_3:Int)) (aa (vB (decide ((k_3:Int)>0))) ?_))
      rcases aj h_18 with⟨hc_19,h_18⟩|⟨hc_19,h_18⟩
      ·refine aC rfl hc_19 wz (aH J8 rfl 0 rfl wa (aG 4 0 (.inr (by kernel_rfl)) (λ_ _ ag=>trivial) sz9 ag9 rfl rfl (vS x_5.Key) rfl wa (aJ (vL Entry.enc l_1) wa rfl (aJ (vI (k_3:Int)) wa rfl (aJ (vI (w64 ((k_3:Int)-1))) wa rfl ?_)))))
       obtain ⟨y_20,hy_21,h_18⟩:=bind_some h_18
       refine dB PR rfl rfl hy_21 rfl wa (kv J8 rfl (Entry.enc y_20) rfl rfl wa (bH sz9 ag9 rfl (vS y_20.Key) rfl wa (aJ (vB (sLe x_5.Key y_20.Key)) wa rfl (aa (vB (sLe x_5.Key y_20.Key)) (ah ?_)))))
       obtain rfl:=ae h_18
       exact cu
      ·refine aC rfl hc_19 wz (af (af (af (af (af (af (af (af (af (aa (vB false) (ah ?_)))))))))))
       obtain rfl:=ae h_18
       exact cu
     ·rintro ⟨⟩ _ sl_ H_ hp_ hq_
      refine aR _ hp_ hq_ ?_
      rcases aj hc_9 with⟨hc_22,hc_9⟩|⟨hc_22,hc_9⟩
      ·refine aA rfl hc_22 (ai (aa (vI 7) (ah ?_)))
       obtain rfl:=ae hc_9
       obtain rfl:=ae hL_10
       obtain rfl:=ae hF
       exact ay (aM [(vI 7)] ⟨rfl,trivial⟩)
      ·refine ax rfl hc_22 (av (au (fw (bE hD_6 hn_7) wz rfl (aa (vI ((k_3+1:Nat):Int)) (ah ?_)))))
       obtain rfl:=ae hc_9
       exact aZ (k_3+1,l_4,()) ⟨hL_10,aX hD_6⟩ (ls_ _) rfl (aK rfl)
  ·rintro s_8 ho_ sl_ H_ hp_ hq_
   subst ho_
   refine aR _ hp_ hq_ (ai (aa (vI 0) (ah ?_)))
   obtain rfl:=ae hF
   exact ay (aM [(vI 0)] ⟨rfl,trivial⟩)
theorem sK {wv_1:Window} {r:Int} (hF:jb wv_1=some r) :
  FnM Tryz.prog 56 [(.d (.agg (Window.enc wv_1)))] [] (vI r) []:=by
 refine FnM.of_wH ⟨Tryz.prog,19,[],[]⟩ rfl Tryz.func56 rfl rfl (lb_ rfl) (by kernel_rfl) ?_
 unfold jb at hF
 refine ai (fJ 0 (.inl rfl) [(vI wv_1.From),(vI wv_1.To)] rfl rfl wz (λn_2=>aa (vI 0) (ah (ak (ak ?_)))))
 obtain ⟨v_3,h_4,hF⟩:=bind_some hF
 refine aS [(1,(.ref n_2 0 0)),(12,(vB v_3))] [(n_2,some (.cells 2 [(vI wv_1.From),(vI wv_1.To)]))] ?_ ?_
 ·refine au (aH oo rfl 0 rfl wz (aG 0 0 il ft sz3 ag3 rfl rfl (vI wv_1.From) rfl wz (aH oq rfl 1 rfl wz (aG 0 0 il ft sz3 ag3 rfl rfl (vI wv_1.To) rfl wz ?_))))
  obtain ⟨r_5,hr_6,h_4⟩:=bind_some h_4
  refine aB (aV hr_6) rfl nZ rfl rfl rfl rfl wz ?_
  rcases aj h_4 with⟨hc_7,h_4⟩|⟨hc_7,h_4⟩
  ·refine aC rfl hc_7 wz (af (af (af (aa (vB true) (ah ?_)))))
   obtain rfl:=ae h_4
   exact cu
  ·refine aC rfl hc_7 wz (aH oq rfl 1 rfl wa (aG 0 0 il ft sz3 ag3 rfl rfl (vI wv_1.To) rfl wa (aJ (vB (decide (wv_1.To>345686400000))) wa rfl (aa (vB (decide (wv_1.To>345686400000))) (ah ?_)))))
   obtain rfl:=ae h_4
   exact cu
 ·rintro ⟨⟩ _ sl_ H_ hp_ hq_
  refine aR _ hp_ hq_ ?_
  rcases aj hF with⟨hc_8,hF⟩|⟨hc_8,hF⟩
  ·refine aA rfl hc_8 (ai (aa (vI 1) (ah ?_)))
   obtain rfl:=ae hF
   exact ay (aM [(vI 1)] ⟨rfl,trivial⟩)
  ·refine ax rfl hc_8 (av (ak (ai (aH oq rfl 1 rfl wz (aG 0 0 il ft sz3 ag3 rfl rfl (vI wv_1.To) rfl wz (aH oo rfl 0 rfl wz (aG 0 0 il ft sz3 ag3 rfl rfl (vI wv_1.From) rfl wz (aa (vI (w64 (wv_1.To-wv_1.From))) (aa (vB (decide ((w64 (wv_1.To-wv_1.From))>34560000000))) (ah ?_))))))))))
   rcases aj hF with⟨hc_9,hF⟩|⟨hc_9,hF⟩
   ·refine aA rfl hc_9 (ai (aa (vI 2) (ah ?_)))
    obtain rfl:=ae hF
    exact ay (aM [(vI 2)] ⟨rfl,trivial⟩)
   ·refine ax rfl hc_9 (av (ai (aa (vI 0) (ah ?_))))
    obtain rfl:=ae hF
    exact ay (aM [(vI 0)] ⟨rfl,trivial⟩)
theorem BA {x_1:Int} {y_2:Int} {r:Bool} (hF:cmp_Less_int x_1 y_2=some r) :
  FnM Tryz.prog 73 [(vI x_1),(vI y_2)] [] (vB r) []:=by
 refine FnM.of_wH ⟨Tryz.prog,17,[],[]⟩ rfl Tryz.func73 rfl rfl (lb_ rfl) (by kernel_rfl) ?_
 unfold cmp_Less_int at hF
 refine ai (aa (vB false) (ah (ak ?_)))
 obtain ⟨v_3,h_4,hF⟩:=bind_some hF
 refine aS [(4,(vB v_3))] [] ?_ ?_
 ·refine au (aa (vI x_1) ?_)
  obtain ⟨r_5,hr_6,h_4⟩:=bind_some h_4
  refine aB (lY hr_6) rfl hb50 rfl rfl rfl rfl wz ?_
  rcases aj h_4 with⟨hc_7,h_4⟩|⟨hc_7,h_4⟩
  ·refine aC rfl hc_7 wz (aJ (vI y_2) wa rfl ?_)
   obtain ⟨r_8,hr_9,h_4⟩:=bind_some h_4
   refine aB (lY hr_9) rfl hb50 rfl rfl rfl rfl wa (aJ (vB (!r_8)) wa rfl (aa (vB (!r_8)) ?_))
   rcases aj h_4 with⟨hc_10,h_4⟩|⟨hc_10,h_4⟩
   ·refine aC rfl hc_10 wz (af (af (af (aa (vB true) (aa (vB true) (ah ?_))))))
    obtain rfl:=ae h_4
    exact cu
   ·refine aC rfl hc_10 wz (aJ (vI x_1) wa rfl (aJ (vI y_2) wa rfl (aJ (vB (decide (x_1<y_2))) wa rfl (aa (vB (decide (x_1<y_2))) (aa (vB (decide (x_1<y_2))) (ah ?_))))))
    obtain rfl:=ae h_4
    exact cu
  ·refine aC rfl hc_7 wz (af (af (af (aa (vB false) (aa (vB false) (aJ (vI x_1) wa rfl (aJ (vI y_2) wa rfl (aJ (vB (decide (x_1<y_2))) wa rfl (aa (vB (decide (x_1<y_2))) (aa (vB (decide (x_1<y_2))) (ah ?_)))))))))))
   obtain rfl:=ae h_4
   exact cu
 ·rintro ⟨⟩ _ sl_ H_ hp_ hq_
  refine aR _ hp_ hq_ ?_
  obtain rfl:=ae hF
  exact ay (aM [(vB v_3)] ⟨rfl,trivial⟩)
theorem qj {x_1:Int} {r:Bool} (hF:iC x_1=some r) :
  FnM Tryz.prog 144 [(vI x_1)] [] (vB r) []:=by
 refine FnM.of_wH ⟨Tryz.prog,6,[],[]⟩ rfl Tryz.func144 rfl rfl (lb_ rfl) (by kernel_rfl) ?_
 unfold iC at hF
 refine ai (aa (vB false) (ah (ai (aa (vI x_1) (aa (vI x_1) (aa (vB (x_1 != x_1)) (aa (vB (x_1 != x_1)) (ah ?_))))))))
 obtain rfl:=ae hF
 exact ay (aM [(vB (x_1 != x_1))] ⟨rfl,trivial⟩)
theorem oF {x_1:(List Int)} {target_2:Int} {r:Int×Bool} (hF:dG x_1 target_2=some r) :
  FnM Tryz.prog 126 [(vL eI x_1),(vI target_2)] [] (.tup [(vI r.1),(vB r.2)]) []:=by
 refine FnM.of_wH ⟨Tryz.prog,54,[],[]⟩ rfl Tryz.func126 rfl rfl (lb_ rfl) (by kernel_rfl) ?_
 unfold dG at hF
 refine ai (aa (vI 0) (aa (vB false) (ah (ai (aa (vL eI x_1) (bN vk rfl wz (aa (vI (x_1.length:Int)) (ah (ai (aa (vI (x_1.length:Int)) (aa (vI 0) (aa (vI (x_1.length:Int)) (ah (ak ?_))))))))))))))
 obtain ⟨o_11,hj_12,hF⟩:=bind_some hF
 obtain ⟨nq_34,hj_12⟩:=dh hj_12
 refine fQ (λ(s_8:Int×Int)=>[(0,(vL eI x_1)),(1,(vI target_2)),(6,(vI (x_1.length:Int))),(7,(vI s_8.1))]) (λ(s_8:Int×Int)=>[]) (λ(k_3:Nat)=>(λ(s_8:Int×Int)=>[(0,(vL eI x_1)),(1,(vI target_2)),(6,(vI (x_1.length:Int))),(7,(vI s_8.1)),(8,(vI s_8.2))])) (λs=>dX x_1 target_2 s) o_11 nq_34 (0,(x_1.length:Int)) hj_12 rfl (aK rfl) ?_ ?_
 ·rintro ⟨k_3,s_8⟩ hL_10
  dsimp only at hL_10
  cases k_3 with
  | zero=>cases hL_10
  | succ k_3 =>
   obtain ⟨c_,hc_9,hL_10⟩:=bind_some hL_10
   unfold dX at hc_9
   refine ak (ai (aa (vI s_8.1) (aa (vI s_8.2) (aa (vB (decide (s_8.1<s_8.2))) (ah ?_)))))
   rcases aj hc_9 with⟨hc_13,hc_9⟩|⟨hc_13,hc_9⟩
   ·refine aA rfl hc_13 (av (aQ (ai (aa (vI s_8.1) (aa (vI s_8.2) (aa (vI (w64 (s_8.1+s_8.2))) (Au un3 NE rfl wz ?_)))))))
    obtain ⟨q_14,hz_15,hc_9⟩:=bind_some hc_9
    refine LQ rfl rfl hz_15 wz (Au NE un3 rfl wz (aa (vI (w64 q_14)) (ah (ai (aa (vL eI x_1) (aa (vI (w64 q_14)) ?_))))))
    obtain ⟨y_16,hy_17,hc_9⟩:=bind_some hc_9
    refine dB mQ rfl rfl hy_17 rfl wz (bH sz3 ag3 rfl (vI y_16) rfl wz (aa (vI target_2) ?_))
    obtain ⟨r_18,hr_19,hc_9⟩:=bind_some hc_9
    refine aB (BA hr_19) rfl hb73 rfl rfl rfl rfl wz (ah ?_)
    rcases aj hc_9 with⟨hc_20,hc_9⟩|⟨hc_20,hc_9⟩
    ·refine aA rfl hc_20 (au (aa (vI (w64 q_14)) (aa (vI (w64 ((w64 q_14)+1))) (aa (vI (w64 ((w64 q_14)+1))) (ah ?_)))))
     obtain rfl:=ae hc_9
     exact aZ (k_3,((w64 ((w64 q_14)+1)),s_8.2)) hL_10 (ls_ _) rfl (aK rfl)
    ·refine ax rfl hc_20 (au (aa (vI (w64 q_14)) (aa (vI (w64 q_14)) (ah ?_))))
     obtain rfl:=ae hc_9
     exact aZ (k_3,(s_8.1,(w64 q_14))) hL_10 (ls_ _) rfl (aK rfl)
   ·refine ax rfl hc_13 (bf ?_)
    obtain rfl:=ae hc_9
    obtain rfl:=ae hL_10
    exact aY ((s_8.1,s_8.2)) rfl rfl (aK rfl)
 ·rintro s_8 ho_ sl_ H_ hp_ hq_
  subst ho_
  refine aR _ hp_ hq_ (ak ?_)
  obtain ⟨v_21,h_22,hF⟩:=bind_some hF
  refine aS [(4,(vI s_8.1)),(5,(vB v_21))] [] ?_ ?_
  ·refine au (aa (vI s_8.1) (aa (vI s_8.1) (aa (vI (x_1.length:Int)) (aa (vB (decide (s_8.1<(x_1.length:Int)))) ?_))))
   rcases aj h_22 with⟨hc_23,h_22⟩|⟨hc_23,h_22⟩
   ·refine aC rfl hc_23 wz (aJ (vL eI x_1) wa rfl (aJ (vI s_8.1) wa rfl ?_))
    obtain ⟨y_24,hy_25,h_22⟩:=bind_some h_22
    refine dB mQ rfl rfl hy_25 rfl wa (bH sz3 ag3 rfl (vI y_24) rfl wa (aJ (vI target_2) wa rfl (aJ (vB (y_24==target_2)) wa rfl ?_)))
    rcases aj h_22 with⟨hc_26,h_22⟩|⟨hc_26,h_22⟩
    ·refine aC rfl hc_26 wa (af (af (af (af (af (af (bX (wn rfl rfl) (bX (wn rfl rfl) (af (aJ (vB true) wa rfl (aa (vB true) (aa (vI s_8.1) (aa (vB true) (ah ?_))))))))))))))
     obtain rfl:=ae h_22
     exact cu
    ·refine aC rfl hc_26 wa (aJ (vL eI x_1) wa rfl (aJ (vI s_8.1) wa rfl ?_))
     obtain ⟨y_27,hy_28,h_22⟩:=bind_some h_22
     refine dB mQ rfl rfl hy_28 rfl wa (bH sz3 ag3 rfl (vI y_27) rfl wa ?_)
     obtain ⟨r_29,hr_30,h_22⟩:=bind_some h_22
     refine aB (qj hr_30) rfl hb144 rfl rfl rfl rfl wa ?_
     rcases aj h_22 with⟨hc_31,h_22⟩|⟨hc_31,h_22⟩
     ·refine aC rfl hc_31 wa (aJ (vI target_2) wa rfl ?_)
      obtain ⟨r_32,hr_33,h_22⟩:=bind_some h_22
      refine aB (qj hr_33) rfl hb144 rfl rfl rfl rfl wa (aJ (vB r_32) wa rfl (aJ (vB r_32) wa rfl (aa (vB r_32) (aa (vI s_8.1) (aa (vB r_32) (ah ?_))))))
      obtain rfl:=ae h_22
      exact cu
     ·refine aC rfl hc_31 wa (af (af (aJ (vB false) wa rfl (aJ (vB false) wa rfl (aa (vB false) (aa (vI s_8.1) (aa (vB false) (ah ?_))))))))
      obtain rfl:=ae h_22
      exact cu
   ·refine aC rfl hc_23 wz (af (af (af (af (af (af (af (bX (wn rfl rfl) (bX (wn rfl rfl) (bX (wn rfl rfl) (bX (wn rfl rfl) (bX (wn rfl rfl) (bX (wn rfl rfl) (bX (wn rfl rfl) (bX (wn rfl rfl) (bX (wn rfl rfl) (af (aa (vB false) (aa (vI s_8.1) (aa (vB false) (ah ?_)))))))))))))))))))))
    obtain rfl:=ae h_22
    exact cu
  ·rintro ⟨⟩ _ sl_ H_ hp_ hq_
   refine aR _ hp_ hq_ ?_
   obtain rfl:=ae hF
   exact ay (aM [(vI s_8.1),(vB v_21)] ⟨rfl,⟨rfl,trivial⟩⟩)
theorem yI {e_1:Entry} {d_2:Int} {r:Bool} (hF:kW e_1 d_2=some r) :
  FnM Tryz.prog 94 [(.d (.agg (Entry.enc e_1))),(vI d_2)] [] (vB r) []:=by
 refine FnM.of_wH ⟨Tryz.prog,41,[],[]⟩ rfl Tryz.func94 rfl rfl (lb_ rfl) (by kernel_rfl) ?_
 unfold kW at hF
 refine ai (fJ 0 (.inl rfl) (Entry.v e_1) rfl rfl wz (λn_3=>aa (vB false) (ah (ak (ak ?_)))))
 obtain ⟨v_4,h_5,hF⟩:=bind_some hF
 refine aS [(1,(vI d_2)),(2,(.ref n_3 0 0)),(31,(vB v_4))] [(n_3,some (.cells 13 (Entry.v e_1)))] ?_ ?_
 ·refine bC (aa (vI d_2) (aH G6 rfl 3 rfl wz (aG 2 0 (.inr (by kernel_rfl)) (λ_ _ ag=>trivial) sz3 ag3 rfl rfl (vI e_1.First) rfl wz (aH G5 rfl 4 rfl wz (aG 4 0 (.inr (by kernel_rfl)) (λ_ _ ag=>⟨.inl ⟨rfl,rfl⟩,trivial⟩) sz3 ag3 rfl rfl (vI e_1.Last) rfl wz ?_)))))
  obtain ⟨r_6,hr_7,h_5⟩:=bind_some h_5
  refine aB (aV hr_7) rfl nZ rfl rfl rfl rfl wz ?_
  rcases aj h_5 with⟨hc_8,h_5⟩|⟨hc_8,h_5⟩
  ·refine aC rfl hc_8 wz (af (af (af (af (af (af (af (af (aa (vB true) (aa (vB true) (af (af (af (af (af (af (af (aa (vB true) (ah ?_)))))))))))))))))))
   obtain rfl:=ae h_5
   exact cu
  ·refine aC rfl hc_8 wz (aJ (vI d_2) wa rfl (aH G6 rfl 3 rfl wa (aG 9 0 (.inr (by kernel_rfl)) (λ_ _ ag=>⟨.inl ⟨rfl,rfl⟩,⟨.inl ⟨rfl,rfl⟩,trivial⟩⟩) sz3 ag3 rfl rfl (vI e_1.First) rfl wa (aJ (vI (w64 (d_2-e_1.First))) wa rfl (aH O0 rfl 5 rfl wa (aG 12 0 (.inr (by kernel_rfl)) (λ_ _ ag=>⟨.inl ⟨rfl,rfl⟩,⟨.inl ⟨rfl,rfl⟩,⟨.inl ⟨rfl,rfl⟩,trivial⟩⟩⟩) sz3 ag3 rfl rfl (vI e_1.Every) rfl wa ?_))))))
   obtain ⟨q_9,hz_10,h_5⟩:=bind_some h_5
   refine Ov rfl rfl hz_10 wa (aJ (vB (q_9 != 0)) wa rfl (aa (vB (q_9 != 0)) ?_))
   rcases aj h_5 with⟨hc_11,h_5⟩|⟨hc_11,h_5⟩
   ·refine aC rfl hc_11 wz (af (af (af (af (af (af (af (aa (vB true) (ah ?_)))))))))
    obtain rfl:=ae h_5
    exact cu
   ·refine aC rfl hc_11 wz (aH PO rfl 6 rfl wa (aG 18 0 (.inr (by kernel_rfl)) (λ_ _ ag=>⟨.inl ⟨rfl,rfl⟩,⟨.inl ⟨rfl,rfl⟩,⟨.inl ⟨rfl,rfl⟩,⟨.inl ⟨rfl,rfl⟩,trivial⟩⟩⟩⟩) sz3 ag3 rfl rfl (vI e_1.Days) rfl wa (aJ (vI d_2) wa rfl (aJ (vI (d_2.tmod 7)) wa rfl ?_))))
    obtain ⟨q_12,hz_13,h_5⟩:=bind_some h_5
    refine h_shl rfl rfl hz_13 wa (aJ (vI (NN .i64 e_1.Days q_12)) wa rfl (aJ (vB ((NN .i64 e_1.Days q_12)==0)) wa rfl (aa (vB ((NN .i64 e_1.Days q_12)==0)) (ah ?_))))
    obtain rfl:=ae h_5
    exact cu
 ·rintro ⟨⟩ _ sl_ H_ hp_ hq_
  refine aR _ hp_ hq_ ?_
  rcases aj hF with⟨hc_14,hF⟩|⟨hc_14,hF⟩
  ·refine aA rfl hc_14 (ai (aa (vB false) (ah ?_)))
   obtain rfl:=ae hF
   exact ay (aM [(vB false)] ⟨rfl,trivial⟩)
  ·refine ax rfl hc_14 (av (ai (aH OP rfl 7 rfl wz (aG 0 0 il ft MG MN rfl rfl (vL eI e_1.Except) rfl wz (aa (vI d_2) ?_)))))
   obtain ⟨r_15,hr_16,hF⟩:=bind_some hF
   refine aB (oF hr_16) rfl hb126 rfl rfl rfl rfl wz (aa (.tup [(vI r_15.1),(vB r_15.2)]) (aa (vI r_15.1) (aa (vB r_15.2) (aa (vI r_15.1) (aa (vB r_15.2) (ah (ai (aa (vB r_15.2) (aa (vB (!r_15.2)) (aa (vB (!r_15.2)) (ah ?_)))))))))))
   obtain rfl:=ae hF
   exact ay (aM [(vB (!r_15.2))] ⟨rfl,trivial⟩)
theorem yu {e_1:Entry} {zone_2:Int} {d_3:Int} {r:Window} (hF:mO e_1 zone_2 d_3=some r) :
  FnM Tryz.prog 95 [(.d (.agg (Entry.enc e_1))),(vI zone_2),(vI d_3)] [] (.d (.agg (Window.enc r))) []:=by
 refine FnM.of_wH ⟨Tryz.prog,32,[],[]⟩ rfl Tryz.func95 rfl rfl (lb_ rfl) (by kernel_rfl) ?_
 unfold mO at hF
 refine ai (fJ 0 (.inl rfl) (Entry.v e_1) rfl rfl wz (λn_4=>di 0 (.inl rfl) z82 rfl wz (λn_5=>ah (ai (aH NP rfl 9 rfl wz (aG 0 0 il ft sz3 ag3 rfl rfl (vI e_1.To) rfl wz (aH JS rfl 8 rfl wz (aG 0 0 il ft sz3 ag3 rfl rfl (vI e_1.From) rfl wz (aa (vI (w64 (e_1.To-e_1.From))) (aa (vI (w64 (e_1.To-e_1.From))) (ah (ak (ai (aa (vI (w64 (e_1.To-e_1.From))) (aa (vB (decide ((w64 (e_1.To-e_1.From))<=0))) (ah ?_))))))))))))))))
 obtain ⟨v_6,h_7,hF⟩:=bind_some hF
 refine aS [(1,(vI zone_2)),(2,(vI d_3)),(3,(.ref n_4 0 0)),(6,(.ref n_5 0 0)),(7,(vI v_6))] [(n_4,some (.cells 13 (Entry.v e_1))),(n_5,some (.cells 2 [(vI 0),(vI 0)]))] ?_ ?_
 ·rcases aj h_7 with⟨hc_8,h_7⟩|⟨hc_8,h_7⟩
  ·refine aA rfl hc_8 (au (aa (vI (w64 (e_1.To-e_1.From))) (aa (vI (w64 ((w64 (e_1.To-e_1.From))+1440))) (aa (vI (w64 ((w64 (e_1.To-e_1.From))+1440))) (ah ?_)))))
   obtain rfl:=ae h_7
   exact cu
  ·refine ax rfl hc_8 (av ?_)
   obtain rfl:=ae h_7
   exact cu
 ·rintro ⟨⟩ _ sl_ H_ hp_ hq_
  refine aR _ hp_ hq_ (ai (aa (vI d_3) (aa (vI (w64 (d_3*1440))) (aH JS rfl 8 rfl wz (aG 0 0 il ft sz3 ag3 rfl rfl (vI e_1.From) rfl wz (aa (vI (w64 ((w64 (d_3*1440))+e_1.From))) (aa (vI zone_2) (aa (vI (w64 ((w64 ((w64 (d_3*1440))+e_1.From))-zone_2))) (aa (vI (w64 ((w64 ((w64 ((w64 (d_3*1440))+e_1.From))-zone_2))*60000))) (aa (vI (w64 ((w64 ((w64 ((w64 (d_3*1440))+e_1.From))-zone_2))*60000))) (ah (ai (aa (vI (w64 ((w64 ((w64 ((w64 (d_3*1440))+e_1.From))-zone_2))*60000))) (aa (vI (w64 ((w64 ((w64 ((w64 (d_3*1440))+e_1.From))-zone_2))*60000))) (aa (vI v_6) (aa (vI (w64 (v_6*60000))) (aa (vI (w64 ((w64 ((w64 ((w64 ((w64 (d_3*1440))+e_1.From))-zone_2))*60000))+(w64 (v_6*60000))))) (aJ (.d (.agg (Window.enc (⟨(w64 ((w64 ((w64 ((w64 (d_3*1440))+e_1.From))-zone_2))*60000)),(w64 ((w64 ((w64 ((w64 ((w64 (d_3*1440))+e_1.From))-zone_2))*60000))+(w64 (v_6*60000))))⟩:Window)))) wz (by kernel_rfl) (gu 0 il ft 1 yg rfl rfl [(vI (w64 ((w64 ((w64 ((w64 (d_3*1440))+e_1.From))-zone_2))*60000))),(vI (w64 ((w64 ((w64 ((w64 ((w64 (d_3*1440))+e_1.From))-zone_2))*60000))+(w64 (v_6*60000)))))] rfl wz (ah ?_))))))))))))))))))))
  obtain rfl:=ae hF
  exact ay (aM [(.d (.agg (Window.enc (⟨(w64 ((w64 ((w64 ((w64 (d_3*1440))+e_1.From))-zone_2))*60000)),(w64 ((w64 ((w64 ((w64 ((w64 (d_3*1440))+e_1.From))-zone_2))*60000))+(w64 (v_6*60000))))⟩:Window))))] ⟨⟨1,_,_,_,_,_,_,_,rfl,rfl,yg,Gw,rfl⟩,trivial⟩)
theorem Bl {t_1:Window} {wv_2:Window} {r:Window} (hF:uC t_1 wv_2=some r) :
  FnM Tryz.prog 58 [(.d (.agg (Window.enc t_1))),(.d (.agg (Window.enc wv_2)))] [] (.d (.agg (Window.enc r))) []:=by
 refine FnM.of_wH ⟨Tryz.prog,16,[],[]⟩ rfl Tryz.func58 rfl rfl (lb_ rfl) (by kernel_rfl) ?_
 unfold uC at hF
 refine ai (fJ 0 (.inl rfl) [(vI t_1.From),(vI t_1.To)] rfl rfl wz (λn_3=>fJ 0 (.inl rfl) [(vI wv_2.From),(vI wv_2.To)] rfl rfl wz (λn_4=>di 0 (.inl rfl) z82 rfl wz (λn_5=>ah (ai (aH oo rfl 0 rfl wz (aG 0 0 il ft sz3 ag3 rfl rfl (vI t_1.From) rfl wz (aH oo rfl 0 rfl wz (aG 0 1 il ft sz3 ag3 rfl rfl (vI wv_2.From) rfl wz (qK (vI (iw t_1.From wv_2.From)) rfl (.inr rfl) wz (aH oq rfl 1 rfl wz (aG 0 0 il ft sz3 ag3 rfl rfl (vI t_1.To) rfl wz (aH oq rfl 1 rfl wz (aG 0 1 il ft sz3 ag3 rfl rfl (vI wv_2.To) rfl wz (qK (vI (Gs t_1.To wv_2.To)) rfl (.inl rfl) wz (aJ (.d (.agg (Window.enc (⟨(iw t_1.From wv_2.From),(Gs t_1.To wv_2.To)⟩:Window)))) wz (by kernel_rfl) (gu 0 il ft 2 yg rfl rfl [(vI (iw t_1.From wv_2.From)),(vI (Gs t_1.To wv_2.To))] rfl wz (ah ?_))))))))))))))))))
 obtain rfl:=ae hF
 exact ay (aM [(.d (.agg (Window.enc (⟨(iw t_1.From wv_2.From),(Gs t_1.To wv_2.To)⟩:Window))))] ⟨⟨2,_,_,_,_,_,_,_,rfl,rfl,yg,Gw,rfl⟩,trivial⟩)
theorem yn {e_1:Entry} {zone_2:Int} {wv_3:Window} {r:(List Window)} (hF:kZ e_1 zone_2 wv_3=some r) :
  FnM Tryz.prog 57 [(.d (.agg (Entry.enc e_1))),(vI zone_2),(.d (.agg (Window.enc wv_3)))] [] (gV (aI 0) 2 r) (([]:List Box).map some++gO 2 Window.enc r):=by
 refine FnM.of_wH ⟨Tryz.prog,72,[],[]⟩ rfl Tryz.func57 rfl rfl (lb_ rfl) (by kernel_rfl) ?_
 unfold kZ at hF
 refine ai (fJ 0 (.inl rfl) (Entry.v e_1) rfl rfl wz (λn_4=>fJ 0 (.inl rfl) [(vI wv_3.From),(vI wv_3.To)] rfl rfl wz (λn_5=>aa .nil (ah (ai (aa .nil (ah (ak (ak ?_)))))))))
 obtain ⟨v_6,h_7,hF⟩:=bind_some hF
 refine aS [(1,(vI zone_2)),(3,(.ref n_4 0 0)),(5,(.ref n_5 0 0)),(7,.nil),(20,(vB v_6))] [(n_4,some (.cells 13 (Entry.v e_1))),(n_5,some (.cells 2 [(vI wv_3.From),(vI wv_3.To)]))] ?_ ?_
 ·refine au (aH pl80_12 rfl 12 rfl wz (aG 0 0 il ft sz4 ag4 rfl rfl (vB e_1.Gone) rfl wz ?_))
  rcases aj h_7 with⟨hc_8,h_7⟩|⟨hc_8,h_7⟩
  ·refine aC rfl hc_8 wz (af (af (af (af (af (aa (vB true) (ah ?_)))))))
   obtain rfl:=ae h_7
   exact cu
  ·refine aC rfl hc_8 wz (aH oo rfl 0 rfl wa (aG 0 1 il ft sz3 ag3 rfl rfl (vI wv_3.From) rfl wa (aH oq rfl 1 rfl wa (aG 0 1 il ft sz3 ag3 rfl rfl (vI wv_3.To) rfl wa (aJ (vB (decide (wv_3.From>=wv_3.To))) wa rfl (aa (vB (decide (wv_3.From>=wv_3.To))) (ah ?_)))))))
   obtain rfl:=ae h_7
   exact cu
 ·rintro ⟨⟩ _ sl_ H_ hp_ hq_
  refine aR _ hp_ hq_ ?_
  rcases aj hF with⟨hc_9,hF⟩|⟨hc_9,hF⟩
  ·refine aA rfl hc_9 (ai (aa .nil (ah (mh (λn_10 => ?_)))))
   obtain rfl:=ae hF
   exact ay (finG (outs:=([]:List Box)) (.inr rfl) 2 rfl rfl rfl (by kernel_rfl) (by kernel_rfl))
  ·refine ax rfl hc_9 (av (ai (aH oo rfl 0 rfl wz (aG 0 1 il ft sz3 ag3 rfl rfl (vI wv_3.From) rfl wz (aa (vI zone_2) (aa (vI (w64 (zone_2*60000))) (aa (vI (w64 (wv_3.From+(w64 (zone_2*60000))))) (aa (vI (w64 ((w64 (wv_3.From+(w64 (zone_2*60000)))).tdiv 86400000))) (aa (vI (w64 ((w64 ((w64 (wv_3.From+(w64 (zone_2*60000)))).tdiv 86400000))-2))) (aa (vI (w64 ((w64 ((w64 (wv_3.From+(w64 (zone_2*60000)))).tdiv 86400000))-2))) (ah (ai (aH oq rfl 1 rfl wz (aG 0 1 il ft sz3 ag3 rfl rfl (vI wv_3.To) rfl wz (aa (vI zone_2) (aa (vI (w64 (zone_2*60000))) (aa (vI (w64 (wv_3.To+(w64 (zone_2*60000))))) (aa (vI (w64 ((w64 (wv_3.To+(w64 (zone_2*60000)))).tdiv 86400000))) (aa (vI (w64 ((w64 ((w64 (wv_3.To+(w64 (zone_2*60000)))).tdiv 86400000))+1))) (aa (vI (w64 ((w64 ((w64 (wv_3.To+(w64 (zone_2*60000)))).tdiv 86400000))+1))) (ah (ak (ai ?_)))))))))))))))))))))))
   refine aa (vI (w64 ((w64 ((w64 (wv_3.From+(w64 (zone_2*60000)))).tdiv 86400000))-2))) (aH G6 rfl 3 rfl wz (aG 0 0 il ft sz3 ag3 rfl rfl (vI e_1.First) rfl wz (qK (vI (iw (w64 ((w64 ((w64 (wv_3.From+(w64 (zone_2*60000)))).tdiv 86400000))-2)) e_1.First)) rfl (.inr rfl) wz (aa (vI (iw (w64 ((w64 ((w64 (wv_3.From+(w64 (zone_2*60000)))).tdiv 86400000))-2)) e_1.First)) (ah (mh (λn_17 => ?_)))))))
   obtain ⟨o_22,hj_23,hF⟩:=bind_some hF
   obtain ⟨nq_41,hj_23⟩:=dh hj_23
   refine yQ (σ:=(List Window)×Int) (N:=Nm) (λp=>(λ(s_16:(List Window)×Int) (n_19:Nm)=>([(7,(gV n_19 2 s_16.1))]:SL_)) p.1 p.2) (λp=>(λ(s_16:(List Window)×Int) (n_19:Nm)=>([(n_4,some (.cells 13 (Entry.v e_1))),(n_5,some (.cells 2 [(vI wv_3.From),(vI wv_3.To)])),(n_19,gB 2 Window.enc s_16.1)]:Hp)) p.1 p.2) (λ(k_11:Nat)=>(λp=>(λ(s_16:(List Window)×Int) (n_19:Nm)=>([(1,(vI zone_2)),(3,(.ref n_4 0 0)),(5,(.ref n_5 0 0)),(7,(gV n_19 2 s_16.1)),(9,(vI (w64 ((w64 ((w64 (wv_3.To+(w64 (zone_2*60000)))).tdiv 86400000))+1)))),(10,(vI s_16.2))]:SL_)) p.1 p.2)) (λs=>je wv_3 zone_2 e_1 s) o_22 nq_41 ((([]:List Window),(iw (w64 ((w64 ((w64 (wv_3.From+(w64 (zone_2*60000)))).tdiv 86400000))-2)) e_1.First)),n_17) hj_23 rfl (aK rfl) ?_ ?_
   ·rintro ⟨k_11,s_16,n_19⟩ hL_21
    dsimp only at hL_21
    cases k_11 with
    | zero=>cases hL_21
    | succ k_11 =>
     obtain ⟨c_,hc_20,hL_21⟩:=bind_some hL_21
     unfold je at hc_20
     refine ak (ai (aa (vI s_16.2) (aa (vI (w64 ((w64 ((w64 (wv_3.To+(w64 (zone_2*60000)))).tdiv 86400000))+1))) (aH G5 rfl 4 rfl wz (aG 0 0 il ft sz3 ag3 rfl rfl (vI e_1.Last) rfl wz (qK (vI (Gs (w64 ((w64 ((w64 (wv_3.To+(w64 (zone_2*60000)))).tdiv 86400000))+1)) e_1.Last)) rfl (.inl rfl) wz (aa (vB (decide (s_16.2<=(Gs (w64 ((w64 ((w64 (wv_3.To+(w64 (zone_2*60000)))).tdiv 86400000))+1)) e_1.Last)))) (ah ?_))))))))
     rcases aj hc_20 with⟨hc_24,hc_20⟩|⟨hc_24,hc_20⟩
     ·refine aA rfl hc_24 (av (ak (aQ (ak (ai (aG 0 0 il ft Ku Mt rfl rfl (.d (.agg (Entry.enc e_1))) rfl wz (aa (vI s_16.2) ?_)))))))
      obtain ⟨r_25,hr_26,hc_20⟩:=bind_some hc_20
      refine aB (yI hr_26) rfl hb94 rfl rfl rfl rfl wz (aa (vB (!r_25)) (ah ?_))
      rcases aj hc_20 with⟨hc_27,hc_20⟩|⟨hc_27,hc_20⟩
      ·refine aA rfl hc_27 (bf (au (aa (vI s_16.2) (aa (vI (w64 (s_16.2+1))) (aa (vI (w64 (s_16.2+1))) (ah ?_))))))
       obtain rfl:=ae hc_20
       exact aZ (k_11,(s_16.1,(w64 (s_16.2+1))),n_19) hL_21 (ls_ _) rfl (aK rfl)
      ·refine ax rfl hc_27 (av (ai (aG 0 0 il ft Ku Mt rfl rfl (.d (.agg (Entry.enc e_1))) rfl wz (aa (vI zone_2) (aa (vI s_16.2) ?_)))))
       obtain ⟨r_28,hr_29,hc_20⟩:=bind_some hc_20
       refine aB (yu hr_29) rfl hb95 rfl rfl rfl rfl wz (di 0 (.inl rfl) z82 rfl wz (λn_30=>gu 0 il ft 3 yg rfl rfl [(vI r_28.From),(vI r_28.To)] rfl wz (ah (ak ?_))))
       obtain ⟨v_31,h_32,hc_20⟩:=bind_some hc_20
       refine aS [(1,(vI zone_2)),(3,(.ref n_4 0 0)),(5,(.ref n_5 0 0)),(7,(gV n_19 2 s_16.1)),(9,(vI (w64 ((w64 ((w64 (wv_3.To+(w64 (zone_2*60000)))).tdiv 86400000))+1)))),(10,(vI s_16.2)),(11,(.ref n_30 0 0)),(66,(vB v_31))] [(n_4,some (.cells 13 (Entry.v e_1))),(n_5,some (.cells 2 [(vI wv_3.From),(vI wv_3.To)])),(n_19,gB 2 Window.enc s_16.1),(n_30,some (.cells 2 [(vI r_28.From),(vI r_28.To)]))] ?_ ?_
       ·refine au (aH oo rfl 0 rfl wz (aG 0 3 il ft sz3 ag3 rfl rfl (vI r_28.From) rfl wz (aH oq rfl 1 rfl wz (aG 0 1 il ft sz3 ag3 rfl rfl (vI wv_3.To) rfl wz (aa (vB (decide (r_28.From<wv_3.To))) ?_)))))
        rcases aj h_32 with⟨hc_33,h_32⟩|⟨hc_33,h_32⟩
        ·refine aC rfl hc_33 wz (aH oq rfl 1 rfl wa (aG 0 3 il ft sz3 ag3 rfl rfl (vI r_28.To) rfl wa (aH oo rfl 0 rfl wa (aG 0 1 il ft sz3 ag3 rfl rfl (vI wv_3.From) rfl wa (aJ (vB (decide (r_28.To>wv_3.From))) wa rfl (aa (vB (decide (r_28.To>wv_3.From))) (ah ?_)))))))
         obtain rfl:=ae h_32
         exact cu
        ·refine aC rfl hc_33 wz (af (af (af (af (af (aa (vB false) (ah ?_)))))))
         obtain rfl:=ae h_32
         exact cu
       ·rintro ⟨⟩ _ sl_ H_ hp_ hq_
        refine aR _ hp_ hq_ ?_
        obtain ⟨v_34,h_35,hc_20⟩:=bind_some hc_20
        refine jU (β:=Nm) (λ(n_36:Nm)=>([(1,(vI zone_2)),(3,(.ref n_4 0 0)),(5,(.ref n_5 0 0)),(7,(gV n_36 2 v_34)),(9,(vI (w64 ((w64 ((w64 (wv_3.To+(w64 (zone_2*60000)))).tdiv 86400000))+1)))),(10,(vI s_16.2))]:SL_)) (λ(n_36:Nm)=>([(n_4,some (.cells 13 (Entry.v e_1))),(n_5,some (.cells 2 [(vI wv_3.From),(vI wv_3.To)])),(n_36,gB 2 Window.enc v_34),(n_30,some (.cells 2 [(vI r_28.From),(vI r_28.To)]))]:Hp)) (λ_=>True) ?_ ?_
        ·rcases aj h_35 with⟨hc_37,h_35⟩|⟨hc_37,h_35⟩
         ·refine aA rfl hc_37 (au (aa (gV n_19 2 s_16.1) (aG 0 3 il ft yg Gw rfl rfl (.d (.agg (Window.enc r_28))) rfl wz (fq (([r_28]:List Window).map Window.enc) es76 ez76 rfl rfl rfl rfl rfl wz ?_))))
          obtain ⟨a_38,hz_39,h_35⟩:=bind_some h_35
          refine jL 0 il ft (i:=2) el76 el76 yg z82 rfl (by decide) by82 (by decide) (λ_=>rfl) rfl rfl rfl hz_39 wz (λn_40=>aa (gV n_40 2 a_38) (ah ?_))
          obtain rfl:=ae h_35
          exact aY n_40 trivial rfl (aK rfl)
         ·refine ax rfl hc_37 (av ?_)
          obtain rfl:=ae h_35
          exact aY n_19 trivial rfl (aK rfl)
        ·rintro n_36 _ sl_ H_ hp_ hq_
         refine aR _ hp_ hq_ (au (aa (vI s_16.2) (aa (vI (w64 (s_16.2+1))) (aa (vI (w64 (s_16.2+1))) (ah ?_)))))
         obtain rfl:=ae hc_20
         exact aZ (k_11,(v_34,(w64 (s_16.2+1))),n_36) hL_21 (ls_ _) rfl (aK rfl)
     ·refine ax rfl hc_24 (bf ?_)
      obtain rfl:=ae hc_20
      obtain rfl:=ae hL_21
      exact aY ((s_16.1,s_16.2),n_19) rfl rfl (aK rfl)
   ·rintro ⟨s_16,n_19⟩ ho_ sl_ H_ hp_ hq_
    subst ho_
    refine aR _ hp_ hq_ (ai (aa (gV n_19 2 s_16.1) (aa (gV n_19 2 s_16.1) (ah ?_))))
    obtain rfl:=ae hF
    exact ay (finG (outs:=([]:List Box)) (.inr rfl) 2 rfl rfl rfl (by kernel_rfl) (by kernel_rfl))
theorem zf {e_1:Entry} {zone_2:Int} {wv_3:Window} {r:(List Window)×Int} (hF:lG e_1 zone_2 wv_3=some r) :
  FnM Tryz.prog 31 [(.d (.agg (Entry.enc e_1))),(vI zone_2),(.d (.agg (Window.enc wv_3)))] [] (.tup [(vL Window.enc r.1),(vI r.2)]) []:=by
 refine FnM.of_wH ⟨Tryz.prog,45,[],[]⟩ rfl Tryz.func31 rfl rfl (lb_ rfl) (by kernel_rfl) ?_
 unfold lG at hF
 refine ai (fJ 0 (.inl rfl) (Entry.v e_1) rfl rfl wz (λn_4=>fJ 0 (.inl rfl) [(vI wv_3.From),(vI wv_3.To)] rfl rfl wz (λn_5=>aa .nil (aa (vI 0) (ah (ak (ai (aG 0 0 il ft Ku Mt rfl rfl (.d (.agg (Entry.enc e_1))) rfl wz (fq (([e_1]:List Entry).map Entry.enc) PR ez112 rfl rfl rfl rfl rfl wz ?_)))))))))
 obtain ⟨r_6,hr_7,hF⟩:=bind_some hF
 refine aB (sD hr_7) rfl hb55 rfl rfl rfl rfl wz (aa (vI r_6) (ah (ai (aa (vI r_6) (aa (vB (r_6 != 0)) (ah ?_))))))
 rcases aj hF with⟨hc_8,hF⟩|⟨hc_8,hF⟩
 ·refine aA rfl hc_8 (ai (aa (vI r_6) (aa .nil (aa (vI r_6) (ah ?_)))))
  obtain rfl:=ae hF
  exact ay (aM [.nil,(vI r_6)] ⟨rfl,⟨rfl,trivial⟩⟩)
 ·refine ax rfl hc_8 (av (ak (ai (aa (vI zone_2) ?_))))
  obtain ⟨r_9,hr_10,hF⟩:=bind_some hF
  refine aB (aV hr_10) rfl nZ rfl rfl rfl rfl wz (ah ?_)
  rcases aj hF with⟨hc_11,hF⟩|⟨hc_11,hF⟩
  ·refine aA rfl hc_11 (ai (aa .nil (aa (vI 1) (ah ?_))))
   obtain rfl:=ae hF
   exact ay (aM [.nil,(vI 1)] ⟨rfl,⟨rfl,trivial⟩⟩)
  ·refine ax rfl hc_11 (av (ak (ai (aG 0 1 il ft yg Gw rfl rfl (.d (.agg (Window.enc wv_3))) rfl wz ?_))))
   obtain ⟨r_12,hr_13,hF⟩:=bind_some hF
   refine aB (sK hr_13) rfl hb56 rfl rfl rfl rfl wz (aa (vI r_12) (ah (ai (aa (vI r_12) (aa (vB (r_12 != 0)) (ah ?_))))))
   rcases aj hF with⟨hc_14,hF⟩|⟨hc_14,hF⟩
   ·refine aA rfl hc_14 (ai (aa (vI r_12) (aa .nil (aa (vI r_12) (ah ?_)))))
    obtain rfl:=ae hF
    exact ay (aM [.nil,(vI r_12)] ⟨rfl,⟨rfl,trivial⟩⟩)
   ·refine ax rfl hc_14 (av (ai (aG 0 0 il ft Ku Mt rfl rfl (.d (.agg (Entry.enc e_1))) rfl wz (aa (vI zone_2) (aG 0 1 il ft yg Gw rfl rfl (.d (.agg (Window.enc wv_3))) rfl wz ?_)))))
    obtain ⟨r_15,hr_16,hF⟩:=bind_some hF
    refine h_callg [] (yn hr_16) rfl hb57 rfl (by kernel_rfl) (by kernel_rfl) (by kernel_rfl) (by kernel_rfl) (by kernel_rfl) rfl (by decide) (by kernel_rfl) wz ([(n_4,some (.cells 13 (Entry.v e_1))),(n_5,some (.cells 2 [(vI wv_3.From),(vI wv_3.To)]))]:Hp) (λ_=>by kernel_rfl) (λn_18=>aa (gV n_18 2 r_15) (ah (ak (ai (aa (gV n_18 2 r_15) (JX un76 rfl wz (aa (vI 0) (ah ?_))))))))
    obtain ⟨o_27,hj_28,hF⟩:=bind_some hF
    obtain ⟨hn_23,hj_28⟩:=bv hj_28
    refine bW (λ(s_24:List Window)=>[(10,(gV n_18 2 s_24))]) (λ(s_24:List Window)=>[(n_4,some (.cells 13 (Entry.v e_1))),(n_5,some (.cells 2 [(vI wv_3.From),(vI wv_3.To)])),(n_18,gB 2 Window.enc s_24)]) (λ(k_19:Nat)=>(λ(s_24:List Window)=>[(5,(.ref n_5 0 0)),(10,(gV n_18 2 s_24)),(30,(gV n_18 2 s_24)),(31,(vI (r_15.length:Int))),(32,(vI (k_19:Int)))])) (λk x s=>kN wv_3 k x s) o_27 (List.range ((r_15.length:Int)).toNat) r_15 hj_28 rfl (aK rfl) ?_ ?_
    ·rintro ⟨k_19,l_20,s_24⟩ ⟨hL_26,hD_22⟩
     dsimp only at hL_26 hD_22
     cases l_20 with
     | nil =>
      obtain rfl:=ae hL_26
      refine ai (aa (vB (decide ((k_19:Int)<(r_15.length:Int)))) (ah ?_))
      refine ak (ax rfl (wT hD_22) (bf ?_))
      exact aY (s_24) rfl rfl (aK rfl)
     | cons x_21 l_20 =>
      obtain ⟨c_,hc_25,hL_26⟩:=bind_some hL_26
      refine ai (aa (vB (decide ((k_19:Int)<(r_15.length:Int)))) (ah ?_))
      refine ak (aA rfl (tZ hD_22) (av ?_))
      unfold kN at hc_25
      refine ak (aQ (ai (aa (vI (k_19:Int)) ?_)))
      obtain ⟨_,hi_29,hc_25⟩:=bind_some hc_25
      refine DC es76 rfl rfl (nu hi_29) (jM hi_29) wz ?_
      obtain ⟨e_30,hy_31,hc_25⟩:=bind_some hc_25
      refine oG 0 2 il ft yg Gw rfl rfl hy_31 (.d (.agg (Window.enc e_30))) rfl wz (di 0 (.inl rfl) z82 rfl wz (λn_32=>aa (vI (k_19:Int)) (gu 0 il ft 3 yg rfl rfl [(vI e_30.From),(vI e_30.To)] rfl wz (ah (au (aa (gV n_18 2 s_24) (aa (vI (k_19:Int)) (aG 0 3 il ft yg Gw rfl rfl (.d (.agg (Window.enc e_30))) rfl wz (aG 0 1 il ft yg Gw rfl rfl (.d (.agg (Window.enc wv_3))) rfl wz ?_)))))))))
      obtain ⟨r_33,hr_34,hc_25⟩:=bind_some hc_25
      refine aB (Bl hr_34) rfl hb58 rfl rfl rfl rfl wz ?_
      obtain ⟨_,hi_35,hc_25⟩:=bind_some hc_25
      refine DC es76 rfl rfl (nu hi_35) (jM hi_35) wz ?_
      obtain ⟨e_36,hy_37,hc_25⟩:=bind_some hc_25
      refine zQ 0 il ft 2 yg rfl rfl hy_37 r_33 rfl wz (fI (v':=(gV n_18 2 (s_24.set (0+((k_19:Int)).toNat) r_33))) 10 rfl (mg (by simp)) (fI (v':=(gV n_18 2 (s_24.set (0+((k_19:Int)).toNat) r_33))) 30 rfl (mg (by simp)) (fI (v':=(gV n_18 2 (s_24.set (0+((k_19:Int)).toNat) r_33))) 37 rfl (mg (by simp)) (ah (au (fw (wS hD_22 hn_23) wz rfl (aa (vI ((k_19+1:Nat):Int)) (ah ?_))))))))
      obtain rfl:=ae hc_25
      exact aZ (k_19+1,l_20,(s_24.set (0+((k_19:Int)).toNat) r_33)) ⟨hL_26,aX hD_22⟩ (ls_ _) rfl (aK rfl)
    ·rintro s_24 ho_ sl_ H_ hp_ hq_
     subst ho_
     refine aR _ hp_ hq_ (ai (aa (gV n_18 2 s_24) (aa (gV n_18 2 s_24) (aa (vI 0) (ah (gJ 2 rfl (bZ 6 2 rfl rfl (bZ 10 2 rfl rfl (bZ 44 2 rfl rfl ?_)))))))))
     obtain rfl:=ae hF
     exact ay (aM [(vL Window.enc s_24),(vI 0)] ⟨rfl,⟨rfl,trivial⟩⟩)
theorem zb {wv_1:Window} {r:Bool} (hF:nW wv_1=some r) :
  FnM Tryz.prog 96 [(.d (.agg (Window.enc wv_1)))] [] (vB r) []:=by
 refine FnM.of_wH ⟨Tryz.prog,18,[],[]⟩ rfl Tryz.func96 rfl rfl (lb_ rfl) (by kernel_rfl) ?_
 unfold nW at hF
 refine ai (fJ 0 (.inl rfl) [(vI wv_1.From),(vI wv_1.To)] rfl rfl wz (λn_2=>aa (vB false) (ah (ak ?_))))
 obtain ⟨v_3,h_4,hF⟩:=bind_some hF
 refine aS [(2,(vB v_3))] [(n_2,some (.cells 2 [(vI wv_1.From),(vI wv_1.To)]))] ?_ ?_
 ·refine au (aH oo rfl 0 rfl wz (aG 0 0 il ft sz3 ag3 rfl rfl (vI wv_1.From) rfl wz (aa (vB (decide (wv_1.From>=0))) ?_)))
  rcases aj h_4 with⟨hc_5,h_4⟩|⟨hc_5,h_4⟩
  ·refine aC rfl hc_5 wz (aH oo rfl 0 rfl wa (aG 0 0 il ft sz3 ag3 rfl rfl (vI wv_1.From) rfl wa (aH oq rfl 1 rfl wa (aG 0 0 il ft sz3 ag3 rfl rfl (vI wv_1.To) rfl wa (aJ (vB (decide (wv_1.From<wv_1.To))) wa rfl (aa (vB (decide (wv_1.From<wv_1.To))) ?_))))))
   rcases aj h_4 with⟨hc_6,h_4⟩|⟨hc_6,h_4⟩
   ·refine aC rfl hc_6 wz (aH oq rfl 1 rfl wa (aG 0 0 il ft sz3 ag3 rfl rfl (vI wv_1.To) rfl wa (aJ (vB (decide (wv_1.To<=345686400000))) wa rfl (aa (vB (decide (wv_1.To<=345686400000))) (aa (vB (decide (wv_1.To<=345686400000))) (ah ?_))))))
    obtain rfl:=ae h_4
    exact cu
   ·refine aC rfl hc_6 wz (af (af (af (aa (vB false) (aa (vB false) (ah ?_))))))
    obtain rfl:=ae h_4
    exact cu
  ·refine aC rfl hc_5 wz (af (af (af (af (af (aa (vB false) (aa (vB false) (af (af (af (aa (vB false) (aa (vB false) (ah ?_)))))))))))))
   obtain rfl:=ae h_4
   exact cu
 ·rintro ⟨⟩ _ sl_ H_ hp_ hq_
  refine aR _ hp_ hq_ ?_
  obtain rfl:=ae hF
  exact ay (aM [(vB v_3)] ⟨rfl,trivial⟩)
theorem vM {l_1:(List ByteArray)} {r:Int} (hF:jk l_1=some r) :
  FnM Tryz.prog 97 [(vL eS l_1)] [] (vI r) []:=by
 refine FnM.of_wH ⟨Tryz.prog,8,[],[]⟩ rfl Tryz.func97 rfl rfl (lb_ rfl) (by kernel_rfl) ?_
 unfold jk at hF
 refine ai (aa (vI 0) (ah (ak (ai (aa (vL eS l_1) (bN G9 rfl wz (aa (vB (decide ((l_1.length:Int)>20))) (ah ?_))))))))
 rcases aj hF with⟨hc_2,hF⟩|⟨hc_2,hF⟩
 ·refine aA rfl hc_2 (ai (aa (vI 2) (ah ?_)))
  obtain rfl:=ae hF
  exact ay (aM [(vI 2)] ⟨rfl,trivial⟩)
 ·refine ax rfl hc_2 (av (ai (aa (vL eS l_1) ?_)))
  obtain ⟨r_3,hr_4,hF⟩:=bind_some hF
  refine aB (rG hr_4) rfl hb127 rfl rfl rfl rfl wz (aa (vI r_3) (ah ?_))
  obtain rfl:=ae hF
  exact ay (aM [(vI r_3)] ⟨rfl,trivial⟩)
theorem rM {l_1:(List Campaign)} {r:Int} (hF:fM l_1=some r) :
  FnM Tryz.prog 59 [(vL Campaign.enc l_1)] [] (vI r) []:=by
 refine FnM.of_wH ⟨Tryz.prog,73,[],[]⟩ rfl Tryz.func59 rfl rfl (lb_ rfl) (by kernel_rfl) ?_
 unfold fM at hF
 refine ai (aa (vI 0) (ah (ak (ai (aa (vL Campaign.enc l_1) (bN un117 rfl wz (aa (vB (decide ((l_1.length:Int)>30))) (ah ?_))))))))
 rcases aj hF with⟨hc_2,hF⟩|⟨hc_2,hF⟩
 ·refine aA rfl hc_2 (ai (aa (vI 2) (ah ?_)))
  obtain rfl:=ae hF
  exact ay (aM [(vI 2)] ⟨rfl,trivial⟩)
 ·refine ax rfl hc_2 (av (ak (ai (aa (vL Campaign.enc l_1) (bN un117 rfl wz (aa (vI 0) (ah ?_)))))))
  obtain ⟨o_11,hj_12,hF⟩:=bind_some hF
  obtain ⟨hn_7,hj_12⟩:=bv hj_12
  refine bW (λ(s_8:Unit)=>[]) (λ(s_8:Unit)=>[]) (λ(k_3:Nat)=>(λ(s_8:Unit)=>[(0,(vL Campaign.enc l_1)),(9,(vL Campaign.enc l_1)),(10,(vI (l_1.length:Int))),(11,(vI (k_3:Int)))])) (λk x s=>d9 l_1 k x s) o_11 l_1 () hj_12 rfl (aK rfl) ?_ ?_
  ·rintro ⟨k_3,l_4,s_8⟩ ⟨hL_10,hD_6⟩
   dsimp only at hL_10 hD_6
   cases l_4 with
   | nil =>
    obtain rfl:=ae hL_10
    refine ai (aa (vB (decide ((k_3:Int)<(l_1.length:Int)))) (ah ?_))
    refine ak (ax rfl (drop_nil hD_6) (bf ?_))
    exact aY (s_8) rfl rfl (aK rfl)
   | cons x_5 l_4 =>
    obtain ⟨c_,hc_9,hL_10⟩:=bind_some hL_10
    refine ai (aa (vB (decide ((k_3:Int)<(l_1.length:Int)))) (ah ?_))
    refine ak (aA rfl (bA hD_6) (av ?_))
    unfold d9 at hc_9
    refine ak (aQ (ai (aa (vI (k_3:Int)) (dB Pq rfl rfl (bK hD_6) rfl wz (bH sz85 ag85 rfl (.d (.agg (Campaign.enc x_5))) rfl wz (di 0 (.inl rfl) z85 rfl wz (λn_13=>aa (vI (k_3:Int)) (gu 0 il ft 0 sz85 rfl rfl (Campaign.v x_5) rfl wz (ah (ak (aQ (ak ?_))))))))))))
    obtain ⟨v_14,h_15,hc_9⟩:=bind_some hc_9
    refine aS [(0,(vL Campaign.enc l_1)),(3,(vI (k_3:Int))),(4,(.ref n_13 0 0)),(9,(vL Campaign.enc l_1)),(10,(vI (l_1.length:Int))),(11,(vI (k_3:Int))),(16,(vB v_14))] [(n_13,some (.cells 8 (Campaign.v x_5)))] ?_ ?_
    ·refine au (aH JV rfl 0 rfl wz (aG 0 0 il ft sz9 ag9 rfl rfl (vS x_5.Key) rfl wz ?_))
     obtain ⟨r_16,hr_17,h_15⟩:=bind_some h_15
     refine aB (dx hr_17) rfl yw rfl rfl rfl rfl wz (aa (vB (!r_16)) ?_)
     rcases aj h_15 with⟨hc_18,h_15⟩|⟨hc_18,h_15⟩
     ·refine aC rfl hc_18 wz (af (af (af (af (bX (wn rfl rfl) (bX (wn rfl rfl) (bX (wn rfl rfl) (bX (wn rfl rfl) (af (aa (vB true) (aa (vB true) (ah ?_))))))))))))
      obtain rfl:=ae h_15
      exact cu
     ·refine aC rfl hc_18 wz (aH PE rfl 1 rfl wa (aG 0 0 il ft sz9 ag9 rfl rfl (vS x_5.Class) rfl wa (aJ (vB (sNe x_5.Class (⟨#[]⟩:ByteArray))) wa rfl ?_)))
      rcases aj h_15 with⟨hc_19,h_15⟩|⟨hc_19,h_15⟩
      ·refine aC rfl hc_19 wa (aH PE rfl 1 rfl wa (aG 0 0 il ft sz9 ag9 rfl rfl (vS x_5.Class) rfl wa ?_))
       obtain ⟨r_20,hr_21,h_15⟩:=bind_some h_15
       refine aB (dx hr_21) rfl yw rfl rfl rfl rfl wa (aJ (vB (!r_20)) wa rfl (aJ (vB (!r_20)) wa rfl (aa (vB (!r_20)) (aa (vB (!r_20)) (ah ?_)))))
       obtain rfl:=ae h_15
       exact cu
      ·refine aC rfl hc_19 wa (af (af (af (af (aJ (vB false) wa rfl (aa (vB false) (aa (vB false) (ah ?_))))))))
       obtain rfl:=ae h_15
       exact cu
    ·rintro ⟨⟩ _ sl_ H_ hp_ hq_
     refine aR _ hp_ hq_ ?_
     rcases aj hc_9 with⟨hc_22,hc_9⟩|⟨hc_22,hc_9⟩
     ·refine aA rfl hc_22 (ai (aa (vI 5) (ah ?_)))
      obtain rfl:=ae hc_9
      obtain rfl:=ae hL_10
      obtain rfl:=ae hF
      exact ay (aM [(vI 5)] ⟨rfl,trivial⟩)
     ·refine ax rfl hc_22 (ak ?_)
      obtain ⟨v_23,h_24,hc_9⟩:=bind_some hc_9
      refine aS [(0,(vL Campaign.enc l_1)),(4,(.ref n_13 0 0)),(9,(vL Campaign.enc l_1)),(10,(vI (l_1.length:Int))),(11,(vI (k_3:Int))),(32,(vB v_23))] [(n_13,some (.cells 8 (Campaign.v x_5)))] ?_ ?_
      ·refine bC (aa (vI (k_3:Int)) (aa (vB (decide ((k_3:Int)>0))) ?_))
       rcases aj h_24 with⟨hc_25,h_24⟩|⟨hc_25,h_24⟩
       ·refine aC rfl hc_25 wz (aH JV rfl 0 rfl wa (aG 4 0 (.inr (by kernel_rfl)) (λ_ _ ag=>trivial) sz9 ag9 rfl rfl (vS x_5.Key) rfl wa (aJ (vL Campaign.enc l_1) wa rfl (aJ (vI (k_3:Int)) wa rfl (aJ (vI (w64 ((k_3:Int)-1))) wa rfl ?_)))))
        obtain ⟨y_26,hy_27,h_24⟩:=bind_some h_24
        refine dB Pq rfl rfl hy_27 rfl wa (kv JV rfl (Campaign.enc y_26) rfl rfl wa (bH sz9 ag9 rfl (vS y_26.Key) rfl wa (aJ (vB (sLe x_5.Key y_26.Key)) wa rfl (aa (vB (sLe x_5.Key y_26.Key)) (aa (vB (sLe x_5.Key y_26.Key)) (ah ?_))))))
        obtain rfl:=ae h_24
        exact cu
       ·refine aC rfl hc_25 wz (af (af (af (af (af (af (af (af (af (aa (vB false) (aa (vB false) (ah ?_))))))))))))
        obtain rfl:=ae h_24
        exact cu
      ·rintro ⟨⟩ _ sl_ H_ hp_ hq_
       refine aR _ hp_ hq_ ?_
       rcases aj hc_9 with⟨hc_28,hc_9⟩|⟨hc_28,hc_9⟩
       ·refine aA rfl hc_28 (ai (aa (vI 7) (ah ?_)))
        obtain rfl:=ae hc_9
        obtain rfl:=ae hL_10
        obtain rfl:=ae hF
        exact ay (aM [(vI 7)] ⟨rfl,trivial⟩)
       ·refine ax rfl hc_28 (ak ?_)
        obtain ⟨v_29,h_30,hc_9⟩:=bind_some hc_9
        refine aS [(0,(vL Campaign.enc l_1)),(4,(.ref n_13 0 0)),(9,(vL Campaign.enc l_1)),(10,(vI (l_1.length:Int))),(11,(vI (k_3:Int))),(46,(vB v_29))] [(n_13,some (.cells 8 (Campaign.v x_5)))] ?_ ?_
        ·refine au (aH zM rfl 2 rfl wz (aG 0 0 il ft yg Gw rfl rfl (.d (.agg (Window.enc x_5.Time))) rfl wz ?_))
         obtain ⟨r_31,hr_32,h_30⟩:=bind_some h_30
         refine aB (zb hr_32) rfl hb96 rfl rfl rfl rfl wz (aa (vB (!r_31)) ?_)
         rcases aj h_30 with⟨hc_33,h_30⟩|⟨hc_33,h_30⟩
         ·refine aC rfl hc_33 wz (af (af (af (aa (vB true) (aa (vB true) (af (af (af (aa (vB true) (aa (vB true) (af (af (af (aa (vB true) (aa (vB true) (ah ?_))))))))))))))))
          obtain rfl:=ae h_30
          exact cu
         ·refine aC rfl hc_33 wz (aH Jz rfl 5 rfl wa (aG 0 0 il ft sz3 ag3 rfl rfl (vI x_5.Goal) rfl wa ?_))
          obtain ⟨r_34,hr_35,h_30⟩:=bind_some h_30
          refine aB (aV hr_35) rfl nZ rfl rfl rfl rfl wa (aa (vB r_34) ?_)
          rcases aj h_30 with⟨hc_36,h_30⟩|⟨hc_36,h_30⟩
          ·refine aC rfl hc_36 wz (af (af (af (aa (vB true) (aa (vB true) (af (af (af (aa (vB true) (aa (vB true) (ah ?_)))))))))))
           obtain rfl:=ae h_30
           exact cu
          ·refine aC rfl hc_36 wz (aH pl85_5 rfl 6 rfl wa (aG 0 0 il ft sz3 ag3 rfl rfl (vI x_5.Most) rfl wa ?_))
           obtain ⟨r_37,hr_38,h_30⟩:=bind_some h_30
           refine aB (aV hr_38) rfl nZ rfl rfl rfl rfl wa (aa (vB r_37) ?_)
           rcases aj h_30 with⟨hc_39,h_30⟩|⟨hc_39,h_30⟩
           ·refine aC rfl hc_39 wz (af (af (af (aa (vB true) (aa (vB true) (ah ?_))))))
            obtain rfl:=ae h_30
            exact cu
           ·refine aC rfl hc_39 wz (aH pl85_6 rfl 7 rfl wa (aG 0 0 il ft sz3 ag3 rfl rfl (vI x_5.Cents) rfl wa ?_))
            obtain ⟨r_40,hr_41,h_30⟩:=bind_some h_30
            refine aB (aV hr_41) rfl nZ rfl rfl rfl rfl wa (aa (vB r_40) (aa (vB r_40) (ah ?_)))
            obtain rfl:=ae h_30
            exact cu
        ·rintro ⟨⟩ _ sl_ H_ hp_ hq_
         refine aR _ hp_ hq_ ?_
         rcases aj hc_9 with⟨hc_42,hc_9⟩|⟨hc_42,hc_9⟩
         ·refine aA rfl hc_42 (ai (aa (vI 1) (ah ?_)))
          obtain rfl:=ae hc_9
          obtain rfl:=ae hL_10
          obtain rfl:=ae hF
          exact ay (aM [(vI 1)] ⟨rfl,trivial⟩)
         ·refine ax rfl hc_42 (av (ai (aH pl85_3 rfl 4 rfl wz (aG 0 0 il ft MR Nk rfl rfl (vL eS x_5.Tags) rfl wz ?_))))
          obtain ⟨r_43,hr_44,hc_9⟩:=bind_some hc_9
          refine aB (vM hr_44) rfl hb97 rfl rfl rfl rfl wz (aa (vI r_43) (ah (ai (aa (vI r_43) (aa (vB (r_43 != 0)) (ah ?_))))))
          rcases aj hc_9 with⟨hc_45,hc_9⟩|⟨hc_45,hc_9⟩
          ·refine aA rfl hc_45 (ai (aa (vI r_43) (aa (vI r_43) (ah ?_))))
           obtain rfl:=ae hc_9
           obtain rfl:=ae hL_10
           obtain rfl:=ae hF
           exact ay (aM [(vI r_43)] ⟨rfl,trivial⟩)
          ·refine ax rfl hc_45 (av (au (fw (bE hD_6 hn_7) wz rfl (aa (vI ((k_3+1:Nat):Int)) (ah ?_)))))
           obtain rfl:=ae hc_9
           exact aZ (k_3+1,l_4,()) ⟨hL_10,aX hD_6⟩ (ls_ _) rfl (aK rfl)
  ·rintro s_8 ho_ sl_ H_ hp_ hq_
   subst ho_
   refine aR _ hp_ hq_ (ai (aa (vI 0) (ah ?_)))
   obtain rfl:=ae hF
   exact ay (aM [(vI 0)] ⟨rfl,trivial⟩)
theorem Eb {c_1:Campaign} {atv_2:Int} {r:Int} (hF:rY c_1 atv_2=some r) :
  FnM Tryz.prog 60 [(.d (.agg (Campaign.enc c_1))),(vI atv_2)] [] (vI r) []:=by
 refine FnM.of_wH ⟨Tryz.prog,35,[],[]⟩ rfl Tryz.func60 rfl rfl (lb_ rfl) (by kernel_rfl) ?_
 unfold rY at hF
 refine ai (fJ 0 (.inl rfl) (Campaign.v c_1) rfl rfl wz (λn_3=>aa (vI 0) (ah (ak (aQ (ai (aa (vI atv_2) (aH zM rfl 2 rfl wz (aH oo rfl 2 rfl wz (aG 0 0 il ft sz3 ag3 rfl rfl (vI c_1.Time.From) rfl wz (aa (vB (decide (atv_2<c_1.Time.From))) (aa (vB (decide (atv_2<c_1.Time.From))) (ah ?_)))))))))))))
 rcases aj hF with⟨hc_4,hF⟩|⟨hc_4,hF⟩
 ·refine aA rfl hc_4 (ai (aa (vI 0) (ah ?_)))
  obtain rfl:=ae hF
  exact ay (aM [(vI 0)] ⟨rfl,trivial⟩)
 ·refine ax rfl hc_4 (ai (aa (vI atv_2) (aH zM rfl 2 rfl wz (aH oq rfl 3 rfl wz (aG 0 0 il ft sz3 ag3 rfl rfl (vI c_1.Time.To) rfl wz (aa (vB (decide (atv_2>=c_1.Time.To))) (aa (vB (decide (atv_2>=c_1.Time.To))) (ah ?_))))))))
  rcases aj hF with⟨hc_5,hF⟩|⟨hc_5,hF⟩
  ·refine aA rfl hc_5 (ai (aH Jz rfl 5 rfl wz (aG 0 0 il ft sz3 ag3 rfl rfl (vI c_1.Goal) rfl wz (aa (vI c_1.Goal) (ah ?_)))))
   obtain rfl:=ae hF
   exact ay (aM [(vI c_1.Goal)] ⟨rfl,trivial⟩)
  ·refine ax rfl hc_5 (av (ai (aH Jz rfl 5 rfl wz (aG 0 0 il ft sz3 ag3 rfl rfl (vI c_1.Goal) rfl wz (aa (vI atv_2) (aH zM rfl 2 rfl wz (aH oo rfl 2 rfl wz (aG 0 0 il ft sz3 ag3 rfl rfl (vI c_1.Time.From) rfl wz (aa (vI (w64 (atv_2-c_1.Time.From))) (aa (vI (w64 (c_1.Goal*(w64 (atv_2-c_1.Time.From))))) (aH zM rfl 2 rfl wz (aH oq rfl 3 rfl wz (aG 0 0 il ft sz3 ag3 rfl rfl (vI c_1.Time.To) rfl wz (aH zM rfl 2 rfl wz (aH oo rfl 2 rfl wz (aG 0 0 il ft sz3 ag3 rfl rfl (vI c_1.Time.From) rfl wz (aa (vI (w64 (c_1.Time.To-c_1.Time.From))) ?_)))))))))))))))))
   obtain ⟨q_6,hz_7,hF⟩:=bind_some hF
   refine Px rfl rfl hz_7 wz (aa (vI q_6) (ah (aR (H0:=([(n_3,some (.cells 8 (Campaign.v c_1)))]:Hp)) ([(4,(vI q_6))]:SL_) (by kernel_rfl) (Ae (by kernel_rfl)) ?_)))
   obtain rfl:=ae hF
   exact ay (aM [(vI q_6)] ⟨rfl,trivial⟩)
theorem Da {c_1:Campaign} {atv_2:Int} {r:Int×Int} (hF:oU c_1 atv_2=some r) :
  FnM Tryz.prog 32 [(.d (.agg (Campaign.enc c_1))),(vI atv_2)] [] (.tup [(vI r.1),(vI r.2)]) []:=by
 refine FnM.of_wH ⟨Tryz.prog,19,[],[]⟩ rfl Tryz.func32 rfl rfl (lb_ rfl) (by kernel_rfl) ?_
 unfold oU at hF
 refine ai (fJ 0 (.inl rfl) (Campaign.v c_1) rfl rfl wz (λn_3=>aa (vI 0) (aa (vI 0) (ah (ak (ai (aG 0 0 il ft sz85 ag85 rfl rfl (.d (.agg (Campaign.enc c_1))) rfl wz (fq (([c_1]:List Campaign).map Campaign.enc) Pq ez117 rfl rfl rfl rfl rfl wz ?_))))))))
 obtain ⟨r_4,hr_5,hF⟩:=bind_some hF
 refine aB (rM hr_5) rfl hb59 rfl rfl rfl rfl wz (aa (vI r_4) (ah (ai (aa (vI r_4) (aa (vB (r_4 != 0)) (ah ?_))))))
 rcases aj hF with⟨hc_6,hF⟩|⟨hc_6,hF⟩
 ·refine aA rfl hc_6 (ai (aa (vI r_4) (aa (vI 0) (aa (vI r_4) (ah ?_)))))
  obtain rfl:=ae hF
  exact ay (aM [(vI 0),(vI r_4)] ⟨rfl,⟨rfl,trivial⟩⟩)
 ·refine ax rfl hc_6 (av (ak (ai (aa (vI atv_2) ?_))))
  obtain ⟨r_7,hr_8,hF⟩:=bind_some hF
  refine aB (eY hr_8) rfl GU rfl rfl rfl rfl wz (aa (vB (!r_7)) (ah ?_))
  rcases aj hF with⟨hc_9,hF⟩|⟨hc_9,hF⟩
  ·refine aA rfl hc_9 (ai (aa (vI 0) (aa (vI 1) (ah ?_))))
   obtain rfl:=ae hF
   exact ay (aM [(vI 0),(vI 1)] ⟨rfl,⟨rfl,trivial⟩⟩)
  ·refine ax rfl hc_9 (av (ai (aG 0 0 il ft sz85 ag85 rfl rfl (.d (.agg (Campaign.enc c_1))) rfl wz (aa (vI atv_2) ?_))))
   obtain ⟨r_10,hr_11,hF⟩:=bind_some hF
   refine aB (Eb hr_11) rfl hb60 rfl rfl rfl rfl wz (aa (vI r_10) (aa (vI 0) (ah ?_)))
   obtain rfl:=ae hF
   exact ay (aM [(vI r_10),(vI 0)] ⟨rfl,⟨rfl,trivial⟩⟩)
theorem DU {l_1:(List Beat)} {player_2:ByteArray} {n_3:Int} {back_4:Bool} {r:Int×Int} (hF:pJ l_1 player_2 n_3 back_4=some r) :
  FnM Tryz.prog 61 [(vL Beat.enc l_1),(vS player_2),(vI n_3),(vB back_4)] [] (.tup [(vI r.1),(vI r.2)]) []:=by
 refine FnM.of_wH ⟨Tryz.prog,30,[],[]⟩ rfl Tryz.func61 rfl rfl (lb_ rfl) (by kernel_rfl) ?_
 unfold pJ at hF
 refine ai (aa (vI 0) (aa (vI 0) (ah (ak (ai (aa (vL Beat.enc l_1) ?_))))))
 obtain ⟨r_5,hr_6,hF⟩:=bind_some hF
 refine aB (qi hr_6) rfl hb16 rfl rfl rfl rfl wz (aa (vI r_5) (ah (ai (aa (vI r_5) (aa (vB (r_5 != 0)) (ah ?_))))))
 rcases aj hF with⟨hc_7,hF⟩|⟨hc_7,hF⟩
 ·refine aA rfl hc_7 (ai (aa (vI r_5) (aa (vI 0) (aa (vI r_5) (ah ?_)))))
  obtain rfl:=ae hF
  exact ay (aM [(vI 0),(vI r_5)] ⟨rfl,⟨rfl,trivial⟩⟩)
 ·refine ax rfl hc_7 (av (ak (ai (aa (vS player_2) ?_))))
  obtain ⟨r_8,hr_9,hF⟩:=bind_some hF
  refine aB (dx hr_9) rfl yw rfl rfl rfl rfl wz (aa (vB (!r_8)) (ah ?_))
  rcases aj hF with⟨hc_10,hF⟩|⟨hc_10,hF⟩
  ·refine aA rfl hc_10 (ai (aa (vI 0) (aa (vI 5) (ah ?_))))
   obtain rfl:=ae hF
   exact ay (aM [(vI 0),(vI 5)] ⟨rfl,⟨rfl,trivial⟩⟩)
  ·refine ax rfl hc_10 (av (ak (ai (aa (vI n_3) ?_))))
   obtain ⟨r_11,hr_12,hF⟩:=bind_some hF
   refine aB (eY hr_12) rfl GU rfl rfl rfl rfl wz (aa (vB (!r_11)) (ah ?_))
   rcases aj hF with⟨hc_13,hF⟩|⟨hc_13,hF⟩
   ·refine aA rfl hc_13 (ai (aa (vI 0) (aa (vI 1) (ah ?_))))
    obtain rfl:=ae hF
    exact ay (aM [(vI 0),(vI 1)] ⟨rfl,⟨rfl,trivial⟩⟩)
   ·refine ax rfl hc_13 (av (ai (aa (vL Beat.enc l_1) (aa (vS player_2) (aa (vB back_4) ?_)))))
    obtain ⟨r_14,hr_15,hF⟩:=bind_some hF
    refine aB (sI hr_15) rfl hb42 rfl rfl rfl rfl wz (aa (vI n_3) ?_)
    obtain ⟨r_16,hr_17,hF⟩:=bind_some hF
    refine aB (uU hr_17) rfl hb43 rfl rfl rfl rfl wz (aa (vI r_16.1) (aa (vI r_16.2) (aa (vI r_16.1) (aa (vI r_16.2) (ah ?_)))))
    obtain rfl:=ae hF
    exact ay (aM [(vI r_16.1),(vI r_16.2)] ⟨rfl,⟨rfl,trivial⟩⟩)
theorem De {l_1:(List Beat)} {player_2:ByteArray} {clock_3:Int} {r:Int×Int} (hF:o7 l_1 player_2 clock_3=some r) :
  FnM Tryz.prog 33 [(vL Beat.enc l_1),(vS player_2),(vI clock_3)] [] (.tup [(vI r.1),(vI r.2)]) []:=by
 refine FnM.of_wH ⟨Tryz.prog,14,[],[]⟩ rfl Tryz.func33 rfl rfl (lb_ rfl) (by kernel_rfl) ?_
 unfold o7 at hF
 refine ai (aa (vI 0) (aa (vI 0) (ah (ai (aa (vL Beat.enc l_1) (aa (vS player_2) (aa (vI clock_3) ?_)))))))
 obtain ⟨r_4,hr_5,hF⟩:=bind_some hF
 refine aB (DU hr_5) rfl hb61 rfl rfl rfl rfl wz (aa (vI r_4.1) (aa (vI r_4.2) (aa (vI r_4.1) (aa (vI r_4.2) (ah ?_)))))
 obtain rfl:=ae hF
 exact ay (aM [(vI r_4.1),(vI r_4.2)] ⟨rfl,⟨rfl,trivial⟩⟩)
theorem xR {a_1:Alert} {r:Int} (hF:kr a_1=some r) :
  FnM Tryz.prog 145 [(.d (.agg (Alert.enc a_1)))] [] (vI r) []:=by
 refine FnM.of_wH ⟨Tryz.prog,48,[],[]⟩ rfl Tryz.func145 rfl rfl (lb_ rfl) (by kernel_rfl) ?_
 unfold kr at hF
 refine ai (fJ 0 (.inl rfl) (Alert.v a_1) rfl rfl wz (λn_2=>aa (vI 0) (ah (ak (ai (aH Gl rfl 3 rfl wz (aG 0 0 il ft MR Nk rfl rfl (vL eS a_1.Refs) rfl wz (bN G9 rfl wz (aa (vB (decide ((a_1.Refs.length:Int)>20))) (ah ?_))))))))))
 rcases aj hF with⟨hc_3,hF⟩|⟨hc_3,hF⟩
 ·refine aA rfl hc_3 (ai (aa (vI 2) (ah ?_)))
  obtain rfl:=ae hF
  exact ay (aM [(vI 2)] ⟨rfl,trivial⟩)
 ·refine ax rfl hc_3 (av (ak (ai (aH Gl rfl 3 rfl wz (aG 0 0 il ft MR Nk rfl rfl (vL eS a_1.Refs) rfl wz (bN G9 rfl wz (aa (vI 0) (ah ?_))))))))
  obtain ⟨o_12,hj_13,hF⟩:=bind_some hF
  obtain ⟨hn_8,hj_13⟩:=bv hj_13
  refine bW (λ(s_9:Unit)=>[(1,(.ref n_2 0 0))]) (λ(s_9:Unit)=>[(n_2,some (.cells 9 (Alert.v a_1)))]) (λ(k_4:Nat)=>(λ(s_9:Unit)=>[(1,(.ref n_2 0 0)),(10,(vL eS a_1.Refs)),(11,(vI (a_1.Refs.length:Int))),(12,(vI (k_4:Int)))])) (λk x s=>iT a_1 k x s) o_12 a_1.Refs () hj_13 rfl (aK rfl) ?_ ?_
  ·rintro ⟨k_4,l_5,s_9⟩ ⟨hL_11,hD_7⟩
   dsimp only at hL_11 hD_7
   cases l_5 with
   | nil =>
    obtain rfl:=ae hL_11
    refine ai (aa (vB (decide ((k_4:Int)<(a_1.Refs.length:Int)))) (ah ?_))
    refine ak (ax rfl (drop_nil hD_7) (bf ?_))
    exact aY (s_9) rfl rfl (aK rfl)
   | cons x_6 l_5 =>
    obtain ⟨c_,hc_10,hL_11⟩:=bind_some hL_11
    refine ai (aa (vB (decide ((k_4:Int)<(a_1.Refs.length:Int)))) (ah ?_))
    refine ak (aA rfl (bA hD_7) (av ?_))
    unfold iT at hc_10
    refine ak (aQ (ai (aa (vI (k_4:Int)) (dB CJ rfl rfl (bK hD_7) rfl wz (bH sz9 ag9 rfl (vS x_6) rfl wz (aa (vI (k_4:Int)) (aa (vS x_6) (ah (aQ (ai (aa (vS x_6) ?_)))))))))))
    obtain ⟨r_14,hr_15,hc_10⟩:=bind_some hc_10
    refine aB (dx hr_15) rfl yw rfl rfl rfl rfl wz (aa (vB (!r_14)) (aa (vB (!r_14)) (ah ?_)))
    rcases aj hc_10 with⟨hc_16,hc_10⟩|⟨hc_16,hc_10⟩
    ·refine aA rfl hc_16 (ai (aa (vI 5) (ah ?_)))
     obtain rfl:=ae hc_10
     obtain rfl:=ae hL_11
     obtain rfl:=ae hF
     exact ay (aM [(vI 5)] ⟨rfl,trivial⟩)
    ·refine ax rfl hc_16 (ak ?_)
     obtain ⟨v_17,h_18,hc_10⟩:=bind_some hc_10
     refine aS [(1,(.ref n_2 0 0)),(4,(vS x_6)),(10,(vL eS a_1.Refs)),(11,(vI (a_1.Refs.length:Int))),(12,(vI (k_4:Int))),(21,(vB v_17))] [(n_2,some (.cells 9 (Alert.v a_1)))] ?_ ?_
     ·refine au (aa (vI (k_4:Int)) (aa (vB (decide ((k_4:Int)>0))) ?_))
      rcases aj h_18 with⟨hc_19,h_18⟩|⟨hc_19,h_18⟩
      ·refine aC rfl hc_19 wz (aJ (vS x_6) wa rfl (aH Gl rfl 3 rfl wa (aG 0 0 il ft MR Nk rfl rfl (vL eS a_1.Refs) rfl wa (aJ (vI (k_4:Int)) wa rfl (aJ (vI (w64 ((k_4:Int)-1))) wa rfl ?_)))))
       obtain ⟨y_20,hy_21,h_18⟩:=bind_some h_18
       refine dB CJ rfl rfl hy_21 rfl wa (bH sz9 ag9 rfl (vS y_20) rfl wa (aJ (vB (sLe x_6 y_20)) wa rfl (aa (vB (sLe x_6 y_20)) (aa (vB (sLe x_6 y_20)) (ah ?_)))))
       obtain rfl:=ae h_18
       exact cu
      ·refine aC rfl hc_19 wz (af (af (af (af (af (af (af (af (aa (vB false) (aa (vB false) (ah ?_)))))))))))
       obtain rfl:=ae h_18
       exact cu
     ·rintro ⟨⟩ _ sl_ H_ hp_ hq_
      refine aR _ hp_ hq_ ?_
      rcases aj hc_10 with⟨hc_22,hc_10⟩|⟨hc_22,hc_10⟩
      ·refine aA rfl hc_22 (ai (aa (vI 7) (ah ?_)))
       obtain rfl:=ae hc_10
       obtain rfl:=ae hL_11
       obtain rfl:=ae hF
       exact ay (aM [(vI 7)] ⟨rfl,trivial⟩)
      ·refine ax rfl hc_22 (ai (aa (vS x_6) (aH zV rfl 0 rfl wz (aG 0 0 il ft sz9 ag9 rfl rfl (vS a_1.Id) rfl wz (aa (vB (sEq x_6 a_1.Id)) (aa (vB (sEq x_6 a_1.Id)) (ah ?_)))))))
       rcases aj hc_10 with⟨hc_23,hc_10⟩|⟨hc_23,hc_10⟩
       ·refine aA rfl hc_23 (ai (aa (vI 14) (ah ?_)))
        obtain rfl:=ae hc_10
        obtain rfl:=ae hL_11
        obtain rfl:=ae hF
        exact ay (aM [(vI 14)] ⟨rfl,trivial⟩)
       ·refine ax rfl hc_23 (av (au (fw (bE hD_7 hn_8) wz rfl (aa (vI ((k_4+1:Nat):Int)) (ah ?_)))))
        obtain rfl:=ae hc_10
        exact aZ (k_4+1,l_5,()) ⟨hL_11,aX hD_7⟩ (ls_ _) rfl (aK rfl)
  ·rintro s_9 ho_ sl_ H_ hp_ hq_
   subst ho_
   refine aR _ hp_ hq_ (ak (ai (aH KL rfl 2 rfl wz (aG 0 0 il ft sz3 ag3 rfl rfl (vI a_1.Kind) rfl wz (aa (vB (a_1.Kind==1)) (aH Gl rfl 3 rfl wz (aG 0 0 il ft MR Nk rfl rfl (vL eS a_1.Refs) rfl wz (bN G9 rfl wz (aa (vB ((a_1.Refs.length:Int)==0)) (O1 un4 rfl rfl wz (ah ?_)))))))))))
   rcases aj hF with⟨hc_24,hF⟩|⟨hc_24,hF⟩
   ·refine aA rfl hc_24 (ai (aa (vI 3) (ah ?_)))
    obtain rfl:=ae hF
    exact ay (aM [(vI 3)] ⟨rfl,trivial⟩)
   ·refine ax rfl hc_24 (av (ai (aa (vI 0) (ah ?_))))
    obtain rfl:=ae hF
    exact ay (aM [(vI 0)] ⟨rfl,trivial⟩)
theorem qx {x0:ByteArray} {r:Bool} (hF:jo x0=some r) :
  FnM Tryz.prog 162 [(vS x0)] [] (vB r) [] :=
 OC rfl Tryz.utf8_ValidString M6 hF
theorem xk {x0:ByteArray} {x1:ByteArray} {r:Bool} (hF:strings_Contains x0 x1=some r) :
  FnM Tryz.prog 163 [(vS x0),(vS x1)] [] (vB r) [] :=
 Jo Tryz.strings_Contains I9 hF
theorem CB {s_1:ByteArray} {r:Bool} (hF:pE s_1=some r) :
  FnM Tryz.prog 146 [(vS s_1)] [] (vB r) []:=by
 refine FnM.of_wH ⟨Tryz.prog,33,[],[]⟩ rfl Tryz.func146 rfl rfl (lb_ rfl) (by kernel_rfl) ?_
 unfold pE at hF
 refine ai (aa (vB false) (ah (ak (ai (aa (vI 0) (ah ?_))))))
 obtain ⟨o_10,hj_11,hF⟩:=bind_some hF
 obtain ⟨nq_31,hj_11⟩:=dh hj_11
 refine fQ (λ(s_7:Int)=>[(0,(vS s_1))]) (λ(s_7:Int)=>[]) (λ(k_2:Nat)=>(λ(s_7:Int)=>[(0,(vS s_1)),(3,(vI s_7))])) (λs=>nH s_1 s) o_10 nq_31 0 hj_11 rfl (aK rfl) ?_ ?_
 ·rintro ⟨k_2,s_7⟩ hL_9
  dsimp only at hL_9
  cases k_2 with
  | zero=>cases hL_9
  | succ k_2 =>
   obtain ⟨c_,hc_8,hL_9⟩:=bind_some hL_9
   unfold nH at hc_8
   refine ak (ai (aa (vI s_7) (aa (vS s_1) (Cs un9 rfl wz (aa (vB (decide (s_7<(s_1.size:Int)))) (ah ?_))))))
   rcases aj hc_8 with⟨hc_12,hc_8⟩|⟨hc_12,hc_8⟩
   ·refine aA rfl hc_12 (av (ak (aQ (ak ?_))))
    obtain ⟨v_13,h_14,hc_8⟩:=bind_some hc_8
    refine aS [(0,(vS s_1)),(3,(vI s_7)),(19,(vB v_13))] [] ?_ ?_
    ·refine au (aa (vS s_1) (aa (vI s_7) ?_))
     obtain ⟨b_15,hy_16,h_14⟩:=bind_some h_14
     refine FR un9 rfl rfl hy_16 wz (aa (vB (decide ((b_15.toNat:Int)<32))) ?_)
     rcases aj h_14 with⟨hc_17,h_14⟩|⟨hc_17,h_14⟩
     ·refine aC rfl hc_17 wz (af (af (af (af (aa (vB true) (ah ?_))))))
      obtain rfl:=ae h_14
      exact cu
     ·refine aC rfl hc_17 wz (aJ (vS s_1) wa rfl (aJ (vI s_7) wa rfl ?_))
      obtain ⟨b_18,hy_19,h_14⟩:=bind_some h_14
      refine FR un9 rfl rfl hy_19 wa (aJ (vB ((b_18.toNat:Int)==127)) wa rfl (aa (vB ((b_18.toNat:Int)==127)) (ah ?_)))
      obtain rfl:=ae h_14
      exact cu
    ·rintro ⟨⟩ _ sl_ H_ hp_ hq_
     refine aR _ hp_ hq_ ?_
     rcases aj hc_8 with⟨hc_20,hc_8⟩|⟨hc_20,hc_8⟩
     ·refine aA rfl hc_20 (ai (aa (vB false) (ah ?_)))
      obtain rfl:=ae hc_8
      obtain rfl:=ae hL_9
      obtain rfl:=ae hF
      exact ay (aM [(vB false)] ⟨rfl,trivial⟩)
     ·refine ax rfl hc_20 (av (au (aa (vI s_7) (aa (vI (w64 (s_7+1))) (aa (vI (w64 (s_7+1))) (ah ?_))))))
      obtain rfl:=ae hc_8
      exact aZ (k_2,(w64 (s_7+1))) hL_9 (ls_ _) rfl (aK rfl)
   ·refine ax rfl hc_12 (bf ?_)
    obtain rfl:=ae hc_8
    obtain rfl:=ae hL_9
    exact aY (s_7) rfl rfl (aK rfl)
 ·rintro s_7 ho_ sl_ H_ hp_ hq_
  subst ho_
  refine aR _ hp_ hq_ (ak ?_)
  obtain ⟨v_21,h_22,hF⟩:=bind_some hF
  refine aS [(2,(vB v_21))] [] ?_ ?_
  ·refine au (aa (vS s_1) ?_)
   obtain ⟨r_23,hr_24,h_22⟩:=bind_some h_22
   refine aB (qx hr_24) rfl hb162 rfl rfl rfl rfl wz ?_
   rcases aj h_22 with⟨hc_25,h_22⟩|⟨hc_25,h_22⟩
   ·refine aC rfl hc_25 wz (aJ (vS s_1) wa rfl ?_)
    obtain ⟨r_26,hr_27,h_22⟩:=bind_some h_22
    refine aB (uR hr_27) rfl hb65 rfl rfl rfl rfl wa (aJ (vS s_1) wa rfl (aJ (vB (sEq r_26 s_1)) wa rfl (aa (vB (sEq r_26 s_1)) ?_)))
    rcases aj h_22 with⟨hc_28,h_22⟩|⟨hc_28,h_22⟩
    ·refine aC rfl hc_28 wz (aJ (vS s_1) wa rfl ?_)
     obtain ⟨r_29,hr_30,h_22⟩:=bind_some h_22
     refine aB (xk hr_30) rfl hb163 rfl rfl rfl rfl wa (aJ (vB (!r_29)) wa rfl (aa (vB (!r_29)) (aa (vB (!r_29)) (ah ?_))))
     obtain rfl:=ae h_22
     exact cu
    ·refine aC rfl hc_28 wz (af (af (af (aa (vB false) (aa (vB false) (ah ?_))))))
     obtain rfl:=ae h_22
     exact cu
   ·refine aC rfl hc_25 wz (af (af (af (af (aa (vB false) (aa (vB false) (af (af (af (aa (vB false) (aa (vB false) (ah ?_))))))))))))
    obtain rfl:=ae h_22
    exact cu
  ·rintro ⟨⟩ _ sl_ H_ hp_ hq_
   refine aR _ hp_ hq_ ?_
   obtain rfl:=ae hF
   exact ay (aM [(vB v_21)] ⟨rfl,trivial⟩)
end Go.Proofs.YtnfojnnfidnikaaGreatDoor.Law

