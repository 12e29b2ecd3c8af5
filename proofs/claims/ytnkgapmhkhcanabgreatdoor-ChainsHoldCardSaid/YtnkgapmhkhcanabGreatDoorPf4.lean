/-
 The machine computes these plain functions (written by a program of ours).
-/
import Derived.Test.YtnkgapmhkhcanabGreatDoorFacts
import Derived.Test.YtnkgapmhkhcanabGreatDoorDefs
import Derived.Test.YtnkgapmhkhcanabGreatDoorPf3
open Go Go.Eng Go.Proofs
namespace Go.Proofs.YtnkgapmhkhcanabGreatDoor.Law
set_option maxRecDepth 100000
set_option linter.unusedVariables false
set_option maxHeartbeats 1000000
theorem rO {l_1:(List ByteArray)} {r:Int} (hF:iV l_1=some r) :
  FnM Tryz.prog 130 [(vL eS l_1)] [] (vI r) []:=by
 refine FnM.of_wH ⟨Tryz.prog,27,[],[]⟩ rfl Tryz.func130 rfl rfl (lb_ rfl) (by kernel_rfl) ?_
 unfold iV at hF
 refine ai (aa (vI 0) (ah (ak (ai (aa (vL eS l_1) (bG AU rfl wz (aa (vI 0) (ah ?_))))))))
 obtain ⟨o_10,hj_11,hF⟩:=bind_some hF
 obtain ⟨hn_6,hj_11⟩:=bg hj_11
 refine cK (λ(s_7:Unit)=>[]) (λ(s_7:Unit)=>[]) (λ(k_2:Nat)=>(λ(s_7:Unit)=>[(0,(vL eS l_1)),(5,(vL eS l_1)),(6,(vI (l_1.length:Int))),(7,(vI (k_2:Int)))])) (λk x s=>iw l_1 k x s) o_10 l_1 () hj_11 rfl (aI rfl) ?_ ?_
 ·rintro ⟨k_2,l_3,s_7⟩ ⟨hL_9,hD_5⟩
  dsimp only at hL_9 hD_5
  cases l_3 with
  | nil =>
   obtain rfl:=ae hL_9
   refine ai (aa (vB (decide ((k_2:Int)<(l_1.length:Int)))) (ah ?_))
   refine ak (ax rfl (drop_nil hD_5) (aV ?_))
   exact aU (s_7) rfl rfl (aI rfl)
  | cons x_4 l_3 =>
   obtain ⟨c_,hc_8,hL_9⟩:=bind_some hL_9
   refine ai (aa (vB (decide ((k_2:Int)<(l_1.length:Int)))) (ah ?_))
   refine ak (aA rfl (bz hD_5) (av ?_))
   unfold iw at hc_8
   refine ak (aN (ai (aa (vI (k_2:Int)) (dB yT rfl rfl (bK hD_5) rfl wz (bA sz9 ag9 rfl (vS x_4) rfl wz (aa (vI (k_2:Int)) (aa (vS x_4) (ah (ak (ai (aa (vS x_4) ?_)))))))))))
   obtain ⟨r_12,hr_13,hc_8⟩:=bind_some hc_8
   refine aB (eD hr_13) rfl AQ rfl rfl rfl rfl wz (aa (vB (!r_12)) (ah ?_))
   rcases aj hc_8 with⟨hc_14,hc_8⟩|⟨hc_14,hc_8⟩
   ·refine aA rfl hc_14 (ai (aa (vI 5) (ah ?_)))
    obtain rfl:=ae hc_8
    obtain rfl:=ae hL_9
    obtain rfl:=ae hF
    exact ay (aK [(vI 5)] ⟨rfl,trivial⟩)
   ·refine ax rfl hc_14 (av (ak ?_))
    obtain ⟨v_15,h_16,hc_8⟩:=bind_some hc_8
    refine aM [(0,(vL eS l_1)),(5,(vL eS l_1)),(6,(vI (l_1.length:Int))),(7,(vI (k_2:Int))),(25,(vB v_15))] [] ?_ ?_
    ·refine au (aa (vI (k_2:Int)) (aa (vB (decide ((k_2:Int)>0))) ?_))
     rcases aj h_16 with⟨hc_17,h_16⟩|⟨hc_17,h_16⟩
     ·refine aC rfl hc_17 wz (aG (vS x_4) wa rfl (aG (vL eS l_1) wa rfl (aG (vI (k_2:Int)) wa rfl (aG (vI (w64 ((k_2:Int)-1))) wa rfl ?_))))
      obtain ⟨y_18,hy_19,h_16⟩:=bind_some h_16
      refine dB yT rfl rfl hy_19 rfl wa (bA sz9 ag9 rfl (vS y_18) rfl wa (aG (vB (sLe x_4 y_18)) wa rfl (aa (vB (sLe x_4 y_18)) (ah ?_))))
      obtain rfl:=ae h_16
      exact cu
     ·refine aC rfl hc_17 wz (af (af (af (af (af (af (af (aa (vB false) (ah ?_)))))))))
      obtain rfl:=ae h_16
      exact cu
    ·rintro ⟨⟩ _ sl_ H_ hp_ hq_
     refine aO _ hp_ hq_ ?_
     rcases aj hc_8 with⟨hc_20,hc_8⟩|⟨hc_20,hc_8⟩
     ·refine aA rfl hc_20 (ai (aa (vI 7) (ah ?_)))
      obtain rfl:=ae hc_8
      obtain rfl:=ae hL_9
      obtain rfl:=ae hF
      exact ay (aK [(vI 7)] ⟨rfl,trivial⟩)
     ·refine ax rfl hc_20 (av (au (fq (bH hD_5 hn_6) wz rfl (aa (vI ((k_2+1:Nat):Int)) (ah ?_)))))
      obtain rfl:=ae hc_8
      exact aS (k_2+1,l_3,()) ⟨hL_9,aR hD_5⟩ (ls_ _) rfl (aI rfl)
 ·rintro s_7 ho_ sl_ H_ hp_ hq_
  subst ho_
  refine aO _ hp_ hq_ (ai (aa (vI 0) (ah ?_)))
  obtain rfl:=ae hF
  exact ay (aK [(vI 0)] ⟨rfl,trivial⟩)
theorem wB {l_1:(List ByteArray)} {r:Int} (hF:iH l_1=some r) :
  FnM Tryz.prog 128 [(vL eS l_1)] [] (vI r) []:=by
 refine FnM.of_wH ⟨Tryz.prog,8,[],[]⟩ rfl Tryz.func128 rfl rfl (lb_ rfl) (by kernel_rfl) ?_
 unfold iH at hF
 refine ai (aa (vI 0) (ah (ak (ai (aa (vL eS l_1) (bG AU rfl wz (aa (vB (decide ((l_1.length:Int)>20))) (ah ?_))))))))
 rcases aj hF with⟨hc_2,hF⟩|⟨hc_2,hF⟩
 ·refine aA rfl hc_2 (ai (aa (vI 2) (ah ?_)))
  obtain rfl:=ae hF
  exact ay (aK [(vI 2)] ⟨rfl,trivial⟩)
 ·refine ax rfl hc_2 (av (ai (aa (vL eS l_1) ?_)))
  obtain ⟨r_3,hr_4,hF⟩:=bind_some hF
  refine aB (rO hr_4) rfl hb130 rfl rfl rfl rfl wz (aa (vI r_3) (ah ?_))
  obtain rfl:=ae hF
  exact ay (aK [(vI r_3)] ⟨rfl,trivial⟩)
theorem ve {e_1:Entry} {r:Int} (hF:ib e_1=some r) :
  FnM Tryz.prog 92 [(.d (.agg (Entry.enc e_1)))] [] (vI r) []:=by
 refine FnM.of_wH ⟨Tryz.prog,61,[],[]⟩ rfl Tryz.func92 rfl rfl (lb_ rfl) (by kernel_rfl) ?_
 unfold ib at hF
 refine ai (gZ 0 (.inl rfl) (Entry.v e_1) rfl rfl wz (λn_2=>aa (vI 0) (ah (ak (ak ?_)))))
 obtain ⟨v_3,h_4,hF⟩:=bind_some hF
 refine aM [(1,(.ref n_2 0 0)),(13,(vB v_3))] [(n_2,some (.cells 13 (Entry.v e_1)))] ?_ ?_
 ·refine au (aJ Jz rfl 0 rfl wz (aH 0 0 il ft sz9 ag9 rfl rfl (vS e_1.Key) rfl wz ?_))
  obtain ⟨r_5,hr_6,h_4⟩:=bind_some h_4
  refine aB (eD hr_6) rfl AQ rfl rfl rfl rfl wz (aa (vB (!r_5)) ?_)
  rcases aj h_4 with⟨hc_7,h_4⟩|⟨hc_7,h_4⟩
  ·refine aC rfl hc_7 wz (af (af (af (af (aa (vB true) (ah ?_))))))
   obtain rfl:=ae h_4
   exact cu
  ·refine aC rfl hc_7 wz (aJ pl84_1 rfl 1 rfl wa (aH 0 0 il ft sz9 ag9 rfl rfl (vS e_1.Item) rfl wa ?_))
   obtain ⟨r_8,hr_9,h_4⟩:=bind_some h_4
   refine aB (eD hr_9) rfl AQ rfl rfl rfl rfl wa (aG (vB (!r_8)) wa rfl (aa (vB (!r_8)) (ah ?_)))
   obtain rfl:=ae h_4
   exact cu
 ·rintro ⟨⟩ _ sl_ H_ hp_ hq_
  refine aO _ hp_ hq_ ?_
  rcases aj hF with⟨hc_10,hF⟩|⟨hc_10,hF⟩
  ·refine aA rfl hc_10 (ai (aa (vI 5) (ah ?_)))
   obtain rfl:=ae hF
   exact ay (aK [(vI 5)] ⟨rfl,trivial⟩)
  ·refine ax rfl hc_10 (av (ak (ak ?_)))
   obtain ⟨v_11,h_12,hF⟩:=bind_some hF
   refine aM [(1,(.ref n_2 0 0)),(38,(vB v_11))] [(n_2,some (.cells 13 (Entry.v e_1)))] ?_ ?_
   ·refine au (aJ pl84_2 rfl 2 rfl wz (aH 0 0 il ft sz3 ag3 rfl rfl (vI e_1.Version) rfl wz ?_))
    obtain ⟨r_13,hr_14,h_12⟩:=bind_some h_12
    refine aB (aW hr_14) rfl pU rfl rfl rfl rfl wz ?_
    rcases aj h_12 with⟨hc_15,h_12⟩|⟨hc_15,h_12⟩
    ·refine aC rfl hc_15 wz (af (af (af (af (af (aa (vB true) (aa (vB true) (af (af (af (aa (vB true) (aa (vB true) (af (af (af (aa (vB true) (aa (vB true) (af (af (af (aa (vB true) (ah ?_))))))))))))))))))))))
     obtain rfl:=ae h_12
     exact cu
    ·refine aC rfl hc_15 wz (aJ Gs rfl 3 rfl wa (aH 0 0 il ft sz3 ag3 rfl rfl (vI e_1.First) rfl wa (aJ Fa rfl 4 rfl wa (aH 0 0 il ft sz3 ag3 rfl rfl (vI e_1.Last) rfl wa ?_))))
     obtain ⟨r_16,hr_17,h_12⟩:=bind_some h_12
     refine aB (aW hr_17) rfl pU rfl rfl rfl rfl wa (aa (vB r_16) ?_)
     rcases aj h_12 with⟨hc_18,h_12⟩|⟨hc_18,h_12⟩
     ·refine aC rfl hc_18 wz (af (af (af (aa (vB true) (aa (vB true) (af (af (af (aa (vB true) (aa (vB true) (af (af (af (aa (vB true) (ah ?_)))))))))))))))
      obtain rfl:=ae h_12
      exact cu
     ·refine aC rfl hc_18 wz (aJ Fa rfl 4 rfl wa (aH 0 0 il ft sz3 ag3 rfl rfl (vI e_1.Last) rfl wa (aG (vB (decide (e_1.Last>4000))) wa rfl (aa (vB (decide (e_1.Last>4000))) ?_))))
      rcases aj h_12 with⟨hc_19,h_12⟩|⟨hc_19,h_12⟩
      ·refine aC rfl hc_19 wz (af (af (af (aa (vB true) (aa (vB true) (af (af (af (aa (vB true) (ah ?_))))))))))
       obtain rfl:=ae h_12
       exact cu
      ·refine aC rfl hc_19 wz (aJ OO rfl 5 rfl wa (aH 0 0 il ft sz3 ag3 rfl rfl (vI e_1.Every) rfl wa ?_))
       obtain ⟨r_20,hr_21,h_12⟩:=bind_some h_12
       refine aB (aW hr_21) rfl pU rfl rfl rfl rfl wa (aa (vB r_20) ?_)
       rcases aj h_12 with⟨hc_22,h_12⟩|⟨hc_22,h_12⟩
       ·refine aC rfl hc_22 wz (af (af (af (aa (vB true) (ah ?_)))))
        obtain rfl:=ae h_12
        exact cu
       ·refine aC rfl hc_22 wz (aJ OI rfl 6 rfl wa (aH 0 0 il ft sz3 ag3 rfl rfl (vI e_1.Days) rfl wa ?_))
        obtain ⟨r_23,hr_24,h_12⟩:=bind_some h_12
        refine aB (aW hr_24) rfl pU rfl rfl rfl rfl wa (aa (vB r_23) (ah ?_))
        obtain rfl:=ae h_12
        exact cu
   ·rintro ⟨⟩ _ sl_ H_ hp_ hq_
    refine aO _ hp_ hq_ ?_
    rcases aj hF with⟨hc_25,hF⟩|⟨hc_25,hF⟩
    ·refine aA rfl hc_25 (ai (aa (vI 1) (ah ?_)))
     obtain rfl:=ae hF
     exact ay (aK [(vI 1)] ⟨rfl,trivial⟩)
    ·refine ax rfl hc_25 (av (ak (ai (aJ Nl rfl 7 rfl wz (aH 0 0 il ft L8 Mm rfl rfl (vL eI e_1.Except) rfl wz ?_)))))
     obtain ⟨r_26,hr_27,hF⟩:=bind_some hF
     refine aB (tL hr_27) rfl hb127 rfl rfl rfl rfl wz (aa (vI r_26) (ah (ai (aa (vI r_26) (aa (vB (r_26 != 0)) (ah ?_))))))
     rcases aj hF with⟨hc_28,hF⟩|⟨hc_28,hF⟩
     ·refine aA rfl hc_28 (ai (aa (vI r_26) (aa (vI r_26) (ah ?_))))
      obtain rfl:=ae hF
      exact ay (aK [(vI r_26)] ⟨rfl,trivial⟩)
     ·refine ax rfl hc_28 (av (ak (ak ?_)))
      obtain ⟨v_29,h_30,hF⟩:=bind_some hF
      refine aM [(1,(.ref n_2 0 0)),(57,(vB v_29))] [(n_2,some (.cells 13 (Entry.v e_1)))] ?_ ?_
      ·refine au (aJ JG rfl 8 rfl wz (aH 0 0 il ft sz3 ag3 rfl rfl (vI e_1.From) rfl wz ?_))
       obtain ⟨r_31,hr_32,h_30⟩:=bind_some h_30
       refine aB (aW hr_32) rfl pU rfl rfl rfl rfl wz ?_
       rcases aj h_30 with⟨hc_33,h_30⟩|⟨hc_33,h_30⟩
       ·refine aC rfl hc_33 wz (af (af (af (aa (vB true) (aa (vB true) (af (af (af (aa (vB true) (ah ?_))))))))))
        obtain rfl:=ae h_30
        exact cu
       ·refine aC rfl hc_33 wz (aJ Oj rfl 9 rfl wa (aH 0 0 il ft sz3 ag3 rfl rfl (vI e_1.To) rfl wa ?_))
        obtain ⟨r_34,hr_35,h_30⟩:=bind_some h_30
        refine aB (aW hr_35) rfl pU rfl rfl rfl rfl wa (aa (vB r_34) ?_)
        rcases aj h_30 with⟨hc_36,h_30⟩|⟨hc_36,h_30⟩
        ·refine aC rfl hc_36 wz (af (af (af (aa (vB true) (ah ?_)))))
         obtain rfl:=ae h_30
         exact cu
        ·refine aC rfl hc_36 wz (aJ pl84_10 rfl 10 rfl wa (aH 0 0 il ft sz3 ag3 rfl rfl (vI e_1.Prio) rfl wa ?_))
         obtain ⟨r_37,hr_38,h_30⟩:=bind_some h_30
         refine aB (aW hr_38) rfl pU rfl rfl rfl rfl wa (aa (vB r_37) (ah ?_))
         obtain rfl:=ae h_30
         exact cu
      ·rintro ⟨⟩ _ sl_ H_ hp_ hq_
       refine aO _ hp_ hq_ ?_
       rcases aj hF with⟨hc_39,hF⟩|⟨hc_39,hF⟩
       ·refine aA rfl hc_39 (ai (aa (vI 1) (ah ?_)))
        obtain rfl:=ae hF
        exact ay (aK [(vI 1)] ⟨rfl,trivial⟩)
       ·refine ax rfl hc_39 (av (ai (aJ pl84_11 rfl 11 rfl wz (aH 0 0 il ft MG Ld rfl rfl (vL eS e_1.Tags) rfl wz ?_))))
        obtain ⟨r_40,hr_41,hF⟩:=bind_some hF
        refine aB (wB hr_41) rfl hb128 rfl rfl rfl rfl wz (aa (vI r_40) (ah ?_))
        obtain rfl:=ae hF
        exact ay (aK [(vI r_40)] ⟨rfl,trivial⟩)
theorem sV {l_1:(List Entry)} {r:Int} (hF:fU l_1=some r) :
  FnM Tryz.prog 56 [(vL Entry.enc l_1)] [] (vI r) []:=by
 refine FnM.of_wH ⟨Tryz.prog,35,[],[]⟩ rfl Tryz.func56 rfl rfl (lb_ rfl) (by kernel_rfl) ?_
 unfold fU at hF
 refine ai (aa (vI 0) (ah (ak (ai (aa (vL Entry.enc l_1) (bG un117 rfl wz (aa (vB (decide ((l_1.length:Int)>200))) (ah ?_))))))))
 rcases aj hF with⟨hc_2,hF⟩|⟨hc_2,hF⟩
 ·refine aA rfl hc_2 (ai (aa (vI 2) (ah ?_)))
  obtain rfl:=ae hF
  exact ay (aK [(vI 2)] ⟨rfl,trivial⟩)
 ·refine ax rfl hc_2 (av (ak (ai (aa (vL Entry.enc l_1) (bG un117 rfl wz (aa (vI 0) (ah ?_)))))))
  obtain ⟨o_11,hj_12,hF⟩:=bind_some hF
  obtain ⟨hn_7,hj_12⟩:=bg hj_12
  refine cK (λ(s_8:Unit)=>[]) (λ(s_8:Unit)=>[]) (λ(k_3:Nat)=>(λ(s_8:Unit)=>[(0,(vL Entry.enc l_1)),(9,(vL Entry.enc l_1)),(10,(vI (l_1.length:Int))),(11,(vI (k_3:Int)))])) (λk x s=>fo l_1 k x s) o_11 l_1 () hj_12 rfl (aI rfl) ?_ ?_
  ·rintro ⟨k_3,l_4,s_8⟩ ⟨hL_10,hD_6⟩
   dsimp only at hL_10 hD_6
   cases l_4 with
   | nil =>
    obtain rfl:=ae hL_10
    refine ai (aa (vB (decide ((k_3:Int)<(l_1.length:Int)))) (ah ?_))
    refine ak (ax rfl (drop_nil hD_6) (aV ?_))
    exact aU (s_8) rfl rfl (aI rfl)
   | cons x_5 l_4 =>
    obtain ⟨c_,hc_9,hL_10⟩:=bind_some hL_10
    refine ai (aa (vB (decide ((k_3:Int)<(l_1.length:Int)))) (ah ?_))
    refine ak (aA rfl (bz hD_6) (av ?_))
    unfold fo at hc_9
    refine ak (aN (ai (aa (vI (k_3:Int)) (dB Nu rfl rfl (bK hD_6) rfl wz (bA JC Mg rfl (.d (.agg (Entry.enc x_5))) rfl wz (dK 0 (.inl rfl) z84 rfl wz (λn_13=>aa (vI (k_3:Int)) (gP 0 il ft 0 JC rfl rfl (Entry.v x_5) rfl wz (ah (ak (ai (aH 0 0 il ft JC Mg rfl rfl (.d (.agg (Entry.enc x_5))) rfl wz ?_))))))))))))
    obtain ⟨r_14,hr_15,hc_9⟩:=bind_some hc_9
    refine aB (ve hr_15) rfl hb92 rfl rfl rfl rfl wz (aa (vI r_14) (ah (ai (aa (vI r_14) (aa (vB (r_14 != 0)) (ah ?_))))))
    rcases aj hc_9 with⟨hc_16,hc_9⟩|⟨hc_16,hc_9⟩
    ·refine aA rfl hc_16 (ai (aa (vI r_14) (aa (vI r_14) (ah ?_))))
     obtain rfl:=ae hc_9
     obtain rfl:=ae hL_10
     obtain rfl:=ae hF
     exact ay (aK [(vI r_14)] ⟨rfl,trivial⟩)
    ·refine ax rfl hc_16 (av (ak ?_))
     obtain ⟨v_17,h_18,hc_9⟩:=bind_some hc_9
     refine aM [(0,(vL Entry.enc l_1)),(9,(vL Entry.enc l_1)),(10,(vI (l_1.length:Int))),(11,(vI (k_3:Int))),(33,(vB v_17))] [(n_13,some (.cells 13 (Entry.v x_5)))] ?_ ?_
     ·refine aZ (aa (vI (k_3:Int)) (aa (vB (decide ((k_3:Int)>0))) ?_))
      rcases aj h_18 with⟨hc_19,h_18⟩|⟨hc_19,h_18⟩
      ·refine aC rfl hc_19 wz (aJ Jz rfl 0 rfl wa (aH 4 0 (.inr (by kernel_rfl)) (λ_ _ ag=>trivial) sz9 ag9 rfl rfl (vS x_5.Key) rfl wa (aG (vL Entry.enc l_1) wa rfl (aG (vI (k_3:Int)) wa rfl (aG (vI (w64 ((k_3:Int)-1))) wa rfl ?_)))))
       obtain ⟨y_20,hy_21,h_18⟩:=bind_some h_18
       refine dB Nu rfl rfl hy_21 rfl wa (lK Jz rfl (Entry.enc y_20) rfl rfl wa (bA sz9 ag9 rfl (vS y_20.Key) rfl wa (aG (vB (sLe x_5.Key y_20.Key)) wa rfl (aa (vB (sLe x_5.Key y_20.Key)) (ah ?_)))))
       obtain rfl:=ae h_18
       exact cu
      ·refine aC rfl hc_19 wz (af (af (af (af (af (af (af (af (af (aa (vB false) (ah ?_)))))))))))
       obtain rfl:=ae h_18
       exact cu
     ·rintro ⟨⟩ _ sl_ H_ hp_ hq_
      refine aO _ hp_ hq_ ?_
      rcases aj hc_9 with⟨hc_22,hc_9⟩|⟨hc_22,hc_9⟩
      ·refine aA rfl hc_22 (ai (aa (vI 7) (ah ?_)))
       obtain rfl:=ae hc_9
       obtain rfl:=ae hL_10
       obtain rfl:=ae hF
       exact ay (aK [(vI 7)] ⟨rfl,trivial⟩)
      ·refine ax rfl hc_22 (av (au (fq (bH hD_6 hn_7) wz rfl (aa (vI ((k_3+1:Nat):Int)) (ah ?_)))))
       obtain rfl:=ae hc_9
       exact aS (k_3+1,l_4,()) ⟨hL_10,aR hD_6⟩ (ls_ _) rfl (aI rfl)
  ·rintro s_8 ho_ sl_ H_ hp_ hq_
   subst ho_
   refine aO _ hp_ hq_ (ai (aa (vI 0) (ah ?_)))
   obtain rfl:=ae hF
   exact ay (aK [(vI 0)] ⟨rfl,trivial⟩)
theorem tQ {wv_1:Window} {r:Int} (hF:iW wv_1=some r) :
  FnM Tryz.prog 57 [(.d (.agg (Window.enc wv_1)))] [] (vI r) []:=by
 refine FnM.of_wH ⟨Tryz.prog,19,[],[]⟩ rfl Tryz.func57 rfl rfl (lb_ rfl) (by kernel_rfl) ?_
 unfold iW at hF
 refine ai (gZ 0 (.inl rfl) [(vI wv_1.From),(vI wv_1.To)] rfl rfl wz (λn_2=>aa (vI 0) (ah (ak (ak ?_)))))
 obtain ⟨v_3,h_4,hF⟩:=bind_some hF
 refine aM [(1,(.ref n_2 0 0)),(12,(vB v_3))] [(n_2,some (.cells 2 [(vI wv_1.From),(vI wv_1.To)]))] ?_ ?_
 ·refine au (aJ ol rfl 0 rfl wz (aH 0 0 il ft sz3 ag3 rfl rfl (vI wv_1.From) rfl wz (aJ oD rfl 1 rfl wz (aH 0 0 il ft sz3 ag3 rfl rfl (vI wv_1.To) rfl wz ?_))))
  obtain ⟨r_5,hr_6,h_4⟩:=bind_some h_4
  refine aB (aW hr_6) rfl pU rfl rfl rfl rfl wz ?_
  rcases aj h_4 with⟨hc_7,h_4⟩|⟨hc_7,h_4⟩
  ·refine aC rfl hc_7 wz (af (af (af (aa (vB true) (ah ?_)))))
   obtain rfl:=ae h_4
   exact cu
  ·refine aC rfl hc_7 wz (aJ oD rfl 1 rfl wa (aH 0 0 il ft sz3 ag3 rfl rfl (vI wv_1.To) rfl wa (aG (vB (decide (wv_1.To>345686400000))) wa rfl (aa (vB (decide (wv_1.To>345686400000))) (ah ?_)))))
   obtain rfl:=ae h_4
   exact cu
 ·rintro ⟨⟩ _ sl_ H_ hp_ hq_
  refine aO _ hp_ hq_ ?_
  rcases aj hF with⟨hc_8,hF⟩|⟨hc_8,hF⟩
  ·refine aA rfl hc_8 (ai (aa (vI 1) (ah ?_)))
   obtain rfl:=ae hF
   exact ay (aK [(vI 1)] ⟨rfl,trivial⟩)
  ·refine ax rfl hc_8 (av (ak (ai (aJ oD rfl 1 rfl wz (aH 0 0 il ft sz3 ag3 rfl rfl (vI wv_1.To) rfl wz (aJ ol rfl 0 rfl wz (aH 0 0 il ft sz3 ag3 rfl rfl (vI wv_1.From) rfl wz (aa (vI (w64 (wv_1.To-wv_1.From))) (aa (vB (decide ((w64 (wv_1.To-wv_1.From))>34560000000))) (ah ?_))))))))))
   rcases aj hF with⟨hc_9,hF⟩|⟨hc_9,hF⟩
   ·refine aA rfl hc_9 (ai (aa (vI 2) (ah ?_)))
    obtain rfl:=ae hF
    exact ay (aK [(vI 2)] ⟨rfl,trivial⟩)
   ·refine ax rfl hc_9 (av (ai (aa (vI 0) (ah ?_))))
    obtain rfl:=ae hF
    exact ay (aK [(vI 0)] ⟨rfl,trivial⟩)
theorem BM {x_1:Int} {y_2:Int} {r:Bool} (hF:cmp_Less_int x_1 y_2=some r) :
  FnM Tryz.prog 161 [(vI x_1),(vI y_2)] [] (vB r) []:=by
 refine FnM.of_wH ⟨Tryz.prog,17,[],[]⟩ rfl Tryz.func161 rfl rfl (lb_ rfl) (by kernel_rfl) ?_
 unfold cmp_Less_int at hF
 refine ai (aa (vB false) (ah (ak ?_)))
 obtain ⟨v_3,h_4,hF⟩:=bind_some hF
 refine aM [(4,(vB v_3))] [] ?_ ?_
 ·refine au (aa (vI x_1) ?_)
  obtain ⟨r_5,hr_6,h_4⟩:=bind_some h_4
  refine aB (ll hr_6) rfl hb76 rfl rfl rfl rfl wz ?_
  rcases aj h_4 with⟨hc_7,h_4⟩|⟨hc_7,h_4⟩
  ·refine aC rfl hc_7 wz (aG (vI y_2) wa rfl ?_)
   obtain ⟨r_8,hr_9,h_4⟩:=bind_some h_4
   refine aB (ll hr_9) rfl hb76 rfl rfl rfl rfl wa (aG (vB (!r_8)) wa rfl (aa (vB (!r_8)) ?_))
   rcases aj h_4 with⟨hc_10,h_4⟩|⟨hc_10,h_4⟩
   ·refine aC rfl hc_10 wz (af (af (af (aa (vB true) (aa (vB true) (ah ?_))))))
    obtain rfl:=ae h_4
    exact cu
   ·refine aC rfl hc_10 wz (aG (vI x_1) wa rfl (aG (vI y_2) wa rfl (aG (vB (decide (x_1<y_2))) wa rfl (aa (vB (decide (x_1<y_2))) (aa (vB (decide (x_1<y_2))) (ah ?_))))))
    obtain rfl:=ae h_4
    exact cu
  ·refine aC rfl hc_7 wz (af (af (af (aa (vB false) (aa (vB false) (aG (vI x_1) wa rfl (aG (vI y_2) wa rfl (aG (vB (decide (x_1<y_2))) wa rfl (aa (vB (decide (x_1<y_2))) (aa (vB (decide (x_1<y_2))) (ah ?_)))))))))))
   obtain rfl:=ae h_4
   exact cu
 ·rintro ⟨⟩ _ sl_ H_ hp_ hq_
  refine aO _ hp_ hq_ ?_
  obtain rfl:=ae hF
  exact ay (aK [(vB v_3)] ⟨rfl,trivial⟩)
theorem qE {x_1:Int} {r:Bool} (hF:iq x_1=some r) :
  FnM Tryz.prog 168 [(vI x_1)] [] (vB r) []:=by
 refine FnM.of_wH ⟨Tryz.prog,6,[],[]⟩ rfl Tryz.func168 rfl rfl (lb_ rfl) (by kernel_rfl) ?_
 unfold iq at hF
 refine ai (aa (vB false) (ah (ai (aa (vI x_1) (aa (vI x_1) (aa (vB (x_1 != x_1)) (aa (vB (x_1 != x_1)) (ah ?_))))))))
 obtain rfl:=ae hF
 exact ay (aK [(vB (x_1 != x_1))] ⟨rfl,trivial⟩)
theorem om {x_1:(List Int)} {target_2:Int} {r:Int×Bool} (hF:dL x_1 target_2=some r) :
  FnM Tryz.prog 129 [(vL eI x_1),(vI target_2)] [] (.tup [(vI r.1),(vB r.2)]) []:=by
 refine FnM.of_wH ⟨Tryz.prog,54,[],[]⟩ rfl Tryz.func129 rfl rfl (lb_ rfl) (by kernel_rfl) ?_
 unfold dL at hF
 refine ai (aa (vI 0) (aa (vB false) (ah (ai (aa (vL eI x_1) (bG uF rfl wz (aa (vI (x_1.length:Int)) (ah (ai (aa (vI (x_1.length:Int)) (aa (vI 0) (aa (vI (x_1.length:Int)) (ah (ak ?_))))))))))))))
 obtain ⟨o_11,hj_12,hF⟩:=bind_some hF
 obtain ⟨nq_34,hj_12⟩:=cB hj_12
 refine dJ (λ(s_8:Int×Int)=>[(0,(vL eI x_1)),(1,(vI target_2)),(6,(vI (x_1.length:Int))),(7,(vI s_8.1))]) (λ(s_8:Int×Int)=>[]) (λ(k_3:Nat)=>(λ(s_8:Int×Int)=>[(0,(vL eI x_1)),(1,(vI target_2)),(6,(vI (x_1.length:Int))),(7,(vI s_8.1)),(8,(vI s_8.2))])) (λs=>eF x_1 target_2 s) o_11 nq_34 (0,(x_1.length:Int)) hj_12 rfl (aI rfl) ?_ ?_
 ·rintro ⟨k_3,s_8⟩ hL_10
  dsimp only at hL_10
  cases k_3 with
  | zero=>cases hL_10
  | succ k_3 =>
   obtain ⟨c_,hc_9,hL_10⟩:=bind_some hL_10
   unfold eF at hc_9
   refine ak (ai (aa (vI s_8.1) (aa (vI s_8.2) (aa (vB (decide (s_8.1<s_8.2))) (ah ?_)))))
   rcases aj hc_9 with⟨hc_13,hc_9⟩|⟨hc_13,hc_9⟩
   ·refine aA rfl hc_13 (av (aN (ai (aa (vI s_8.1) (aa (vI s_8.2) (aa (vI (w64 (s_8.1+s_8.2))) (qd un3 EU rfl wz ?_)))))))
    obtain ⟨q_14,hz_15,hc_9⟩:=bind_some hc_9
    refine H6 rfl rfl hz_15 wz (qd EU un3 rfl wz (aa (vI (w64 q_14)) (ah (ai (aa (vL eI x_1) (aa (vI (w64 q_14)) ?_))))))
    obtain ⟨y_16,hy_17,hc_9⟩:=bind_some hc_9
    refine dB qV rfl rfl hy_17 rfl wz (bA sz3 ag3 rfl (vI y_16) rfl wz (aa (vI target_2) ?_))
    obtain ⟨r_18,hr_19,hc_9⟩:=bind_some hc_9
    refine aB (BM hr_19) rfl hb161 rfl rfl rfl rfl wz (ah ?_)
    rcases aj hc_9 with⟨hc_20,hc_9⟩|⟨hc_20,hc_9⟩
    ·refine aA rfl hc_20 (au (aa (vI (w64 q_14)) (aa (vI (w64 ((w64 q_14)+1))) (aa (vI (w64 ((w64 q_14)+1))) (ah ?_)))))
     obtain rfl:=ae hc_9
     exact aS (k_3,((w64 ((w64 q_14)+1)),s_8.2)) hL_10 (ls_ _) rfl (aI rfl)
    ·refine ax rfl hc_20 (au (aa (vI (w64 q_14)) (aa (vI (w64 q_14)) (ah ?_))))
     obtain rfl:=ae hc_9
     exact aS (k_3,(s_8.1,(w64 q_14))) hL_10 (ls_ _) rfl (aI rfl)
   ·refine ax rfl hc_13 (aV ?_)
    obtain rfl:=ae hc_9
    obtain rfl:=ae hL_10
    exact aU ((s_8.1,s_8.2)) rfl rfl (aI rfl)
 ·rintro s_8 ho_ sl_ H_ hp_ hq_
  subst ho_
  refine aO _ hp_ hq_ (ak ?_)
  obtain ⟨v_21,h_22,hF⟩:=bind_some hF
  refine aM [(4,(vI s_8.1)),(5,(vB v_21))] [] ?_ ?_
  ·refine au (aa (vI s_8.1) (aa (vI s_8.1) (aa (vI (x_1.length:Int)) (aa (vB (decide (s_8.1<(x_1.length:Int)))) ?_))))
   rcases aj h_22 with⟨hc_23,h_22⟩|⟨hc_23,h_22⟩
   ·refine aC rfl hc_23 wz (aG (vL eI x_1) wa rfl (aG (vI s_8.1) wa rfl ?_))
    obtain ⟨y_24,hy_25,h_22⟩:=bind_some h_22
    refine dB qV rfl rfl hy_25 rfl wa (bA sz3 ag3 rfl (vI y_24) rfl wa (aG (vI target_2) wa rfl (aG (vB (y_24==target_2)) wa rfl ?_)))
    rcases aj h_22 with⟨hc_26,h_22⟩|⟨hc_26,h_22⟩
    ·refine aC rfl hc_26 wa (af (af (af (af (af (af (bQ (wn rfl rfl) (bQ (wn rfl rfl) (af (aG (vB true) wa rfl (aa (vB true) (aa (vI s_8.1) (aa (vB true) (ah ?_))))))))))))))
     obtain rfl:=ae h_22
     exact cu
    ·refine aC rfl hc_26 wa (aG (vL eI x_1) wa rfl (aG (vI s_8.1) wa rfl ?_))
     obtain ⟨y_27,hy_28,h_22⟩:=bind_some h_22
     refine dB qV rfl rfl hy_28 rfl wa (bA sz3 ag3 rfl (vI y_27) rfl wa ?_)
     obtain ⟨r_29,hr_30,h_22⟩:=bind_some h_22
     refine aB (qE hr_30) rfl hb168 rfl rfl rfl rfl wa ?_
     rcases aj h_22 with⟨hc_31,h_22⟩|⟨hc_31,h_22⟩
     ·refine aC rfl hc_31 wa (aG (vI target_2) wa rfl ?_)
      obtain ⟨r_32,hr_33,h_22⟩:=bind_some h_22
      refine aB (qE hr_33) rfl hb168 rfl rfl rfl rfl wa (aG (vB r_32) wa rfl (aG (vB r_32) wa rfl (aa (vB r_32) (aa (vI s_8.1) (aa (vB r_32) (ah ?_))))))
      obtain rfl:=ae h_22
      exact cu
     ·refine aC rfl hc_31 wa (af (af (aG (vB false) wa rfl (aG (vB false) wa rfl (aa (vB false) (aa (vI s_8.1) (aa (vB false) (ah ?_))))))))
      obtain rfl:=ae h_22
      exact cu
   ·refine aC rfl hc_23 wz (af (af (af (af (af (af (af (bQ (wn rfl rfl) (bQ (wn rfl rfl) (bQ (wn rfl rfl) (bQ (wn rfl rfl) (bQ (wn rfl rfl) (bQ (wn rfl rfl) (bQ (wn rfl rfl) (bQ (wn rfl rfl) (bQ (wn rfl rfl) (af (aa (vB false) (aa (vI s_8.1) (aa (vB false) (ah ?_)))))))))))))))))))))
    obtain rfl:=ae h_22
    exact cu
  ·rintro ⟨⟩ _ sl_ H_ hp_ hq_
   refine aO _ hp_ hq_ ?_
   obtain rfl:=ae hF
   exact ay (aK [(vI s_8.1),(vB v_21)] ⟨rfl,⟨rfl,trivial⟩⟩)
theorem zg {e_1:Entry} {d_2:Int} {r:Bool} (hF:kM e_1 d_2=some r) :
  FnM Tryz.prog 93 [(.d (.agg (Entry.enc e_1))),(vI d_2)] [] (vB r) []:=by
 refine FnM.of_wH ⟨Tryz.prog,41,[],[]⟩ rfl Tryz.func93 rfl rfl (lb_ rfl) (by kernel_rfl) ?_
 unfold kM at hF
 refine ai (gZ 0 (.inl rfl) (Entry.v e_1) rfl rfl wz (λn_3=>aa (vB false) (ah (ak (ak ?_)))))
 obtain ⟨v_4,h_5,hF⟩:=bind_some hF
 refine aM [(1,(vI d_2)),(2,(.ref n_3 0 0)),(31,(vB v_4))] [(n_3,some (.cells 13 (Entry.v e_1)))] ?_ ?_
 ·refine aZ (aa (vI d_2) (aJ Gs rfl 3 rfl wz (aH 2 0 (.inr (by kernel_rfl)) (λ_ _ ag=>trivial) sz3 ag3 rfl rfl (vI e_1.First) rfl wz (aJ Fa rfl 4 rfl wz (aH 4 0 (.inr (by kernel_rfl)) (λ_ _ ag=>⟨.inl ⟨rfl,rfl⟩,trivial⟩) sz3 ag3 rfl rfl (vI e_1.Last) rfl wz ?_)))))
  obtain ⟨r_6,hr_7,h_5⟩:=bind_some h_5
  refine aB (aW hr_7) rfl pU rfl rfl rfl rfl wz ?_
  rcases aj h_5 with⟨hc_8,h_5⟩|⟨hc_8,h_5⟩
  ·refine aC rfl hc_8 wz (af (af (af (af (af (af (af (af (aa (vB true) (aa (vB true) (af (af (af (af (af (af (af (aa (vB true) (ah ?_)))))))))))))))))))
   obtain rfl:=ae h_5
   exact cu
  ·refine aC rfl hc_8 wz (aG (vI d_2) wa rfl (aJ Gs rfl 3 rfl wa (aH 9 0 (.inr (by kernel_rfl)) (λ_ _ ag=>⟨.inl ⟨rfl,rfl⟩,⟨.inl ⟨rfl,rfl⟩,trivial⟩⟩) sz3 ag3 rfl rfl (vI e_1.First) rfl wa (aG (vI (w64 (d_2-e_1.First))) wa rfl (aJ OO rfl 5 rfl wa (aH 12 0 (.inr (by kernel_rfl)) (λ_ _ ag=>⟨.inl ⟨rfl,rfl⟩,⟨.inl ⟨rfl,rfl⟩,⟨.inl ⟨rfl,rfl⟩,trivial⟩⟩⟩) sz3 ag3 rfl rfl (vI e_1.Every) rfl wa ?_))))))
   obtain ⟨q_9,hz_10,h_5⟩:=bind_some h_5
   refine M0 rfl rfl hz_10 wa (aG (vB (q_9 != 0)) wa rfl (aa (vB (q_9 != 0)) ?_))
   rcases aj h_5 with⟨hc_11,h_5⟩|⟨hc_11,h_5⟩
   ·refine aC rfl hc_11 wz (af (af (af (af (af (af (af (aa (vB true) (ah ?_)))))))))
    obtain rfl:=ae h_5
    exact cu
   ·refine aC rfl hc_11 wz (aJ OI rfl 6 rfl wa (aH 18 0 (.inr (by kernel_rfl)) (λ_ _ ag=>⟨.inl ⟨rfl,rfl⟩,⟨.inl ⟨rfl,rfl⟩,⟨.inl ⟨rfl,rfl⟩,⟨.inl ⟨rfl,rfl⟩,trivial⟩⟩⟩⟩) sz3 ag3 rfl rfl (vI e_1.Days) rfl wa (aG (vI d_2) wa rfl (aG (vI (d_2.tmod 7)) wa rfl ?_))))
    obtain ⟨q_12,hz_13,h_5⟩:=bind_some h_5
    refine h_shl rfl rfl hz_13 wa (aG (vI (Aj .i64 e_1.Days q_12)) wa rfl (aG (vB ((Aj .i64 e_1.Days q_12)==0)) wa rfl (aa (vB ((Aj .i64 e_1.Days q_12)==0)) (ah ?_))))
    obtain rfl:=ae h_5
    exact cu
 ·rintro ⟨⟩ _ sl_ H_ hp_ hq_
  refine aO _ hp_ hq_ ?_
  rcases aj hF with⟨hc_14,hF⟩|⟨hc_14,hF⟩
  ·refine aA rfl hc_14 (ai (aa (vB false) (ah ?_)))
   obtain rfl:=ae hF
   exact ay (aK [(vB false)] ⟨rfl,trivial⟩)
  ·refine ax rfl hc_14 (av (ai (aJ Nl rfl 7 rfl wz (aH 0 0 il ft L8 Mm rfl rfl (vL eI e_1.Except) rfl wz (aa (vI d_2) ?_)))))
   obtain ⟨r_15,hr_16,hF⟩:=bind_some hF
   refine aB (om hr_16) rfl hb129 rfl rfl rfl rfl wz (aa (.tup [(vI r_15.1),(vB r_15.2)]) (aa (vI r_15.1) (aa (vB r_15.2) (aa (vI r_15.1) (aa (vB r_15.2) (ah (ai (aa (vB r_15.2) (aa (vB (!r_15.2)) (aa (vB (!r_15.2)) (ah ?_)))))))))))
   obtain rfl:=ae hF
   exact ay (aK [(vB (!r_15.2))] ⟨rfl,trivial⟩)
theorem yE {e_1:Entry} {zone_2:Int} {d_3:Int} {r:Window} (hF:mq e_1 zone_2 d_3=some r) :
  FnM Tryz.prog 94 [(.d (.agg (Entry.enc e_1))),(vI zone_2),(vI d_3)] [] (.d (.agg (Window.enc r))) []:=by
 refine FnM.of_wH ⟨Tryz.prog,32,[],[]⟩ rfl Tryz.func94 rfl rfl (lb_ rfl) (by kernel_rfl) ?_
 unfold mq at hF
 refine ai (gZ 0 (.inl rfl) (Entry.v e_1) rfl rfl wz (λn_4=>dK 0 (.inl rfl) z86 rfl wz (λn_5=>ah (ai (aJ Oj rfl 9 rfl wz (aH 0 0 il ft sz3 ag3 rfl rfl (vI e_1.To) rfl wz (aJ JG rfl 8 rfl wz (aH 0 0 il ft sz3 ag3 rfl rfl (vI e_1.From) rfl wz (aa (vI (w64 (e_1.To-e_1.From))) (aa (vI (w64 (e_1.To-e_1.From))) (ah (ak (ai (aa (vI (w64 (e_1.To-e_1.From))) (aa (vB (decide ((w64 (e_1.To-e_1.From))<=0))) (ah ?_))))))))))))))))
 obtain ⟨v_6,h_7,hF⟩:=bind_some hF
 refine aM [(1,(vI zone_2)),(2,(vI d_3)),(3,(.ref n_4 0 0)),(6,(.ref n_5 0 0)),(7,(vI v_6))] [(n_4,some (.cells 13 (Entry.v e_1))),(n_5,some (.cells 2 [(vI 0),(vI 0)]))] ?_ ?_
 ·rcases aj h_7 with⟨hc_8,h_7⟩|⟨hc_8,h_7⟩
  ·refine aA rfl hc_8 (au (aa (vI (w64 (e_1.To-e_1.From))) (aa (vI (w64 ((w64 (e_1.To-e_1.From))+1440))) (aa (vI (w64 ((w64 (e_1.To-e_1.From))+1440))) (ah ?_)))))
   obtain rfl:=ae h_7
   exact cu
  ·refine ax rfl hc_8 (av ?_)
   obtain rfl:=ae h_7
   exact cu
 ·rintro ⟨⟩ _ sl_ H_ hp_ hq_
  refine aO _ hp_ hq_ (ai (aa (vI d_3) (aa (vI (w64 (d_3*1440))) (aJ JG rfl 8 rfl wz (aH 0 0 il ft sz3 ag3 rfl rfl (vI e_1.From) rfl wz (aa (vI (w64 ((w64 (d_3*1440))+e_1.From))) (aa (vI zone_2) (aa (vI (w64 ((w64 ((w64 (d_3*1440))+e_1.From))-zone_2))) (aa (vI (w64 ((w64 ((w64 ((w64 (d_3*1440))+e_1.From))-zone_2))*60000))) (aa (vI (w64 ((w64 ((w64 ((w64 (d_3*1440))+e_1.From))-zone_2))*60000))) (ah (ai (aa (vI (w64 ((w64 ((w64 ((w64 (d_3*1440))+e_1.From))-zone_2))*60000))) (aa (vI (w64 ((w64 ((w64 ((w64 (d_3*1440))+e_1.From))-zone_2))*60000))) (aa (vI v_6) (aa (vI (w64 (v_6*60000))) (aa (vI (w64 ((w64 ((w64 ((w64 ((w64 (d_3*1440))+e_1.From))-zone_2))*60000))+(w64 (v_6*60000))))) (aG (.d (.agg (Window.enc (⟨(w64 ((w64 ((w64 ((w64 (d_3*1440))+e_1.From))-zone_2))*60000)),(w64 ((w64 ((w64 ((w64 ((w64 (d_3*1440))+e_1.From))-zone_2))*60000))+(w64 (v_6*60000))))⟩:Window)))) wz (by kernel_rfl) (gP 0 il ft 1 yF rfl rfl [(vI (w64 ((w64 ((w64 ((w64 (d_3*1440))+e_1.From))-zone_2))*60000))),(vI (w64 ((w64 ((w64 ((w64 ((w64 (d_3*1440))+e_1.From))-zone_2))*60000))+(w64 (v_6*60000)))))] rfl wz (ah ?_))))))))))))))))))))
  obtain rfl:=ae hF
  exact ay (aK [(.d (.agg (Window.enc (⟨(w64 ((w64 ((w64 ((w64 (d_3*1440))+e_1.From))-zone_2))*60000)),(w64 ((w64 ((w64 ((w64 ((w64 (d_3*1440))+e_1.From))-zone_2))*60000))+(w64 (v_6*60000))))⟩:Window))))] ⟨⟨1,_,_,_,_,_,_,_,rfl,rfl,yF,Gg,rfl⟩,trivial⟩)
theorem BN {t_1:Window} {wv_2:Window} {r:Window} (hF:vN t_1 wv_2=some r) :
  FnM Tryz.prog 59 [(.d (.agg (Window.enc t_1))),(.d (.agg (Window.enc wv_2)))] [] (.d (.agg (Window.enc r))) []:=by
 refine FnM.of_wH ⟨Tryz.prog,16,[],[]⟩ rfl Tryz.func59 rfl rfl (lb_ rfl) (by kernel_rfl) ?_
 unfold vN at hF
 refine ai (gZ 0 (.inl rfl) [(vI t_1.From),(vI t_1.To)] rfl rfl wz (λn_3=>gZ 0 (.inl rfl) [(vI wv_2.From),(vI wv_2.To)] rfl rfl wz (λn_4=>dK 0 (.inl rfl) z86 rfl wz (λn_5=>ah (ai (aJ ol rfl 0 rfl wz (aH 0 0 il ft sz3 ag3 rfl rfl (vI t_1.From) rfl wz (aJ ol rfl 0 rfl wz (aH 0 1 il ft sz3 ag3 rfl rfl (vI wv_2.From) rfl wz (tq (vI (tT t_1.From wv_2.From)) rfl (.inr rfl) wz (aJ oD rfl 1 rfl wz (aH 0 0 il ft sz3 ag3 rfl rfl (vI t_1.To) rfl wz (aJ oD rfl 1 rfl wz (aH 0 1 il ft sz3 ag3 rfl rfl (vI wv_2.To) rfl wz (tq (vI (Gr t_1.To wv_2.To)) rfl (.inl rfl) wz (aG (.d (.agg (Window.enc (⟨(tT t_1.From wv_2.From),(Gr t_1.To wv_2.To)⟩:Window)))) wz (by kernel_rfl) (gP 0 il ft 2 yF rfl rfl [(vI (tT t_1.From wv_2.From)),(vI (Gr t_1.To wv_2.To))] rfl wz (ah ?_))))))))))))))))))
 obtain rfl:=ae hF
 exact ay (aK [(.d (.agg (Window.enc (⟨(tT t_1.From wv_2.From),(Gr t_1.To wv_2.To)⟩:Window))))] ⟨⟨2,_,_,_,_,_,_,_,rfl,rfl,yF,Gg,rfl⟩,trivial⟩)
theorem yP {e_1:Entry} {zone_2:Int} {wv_3:Window} {r:(List Window)} (hF:kY e_1 zone_2 wv_3=some r) :
  FnM Tryz.prog 58 [(.d (.agg (Entry.enc e_1))),(vI zone_2),(.d (.agg (Window.enc wv_3)))] [] (gV (aD 0) 2 r) (([]:List Box).map some++gO 2 Window.enc r):=by
 refine FnM.of_wH ⟨Tryz.prog,72,[],[]⟩ rfl Tryz.func58 rfl rfl (lb_ rfl) (by kernel_rfl) ?_
 unfold kY at hF
 refine ai (gZ 0 (.inl rfl) (Entry.v e_1) rfl rfl wz (λn_4=>gZ 0 (.inl rfl) [(vI wv_3.From),(vI wv_3.To)] rfl rfl wz (λn_5=>aa .nil (ah (ai (aa .nil (ah (ak (ak ?_)))))))))
 obtain ⟨v_6,h_7,hF⟩:=bind_some hF
 refine aM [(1,(vI zone_2)),(3,(.ref n_4 0 0)),(5,(.ref n_5 0 0)),(7,.nil),(20,(vB v_6))] [(n_4,some (.cells 13 (Entry.v e_1))),(n_5,some (.cells 2 [(vI wv_3.From),(vI wv_3.To)]))] ?_ ?_
 ·refine au (aJ pl84_12 rfl 12 rfl wz (aH 0 0 il ft sz4 ag4 rfl rfl (vB e_1.Gone) rfl wz ?_))
  rcases aj h_7 with⟨hc_8,h_7⟩|⟨hc_8,h_7⟩
  ·refine aC rfl hc_8 wz (af (af (af (af (af (aa (vB true) (ah ?_)))))))
   obtain rfl:=ae h_7
   exact cu
  ·refine aC rfl hc_8 wz (aJ ol rfl 0 rfl wa (aH 0 1 il ft sz3 ag3 rfl rfl (vI wv_3.From) rfl wa (aJ oD rfl 1 rfl wa (aH 0 1 il ft sz3 ag3 rfl rfl (vI wv_3.To) rfl wa (aG (vB (decide (wv_3.From>=wv_3.To))) wa rfl (aa (vB (decide (wv_3.From>=wv_3.To))) (ah ?_)))))))
   obtain rfl:=ae h_7
   exact cu
 ·rintro ⟨⟩ _ sl_ H_ hp_ hq_
  refine aO _ hp_ hq_ ?_
  rcases aj hF with⟨hc_9,hF⟩|⟨hc_9,hF⟩
  ·refine aA rfl hc_9 (ai (aa .nil (ah (oJ (λn_10 => ?_)))))
   obtain rfl:=ae hF
   exact ay (M8 (outs:=([]:List Box)) (.inr rfl) 2 rfl rfl rfl (by kernel_rfl) (by kernel_rfl))
  ·refine ax rfl hc_9 (av (ai (aJ ol rfl 0 rfl wz (aH 0 1 il ft sz3 ag3 rfl rfl (vI wv_3.From) rfl wz (aa (vI zone_2) (aa (vI (w64 (zone_2*60000))) (aa (vI (w64 (wv_3.From+(w64 (zone_2*60000))))) (aa (vI (w64 ((w64 (wv_3.From+(w64 (zone_2*60000)))).tdiv 86400000))) (aa (vI (w64 ((w64 ((w64 (wv_3.From+(w64 (zone_2*60000)))).tdiv 86400000))-2))) (aa (vI (w64 ((w64 ((w64 (wv_3.From+(w64 (zone_2*60000)))).tdiv 86400000))-2))) (ah (ai (aJ oD rfl 1 rfl wz (aH 0 1 il ft sz3 ag3 rfl rfl (vI wv_3.To) rfl wz (aa (vI zone_2) (aa (vI (w64 (zone_2*60000))) (aa (vI (w64 (wv_3.To+(w64 (zone_2*60000))))) (aa (vI (w64 ((w64 (wv_3.To+(w64 (zone_2*60000)))).tdiv 86400000))) (aa (vI (w64 ((w64 ((w64 (wv_3.To+(w64 (zone_2*60000)))).tdiv 86400000))+1))) (aa (vI (w64 ((w64 ((w64 (wv_3.To+(w64 (zone_2*60000)))).tdiv 86400000))+1))) (ah (ak (ai ?_)))))))))))))))))))))))
   refine aa (vI (w64 ((w64 ((w64 (wv_3.From+(w64 (zone_2*60000)))).tdiv 86400000))-2))) (aJ Gs rfl 3 rfl wz (aH 0 0 il ft sz3 ag3 rfl rfl (vI e_1.First) rfl wz (tq (vI (tT (w64 ((w64 ((w64 (wv_3.From+(w64 (zone_2*60000)))).tdiv 86400000))-2)) e_1.First)) rfl (.inr rfl) wz (aa (vI (tT (w64 ((w64 ((w64 (wv_3.From+(w64 (zone_2*60000)))).tdiv 86400000))-2)) e_1.First)) (ah (oJ (λn_17 => ?_)))))))
   obtain ⟨o_22,hj_23,hF⟩:=bind_some hF
   obtain ⟨nq_41,hj_23⟩:=cB hj_23
   refine HZ (σ:=(List Window)×Int) (N:=Nm) (λp=>(λ(s_16:(List Window)×Int) (n_19:Nm)=>([(7,(gV n_19 2 s_16.1))]:SL_)) p.1 p.2) (λp=>(λ(s_16:(List Window)×Int) (n_19:Nm)=>([(n_4,some (.cells 13 (Entry.v e_1))),(n_5,some (.cells 2 [(vI wv_3.From),(vI wv_3.To)])),(n_19,gB 2 Window.enc s_16.1)]:Hp)) p.1 p.2) (λ(k_11:Nat)=>(λp=>(λ(s_16:(List Window)×Int) (n_19:Nm)=>([(1,(vI zone_2)),(3,(.ref n_4 0 0)),(5,(.ref n_5 0 0)),(7,(gV n_19 2 s_16.1)),(9,(vI (w64 ((w64 ((w64 (wv_3.To+(w64 (zone_2*60000)))).tdiv 86400000))+1)))),(10,(vI s_16.2))]:SL_)) p.1 p.2)) (λs=>jd wv_3 zone_2 e_1 s) o_22 nq_41 ((([]:List Window),(tT (w64 ((w64 ((w64 (wv_3.From+(w64 (zone_2*60000)))).tdiv 86400000))-2)) e_1.First)),n_17) hj_23 rfl (aI rfl) ?_ ?_
   ·rintro ⟨k_11,s_16,n_19⟩ hL_21
    dsimp only at hL_21
    cases k_11 with
    | zero=>cases hL_21
    | succ k_11 =>
     obtain ⟨c_,hc_20,hL_21⟩:=bind_some hL_21
     unfold jd at hc_20
     refine ak (ai (aa (vI s_16.2) (aa (vI (w64 ((w64 ((w64 (wv_3.To+(w64 (zone_2*60000)))).tdiv 86400000))+1))) (aJ Fa rfl 4 rfl wz (aH 0 0 il ft sz3 ag3 rfl rfl (vI e_1.Last) rfl wz (tq (vI (Gr (w64 ((w64 ((w64 (wv_3.To+(w64 (zone_2*60000)))).tdiv 86400000))+1)) e_1.Last)) rfl (.inl rfl) wz (aa (vB (decide (s_16.2<=(Gr (w64 ((w64 ((w64 (wv_3.To+(w64 (zone_2*60000)))).tdiv 86400000))+1)) e_1.Last)))) (ah ?_))))))))
     rcases aj hc_20 with⟨hc_24,hc_20⟩|⟨hc_24,hc_20⟩
     ·refine aA rfl hc_24 (av (ak (aN (ak (ai (aH 0 0 il ft JC Mg rfl rfl (.d (.agg (Entry.enc e_1))) rfl wz (aa (vI s_16.2) ?_)))))))
      obtain ⟨r_25,hr_26,hc_20⟩:=bind_some hc_20
      refine aB (zg hr_26) rfl hb93 rfl rfl rfl rfl wz (aa (vB (!r_25)) (ah ?_))
      rcases aj hc_20 with⟨hc_27,hc_20⟩|⟨hc_27,hc_20⟩
      ·refine aA rfl hc_27 (aV (au (aa (vI s_16.2) (aa (vI (w64 (s_16.2+1))) (aa (vI (w64 (s_16.2+1))) (ah ?_))))))
       obtain rfl:=ae hc_20
       exact aS (k_11,(s_16.1,(w64 (s_16.2+1))),n_19) hL_21 (ls_ _) rfl (aI rfl)
      ·refine ax rfl hc_27 (av (ai (aH 0 0 il ft JC Mg rfl rfl (.d (.agg (Entry.enc e_1))) rfl wz (aa (vI zone_2) (aa (vI s_16.2) ?_)))))
       obtain ⟨r_28,hr_29,hc_20⟩:=bind_some hc_20
       refine aB (yE hr_29) rfl hb94 rfl rfl rfl rfl wz (dK 0 (.inl rfl) z86 rfl wz (λn_30=>gP 0 il ft 3 yF rfl rfl [(vI r_28.From),(vI r_28.To)] rfl wz (ah (ak ?_))))
       obtain ⟨v_31,h_32,hc_20⟩:=bind_some hc_20
       refine aM [(1,(vI zone_2)),(3,(.ref n_4 0 0)),(5,(.ref n_5 0 0)),(7,(gV n_19 2 s_16.1)),(9,(vI (w64 ((w64 ((w64 (wv_3.To+(w64 (zone_2*60000)))).tdiv 86400000))+1)))),(10,(vI s_16.2)),(11,(.ref n_30 0 0)),(66,(vB v_31))] [(n_4,some (.cells 13 (Entry.v e_1))),(n_5,some (.cells 2 [(vI wv_3.From),(vI wv_3.To)])),(n_19,gB 2 Window.enc s_16.1),(n_30,some (.cells 2 [(vI r_28.From),(vI r_28.To)]))] ?_ ?_
       ·refine au (aJ ol rfl 0 rfl wz (aH 0 3 il ft sz3 ag3 rfl rfl (vI r_28.From) rfl wz (aJ oD rfl 1 rfl wz (aH 0 1 il ft sz3 ag3 rfl rfl (vI wv_3.To) rfl wz (aa (vB (decide (r_28.From<wv_3.To))) ?_)))))
        rcases aj h_32 with⟨hc_33,h_32⟩|⟨hc_33,h_32⟩
        ·refine aC rfl hc_33 wz (aJ oD rfl 1 rfl wa (aH 0 3 il ft sz3 ag3 rfl rfl (vI r_28.To) rfl wa (aJ ol rfl 0 rfl wa (aH 0 1 il ft sz3 ag3 rfl rfl (vI wv_3.From) rfl wa (aG (vB (decide (r_28.To>wv_3.From))) wa rfl (aa (vB (decide (r_28.To>wv_3.From))) (ah ?_)))))))
         obtain rfl:=ae h_32
         exact cu
        ·refine aC rfl hc_33 wz (af (af (af (af (af (aa (vB false) (ah ?_)))))))
         obtain rfl:=ae h_32
         exact cu
       ·rintro ⟨⟩ _ sl_ H_ hp_ hq_
        refine aO _ hp_ hq_ ?_
        obtain ⟨v_34,h_35,hc_20⟩:=bind_some hc_20
        refine kv (β:=Nm) (λ(n_36:Nm)=>([(1,(vI zone_2)),(3,(.ref n_4 0 0)),(5,(.ref n_5 0 0)),(7,(gV n_36 2 v_34)),(9,(vI (w64 ((w64 ((w64 (wv_3.To+(w64 (zone_2*60000)))).tdiv 86400000))+1)))),(10,(vI s_16.2))]:SL_)) (λ(n_36:Nm)=>([(n_4,some (.cells 13 (Entry.v e_1))),(n_5,some (.cells 2 [(vI wv_3.From),(vI wv_3.To)])),(n_36,gB 2 Window.enc v_34),(n_30,some (.cells 2 [(vI r_28.From),(vI r_28.To)]))]:Hp)) (λ_=>True) ?_ ?_
        ·rcases aj h_35 with⟨hc_37,h_35⟩|⟨hc_37,h_35⟩
         ·refine aA rfl hc_37 (au (aa (gV n_19 2 s_16.1) (aH 0 3 il ft yF Gg rfl rfl (.d (.agg (Window.enc r_28))) rfl wz (iK (([r_28]:List Window).map Window.enc) es80 ez80 rfl rfl rfl rfl rfl wz ?_))))
          obtain ⟨a_38,hz_39,h_35⟩:=bind_some h_35
          refine mQ 0 il ft (i:=2) el80 el80 yF z86 rfl (by decide) by86 (by decide) (λ_=>rfl) rfl rfl rfl hz_39 wz (λn_40=>aa (gV n_40 2 a_38) (ah ?_))
          obtain rfl:=ae h_35
          exact aU n_40 trivial rfl (aI rfl)
         ·refine ax rfl hc_37 (av ?_)
          obtain rfl:=ae h_35
          exact aU n_19 trivial rfl (aI rfl)
        ·rintro n_36 _ sl_ H_ hp_ hq_
         refine aO _ hp_ hq_ (au (aa (vI s_16.2) (aa (vI (w64 (s_16.2+1))) (aa (vI (w64 (s_16.2+1))) (ah ?_)))))
         obtain rfl:=ae hc_20
         exact aS (k_11,(v_34,(w64 (s_16.2+1))),n_36) hL_21 (ls_ _) rfl (aI rfl)
     ·refine ax rfl hc_24 (aV ?_)
      obtain rfl:=ae hc_20
      obtain rfl:=ae hL_21
      exact aU ((s_16.1,s_16.2),n_19) rfl rfl (aI rfl)
   ·rintro ⟨s_16,n_19⟩ ho_ sl_ H_ hp_ hq_
    subst ho_
    refine aO _ hp_ hq_ (ai (aa (gV n_19 2 s_16.1) (aa (gV n_19 2 s_16.1) (ah ?_))))
    obtain rfl:=ae hF
    exact ay (M8 (outs:=([]:List Box)) (.inr rfl) 2 rfl rfl rfl (by kernel_rfl) (by kernel_rfl))
theorem zn {e_1:Entry} {zone_2:Int} {wv_3:Window} {r:(List Window)×Int} (hF:lh e_1 zone_2 wv_3=some r) :
  FnM Tryz.prog 35 [(.d (.agg (Entry.enc e_1))),(vI zone_2),(.d (.agg (Window.enc wv_3)))] [] (.tup [(vL Window.enc r.1),(vI r.2)]) []:=by
 refine FnM.of_wH ⟨Tryz.prog,45,[],[]⟩ rfl Tryz.func35 rfl rfl (lb_ rfl) (by kernel_rfl) ?_
 unfold lh at hF
 refine ai (gZ 0 (.inl rfl) (Entry.v e_1) rfl rfl wz (λn_4=>gZ 0 (.inl rfl) [(vI wv_3.From),(vI wv_3.To)] rfl rfl wz (λn_5=>aa .nil (aa (vI 0) (ah (ak (ai (aH 0 0 il ft JC Mg rfl rfl (.d (.agg (Entry.enc e_1))) rfl wz (iK (([e_1]:List Entry).map Entry.enc) Nu ez117 rfl rfl rfl rfl rfl wz ?_)))))))))
 obtain ⟨r_6,hr_7,hF⟩:=bind_some hF
 refine aB (sV hr_7) rfl hb56 rfl rfl rfl rfl wz (aa (vI r_6) (ah (ai (aa (vI r_6) (aa (vB (r_6 != 0)) (ah ?_))))))
 rcases aj hF with⟨hc_8,hF⟩|⟨hc_8,hF⟩
 ·refine aA rfl hc_8 (ai (aa (vI r_6) (aa .nil (aa (vI r_6) (ah ?_)))))
  obtain rfl:=ae hF
  exact ay (aK [.nil,(vI r_6)] ⟨rfl,⟨rfl,trivial⟩⟩)
 ·refine ax rfl hc_8 (av (ak (ai (aa (vI zone_2) ?_))))
  obtain ⟨r_9,hr_10,hF⟩:=bind_some hF
  refine aB (aW hr_10) rfl pU rfl rfl rfl rfl wz (ah ?_)
  rcases aj hF with⟨hc_11,hF⟩|⟨hc_11,hF⟩
  ·refine aA rfl hc_11 (ai (aa .nil (aa (vI 1) (ah ?_))))
   obtain rfl:=ae hF
   exact ay (aK [.nil,(vI 1)] ⟨rfl,⟨rfl,trivial⟩⟩)
  ·refine ax rfl hc_11 (av (ak (ai (aH 0 1 il ft yF Gg rfl rfl (.d (.agg (Window.enc wv_3))) rfl wz ?_))))
   obtain ⟨r_12,hr_13,hF⟩:=bind_some hF
   refine aB (tQ hr_13) rfl hb57 rfl rfl rfl rfl wz (aa (vI r_12) (ah (ai (aa (vI r_12) (aa (vB (r_12 != 0)) (ah ?_))))))
   rcases aj hF with⟨hc_14,hF⟩|⟨hc_14,hF⟩
   ·refine aA rfl hc_14 (ai (aa (vI r_12) (aa .nil (aa (vI r_12) (ah ?_)))))
    obtain rfl:=ae hF
    exact ay (aK [.nil,(vI r_12)] ⟨rfl,⟨rfl,trivial⟩⟩)
   ·refine ax rfl hc_14 (av (ai (aH 0 0 il ft JC Mg rfl rfl (.d (.agg (Entry.enc e_1))) rfl wz (aa (vI zone_2) (aH 0 1 il ft yF Gg rfl rfl (.d (.agg (Window.enc wv_3))) rfl wz ?_)))))
    obtain ⟨r_15,hr_16,hF⟩:=bind_some hF
    refine BS [] (yP hr_16) rfl hb58 rfl (by kernel_rfl) (by kernel_rfl) (by kernel_rfl) (by kernel_rfl) (by kernel_rfl) rfl (by decide) (by kernel_rfl) wz ([(n_4,some (.cells 13 (Entry.v e_1))),(n_5,some (.cells 2 [(vI wv_3.From),(vI wv_3.To)]))]:Hp) (λ_=>by kernel_rfl) (λn_18=>aa (gV n_18 2 r_15) (ah (ak (ai (aa (gV n_18 2 r_15) (JD un80 rfl wz (aa (vI 0) (ah ?_))))))))
    obtain ⟨o_27,hj_28,hF⟩:=bind_some hF
    obtain ⟨hn_23,hj_28⟩:=bg hj_28
    refine cK (λ(s_24:List Window)=>[(10,(gV n_18 2 s_24))]) (λ(s_24:List Window)=>[(n_4,some (.cells 13 (Entry.v e_1))),(n_5,some (.cells 2 [(vI wv_3.From),(vI wv_3.To)])),(n_18,gB 2 Window.enc s_24)]) (λ(k_19:Nat)=>(λ(s_24:List Window)=>[(5,(.ref n_5 0 0)),(10,(gV n_18 2 s_24)),(30,(gV n_18 2 s_24)),(31,(vI (r_15.length:Int))),(32,(vI (k_19:Int)))])) (λk x s=>kC wv_3 k x s) o_27 (List.range ((r_15.length:Int)).toNat) r_15 hj_28 rfl (aI rfl) ?_ ?_
    ·rintro ⟨k_19,l_20,s_24⟩ ⟨hL_26,hD_22⟩
     dsimp only at hL_26 hD_22
     cases l_20 with
     | nil =>
      obtain rfl:=ae hL_26
      refine ai (aa (vB (decide ((k_19:Int)<(r_15.length:Int)))) (ah ?_))
      refine ak (ax rfl (xO hD_22) (aV ?_))
      exact aU (s_24) rfl rfl (aI rfl)
     | cons x_21 l_20 =>
      obtain ⟨c_,hc_25,hL_26⟩:=bind_some hL_26
      refine ai (aa (vB (decide ((k_19:Int)<(r_15.length:Int)))) (ah ?_))
      refine ak (aA rfl (vE hD_22) (av ?_))
      unfold kC at hc_25
      refine ak (aN (ai (aa (vI (k_19:Int)) ?_)))
      obtain ⟨_,hi_29,hc_25⟩:=bind_some hc_25
      refine xw es80 rfl rfl (jO hi_29) (gL hi_29) wz ?_
      obtain ⟨e_30,hy_31,hc_25⟩:=bind_some hc_25
      refine lN 0 2 il ft yF Gg rfl rfl hy_31 (.d (.agg (Window.enc e_30))) rfl wz (dK 0 (.inl rfl) z86 rfl wz (λn_32=>aa (vI (k_19:Int)) (gP 0 il ft 3 yF rfl rfl [(vI e_30.From),(vI e_30.To)] rfl wz (ah (au (aa (gV n_18 2 s_24) (aa (vI (k_19:Int)) (aH 0 3 il ft yF Gg rfl rfl (.d (.agg (Window.enc e_30))) rfl wz (aH 0 1 il ft yF Gg rfl rfl (.d (.agg (Window.enc wv_3))) rfl wz ?_)))))))))
      obtain ⟨r_33,hr_34,hc_25⟩:=bind_some hc_25
      refine aB (BN hr_34) rfl hb59 rfl rfl rfl rfl wz ?_
      obtain ⟨_,hi_35,hc_25⟩:=bind_some hc_25
      refine xw es80 rfl rfl (jO hi_35) (gL hi_35) wz ?_
      obtain ⟨e_36,hy_37,hc_25⟩:=bind_some hc_25
      refine wN 0 il ft 2 yF rfl rfl hy_37 r_33 rfl wz (eO (v':=(gV n_18 2 (s_24.set (0+((k_19:Int)).toNat) r_33))) 10 rfl (j6 (by simp)) (eO (v':=(gV n_18 2 (s_24.set (0+((k_19:Int)).toNat) r_33))) 30 rfl (j6 (by simp)) (eO (v':=(gV n_18 2 (s_24.set (0+((k_19:Int)).toNat) r_33))) 37 rfl (j6 (by simp)) (ah (au (fq (xN hD_22 hn_23) wz rfl (aa (vI ((k_19+1:Nat):Int)) (ah ?_))))))))
      obtain rfl:=ae hc_25
      exact aS (k_19+1,l_20,(s_24.set (0+((k_19:Int)).toNat) r_33)) ⟨hL_26,aR hD_22⟩ (ls_ _) rfl (aI rfl)
    ·rintro s_24 ho_ sl_ H_ hp_ hq_
     subst ho_
     refine aO _ hp_ hq_ (ai (aa (gV n_18 2 s_24) (aa (gV n_18 2 s_24) (aa (vI 0) (ah (gG 2 rfl (eT 6 2 rfl rfl (eT 10 2 rfl rfl (eT 44 2 rfl rfl ?_)))))))))
     obtain rfl:=ae hF
     exact ay (aK [(vL Window.enc s_24),(vI 0)] ⟨rfl,⟨rfl,trivial⟩⟩)
theorem zq {wv_1:Window} {r:Bool} (hF:nM wv_1=some r) :
  FnM Tryz.prog 95 [(.d (.agg (Window.enc wv_1)))] [] (vB r) []:=by
 refine FnM.of_wH ⟨Tryz.prog,18,[],[]⟩ rfl Tryz.func95 rfl rfl (lb_ rfl) (by kernel_rfl) ?_
 unfold nM at hF
 refine ai (gZ 0 (.inl rfl) [(vI wv_1.From),(vI wv_1.To)] rfl rfl wz (λn_2=>aa (vB false) (ah (ak ?_))))
 obtain ⟨v_3,h_4,hF⟩:=bind_some hF
 refine aM [(2,(vB v_3))] [(n_2,some (.cells 2 [(vI wv_1.From),(vI wv_1.To)]))] ?_ ?_
 ·refine au (aJ ol rfl 0 rfl wz (aH 0 0 il ft sz3 ag3 rfl rfl (vI wv_1.From) rfl wz (aa (vB (decide (wv_1.From>=0))) ?_)))
  rcases aj h_4 with⟨hc_5,h_4⟩|⟨hc_5,h_4⟩
  ·refine aC rfl hc_5 wz (aJ ol rfl 0 rfl wa (aH 0 0 il ft sz3 ag3 rfl rfl (vI wv_1.From) rfl wa (aJ oD rfl 1 rfl wa (aH 0 0 il ft sz3 ag3 rfl rfl (vI wv_1.To) rfl wa (aG (vB (decide (wv_1.From<wv_1.To))) wa rfl (aa (vB (decide (wv_1.From<wv_1.To))) ?_))))))
   rcases aj h_4 with⟨hc_6,h_4⟩|⟨hc_6,h_4⟩
   ·refine aC rfl hc_6 wz (aJ oD rfl 1 rfl wa (aH 0 0 il ft sz3 ag3 rfl rfl (vI wv_1.To) rfl wa (aG (vB (decide (wv_1.To<=345686400000))) wa rfl (aa (vB (decide (wv_1.To<=345686400000))) (aa (vB (decide (wv_1.To<=345686400000))) (ah ?_))))))
    obtain rfl:=ae h_4
    exact cu
   ·refine aC rfl hc_6 wz (af (af (af (aa (vB false) (aa (vB false) (ah ?_))))))
    obtain rfl:=ae h_4
    exact cu
  ·refine aC rfl hc_5 wz (af (af (af (af (af (aa (vB false) (aa (vB false) (af (af (af (aa (vB false) (aa (vB false) (ah ?_)))))))))))))
   obtain rfl:=ae h_4
   exact cu
 ·rintro ⟨⟩ _ sl_ H_ hp_ hq_
  refine aO _ hp_ hq_ ?_
  obtain rfl:=ae hF
  exact ay (aK [(vB v_3)] ⟨rfl,trivial⟩)
theorem wL {l_1:(List ByteArray)} {r:Int} (hF:ja l_1=some r) :
  FnM Tryz.prog 96 [(vL eS l_1)] [] (vI r) []:=by
 refine FnM.of_wH ⟨Tryz.prog,8,[],[]⟩ rfl Tryz.func96 rfl rfl (lb_ rfl) (by kernel_rfl) ?_
 unfold ja at hF
 refine ai (aa (vI 0) (ah (ak (ai (aa (vL eS l_1) (bG AU rfl wz (aa (vB (decide ((l_1.length:Int)>20))) (ah ?_))))))))
 rcases aj hF with⟨hc_2,hF⟩|⟨hc_2,hF⟩
 ·refine aA rfl hc_2 (ai (aa (vI 2) (ah ?_)))
  obtain rfl:=ae hF
  exact ay (aK [(vI 2)] ⟨rfl,trivial⟩)
 ·refine ax rfl hc_2 (av (ai (aa (vL eS l_1) ?_)))
  obtain ⟨r_3,hr_4,hF⟩:=bind_some hF
  refine aB (rO hr_4) rfl hb130 rfl rfl rfl rfl wz (aa (vI r_3) (ah ?_))
  obtain rfl:=ae hF
  exact ay (aK [(vI r_3)] ⟨rfl,trivial⟩)
theorem rX {l_1:(List Campaign)} {r:Int} (hF:fJ l_1=some r) :
  FnM Tryz.prog 60 [(vL Campaign.enc l_1)] [] (vI r) []:=by
 refine FnM.of_wH ⟨Tryz.prog,73,[],[]⟩ rfl Tryz.func60 rfl rfl (lb_ rfl) (by kernel_rfl) ?_
 unfold fJ at hF
 refine ai (aa (vI 0) (ah (ak (ai (aa (vL Campaign.enc l_1) (bG un122 rfl wz (aa (vB (decide ((l_1.length:Int)>30))) (ah ?_))))))))
 rcases aj hF with⟨hc_2,hF⟩|⟨hc_2,hF⟩
 ·refine aA rfl hc_2 (ai (aa (vI 2) (ah ?_)))
  obtain rfl:=ae hF
  exact ay (aK [(vI 2)] ⟨rfl,trivial⟩)
 ·refine ax rfl hc_2 (av (ak (ai (aa (vL Campaign.enc l_1) (bG un122 rfl wz (aa (vI 0) (ah ?_)))))))
  obtain ⟨o_11,hj_12,hF⟩:=bind_some hF
  obtain ⟨hn_7,hj_12⟩:=bg hj_12
  refine cK (λ(s_8:Unit)=>[]) (λ(s_8:Unit)=>[]) (λ(k_3:Nat)=>(λ(s_8:Unit)=>[(0,(vL Campaign.enc l_1)),(9,(vL Campaign.enc l_1)),(10,(vI (l_1.length:Int))),(11,(vI (k_3:Int)))])) (λk x s=>eG l_1 k x s) o_11 l_1 () hj_12 rfl (aI rfl) ?_ ?_
  ·rintro ⟨k_3,l_4,s_8⟩ ⟨hL_10,hD_6⟩
   dsimp only at hL_10 hD_6
   cases l_4 with
   | nil =>
    obtain rfl:=ae hL_10
    refine ai (aa (vB (decide ((k_3:Int)<(l_1.length:Int)))) (ah ?_))
    refine ak (ax rfl (drop_nil hD_6) (aV ?_))
    exact aU (s_8) rfl rfl (aI rfl)
   | cons x_5 l_4 =>
    obtain ⟨c_,hc_9,hL_10⟩:=bind_some hL_10
    refine ai (aa (vB (decide ((k_3:Int)<(l_1.length:Int)))) (ah ?_))
    refine ak (aA rfl (bz hD_6) (av ?_))
    unfold eG at hc_9
    refine ak (aN (ai (aa (vI (k_3:Int)) (dB Nk rfl rfl (bK hD_6) rfl wz (bA sz89 ag89 rfl (.d (.agg (Campaign.enc x_5))) rfl wz (dK 0 (.inl rfl) z89 rfl wz (λn_13=>aa (vI (k_3:Int)) (gP 0 il ft 0 sz89 rfl rfl (Campaign.v x_5) rfl wz (ah (ak (aN (ak ?_))))))))))))
    obtain ⟨v_14,h_15,hc_9⟩:=bind_some hc_9
    refine aM [(0,(vL Campaign.enc l_1)),(3,(vI (k_3:Int))),(4,(.ref n_13 0 0)),(9,(vL Campaign.enc l_1)),(10,(vI (l_1.length:Int))),(11,(vI (k_3:Int))),(16,(vB v_14))] [(n_13,some (.cells 8 (Campaign.v x_5)))] ?_ ?_
    ·refine au (aJ Js rfl 0 rfl wz (aH 0 0 il ft sz9 ag9 rfl rfl (vS x_5.Key) rfl wz ?_))
     obtain ⟨r_16,hr_17,h_15⟩:=bind_some h_15
     refine aB (eD hr_17) rfl AQ rfl rfl rfl rfl wz (aa (vB (!r_16)) ?_)
     rcases aj h_15 with⟨hc_18,h_15⟩|⟨hc_18,h_15⟩
     ·refine aC rfl hc_18 wz (af (af (af (af (bQ (wn rfl rfl) (bQ (wn rfl rfl) (bQ (wn rfl rfl) (bQ (wn rfl rfl) (af (aa (vB true) (aa (vB true) (ah ?_))))))))))))
      obtain rfl:=ae h_15
      exact cu
     ·refine aC rfl hc_18 wz (aJ MN rfl 1 rfl wa (aH 0 0 il ft sz9 ag9 rfl rfl (vS x_5.Class) rfl wa (aG (vB (sNe x_5.Class (⟨#[]⟩:ByteArray))) wa rfl ?_)))
      rcases aj h_15 with⟨hc_19,h_15⟩|⟨hc_19,h_15⟩
      ·refine aC rfl hc_19 wa (aJ MN rfl 1 rfl wa (aH 0 0 il ft sz9 ag9 rfl rfl (vS x_5.Class) rfl wa ?_))
       obtain ⟨r_20,hr_21,h_15⟩:=bind_some h_15
       refine aB (eD hr_21) rfl AQ rfl rfl rfl rfl wa (aG (vB (!r_20)) wa rfl (aG (vB (!r_20)) wa rfl (aa (vB (!r_20)) (aa (vB (!r_20)) (ah ?_)))))
       obtain rfl:=ae h_15
       exact cu
      ·refine aC rfl hc_19 wa (af (af (af (af (aG (vB false) wa rfl (aa (vB false) (aa (vB false) (ah ?_))))))))
       obtain rfl:=ae h_15
       exact cu
    ·rintro ⟨⟩ _ sl_ H_ hp_ hq_
     refine aO _ hp_ hq_ ?_
     rcases aj hc_9 with⟨hc_22,hc_9⟩|⟨hc_22,hc_9⟩
     ·refine aA rfl hc_22 (ai (aa (vI 5) (ah ?_)))
      obtain rfl:=ae hc_9
      obtain rfl:=ae hL_10
      obtain rfl:=ae hF
      exact ay (aK [(vI 5)] ⟨rfl,trivial⟩)
     ·refine ax rfl hc_22 (ak ?_)
      obtain ⟨v_23,h_24,hc_9⟩:=bind_some hc_9
      refine aM [(0,(vL Campaign.enc l_1)),(4,(.ref n_13 0 0)),(9,(vL Campaign.enc l_1)),(10,(vI (l_1.length:Int))),(11,(vI (k_3:Int))),(32,(vB v_23))] [(n_13,some (.cells 8 (Campaign.v x_5)))] ?_ ?_
      ·refine aZ (aa (vI (k_3:Int)) (aa (vB (decide ((k_3:Int)>0))) ?_))
       rcases aj h_24 with⟨hc_25,h_24⟩|⟨hc_25,h_24⟩
       ·refine aC rfl hc_25 wz (aJ Js rfl 0 rfl wa (aH 4 0 (.inr (by kernel_rfl)) (λ_ _ ag=>trivial) sz9 ag9 rfl rfl (vS x_5.Key) rfl wa (aG (vL Campaign.enc l_1) wa rfl (aG (vI (k_3:Int)) wa rfl (aG (vI (w64 ((k_3:Int)-1))) wa rfl ?_)))))
        obtain ⟨y_26,hy_27,h_24⟩:=bind_some h_24
        refine dB Nk rfl rfl hy_27 rfl wa (lK Js rfl (Campaign.enc y_26) rfl rfl wa (bA sz9 ag9 rfl (vS y_26.Key) rfl wa (aG (vB (sLe x_5.Key y_26.Key)) wa rfl (aa (vB (sLe x_5.Key y_26.Key)) (aa (vB (sLe x_5.Key y_26.Key)) (ah ?_))))))
        obtain rfl:=ae h_24
        exact cu
       ·refine aC rfl hc_25 wz (af (af (af (af (af (af (af (af (af (aa (vB false) (aa (vB false) (ah ?_))))))))))))
        obtain rfl:=ae h_24
        exact cu
      ·rintro ⟨⟩ _ sl_ H_ hp_ hq_
       refine aO _ hp_ hq_ ?_
       rcases aj hc_9 with⟨hc_28,hc_9⟩|⟨hc_28,hc_9⟩
       ·refine aA rfl hc_28 (ai (aa (vI 7) (ah ?_)))
        obtain rfl:=ae hc_9
        obtain rfl:=ae hL_10
        obtain rfl:=ae hF
        exact ay (aK [(vI 7)] ⟨rfl,trivial⟩)
       ·refine ax rfl hc_28 (ak ?_)
        obtain ⟨v_29,h_30,hc_9⟩:=bind_some hc_9
        refine aM [(0,(vL Campaign.enc l_1)),(4,(.ref n_13 0 0)),(9,(vL Campaign.enc l_1)),(10,(vI (l_1.length:Int))),(11,(vI (k_3:Int))),(46,(vB v_29))] [(n_13,some (.cells 8 (Campaign.v x_5)))] ?_ ?_
        ·refine au (aJ zZ rfl 2 rfl wz (aH 0 0 il ft yF Gg rfl rfl (.d (.agg (Window.enc x_5.Time))) rfl wz ?_))
         obtain ⟨r_31,hr_32,h_30⟩:=bind_some h_30
         refine aB (zq hr_32) rfl hb95 rfl rfl rfl rfl wz (aa (vB (!r_31)) ?_)
         rcases aj h_30 with⟨hc_33,h_30⟩|⟨hc_33,h_30⟩
         ·refine aC rfl hc_33 wz (af (af (af (aa (vB true) (aa (vB true) (af (af (af (aa (vB true) (aa (vB true) (af (af (af (aa (vB true) (aa (vB true) (ah ?_))))))))))))))))
          obtain rfl:=ae h_30
          exact cu
         ·refine aC rfl hc_33 wz (aJ JN rfl 5 rfl wa (aH 0 0 il ft sz3 ag3 rfl rfl (vI x_5.Goal) rfl wa ?_))
          obtain ⟨r_34,hr_35,h_30⟩:=bind_some h_30
          refine aB (aW hr_35) rfl pU rfl rfl rfl rfl wa (aa (vB r_34) ?_)
          rcases aj h_30 with⟨hc_36,h_30⟩|⟨hc_36,h_30⟩
          ·refine aC rfl hc_36 wz (af (af (af (aa (vB true) (aa (vB true) (af (af (af (aa (vB true) (aa (vB true) (ah ?_)))))))))))
           obtain rfl:=ae h_30
           exact cu
          ·refine aC rfl hc_36 wz (aJ pl89_5 rfl 6 rfl wa (aH 0 0 il ft sz3 ag3 rfl rfl (vI x_5.Most) rfl wa ?_))
           obtain ⟨r_37,hr_38,h_30⟩:=bind_some h_30
           refine aB (aW hr_38) rfl pU rfl rfl rfl rfl wa (aa (vB r_37) ?_)
           rcases aj h_30 with⟨hc_39,h_30⟩|⟨hc_39,h_30⟩
           ·refine aC rfl hc_39 wz (af (af (af (aa (vB true) (aa (vB true) (ah ?_))))))
            obtain rfl:=ae h_30
            exact cu
           ·refine aC rfl hc_39 wz (aJ pl89_6 rfl 7 rfl wa (aH 0 0 il ft sz3 ag3 rfl rfl (vI x_5.Cents) rfl wa ?_))
            obtain ⟨r_40,hr_41,h_30⟩:=bind_some h_30
            refine aB (aW hr_41) rfl pU rfl rfl rfl rfl wa (aa (vB r_40) (aa (vB r_40) (ah ?_)))
            obtain rfl:=ae h_30
            exact cu
        ·rintro ⟨⟩ _ sl_ H_ hp_ hq_
         refine aO _ hp_ hq_ ?_
         rcases aj hc_9 with⟨hc_42,hc_9⟩|⟨hc_42,hc_9⟩
         ·refine aA rfl hc_42 (ai (aa (vI 1) (ah ?_)))
          obtain rfl:=ae hc_9
          obtain rfl:=ae hL_10
          obtain rfl:=ae hF
          exact ay (aK [(vI 1)] ⟨rfl,trivial⟩)
         ·refine ax rfl hc_42 (av (ai (aJ pl89_3 rfl 4 rfl wz (aH 0 0 il ft MG Ld rfl rfl (vL eS x_5.Tags) rfl wz ?_))))
          obtain ⟨r_43,hr_44,hc_9⟩:=bind_some hc_9
          refine aB (wL hr_44) rfl hb96 rfl rfl rfl rfl wz (aa (vI r_43) (ah (ai (aa (vI r_43) (aa (vB (r_43 != 0)) (ah ?_))))))
          rcases aj hc_9 with⟨hc_45,hc_9⟩|⟨hc_45,hc_9⟩
          ·refine aA rfl hc_45 (ai (aa (vI r_43) (aa (vI r_43) (ah ?_))))
           obtain rfl:=ae hc_9
           obtain rfl:=ae hL_10
           obtain rfl:=ae hF
           exact ay (aK [(vI r_43)] ⟨rfl,trivial⟩)
          ·refine ax rfl hc_45 (av (au (fq (bH hD_6 hn_7) wz rfl (aa (vI ((k_3+1:Nat):Int)) (ah ?_)))))
           obtain rfl:=ae hc_9
           exact aS (k_3+1,l_4,()) ⟨hL_10,aR hD_6⟩ (ls_ _) rfl (aI rfl)
  ·rintro s_8 ho_ sl_ H_ hp_ hq_
   subst ho_
   refine aO _ hp_ hq_ (ai (aa (vI 0) (ah ?_)))
   obtain rfl:=ae hF
   exact ay (aK [(vI 0)] ⟨rfl,trivial⟩)
theorem gU {n_1:Int} {r:Bool} (hF:dA n_1=some r) :
  FnM Tryz.prog 61 [(vI n_1)] [] (vB r) []:=by
 refine FnM.of_wH ⟨Tryz.prog,9,[],[]⟩ rfl Tryz.func61 rfl rfl (lb_ rfl) (by kernel_rfl) ?_
 unfold dA at hF
 refine ai (aa (vB false) (ah (ak ?_)))
 obtain ⟨v_2,h_3,hF⟩:=bind_some hF
 refine aM [(2,(vB v_2))] [] ?_ ?_
 ·refine au (aa (vI n_1) (aa (vB (decide (n_1>=0))) ?_))
  rcases aj h_3 with⟨hc_4,h_3⟩|⟨hc_4,h_3⟩
  ·refine aC rfl hc_4 wz (aG (vI n_1) wa rfl (aG (vB (decide (n_1<345686400000))) wa rfl (aa (vB (decide (n_1<345686400000))) (aa (vB (decide (n_1<345686400000))) (ah ?_)))))
   obtain rfl:=ae h_3
   exact cu
  ·refine aC rfl hc_4 wz (af (af (aa (vB false) (aa (vB false) (ah ?_)))))
   obtain rfl:=ae h_3
   exact cu
 ·rintro ⟨⟩ _ sl_ H_ hp_ hq_
  refine aO _ hp_ hq_ ?_
  obtain rfl:=ae hF
  exact ay (aK [(vB v_2)] ⟨rfl,trivial⟩)
theorem DV {c_1:Campaign} {atv_2:Int} {r:Int} (hF:su c_1 atv_2=some r) :
  FnM Tryz.prog 62 [(.d (.agg (Campaign.enc c_1))),(vI atv_2)] [] (vI r) []:=by
 refine FnM.of_wH ⟨Tryz.prog,35,[],[]⟩ rfl Tryz.func62 rfl rfl (lb_ rfl) (by kernel_rfl) ?_
 unfold su at hF
 refine ai (gZ 0 (.inl rfl) (Campaign.v c_1) rfl rfl wz (λn_3=>aa (vI 0) (ah (ak (aN (ai (aa (vI atv_2) (aJ zZ rfl 2 rfl wz (aJ ol rfl 2 rfl wz (aH 0 0 il ft sz3 ag3 rfl rfl (vI c_1.Time.From) rfl wz (aa (vB (decide (atv_2<c_1.Time.From))) (aa (vB (decide (atv_2<c_1.Time.From))) (ah ?_)))))))))))))
 rcases aj hF with⟨hc_4,hF⟩|⟨hc_4,hF⟩
 ·refine aA rfl hc_4 (ai (aa (vI 0) (ah ?_)))
  obtain rfl:=ae hF
  exact ay (aK [(vI 0)] ⟨rfl,trivial⟩)
 ·refine ax rfl hc_4 (ai (aa (vI atv_2) (aJ zZ rfl 2 rfl wz (aJ oD rfl 3 rfl wz (aH 0 0 il ft sz3 ag3 rfl rfl (vI c_1.Time.To) rfl wz (aa (vB (decide (atv_2>=c_1.Time.To))) (aa (vB (decide (atv_2>=c_1.Time.To))) (ah ?_))))))))
  rcases aj hF with⟨hc_5,hF⟩|⟨hc_5,hF⟩
  ·refine aA rfl hc_5 (ai (aJ JN rfl 5 rfl wz (aH 0 0 il ft sz3 ag3 rfl rfl (vI c_1.Goal) rfl wz (aa (vI c_1.Goal) (ah ?_)))))
   obtain rfl:=ae hF
   exact ay (aK [(vI c_1.Goal)] ⟨rfl,trivial⟩)
  ·refine ax rfl hc_5 (av (ai (aJ JN rfl 5 rfl wz (aH 0 0 il ft sz3 ag3 rfl rfl (vI c_1.Goal) rfl wz (aa (vI atv_2) (aJ zZ rfl 2 rfl wz (aJ ol rfl 2 rfl wz (aH 0 0 il ft sz3 ag3 rfl rfl (vI c_1.Time.From) rfl wz (aa (vI (w64 (atv_2-c_1.Time.From))) (aa (vI (w64 (c_1.Goal*(w64 (atv_2-c_1.Time.From))))) (aJ zZ rfl 2 rfl wz (aJ oD rfl 3 rfl wz (aH 0 0 il ft sz3 ag3 rfl rfl (vI c_1.Time.To) rfl wz (aJ zZ rfl 2 rfl wz (aJ ol rfl 2 rfl wz (aH 0 0 il ft sz3 ag3 rfl rfl (vI c_1.Time.From) rfl wz (aa (vI (w64 (c_1.Time.To-c_1.Time.From))) ?_)))))))))))))))))
   obtain ⟨q_6,hz_7,hF⟩:=bind_some hF
   refine Kv rfl rfl hz_7 wz (aa (vI q_6) (ah (aO (H0:=([(n_3,some (.cells 8 (Campaign.v c_1)))]:Hp)) ([(4,(vI q_6))]:SL_) (by kernel_rfl) (Am (by kernel_rfl)) ?_)))
   obtain rfl:=ae hF
   exact ay (aK [(vI q_6)] ⟨rfl,trivial⟩)
theorem Dl {c_1:Campaign} {atv_2:Int} {r:Int×Int} (hF:p8 c_1 atv_2=some r) :
  FnM Tryz.prog 36 [(.d (.agg (Campaign.enc c_1))),(vI atv_2)] [] (.tup [(vI r.1),(vI r.2)]) []:=by
 refine FnM.of_wH ⟨Tryz.prog,19,[],[]⟩ rfl Tryz.func36 rfl rfl (lb_ rfl) (by kernel_rfl) ?_
 unfold p8 at hF
 refine ai (gZ 0 (.inl rfl) (Campaign.v c_1) rfl rfl wz (λn_3=>aa (vI 0) (aa (vI 0) (ah (ak (ai (aH 0 0 il ft sz89 ag89 rfl rfl (.d (.agg (Campaign.enc c_1))) rfl wz (iK (([c_1]:List Campaign).map Campaign.enc) Nk ez122 rfl rfl rfl rfl rfl wz ?_))))))))
 obtain ⟨r_4,hr_5,hF⟩:=bind_some hF
 refine aB (rX hr_5) rfl hb60 rfl rfl rfl rfl wz (aa (vI r_4) (ah (ai (aa (vI r_4) (aa (vB (r_4 != 0)) (ah ?_))))))
 rcases aj hF with⟨hc_6,hF⟩|⟨hc_6,hF⟩
 ·refine aA rfl hc_6 (ai (aa (vI r_4) (aa (vI 0) (aa (vI r_4) (ah ?_)))))
  obtain rfl:=ae hF
  exact ay (aK [(vI 0),(vI r_4)] ⟨rfl,⟨rfl,trivial⟩⟩)
 ·refine ax rfl hc_6 (av (ak (ai (aa (vI atv_2) ?_))))
  obtain ⟨r_7,hr_8,hF⟩:=bind_some hF
  refine aB (gU hr_8) rfl JX rfl rfl rfl rfl wz (aa (vB (!r_7)) (ah ?_))
  rcases aj hF with⟨hc_9,hF⟩|⟨hc_9,hF⟩
  ·refine aA rfl hc_9 (ai (aa (vI 0) (aa (vI 1) (ah ?_))))
   obtain rfl:=ae hF
   exact ay (aK [(vI 0),(vI 1)] ⟨rfl,⟨rfl,trivial⟩⟩)
  ·refine ax rfl hc_9 (av (ai (aH 0 0 il ft sz89 ag89 rfl rfl (.d (.agg (Campaign.enc c_1))) rfl wz (aa (vI atv_2) ?_))))
   obtain ⟨r_10,hr_11,hF⟩:=bind_some hF
   refine aB (DV hr_11) rfl hb62 rfl rfl rfl rfl wz (aa (vI r_10) (aa (vI 0) (ah ?_)))
   obtain rfl:=ae hF
   exact ay (aK [(vI r_10),(vI 0)] ⟨rfl,⟨rfl,trivial⟩⟩)
theorem wG {a_1:Beat} {b_2:Beat} {r:Int} (hF:jQ a_1 b_2=some r) :
  FnM Tryz.prog 131 [(.d (.agg (Beat.enc a_1))),(.d (.agg (Beat.enc b_2)))] [] (vI r) []:=by
 refine FnM.of_wH ⟨Tryz.prog,17,[],[]⟩ rfl Tryz.func131 rfl rfl (lb_ rfl) (by kernel_rfl) ?_
 unfold jQ at hF
 refine ai (gZ 0 (.inl rfl) (Beat.v a_1) rfl rfl wz (λn_3=>gZ 0 (.inl rfl) (Beat.v b_2) rfl rfl wz (λn_4=>aa (vI 0) (ah (ak (aZ (aJ zS rfl 0 rfl wz (aH 1 0 (.inr (by kernel_rfl)) (λ_ _ ag=>trivial) sz9 ag9 rfl rfl (vS a_1.Player) rfl wz (aJ zS rfl 0 rfl wz (aH 3 1 (.inr (by kernel_rfl)) (λ_ _ ag=>⟨.inl ⟨rfl,rfl⟩,trivial⟩) sz9 ag9 rfl rfl (vS b_2.Player) rfl wz ?_))))))))))
 obtain ⟨r_5,hr_6,hF⟩:=bind_some hF
 refine aB (mU hr_6) rfl hb44 rfl rfl rfl rfl wz (aJ DF rfl 1 rfl wz (aH 6 0 (.inr (by kernel_rfl)) (λ_ _ ag=>⟨.inl ⟨rfl,rfl⟩,⟨.inl ⟨rfl,rfl⟩,trivial⟩⟩) sz3 ag3 rfl rfl (vI a_1.At) rfl wz (aJ DF rfl 1 rfl wz (aH 8 1 (.inr (by kernel_rfl)) (λ_ _ ag=>⟨.inl ⟨rfl,rfl⟩,⟨.inl ⟨rfl,rfl⟩,⟨.inl ⟨rfl,rfl⟩,trivial⟩⟩⟩) sz3 ag3 rfl rfl (vI b_2.At) rfl wz ?_))))
 obtain ⟨r_7,hr_8,hF⟩:=bind_some hF
 refine aB (mE hr_8) rfl hb45 rfl rfl rfl rfl wz (iK (([r_5,r_7]:List Int).map eI) qV J2 rfl rfl rfl rfl rfl wz ?_)
 obtain ⟨r_9,hr_10,hF⟩:=bind_some hF
 refine aB (sO hr_10) rfl hb43 rfl rfl rfl rfl wz (aa (vI r_9) (ah ?_))
 obtain rfl:=ae hF
 exact ay (aK [(vI r_9)] ⟨rfl,trivial⟩)
end Go.Proofs.YtnkgapmhkhcanabGreatDoor.Law

