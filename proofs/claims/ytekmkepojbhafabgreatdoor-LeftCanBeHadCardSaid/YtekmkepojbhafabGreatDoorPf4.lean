/-
 The machine computes these plain functions (written by a program of ours).
-/
import Derived.Test.YtekmkepojbhafabGreatDoorFacts
import Derived.Test.YtekmkepojbhafabGreatDoorDefs
import Derived.Test.YtekmkepojbhafabGreatDoorPf3
open Go Go.Eng Go.Proofs
namespace Go.Proofs.YtekmkepojbhafabGreatDoor.Law
set_option maxRecDepth 100000
set_option linter.unusedVariables false
set_option maxHeartbeats 1000000
theorem uC {wv_1:Window} {r:Int} (hF:jh wv_1=some r) :
  FnM Tryz.prog 42 [(.d (.agg (Window.enc wv_1)))] [] (vI r) []:=by
 refine FnM.of_wH ⟨Tryz.prog,19,[],[]⟩ rfl Tryz.func42 rfl rfl (lb_ rfl) (by kernel_rfl) ?_
 unfold jh at hF
 refine ai (gQ 0 (.inl rfl) [(vI wv_1.From),(vI wv_1.To)] rfl rfl wz (λn_2=>aa (vI 0) (ah (ak (ak ?_)))))
 obtain ⟨v_3,h_4,hF⟩:=bind_some hF
 refine aP [(1,(.ref n_2 0 0)),(12,(vB v_3))] [(n_2,some (.cells 2 [(vI wv_1.From),(vI wv_1.To)]))] ?_ ?_
 ·refine au (aG mZ rfl 0 rfl wz (aF 0 0 il ft sz3 ag3 rfl rfl (vI wv_1.From) rfl wz (aG mU rfl 1 rfl wz (aF 0 0 il ft sz3 ag3 rfl rfl (vI wv_1.To) rfl wz ?_))))
  obtain ⟨r_5,hr_6,h_4⟩:=bind_some h_4
  refine aD (bu hr_6) rfl qG rfl rfl rfl rfl wz ?_
  rcases aj h_4 with⟨hc_7,h_4⟩|⟨hc_7,h_4⟩
  ·refine aC rfl hc_7 wz (af (af (af (aa (vB true) (ah ?_)))))
   obtain rfl:=ae h_4
   exact cu
  ·refine aC rfl hc_7 wz (aG mU rfl 1 rfl wa (aF 0 0 il ft sz3 ag3 rfl rfl (vI wv_1.To) rfl wa (aH (vB (decide (wv_1.To>345686400000))) wa rfl (aa (vB (decide (wv_1.To>345686400000))) (ah ?_)))))
   obtain rfl:=ae h_4
   exact cu
 ·rintro ⟨⟩ _ sl_ H_ hp_ hq_
  refine aO _ hp_ hq_ ?_
  rcases aj hF with⟨hc_8,hF⟩|⟨hc_8,hF⟩
  ·refine aB rfl hc_8 (ai (aa (vI 1) (ah ?_)))
   obtain rfl:=ae hF
   exact ay (aJ [(vI 1)] ⟨rfl,trivial⟩)
  ·refine aA rfl hc_8 (ax (ak (ai (aG mU rfl 1 rfl wz (aF 0 0 il ft sz3 ag3 rfl rfl (vI wv_1.To) rfl wz (aG mZ rfl 0 rfl wz (aF 0 0 il ft sz3 ag3 rfl rfl (vI wv_1.From) rfl wz (aa (vI (w64 (wv_1.To-wv_1.From))) (aa (vB (decide ((w64 (wv_1.To-wv_1.From))>34560000000))) (ah ?_))))))))))
   rcases aj hF with⟨hc_9,hF⟩|⟨hc_9,hF⟩
   ·refine aB rfl hc_9 (ai (aa (vI 2) (ah ?_)))
    obtain rfl:=ae hF
    exact ay (aJ [(vI 2)] ⟨rfl,trivial⟩)
   ·refine aA rfl hc_9 (ax (ai (aa (vI 0) (ah ?_))))
    obtain rfl:=ae hF
    exact ay (aJ [(vI 0)] ⟨rfl,trivial⟩)
theorem lU {x_1:Int} {r:Bool} (hF:cmp_isNaN_int x_1=some r) :
  FnM Tryz.prog 110 [(vI x_1)] [] (vB r) []:=by
 refine FnM.of_wH ⟨Tryz.prog,6,[],[]⟩ rfl Tryz.func110 rfl rfl (lb_ rfl) (by kernel_rfl) ?_
 unfold cmp_isNaN_int at hF
 refine ai (aa (vB false) (ah (ai (aa (vI x_1) (aa (vI x_1) (aa (vB (x_1 != x_1)) (aa (vB (x_1 != x_1)) (ah ?_))))))))
 obtain rfl:=ae hF
 exact ay (aJ [(vB (x_1 != x_1))] ⟨rfl,trivial⟩)
theorem BF {x_1:Int} {y_2:Int} {r:Bool} (hF:cmp_Less_int x_1 y_2=some r) :
  FnM Tryz.prog 92 [(vI x_1),(vI y_2)] [] (vB r) []:=by
 refine FnM.of_wH ⟨Tryz.prog,17,[],[]⟩ rfl Tryz.func92 rfl rfl (lb_ rfl) (by kernel_rfl) ?_
 unfold cmp_Less_int at hF
 refine ai (aa (vB false) (ah (ak ?_)))
 obtain ⟨v_3,h_4,hF⟩:=bind_some hF
 refine aP [(4,(vB v_3))] [] ?_ ?_
 ·refine au (aa (vI x_1) ?_)
  obtain ⟨r_5,hr_6,h_4⟩:=bind_some h_4
  refine aD (lU hr_6) rfl Kq rfl rfl rfl rfl wz ?_
  rcases aj h_4 with⟨hc_7,h_4⟩|⟨hc_7,h_4⟩
  ·refine aC rfl hc_7 wz (aH (vI y_2) wa rfl ?_)
   obtain ⟨r_8,hr_9,h_4⟩:=bind_some h_4
   refine aD (lU hr_9) rfl Kq rfl rfl rfl rfl wa (aH (vB (!r_8)) wa rfl (aa (vB (!r_8)) ?_))
   rcases aj h_4 with⟨hc_10,h_4⟩|⟨hc_10,h_4⟩
   ·refine aC rfl hc_10 wz (af (af (af (aa (vB true) (aa (vB true) (ah ?_))))))
    obtain rfl:=ae h_4
    exact cu
   ·refine aC rfl hc_10 wz (aH (vI x_1) wa rfl (aH (vI y_2) wa rfl (aH (vB (decide (x_1<y_2))) wa rfl (aa (vB (decide (x_1<y_2))) (aa (vB (decide (x_1<y_2))) (ah ?_))))))
    obtain rfl:=ae h_4
    exact cu
  ·refine aC rfl hc_7 wz (af (af (af (aa (vB false) (aa (vB false) (aH (vI x_1) wa rfl (aH (vI y_2) wa rfl (aH (vB (decide (x_1<y_2))) wa rfl (aa (vB (decide (x_1<y_2))) (aa (vB (decide (x_1<y_2))) (ah ?_)))))))))))
   obtain rfl:=ae h_4
   exact cu
 ·rintro ⟨⟩ _ sl_ H_ hp_ hq_
  refine aO _ hp_ hq_ ?_
  obtain rfl:=ae hF
  exact ay (aJ [(vB v_3)] ⟨rfl,trivial⟩)
theorem qy {x_1:Int} {r:Bool} (hF:iG x_1=some r) :
  FnM Tryz.prog 99 [(vI x_1)] [] (vB r) []:=by
 refine FnM.of_wH ⟨Tryz.prog,6,[],[]⟩ rfl Tryz.func99 rfl rfl (lb_ rfl) (by kernel_rfl) ?_
 unfold iG at hF
 refine ai (aa (vB false) (ah (ai (aa (vI x_1) (aa (vI x_1) (aa (vB (x_1 != x_1)) (aa (vB (x_1 != x_1)) (ah ?_))))))))
 obtain rfl:=ae hF
 exact ay (aJ [(vB (x_1 != x_1))] ⟨rfl,trivial⟩)
theorem oJ {x_1:(List Int)} {target_2:Int} {r:Int×Bool} (hF:dU x_1 target_2=some r) :
  FnM Tryz.prog 81 [(vL eI x_1),(vI target_2)] [] (.tup [(vI r.1),(vB r.2)]) []:=by
 refine FnM.of_wH ⟨Tryz.prog,54,[],[]⟩ rfl Tryz.func81 rfl rfl (lb_ rfl) (by kernel_rfl) ?_
 unfold dU at hF
 refine ai (aa (vI 0) (aa (vB false) (ah (ai (aa (vL eI x_1) (bW ul rfl wz (aa (vI (x_1.length:Int)) (ah (ai (aa (vI (x_1.length:Int)) (aa (vI 0) (aa (vI (x_1.length:Int)) (ah (ak ?_))))))))))))))
 obtain ⟨o_11,hj_12,hF⟩:=bind_some hF
 obtain ⟨nq_34,hj_12⟩:=dz hj_12
 refine fo (λ(s_8:Int×Int)=>[(0,(vL eI x_1)),(1,(vI target_2)),(6,(vI (x_1.length:Int))),(7,(vI s_8.1))]) (λ(s_8:Int×Int)=>[]) (λ(k_3:Nat)=>(λ(s_8:Int×Int)=>[(0,(vL eI x_1)),(1,(vI target_2)),(6,(vI (x_1.length:Int))),(7,(vI s_8.1)),(8,(vI s_8.2))])) (λs=>eD x_1 target_2 s) o_11 nq_34 (0,(x_1.length:Int)) hj_12 rfl (aK rfl) ?_ ?_
 ·rintro ⟨k_3,s_8⟩ hL_10
  dsimp only at hL_10
  cases k_3 with
  | zero=>cases hL_10
  | succ k_3 =>
   obtain ⟨c_,hc_9,hL_10⟩:=bind_some hL_10
   unfold eD at hc_9
   refine ak (ai (aa (vI s_8.1) (aa (vI s_8.2) (aa (vB (decide (s_8.1<s_8.2))) (ah ?_)))))
   rcases aj hc_9 with⟨hc_13,hc_9⟩|⟨hc_13,hc_9⟩
   ·refine aB rfl hc_13 (ax (aN (ai (aa (vI s_8.1) (aa (vI s_8.2) (aa (vI (w64 (s_8.1+s_8.2))) (mJ un3 GU rfl wz ?_)))))))
    obtain ⟨q_14,hz_15,hc_9⟩:=bind_some hc_9
    refine GA rfl rfl hz_15 wz (mJ GU un3 rfl wz (aa (vI (w64 q_14)) (ah (ai (aa (vL eI x_1) (aa (vI (w64 q_14)) ?_))))))
    obtain ⟨y_16,hy_17,hc_9⟩:=bind_some hc_9
    refine dR ik rfl rfl hy_17 rfl wz (bQ sz3 ag3 rfl (vI y_16) rfl wz (aa (vI target_2) ?_))
    obtain ⟨r_18,hr_19,hc_9⟩:=bind_some hc_9
    refine aD (BF hr_19) rfl hb92 rfl rfl rfl rfl wz (ah ?_)
    rcases aj hc_9 with⟨hc_20,hc_9⟩|⟨hc_20,hc_9⟩
    ·refine aB rfl hc_20 (au (aa (vI (w64 q_14)) (aa (vI (w64 ((w64 q_14)+1))) (aa (vI (w64 ((w64 q_14)+1))) (ah ?_)))))
     obtain rfl:=ae hc_9
     exact aY (k_3,((w64 ((w64 q_14)+1)),s_8.2)) hL_10 (ls_ _) rfl (aK rfl)
    ·refine aA rfl hc_20 (au (aa (vI (w64 q_14)) (aa (vI (w64 q_14)) (ah ?_))))
     obtain rfl:=ae hc_9
     exact aY (k_3,(s_8.1,(w64 q_14))) hL_10 (ls_ _) rfl (aK rfl)
   ·refine aA rfl hc_13 (aX ?_)
    obtain rfl:=ae hc_9
    obtain rfl:=ae hL_10
    exact aU ((s_8.1,s_8.2)) rfl rfl (aK rfl)
 ·rintro s_8 ho_ sl_ H_ hp_ hq_
  subst ho_
  refine aO _ hp_ hq_ (ak ?_)
  obtain ⟨v_21,h_22,hF⟩:=bind_some hF
  refine aP [(4,(vI s_8.1)),(5,(vB v_21))] [] ?_ ?_
  ·refine au (aa (vI s_8.1) (aa (vI s_8.1) (aa (vI (x_1.length:Int)) (aa (vB (decide (s_8.1<(x_1.length:Int)))) ?_))))
   rcases aj h_22 with⟨hc_23,h_22⟩|⟨hc_23,h_22⟩
   ·refine aC rfl hc_23 wz (aH (vL eI x_1) wa rfl (aH (vI s_8.1) wa rfl ?_))
    obtain ⟨y_24,hy_25,h_22⟩:=bind_some h_22
    refine dR ik rfl rfl hy_25 rfl wa (bQ sz3 ag3 rfl (vI y_24) rfl wa (aH (vI target_2) wa rfl (aH (vB (y_24==target_2)) wa rfl ?_)))
    rcases aj h_22 with⟨hc_26,h_22⟩|⟨hc_26,h_22⟩
    ·refine aC rfl hc_26 wa (af (af (af (af (af (af (bS (wn rfl rfl) (bS (wn rfl rfl) (af (aH (vB true) wa rfl (aa (vB true) (aa (vI s_8.1) (aa (vB true) (ah ?_))))))))))))))
     obtain rfl:=ae h_22
     exact cu
    ·refine aC rfl hc_26 wa (aH (vL eI x_1) wa rfl (aH (vI s_8.1) wa rfl ?_))
     obtain ⟨y_27,hy_28,h_22⟩:=bind_some h_22
     refine dR ik rfl rfl hy_28 rfl wa (bQ sz3 ag3 rfl (vI y_27) rfl wa ?_)
     obtain ⟨r_29,hr_30,h_22⟩:=bind_some h_22
     refine aD (qy hr_30) rfl hb99 rfl rfl rfl rfl wa ?_
     rcases aj h_22 with⟨hc_31,h_22⟩|⟨hc_31,h_22⟩
     ·refine aC rfl hc_31 wa (aH (vI target_2) wa rfl ?_)
      obtain ⟨r_32,hr_33,h_22⟩:=bind_some h_22
      refine aD (qy hr_33) rfl hb99 rfl rfl rfl rfl wa (aH (vB r_32) wa rfl (aH (vB r_32) wa rfl (aa (vB r_32) (aa (vI s_8.1) (aa (vB r_32) (ah ?_))))))
      obtain rfl:=ae h_22
      exact cu
     ·refine aC rfl hc_31 wa (af (af (aH (vB false) wa rfl (aH (vB false) wa rfl (aa (vB false) (aa (vI s_8.1) (aa (vB false) (ah ?_))))))))
      obtain rfl:=ae h_22
      exact cu
   ·refine aC rfl hc_23 wz (af (af (af (af (af (af (af (bS (wn rfl rfl) (bS (wn rfl rfl) (bS (wn rfl rfl) (bS (wn rfl rfl) (bS (wn rfl rfl) (bS (wn rfl rfl) (bS (wn rfl rfl) (bS (wn rfl rfl) (bS (wn rfl rfl) (af (aa (vB false) (aa (vI s_8.1) (aa (vB false) (ah ?_)))))))))))))))))))))
    obtain rfl:=ae h_22
    exact cu
  ·rintro ⟨⟩ _ sl_ H_ hp_ hq_
   refine aO _ hp_ hq_ ?_
   obtain rfl:=ae hF
   exact ay (aJ [(vI s_8.1),(vB v_21)] ⟨rfl,⟨rfl,trivial⟩⟩)
theorem zw {e_1:Entry} {d_2:Int} {r:Bool} (hF:lh e_1 d_2=some r) :
  FnM Tryz.prog 64 [(.d (.agg (Entry.enc e_1))),(vI d_2)] [] (vB r) []:=by
 refine FnM.of_wH ⟨Tryz.prog,41,[],[]⟩ rfl Tryz.func64 rfl rfl (lb_ rfl) (by kernel_rfl) ?_
 unfold lh at hF
 refine ai (gQ 0 (.inl rfl) (Entry.v e_1) rfl rfl wz (λn_3=>aa (vB false) (ah (ak (ak ?_)))))
 obtain ⟨v_4,h_5,hF⟩:=bind_some hF
 refine aP [(1,(vI d_2)),(2,(.ref n_3 0 0)),(31,(vB v_4))] [(n_3,some (.cells 13 (Entry.v e_1)))] ?_ ?_
 ·refine bC (aa (vI d_2) (aG FC rfl 3 rfl wz (aF 2 0 (.inr (by kernel_rfl)) (λ_ _ ag=>trivial) sz3 ag3 rfl rfl (vI e_1.First) rfl wz (aG FX rfl 4 rfl wz (aF 4 0 (.inr (by kernel_rfl)) (λ_ _ ag=>⟨.inl ⟨rfl,rfl⟩,trivial⟩) sz3 ag3 rfl rfl (vI e_1.Last) rfl wz ?_)))))
  obtain ⟨r_6,hr_7,h_5⟩:=bind_some h_5
  refine aD (bu hr_7) rfl qG rfl rfl rfl rfl wz ?_
  rcases aj h_5 with⟨hc_8,h_5⟩|⟨hc_8,h_5⟩
  ·refine aC rfl hc_8 wz (af (af (af (af (af (af (af (af (aa (vB true) (aa (vB true) (af (af (af (af (af (af (af (aa (vB true) (ah ?_)))))))))))))))))))
   obtain rfl:=ae h_5
   exact cu
  ·refine aC rfl hc_8 wz (aH (vI d_2) wa rfl (aG FC rfl 3 rfl wa (aF 9 0 (.inr (by kernel_rfl)) (λ_ _ ag=>⟨.inl ⟨rfl,rfl⟩,⟨.inl ⟨rfl,rfl⟩,trivial⟩⟩) sz3 ag3 rfl rfl (vI e_1.First) rfl wa (aH (vI (w64 (d_2-e_1.First))) wa rfl (aG Oa rfl 5 rfl wa (aF 12 0 (.inr (by kernel_rfl)) (λ_ _ ag=>⟨.inl ⟨rfl,rfl⟩,⟨.inl ⟨rfl,rfl⟩,⟨.inl ⟨rfl,rfl⟩,trivial⟩⟩⟩) sz3 ag3 rfl rfl (vI e_1.Every) rfl wa ?_))))))
   obtain ⟨q_9,hz_10,h_5⟩:=bind_some h_5
   refine Nl rfl rfl hz_10 wa (aH (vB (q_9 != 0)) wa rfl (aa (vB (q_9 != 0)) ?_))
   rcases aj h_5 with⟨hc_11,h_5⟩|⟨hc_11,h_5⟩
   ·refine aC rfl hc_11 wz (af (af (af (af (af (af (af (aa (vB true) (ah ?_)))))))))
    obtain rfl:=ae h_5
    exact cu
   ·refine aC rfl hc_11 wz (aG MH rfl 6 rfl wa (aF 18 0 (.inr (by kernel_rfl)) (λ_ _ ag=>⟨.inl ⟨rfl,rfl⟩,⟨.inl ⟨rfl,rfl⟩,⟨.inl ⟨rfl,rfl⟩,⟨.inl ⟨rfl,rfl⟩,trivial⟩⟩⟩⟩) sz3 ag3 rfl rfl (vI e_1.Days) rfl wa (aH (vI d_2) wa rfl (aH (vI (d_2.tmod 7)) wa rfl ?_))))
    obtain ⟨q_12,hz_13,h_5⟩:=bind_some h_5
    refine Bc rfl rfl hz_13 wa (aH (vI (vv .i64 e_1.Days q_12)) wa rfl (aH (vB ((vv .i64 e_1.Days q_12)==0)) wa rfl (aa (vB ((vv .i64 e_1.Days q_12)==0)) (ah ?_))))
    obtain rfl:=ae h_5
    exact cu
 ·rintro ⟨⟩ _ sl_ H_ hp_ hq_
  refine aO _ hp_ hq_ ?_
  rcases aj hF with⟨hc_14,hF⟩|⟨hc_14,hF⟩
  ·refine aB rfl hc_14 (ai (aa (vB false) (ah ?_)))
   obtain rfl:=ae hF
   exact ay (aJ [(vB false)] ⟨rfl,trivial⟩)
  ·refine aA rfl hc_14 (ax (ai (aG MX rfl 7 rfl wz (aF 0 0 il ft yj zM rfl rfl (vL eI e_1.Except) rfl wz (aa (vI d_2) ?_)))))
   obtain ⟨r_15,hr_16,hF⟩:=bind_some hF
   refine aD (oJ hr_16) rfl hb81 rfl rfl rfl rfl wz (aa (.tup [(vI r_15.1),(vB r_15.2)]) (aa (vI r_15.1) (aa (vB r_15.2) (aa (vI r_15.1) (aa (vB r_15.2) (ah (ai (aa (vB r_15.2) (aa (vB (!r_15.2)) (aa (vB (!r_15.2)) (ah ?_)))))))))))
   obtain rfl:=ae hF
   exact ay (aJ [(vB (!r_15.2))] ⟨rfl,trivial⟩)
theorem yC {e_1:Entry} {zone_2:Int} {d_3:Int} {r:Window} (hF:mI e_1 zone_2 d_3=some r) :
  FnM Tryz.prog 65 [(.d (.agg (Entry.enc e_1))),(vI zone_2),(vI d_3)] [] (.d (.agg (Window.enc r))) []:=by
 refine FnM.of_wH ⟨Tryz.prog,32,[],[]⟩ rfl Tryz.func65 rfl rfl (lb_ rfl) (by kernel_rfl) ?_
 unfold mI at hF
 refine ai (gQ 0 (.inl rfl) (Entry.v e_1) rfl rfl wz (λn_4=>dI 0 (.inl rfl) z31 rfl wz (λn_5=>ah (ai (aG Ox rfl 9 rfl wz (aF 0 0 il ft sz3 ag3 rfl rfl (vI e_1.To) rfl wz (aG Jh rfl 8 rfl wz (aF 0 0 il ft sz3 ag3 rfl rfl (vI e_1.From) rfl wz (aa (vI (w64 (e_1.To-e_1.From))) (aa (vI (w64 (e_1.To-e_1.From))) (ah (ak (ai (aa (vI (w64 (e_1.To-e_1.From))) (aa (vB (decide ((w64 (e_1.To-e_1.From))<=0))) (ah ?_))))))))))))))))
 obtain ⟨v_6,h_7,hF⟩:=bind_some hF
 refine aP [(1,(vI zone_2)),(2,(vI d_3)),(3,(.ref n_4 0 0)),(6,(.ref n_5 0 0)),(7,(vI v_6))] [(n_4,some (.cells 13 (Entry.v e_1))),(n_5,some (.cells 2 [(vI 0),(vI 0)]))] ?_ ?_
 ·rcases aj h_7 with⟨hc_8,h_7⟩|⟨hc_8,h_7⟩
  ·refine aB rfl hc_8 (au (aa (vI (w64 (e_1.To-e_1.From))) (aa (vI (w64 ((w64 (e_1.To-e_1.From))+1440))) (aa (vI (w64 ((w64 (e_1.To-e_1.From))+1440))) (ah ?_)))))
   obtain rfl:=ae h_7
   exact cu
  ·refine aA rfl hc_8 (ax ?_)
   obtain rfl:=ae h_7
   exact cu
 ·rintro ⟨⟩ _ sl_ H_ hp_ hq_
  refine aO _ hp_ hq_ (ai (aa (vI d_3) (aa (vI (w64 (d_3*1440))) (aG Jh rfl 8 rfl wz (aF 0 0 il ft sz3 ag3 rfl rfl (vI e_1.From) rfl wz (aa (vI (w64 ((w64 (d_3*1440))+e_1.From))) (aa (vI zone_2) (aa (vI (w64 ((w64 ((w64 (d_3*1440))+e_1.From))-zone_2))) (aa (vI (w64 ((w64 ((w64 ((w64 (d_3*1440))+e_1.From))-zone_2))*60000))) (aa (vI (w64 ((w64 ((w64 ((w64 (d_3*1440))+e_1.From))-zone_2))*60000))) (ah (ai (aa (vI (w64 ((w64 ((w64 ((w64 (d_3*1440))+e_1.From))-zone_2))*60000))) (aa (vI (w64 ((w64 ((w64 ((w64 (d_3*1440))+e_1.From))-zone_2))*60000))) (aa (vI v_6) (aa (vI (w64 (v_6*60000))) (aa (vI (w64 ((w64 ((w64 ((w64 ((w64 (d_3*1440))+e_1.From))-zone_2))*60000))+(w64 (v_6*60000))))) (aH (.d (.agg (Window.enc (⟨(w64 ((w64 ((w64 ((w64 (d_3*1440))+e_1.From))-zone_2))*60000)),(w64 ((w64 ((w64 ((w64 ((w64 (d_3*1440))+e_1.From))-zone_2))*60000))+(w64 (v_6*60000))))⟩:Window)))) wz (by kernel_rfl) (fP 0 il ft 1 xH rfl rfl [(vI (w64 ((w64 ((w64 ((w64 (d_3*1440))+e_1.From))-zone_2))*60000))),(vI (w64 ((w64 ((w64 ((w64 ((w64 (d_3*1440))+e_1.From))-zone_2))*60000))+(w64 (v_6*60000)))))] rfl wz (ah ?_))))))))))))))))))))
  obtain rfl:=ae hF
  exact ay (aJ [(.d (.agg (Window.enc (⟨(w64 ((w64 ((w64 ((w64 (d_3*1440))+e_1.From))-zone_2))*60000)),(w64 ((w64 ((w64 ((w64 ((w64 (d_3*1440))+e_1.From))-zone_2))*60000))+(w64 (v_6*60000))))⟩:Window))))] ⟨⟨1,_,_,_,_,_,_,_,rfl,rfl,xH,Ea,rfl⟩,trivial⟩)
theorem BG {t_1:Window} {wv_2:Window} {r:Window} (hF:vg t_1 wv_2=some r) :
  FnM Tryz.prog 44 [(.d (.agg (Window.enc t_1))),(.d (.agg (Window.enc wv_2)))] [] (.d (.agg (Window.enc r))) []:=by
 refine FnM.of_wH ⟨Tryz.prog,16,[],[]⟩ rfl Tryz.func44 rfl rfl (lb_ rfl) (by kernel_rfl) ?_
 unfold vg at hF
 refine ai (gQ 0 (.inl rfl) [(vI t_1.From),(vI t_1.To)] rfl rfl wz (λn_3=>gQ 0 (.inl rfl) [(vI wv_2.From),(vI wv_2.To)] rfl rfl wz (λn_4=>dI 0 (.inl rfl) z31 rfl wz (λn_5=>ah (ai (aG mZ rfl 0 rfl wz (aF 0 0 il ft sz3 ag3 rfl rfl (vI t_1.From) rfl wz (aG mZ rfl 0 rfl wz (aF 0 1 il ft sz3 ag3 rfl rfl (vI wv_2.From) rfl wz (pG (vI (uy t_1.From wv_2.From)) rfl (.inr rfl) wz (aG mU rfl 1 rfl wz (aF 0 0 il ft sz3 ag3 rfl rfl (vI t_1.To) rfl wz (aG mU rfl 1 rfl wz (aF 0 1 il ft sz3 ag3 rfl rfl (vI wv_2.To) rfl wz (pG (vI (sN t_1.To wv_2.To)) rfl (.inl rfl) wz (aH (.d (.agg (Window.enc (⟨(uy t_1.From wv_2.From),(sN t_1.To wv_2.To)⟩:Window)))) wz (by kernel_rfl) (fP 0 il ft 2 xH rfl rfl [(vI (uy t_1.From wv_2.From)),(vI (sN t_1.To wv_2.To))] rfl wz (ah ?_))))))))))))))))))
 obtain rfl:=ae hF
 exact ay (aJ [(.d (.agg (Window.enc (⟨(uy t_1.From wv_2.From),(sN t_1.To wv_2.To)⟩:Window))))] ⟨⟨2,_,_,_,_,_,_,_,rfl,rfl,xH,Ea,rfl⟩,trivial⟩)
theorem yw {e_1:Entry} {zone_2:Int} {wv_3:Window} {r:(List Window)} (hF:lI e_1 zone_2 wv_3=some r) :
  FnM Tryz.prog 43 [(.d (.agg (Entry.enc e_1))),(vI zone_2),(.d (.agg (Window.enc wv_3)))] [] (gV (av 0) 2 r) (([]:List Box).map some++gO 2 Window.enc r):=by
 refine FnM.of_wH ⟨Tryz.prog,72,[],[]⟩ rfl Tryz.func43 rfl rfl (lb_ rfl) (by kernel_rfl) ?_
 unfold lI at hF
 refine ai (gQ 0 (.inl rfl) (Entry.v e_1) rfl rfl wz (λn_4=>gQ 0 (.inl rfl) [(vI wv_3.From),(vI wv_3.To)] rfl rfl wz (λn_5=>aa .nil (ah (ai (aa .nil (ah (ak (ak ?_)))))))))
 obtain ⟨v_6,h_7,hF⟩:=bind_some hF
 refine aP [(1,(vI zone_2)),(3,(.ref n_4 0 0)),(5,(.ref n_5 0 0)),(7,.nil),(20,(vB v_6))] [(n_4,some (.cells 13 (Entry.v e_1))),(n_5,some (.cells 2 [(vI wv_3.From),(vI wv_3.To)]))] ?_ ?_
 ·refine au (aG pl66_12 rfl 12 rfl wz (aF 0 0 il ft sz4 ag4 rfl rfl (vB e_1.Gone) rfl wz ?_))
  rcases aj h_7 with⟨hc_8,h_7⟩|⟨hc_8,h_7⟩
  ·refine aC rfl hc_8 wz (af (af (af (af (af (aa (vB true) (ah ?_)))))))
   obtain rfl:=ae h_7
   exact cu
  ·refine aC rfl hc_8 wz (aG mZ rfl 0 rfl wa (aF 0 1 il ft sz3 ag3 rfl rfl (vI wv_3.From) rfl wa (aG mU rfl 1 rfl wa (aF 0 1 il ft sz3 ag3 rfl rfl (vI wv_3.To) rfl wa (aH (vB (decide (wv_3.From>=wv_3.To))) wa rfl (aa (vB (decide (wv_3.From>=wv_3.To))) (ah ?_)))))))
   obtain rfl:=ae h_7
   exact cu
 ·rintro ⟨⟩ _ sl_ H_ hp_ hq_
  refine aO _ hp_ hq_ ?_
  rcases aj hF with⟨hc_9,hF⟩|⟨hc_9,hF⟩
  ·refine aB rfl hc_9 (ai (aa .nil (ah (ou (λn_10 => ?_)))))
   obtain rfl:=ae hF
   exact ay (finG (outs:=([]:List Box)) (.inr rfl) 2 rfl rfl rfl (by kernel_rfl) (by kernel_rfl))
  ·refine aA rfl hc_9 (ax (ai (aG mZ rfl 0 rfl wz (aF 0 1 il ft sz3 ag3 rfl rfl (vI wv_3.From) rfl wz (aa (vI zone_2) (aa (vI (w64 (zone_2*60000))) (aa (vI (w64 (wv_3.From+(w64 (zone_2*60000))))) (aa (vI (w64 ((w64 (wv_3.From+(w64 (zone_2*60000)))).tdiv 86400000))) (aa (vI (w64 ((w64 ((w64 (wv_3.From+(w64 (zone_2*60000)))).tdiv 86400000))-2))) (aa (vI (w64 ((w64 ((w64 (wv_3.From+(w64 (zone_2*60000)))).tdiv 86400000))-2))) (ah (ai (aG mU rfl 1 rfl wz (aF 0 1 il ft sz3 ag3 rfl rfl (vI wv_3.To) rfl wz (aa (vI zone_2) (aa (vI (w64 (zone_2*60000))) (aa (vI (w64 (wv_3.To+(w64 (zone_2*60000))))) (aa (vI (w64 ((w64 (wv_3.To+(w64 (zone_2*60000)))).tdiv 86400000))) (aa (vI (w64 ((w64 ((w64 (wv_3.To+(w64 (zone_2*60000)))).tdiv 86400000))+1))) (aa (vI (w64 ((w64 ((w64 (wv_3.To+(w64 (zone_2*60000)))).tdiv 86400000))+1))) (ah (ak (ai ?_)))))))))))))))))))))))
   refine aa (vI (w64 ((w64 ((w64 (wv_3.From+(w64 (zone_2*60000)))).tdiv 86400000))-2))) (aG FC rfl 3 rfl wz (aF 0 0 il ft sz3 ag3 rfl rfl (vI e_1.First) rfl wz (pG (vI (uy (w64 ((w64 ((w64 (wv_3.From+(w64 (zone_2*60000)))).tdiv 86400000))-2)) e_1.First)) rfl (.inr rfl) wz (aa (vI (uy (w64 ((w64 ((w64 (wv_3.From+(w64 (zone_2*60000)))).tdiv 86400000))-2)) e_1.First)) (ah (ou (λn_17 => ?_)))))))
   obtain ⟨o_22,hj_23,hF⟩:=bind_some hF
   obtain ⟨nq_41,hj_23⟩:=dz hj_23
   refine Cc (σ:=(List Window)×Int) (N:=Nm) (λp=>(λ(s_16:(List Window)×Int) (n_19:Nm)=>([(7,(gV n_19 2 s_16.1))]:SL_)) p.1 p.2) (λp=>(λ(s_16:(List Window)×Int) (n_19:Nm)=>([(n_4,some (.cells 13 (Entry.v e_1))),(n_5,some (.cells 2 [(vI wv_3.From),(vI wv_3.To)])),(n_19,gB 2 Window.enc s_16.1)]:Hp)) p.1 p.2) (λ(k_11:Nat)=>(λp=>(λ(s_16:(List Window)×Int) (n_19:Nm)=>([(1,(vI zone_2)),(3,(.ref n_4 0 0)),(5,(.ref n_5 0 0)),(7,(gV n_19 2 s_16.1)),(9,(vI (w64 ((w64 ((w64 (wv_3.To+(w64 (zone_2*60000)))).tdiv 86400000))+1)))),(10,(vI s_16.2))]:SL_)) p.1 p.2)) (λs=>jq wv_3 zone_2 e_1 s) o_22 nq_41 ((([]:List Window),(uy (w64 ((w64 ((w64 (wv_3.From+(w64 (zone_2*60000)))).tdiv 86400000))-2)) e_1.First)),n_17) hj_23 rfl (aK rfl) ?_ ?_
   ·rintro ⟨k_11,s_16,n_19⟩ hL_21
    dsimp only at hL_21
    cases k_11 with
    | zero=>cases hL_21
    | succ k_11 =>
     obtain ⟨c_,hc_20,hL_21⟩:=bind_some hL_21
     unfold jq at hc_20
     refine ak (ai (aa (vI s_16.2) (aa (vI (w64 ((w64 ((w64 (wv_3.To+(w64 (zone_2*60000)))).tdiv 86400000))+1))) (aG FX rfl 4 rfl wz (aF 0 0 il ft sz3 ag3 rfl rfl (vI e_1.Last) rfl wz (pG (vI (sN (w64 ((w64 ((w64 (wv_3.To+(w64 (zone_2*60000)))).tdiv 86400000))+1)) e_1.Last)) rfl (.inl rfl) wz (aa (vB (decide (s_16.2<=(sN (w64 ((w64 ((w64 (wv_3.To+(w64 (zone_2*60000)))).tdiv 86400000))+1)) e_1.Last)))) (ah ?_))))))))
     rcases aj hc_20 with⟨hc_24,hc_20⟩|⟨hc_24,hc_20⟩
     ·refine aB rfl hc_24 (ax (ak (aN (ak (ai (aF 0 0 il ft JM LJ rfl rfl (.d (.agg (Entry.enc e_1))) rfl wz (aa (vI s_16.2) ?_)))))))
      obtain ⟨r_25,hr_26,hc_20⟩:=bind_some hc_20
      refine aD (zw hr_26) rfl hb64 rfl rfl rfl rfl wz (aa (vB (!r_25)) (ah ?_))
      rcases aj hc_20 with⟨hc_27,hc_20⟩|⟨hc_27,hc_20⟩
      ·refine aB rfl hc_27 (aX (au (aa (vI s_16.2) (aa (vI (w64 (s_16.2+1))) (aa (vI (w64 (s_16.2+1))) (ah ?_))))))
       obtain rfl:=ae hc_20
       exact aY (k_11,(s_16.1,(w64 (s_16.2+1))),n_19) hL_21 (ls_ _) rfl (aK rfl)
      ·refine aA rfl hc_27 (ax (ai (aF 0 0 il ft JM LJ rfl rfl (.d (.agg (Entry.enc e_1))) rfl wz (aa (vI zone_2) (aa (vI s_16.2) ?_)))))
       obtain ⟨r_28,hr_29,hc_20⟩:=bind_some hc_20
       refine aD (yC hr_29) rfl hb65 rfl rfl rfl rfl wz (dI 0 (.inl rfl) z31 rfl wz (λn_30=>fP 0 il ft 3 xH rfl rfl [(vI r_28.From),(vI r_28.To)] rfl wz (ah (ak ?_))))
       obtain ⟨v_31,h_32,hc_20⟩:=bind_some hc_20
       refine aP [(1,(vI zone_2)),(3,(.ref n_4 0 0)),(5,(.ref n_5 0 0)),(7,(gV n_19 2 s_16.1)),(9,(vI (w64 ((w64 ((w64 (wv_3.To+(w64 (zone_2*60000)))).tdiv 86400000))+1)))),(10,(vI s_16.2)),(11,(.ref n_30 0 0)),(66,(vB v_31))] [(n_4,some (.cells 13 (Entry.v e_1))),(n_5,some (.cells 2 [(vI wv_3.From),(vI wv_3.To)])),(n_19,gB 2 Window.enc s_16.1),(n_30,some (.cells 2 [(vI r_28.From),(vI r_28.To)]))] ?_ ?_
       ·refine au (aG mZ rfl 0 rfl wz (aF 0 3 il ft sz3 ag3 rfl rfl (vI r_28.From) rfl wz (aG mU rfl 1 rfl wz (aF 0 1 il ft sz3 ag3 rfl rfl (vI wv_3.To) rfl wz (aa (vB (decide (r_28.From<wv_3.To))) ?_)))))
        rcases aj h_32 with⟨hc_33,h_32⟩|⟨hc_33,h_32⟩
        ·refine aC rfl hc_33 wz (aG mU rfl 1 rfl wa (aF 0 3 il ft sz3 ag3 rfl rfl (vI r_28.To) rfl wa (aG mZ rfl 0 rfl wa (aF 0 1 il ft sz3 ag3 rfl rfl (vI wv_3.From) rfl wa (aH (vB (decide (r_28.To>wv_3.From))) wa rfl (aa (vB (decide (r_28.To>wv_3.From))) (ah ?_)))))))
         obtain rfl:=ae h_32
         exact cu
        ·refine aC rfl hc_33 wz (af (af (af (af (af (aa (vB false) (ah ?_)))))))
         obtain rfl:=ae h_32
         exact cu
       ·rintro ⟨⟩ _ sl_ H_ hp_ hq_
        refine aO _ hp_ hq_ ?_
        obtain ⟨v_34,h_35,hc_20⟩:=bind_some hc_20
        refine j4 (β:=Nm) (λ(n_36:Nm)=>([(1,(vI zone_2)),(3,(.ref n_4 0 0)),(5,(.ref n_5 0 0)),(7,(gV n_36 2 v_34)),(9,(vI (w64 ((w64 ((w64 (wv_3.To+(w64 (zone_2*60000)))).tdiv 86400000))+1)))),(10,(vI s_16.2))]:SL_)) (λ(n_36:Nm)=>([(n_4,some (.cells 13 (Entry.v e_1))),(n_5,some (.cells 2 [(vI wv_3.From),(vI wv_3.To)])),(n_36,gB 2 Window.enc v_34),(n_30,some (.cells 2 [(vI r_28.From),(vI r_28.To)]))]:Hp)) (λ_=>True) ?_ ?_
        ·rcases aj h_35 with⟨hc_37,h_35⟩|⟨hc_37,h_35⟩
         ·refine aB rfl hc_37 (au (aa (gV n_19 2 s_16.1) (aF 0 3 il ft xH Ea rfl rfl (.d (.agg (Window.enc r_28))) rfl wz (eZ (([r_28]:List Window).map Window.enc) es62 ez62 rfl rfl rfl rfl rfl wz ?_))))
          obtain ⟨a_38,hz_39,h_35⟩:=bind_some h_35
          refine kY 0 il ft (i:=2) el62 el62 xH z31 rfl (by decide) by31 (by decide) (λ_=>rfl) rfl rfl rfl hz_39 wz (λn_40=>aa (gV n_40 2 a_38) (ah ?_))
          obtain rfl:=ae h_35
          exact aU n_40 trivial rfl (aK rfl)
         ·refine aA rfl hc_37 (ax ?_)
          obtain rfl:=ae h_35
          exact aU n_19 trivial rfl (aK rfl)
        ·rintro n_36 _ sl_ H_ hp_ hq_
         refine aO _ hp_ hq_ (au (aa (vI s_16.2) (aa (vI (w64 (s_16.2+1))) (aa (vI (w64 (s_16.2+1))) (ah ?_)))))
         obtain rfl:=ae hc_20
         exact aY (k_11,(v_34,(w64 (s_16.2+1))),n_36) hL_21 (ls_ _) rfl (aK rfl)
     ·refine aA rfl hc_24 (aX ?_)
      obtain rfl:=ae hc_20
      obtain rfl:=ae hL_21
      exact aU ((s_16.1,s_16.2),n_19) rfl rfl (aK rfl)
   ·rintro ⟨s_16,n_19⟩ ho_ sl_ H_ hp_ hq_
    subst ho_
    refine aO _ hp_ hq_ (ai (aa (gV n_19 2 s_16.1) (aa (gV n_19 2 s_16.1) (ah ?_))))
    obtain rfl:=ae hF
    exact ay (finG (outs:=([]:List Box)) (.inr rfl) 2 rfl rfl rfl (by kernel_rfl) (by kernel_rfl))
theorem zx {e_1:Entry} {zone_2:Int} {wv_3:Window} {r:(List Window)×Int} (hF:lK e_1 zone_2 wv_3=some r) :
  FnM Tryz.prog 24 [(.d (.agg (Entry.enc e_1))),(vI zone_2),(.d (.agg (Window.enc wv_3)))] [] (.tup [(vL Window.enc r.1),(vI r.2)]) []:=by
 refine FnM.of_wH ⟨Tryz.prog,45,[],[]⟩ rfl Tryz.func24 rfl rfl (lb_ rfl) (by kernel_rfl) ?_
 unfold lK at hF
 refine ai (gQ 0 (.inl rfl) (Entry.v e_1) rfl rfl wz (λn_4=>gQ 0 (.inl rfl) [(vI wv_3.From),(vI wv_3.To)] rfl rfl wz (λn_5=>aa .nil (aa (vI 0) (ah (ak (ai (aF 0 0 il ft JM LJ rfl rfl (.d (.agg (Entry.enc e_1))) rfl wz (eZ (([e_1]:List Entry).map Entry.enc) es94 ez94 rfl rfl rfl rfl rfl wz ?_)))))))))
 obtain ⟨r_6,hr_7,hF⟩:=bind_some hF
 refine aD (tC hr_7) rfl hb41 rfl rfl rfl rfl wz (aa (vI r_6) (ah (ai (aa (vI r_6) (aa (vB (r_6 != 0)) (ah ?_))))))
 rcases aj hF with⟨hc_8,hF⟩|⟨hc_8,hF⟩
 ·refine aB rfl hc_8 (ai (aa (vI r_6) (aa .nil (aa (vI r_6) (ah ?_)))))
  obtain rfl:=ae hF
  exact ay (aJ [.nil,(vI r_6)] ⟨rfl,⟨rfl,trivial⟩⟩)
 ·refine aA rfl hc_8 (ax (ak (ai (aa (vI zone_2) ?_))))
  obtain ⟨r_9,hr_10,hF⟩:=bind_some hF
  refine aD (bu hr_10) rfl qG rfl rfl rfl rfl wz (ah ?_)
  rcases aj hF with⟨hc_11,hF⟩|⟨hc_11,hF⟩
  ·refine aB rfl hc_11 (ai (aa .nil (aa (vI 1) (ah ?_))))
   obtain rfl:=ae hF
   exact ay (aJ [.nil,(vI 1)] ⟨rfl,⟨rfl,trivial⟩⟩)
  ·refine aA rfl hc_11 (ax (ak (ai (aF 0 1 il ft xH Ea rfl rfl (.d (.agg (Window.enc wv_3))) rfl wz ?_))))
   obtain ⟨r_12,hr_13,hF⟩:=bind_some hF
   refine aD (uC hr_13) rfl hb42 rfl rfl rfl rfl wz (aa (vI r_12) (ah (ai (aa (vI r_12) (aa (vB (r_12 != 0)) (ah ?_))))))
   rcases aj hF with⟨hc_14,hF⟩|⟨hc_14,hF⟩
   ·refine aB rfl hc_14 (ai (aa (vI r_12) (aa .nil (aa (vI r_12) (ah ?_)))))
    obtain rfl:=ae hF
    exact ay (aJ [.nil,(vI r_12)] ⟨rfl,⟨rfl,trivial⟩⟩)
   ·refine aA rfl hc_14 (ax (ai (aF 0 0 il ft JM LJ rfl rfl (.d (.agg (Entry.enc e_1))) rfl wz (aa (vI zone_2) (aF 0 1 il ft xH Ea rfl rfl (.d (.agg (Window.enc wv_3))) rfl wz ?_)))))
    obtain ⟨r_15,hr_16,hF⟩:=bind_some hF
    refine h_callg [] (yw hr_16) rfl hb43 rfl (by kernel_rfl) (by kernel_rfl) (by kernel_rfl) (by kernel_rfl) (by kernel_rfl) rfl (by decide) (by kernel_rfl) wz ([(n_4,some (.cells 13 (Entry.v e_1))),(n_5,some (.cells 2 [(vI wv_3.From),(vI wv_3.To)]))]:Hp) (λ_=>by kernel_rfl) (λn_18=>aa (gV n_18 2 r_15) (ah (ak (ai (aa (gV n_18 2 r_15) (FD un62 rfl wz (aa (vI 0) (ah ?_))))))))
    obtain ⟨o_27,hj_28,hF⟩:=bind_some hF
    obtain ⟨hn_23,hj_28⟩:=bv hj_28
    refine di (λ(s_24:List Window)=>[(10,(gV n_18 2 s_24))]) (λ(s_24:List Window)=>[(n_4,some (.cells 13 (Entry.v e_1))),(n_5,some (.cells 2 [(vI wv_3.From),(vI wv_3.To)])),(n_18,gB 2 Window.enc s_24)]) (λ(k_19:Nat)=>(λ(s_24:List Window)=>[(5,(.ref n_5 0 0)),(10,(gV n_18 2 s_24)),(30,(gV n_18 2 s_24)),(31,(vI (r_15.length:Int))),(32,(vI (k_19:Int)))])) (λk x s=>kX wv_3 k x s) o_27 (List.range ((r_15.length:Int)).toNat) r_15 hj_28 rfl (aK rfl) ?_ ?_
    ·rintro ⟨k_19,l_20,s_24⟩ ⟨hL_26,hD_22⟩
     dsimp only at hL_26 hD_22
     cases l_20 with
     | nil =>
      obtain rfl:=ae hL_26
      refine ai (aa (vB (decide ((k_19:Int)<(r_15.length:Int)))) (ah ?_))
      refine ak (aA rfl (xk hD_22) (aX ?_))
      exact aU (s_24) rfl rfl (aK rfl)
     | cons x_21 l_20 =>
      obtain ⟨c_,hc_25,hL_26⟩:=bind_some hL_26
      refine ai (aa (vB (decide ((k_19:Int)<(r_15.length:Int)))) (ah ?_))
      refine ak (aB rfl (uW hD_22) (ax ?_))
      unfold kX at hc_25
      refine ak (aN (ai (aa (vI (k_19:Int)) ?_)))
      obtain ⟨_,hi_29,hc_25⟩:=bind_some hc_25
      refine nU es62 rfl rfl (jl hi_29) (fO hi_29) wz ?_
      obtain ⟨e_30,hy_31,hc_25⟩:=bind_some hc_25
      refine sG 0 2 il ft xH Ea rfl rfl hy_31 (.d (.agg (Window.enc e_30))) rfl wz (dI 0 (.inl rfl) z31 rfl wz (λn_32=>aa (vI (k_19:Int)) (fP 0 il ft 3 xH rfl rfl [(vI e_30.From),(vI e_30.To)] rfl wz (ah (au (aa (gV n_18 2 s_24) (aa (vI (k_19:Int)) (aF 0 3 il ft xH Ea rfl rfl (.d (.agg (Window.enc e_30))) rfl wz (aF 0 1 il ft xH Ea rfl rfl (.d (.agg (Window.enc wv_3))) rfl wz ?_)))))))))
      obtain ⟨r_33,hr_34,hc_25⟩:=bind_some hc_25
      refine aD (BG hr_34) rfl hb44 rfl rfl rfl rfl wz ?_
      obtain ⟨_,hi_35,hc_25⟩:=bind_some hc_25
      refine nU es62 rfl rfl (jl hi_35) (fO hi_35) wz ?_
      obtain ⟨e_36,hy_37,hc_25⟩:=bind_some hc_25
      refine CZ 0 il ft 2 xH rfl rfl hy_37 r_33 rfl wz (jV (v':=(gV n_18 2 (s_24.set (0+((k_19:Int)).toNat) r_33))) 10 rfl (qW (by simp)) (jV (v':=(gV n_18 2 (s_24.set (0+((k_19:Int)).toNat) r_33))) 30 rfl (qW (by simp)) (jV (v':=(gV n_18 2 (s_24.set (0+((k_19:Int)).toNat) r_33))) 37 rfl (qW (by simp)) (ah (au (eY (xD hD_22 hn_23) wz rfl (aa (vI ((k_19+1:Nat):Int)) (ah ?_))))))))
      obtain rfl:=ae hc_25
      exact aY (k_19+1,l_20,(s_24.set (0+((k_19:Int)).toNat) r_33)) ⟨hL_26,aZ hD_22⟩ (ls_ _) rfl (aK rfl)
    ·rintro s_24 ho_ sl_ H_ hp_ hq_
     subst ho_
     refine aO _ hp_ hq_ (ai (aa (gV n_18 2 s_24) (aa (gV n_18 2 s_24) (aa (vI 0) (ah (jW 2 rfl (gW 6 2 rfl rfl (gW 10 2 rfl rfl (gW 44 2 rfl rfl ?_)))))))))
     obtain rfl:=ae hF
     exact ay (aJ [(vL Window.enc s_24),(vI 0)] ⟨rfl,⟨rfl,trivial⟩⟩)
theorem gY {n_1:Int} {r:Bool} (hF:dC n_1=some r) :
  FnM Tryz.prog 45 [(vI n_1)] [] (vB r) []:=by
 refine FnM.of_wH ⟨Tryz.prog,9,[],[]⟩ rfl Tryz.func45 rfl rfl (lb_ rfl) (by kernel_rfl) ?_
 unfold dC at hF
 refine ai (aa (vB false) (ah (ak ?_)))
 obtain ⟨v_2,h_3,hF⟩:=bind_some hF
 refine aP [(2,(vB v_2))] [] ?_ ?_
 ·refine au (aa (vI n_1) (aa (vB (decide (n_1>=0))) ?_))
  rcases aj h_3 with⟨hc_4,h_3⟩|⟨hc_4,h_3⟩
  ·refine aC rfl hc_4 wz (aH (vI n_1) wa rfl (aH (vB (decide (n_1<345686400000))) wa rfl (aa (vB (decide (n_1<345686400000))) (aa (vB (decide (n_1<345686400000))) (ah ?_)))))
   obtain rfl:=ae h_3
   exact cu
  ·refine aC rfl hc_4 wz (af (af (aa (vB false) (aa (vB false) (ah ?_)))))
   obtain rfl:=ae h_3
   exact cu
 ·rintro ⟨⟩ _ sl_ H_ hp_ hq_
  refine aO _ hp_ hq_ ?_
  obtain rfl:=ae hF
  exact ay (aJ [(vB v_2)] ⟨rfl,trivial⟩)
theorem DI {c_1:Campaign} {atv_2:Int} {r:Int} (hF:rX c_1 atv_2=some r) :
  FnM Tryz.prog 46 [(.d (.agg (Campaign.enc c_1))),(vI atv_2)] [] (vI r) []:=by
 refine FnM.of_wH ⟨Tryz.prog,35,[],[]⟩ rfl Tryz.func46 rfl rfl (lb_ rfl) (by kernel_rfl) ?_
 unfold rX at hF
 refine ai (gQ 0 (.inl rfl) (Campaign.v c_1) rfl rfl wz (λn_3=>aa (vI 0) (ah (ak (aN (ai (aa (vI atv_2) (aG wm rfl 2 rfl wz (aG mZ rfl 2 rfl wz (aF 0 0 il ft sz3 ag3 rfl rfl (vI c_1.Time.From) rfl wz (aa (vB (decide (atv_2<c_1.Time.From))) (aa (vB (decide (atv_2<c_1.Time.From))) (ah ?_)))))))))))))
 rcases aj hF with⟨hc_4,hF⟩|⟨hc_4,hF⟩
 ·refine aB rfl hc_4 (ai (aa (vI 0) (ah ?_)))
  obtain rfl:=ae hF
  exact ay (aJ [(vI 0)] ⟨rfl,trivial⟩)
 ·refine aA rfl hc_4 (ai (aa (vI atv_2) (aG wm rfl 2 rfl wz (aG mU rfl 3 rfl wz (aF 0 0 il ft sz3 ag3 rfl rfl (vI c_1.Time.To) rfl wz (aa (vB (decide (atv_2>=c_1.Time.To))) (aa (vB (decide (atv_2>=c_1.Time.To))) (ah ?_))))))))
  rcases aj hF with⟨hc_5,hF⟩|⟨hc_5,hF⟩
  ·refine aB rfl hc_5 (ai (aG wM rfl 5 rfl wz (aF 0 0 il ft sz3 ag3 rfl rfl (vI c_1.Goal) rfl wz (aa (vI c_1.Goal) (ah ?_)))))
   obtain rfl:=ae hF
   exact ay (aJ [(vI c_1.Goal)] ⟨rfl,trivial⟩)
  ·refine aA rfl hc_5 (ax (ai (aG wM rfl 5 rfl wz (aF 0 0 il ft sz3 ag3 rfl rfl (vI c_1.Goal) rfl wz (aa (vI atv_2) (aG wm rfl 2 rfl wz (aG mZ rfl 2 rfl wz (aF 0 0 il ft sz3 ag3 rfl rfl (vI c_1.Time.From) rfl wz (aa (vI (w64 (atv_2-c_1.Time.From))) (aa (vI (w64 (c_1.Goal*(w64 (atv_2-c_1.Time.From))))) (aG wm rfl 2 rfl wz (aG mU rfl 3 rfl wz (aF 0 0 il ft sz3 ag3 rfl rfl (vI c_1.Time.To) rfl wz (aG wm rfl 2 rfl wz (aG mZ rfl 2 rfl wz (aF 0 0 il ft sz3 ag3 rfl rfl (vI c_1.Time.From) rfl wz (aa (vI (w64 (c_1.Time.To-c_1.Time.From))) ?_)))))))))))))))))
   obtain ⟨q_6,hz_7,hF⟩:=bind_some hF
   refine ND rfl rfl hz_7 wz (aa (vI q_6) (ah (aO (H0:=([(n_3,some (.cells 8 (Campaign.v c_1)))]:Hp)) ([(4,(vI q_6))]:SL_) (by kernel_rfl) (sW (by kernel_rfl)) ?_)))
   obtain rfl:=ae hF
   exact ay (aJ [(vI q_6)] ⟨rfl,trivial⟩)
theorem Dh {c_1:Campaign} {atv_2:Int} {r:Int×Int} (hF:oZ c_1 atv_2=some r) :
  FnM Tryz.prog 25 [(.d (.agg (Campaign.enc c_1))),(vI atv_2)] [] (.tup [(vI r.1),(vI r.2)]) []:=by
 refine FnM.of_wH ⟨Tryz.prog,19,[],[]⟩ rfl Tryz.func25 rfl rfl (lb_ rfl) (by kernel_rfl) ?_
 unfold oZ at hF
 refine ai (gQ 0 (.inl rfl) (Campaign.v c_1) rfl rfl wz (λn_3=>aa (vI 0) (aa (vI 0) (ah (ak (ai (aF 0 0 il ft pg xP rfl rfl (.d (.agg (Campaign.enc c_1))) rfl wz (eZ (([c_1]:List Campaign).map Campaign.enc) zU GR rfl rfl rfl rfl rfl wz ?_))))))))
 obtain ⟨r_4,hr_5,hF⟩:=bind_some hF
 refine aD (ja hr_5) rfl hb17 rfl rfl rfl rfl wz (aa (vI r_4) (ah (ai (aa (vI r_4) (aa (vB (r_4 != 0)) (ah ?_))))))
 rcases aj hF with⟨hc_6,hF⟩|⟨hc_6,hF⟩
 ·refine aB rfl hc_6 (ai (aa (vI r_4) (aa (vI 0) (aa (vI r_4) (ah ?_)))))
  obtain rfl:=ae hF
  exact ay (aJ [(vI 0),(vI r_4)] ⟨rfl,⟨rfl,trivial⟩⟩)
 ·refine aA rfl hc_6 (ax (ak (ai (aa (vI atv_2) ?_))))
  obtain ⟨r_7,hr_8,hF⟩:=bind_some hF
  refine aD (gY hr_8) rfl Jw rfl rfl rfl rfl wz (aa (vB (!r_7)) (ah ?_))
  rcases aj hF with⟨hc_9,hF⟩|⟨hc_9,hF⟩
  ·refine aB rfl hc_9 (ai (aa (vI 0) (aa (vI 1) (ah ?_))))
   obtain rfl:=ae hF
   exact ay (aJ [(vI 0),(vI 1)] ⟨rfl,⟨rfl,trivial⟩⟩)
  ·refine aA rfl hc_9 (ax (ai (aF 0 0 il ft pg xP rfl rfl (.d (.agg (Campaign.enc c_1))) rfl wz (aa (vI atv_2) ?_))))
   obtain ⟨r_10,hr_11,hF⟩:=bind_some hF
   refine aD (DI hr_11) rfl hb46 rfl rfl rfl rfl wz (aa (vI r_10) (aa (vI 0) (ah ?_)))
   obtain rfl:=ae hF
   exact ay (aJ [(vI r_10),(vI 0)] ⟨rfl,⟨rfl,trivial⟩⟩)
theorem nD {a_1:ByteArray} {b_2:ByteArray} {r:Int} (hF:fZ a_1 b_2=some r) :
  FnM Tryz.prog 119 [(vS a_1),(vS b_2)] [] (vI r) []:=by
 refine FnM.of_wH ⟨Tryz.prog,8,[],[]⟩ rfl Tryz.func119 rfl rfl (lb_ rfl) (by kernel_rfl) ?_
 unfold fZ at hF
 refine ai (aa (vI 0) (ah (ai (aa (vS a_1) (aa (vS b_2) (h_ext (Mr (f:=127) Tryz.func127 rfl rfl (by kernel_rfl) (by kernel_rfl) _ _) rfl nb127 rfl wz (aa (vI (NH a_1 b_2)) (ah ?_))))))))
 obtain rfl:=ae hF
 exact ay (aJ [(vI (NH a_1 b_2))] ⟨rfl,trivial⟩)
theorem qU {a_1:ByteArray} {b_2:ByteArray} {r:Int} (hF:strings_Compare a_1 b_2=some r) :
  FnM Tryz.prog 101 [(vS a_1),(vS b_2)] [] (vI r) []:=by
 refine FnM.of_wH ⟨Tryz.prog,8,[],[]⟩ rfl Tryz.func101 rfl rfl (lb_ rfl) (by kernel_rfl) ?_
 unfold strings_Compare at hF
 refine ai (aa (vI 0) (ah (ai (aa (vS a_1) (aa (vS b_2) ?_)))))
 obtain ⟨r_3,hr_4,hF⟩:=bind_some hF
 refine aD (nD hr_4) rfl hb119 rfl rfl rfl rfl wz (aa (vI r_3) (ah ?_))
 obtain rfl:=ae hF
 exact ay (aJ [(vI r_3)] ⟨rfl,trivial⟩)
theorem qY {x_1:Int} {y_2:Int} {r:Int} (hF:cmp_Compare_int x_1 y_2=some r) :
  FnM Tryz.prog 102 [(vI x_1),(vI y_2)] [] (vI r) []:=by
 refine FnM.of_wH ⟨Tryz.prog,20,[],[]⟩ rfl Tryz.func102 rfl rfl (lb_ rfl) (by kernel_rfl) ?_
 unfold cmp_Compare_int at hF
 refine ai (aa (vI 0) (ah (ai (aa (vI x_1) ?_))))
 obtain ⟨r_3,hr_4,hF⟩:=bind_some hF
 refine aD (lU hr_4) rfl Kq rfl rfl rfl rfl wz (aa (vB r_3) (ah (ai (aa (vI y_2) ?_))))
 obtain ⟨r_5,hr_6,hF⟩:=bind_some hF
 refine aD (lU hr_6) rfl Kq rfl rfl rfl rfl wz (aa (vB r_5) (ah (ak (ai (aa (vB r_3) (ah ?_))))))
 rcases aj hF with⟨hc_7,hF⟩|⟨hc_7,hF⟩
 ·refine aB rfl hc_7 (ak (ai (aa (vB r_5) (ah ?_))))
  rcases aj hF with⟨hc_8,hF⟩|⟨hc_8,hF⟩
  ·refine aB rfl hc_8 (ai (aa (vI 0) (ah ?_)))
   obtain rfl:=ae hF
   exact ay (aJ [(vI 0)] ⟨rfl,trivial⟩)
  ·refine aA rfl hc_8 (ax (ai (aa (vI (-1)) (ah ?_))))
   obtain rfl:=ae hF
   exact ay (aJ [(vI (-1))] ⟨rfl,trivial⟩)
 ·refine aA rfl hc_7 (ax (ak (ai (aa (vB r_5) (ah ?_)))))
  rcases aj hF with⟨hc_9,hF⟩|⟨hc_9,hF⟩
  ·refine aB rfl hc_9 (ai (aa (vI 1) (ah ?_)))
   obtain rfl:=ae hF
   exact ay (aJ [(vI 1)] ⟨rfl,trivial⟩)
  ·refine aA rfl hc_9 (ax (ak (ai (aa (vI x_1) (aa (vI y_2) (aa (vB (decide (x_1<y_2))) (ah ?_)))))))
   rcases aj hF with⟨hc_10,hF⟩|⟨hc_10,hF⟩
   ·refine aB rfl hc_10 (ai (aa (vI (-1)) (ah ?_)))
    obtain rfl:=ae hF
    exact ay (aJ [(vI (-1))] ⟨rfl,trivial⟩)
   ·refine aA rfl hc_10 (ax (ak (ai (aa (vI x_1) (aa (vI y_2) (aa (vB (decide (x_1>y_2))) (ah ?_)))))))
    rcases aj hF with⟨hc_11,hF⟩|⟨hc_11,hF⟩
    ·refine aB rfl hc_11 (ai (aa (vI 1) (ah ?_)))
     obtain rfl:=ae hF
     exact ay (aJ [(vI 1)] ⟨rfl,trivial⟩)
    ·refine aA rfl hc_11 (ax (ai (aa (vI 0) (ah ?_))))
     obtain rfl:=ae hF
     exact ay (aJ [(vI 0)] ⟨rfl,trivial⟩)
theorem xQ {vals_1:(List Int)} {r:Int} (hF:vk vals_1=some r) :
  FnM Tryz.prog 100 [(vL eI vals_1)] [] (vI r) []:=by
 refine FnM.of_wH ⟨Tryz.prog,18,[],[]⟩ rfl Tryz.func100 rfl rfl (lb_ rfl) (by kernel_rfl) ?_
 unfold vk at hF
 refine ai (aa (vI 0) (ah (ai (aa (vI 0) (ah (ak (ai (aa (vL eI vals_1) (bW ul rfl wz (aa (vI 0) (ah ?_)))))))))))
 obtain ⟨o_10,hj_11,hF⟩:=bind_some hF
 obtain ⟨hn_6,hj_11⟩:=bv hj_11
 refine di (λ(s_7:Unit)=>[(3,(vI 0))]) (λ(s_7:Unit)=>[]) (λ(k_2:Nat)=>(λ(s_7:Unit)=>[(3,(vI 0)),(6,(vL eI vals_1)),(7,(vI (vals_1.length:Int))),(8,(vI (k_2:Int)))])) (λk x s=>tq k x s) o_10 vals_1 () hj_11 rfl (aK rfl) ?_ ?_
 ·rintro ⟨k_2,l_3,s_7⟩ ⟨hL_9,hD_5⟩
  dsimp only at hL_9 hD_5
  cases l_3 with
  | nil =>
   obtain rfl:=ae hL_9
   refine ai (aa (vB (decide ((k_2:Int)<(vals_1.length:Int)))) (ah ?_))
   refine ak (aA rfl (drop_nil hD_5) (aX ?_))
   exact aU (s_7) rfl rfl (aK rfl)
  | cons x_4 l_3 =>
   obtain ⟨c_,hc_8,hL_9⟩:=bind_some hL_9
   refine ai (aa (vB (decide ((k_2:Int)<(vals_1.length:Int)))) (ah ?_))
   refine ak (aB rfl (bD hD_5) (ax ?_))
   unfold tq at hc_8
   refine ak (aN (ai (dR ik rfl rfl (bR hD_5) rfl wz (bQ sz3 ag3 rfl (vI x_4) rfl wz (aa (vI x_4) (ah (ai (aa (vI x_4) (aa (vI 0) (aa (vB (x_4 != 0)) (ah ?_)))))))))))
   rcases aj hc_8 with⟨hc_12,hc_8⟩|⟨hc_12,hc_8⟩
   ·refine aB rfl hc_12 (ai (aa (vI x_4) (aa (vI x_4) (ah ?_))))
    obtain rfl:=ae hc_8
    obtain rfl:=ae hL_9
    obtain rfl:=ae hF
    exact ay (aJ [(vI x_4)] ⟨rfl,trivial⟩)
   ·refine aA rfl hc_12 (ax (au (eY (bH hD_5 hn_6) wz rfl (aa (vI ((k_2+1:Nat):Int)) (ah ?_)))))
    obtain rfl:=ae hc_8
    exact aY (k_2+1,l_3,()) ⟨hL_9,aZ hD_5⟩ (ls_ _) rfl (aK rfl)
 ·rintro s_7 ho_ sl_ H_ hp_ hq_
  subst ho_
  refine aO _ hp_ hq_ (ai (aa (vI 0) (aa (vI 0) (ah ?_))))
  obtain rfl:=ae hF
  exact ay (aJ [(vI 0)] ⟨rfl,trivial⟩)
theorem vU {a_1:Beat} {b_2:Beat} {r:Int} (hF:ku a_1 b_2=some r) :
  FnM Tryz.prog 82 [(.d (.agg (Beat.enc a_1))),(.d (.agg (Beat.enc b_2)))] [] (vI r) []:=by
 refine FnM.of_wH ⟨Tryz.prog,17,[],[]⟩ rfl Tryz.func82 rfl rfl (lb_ rfl) (by kernel_rfl) ?_
 unfold ku at hF
 refine ai (gQ 0 (.inl rfl) (Beat.v a_1) rfl rfl wz (λn_3=>gQ 0 (.inl rfl) (Beat.v b_2) rfl rfl wz (λn_4=>aa (vI 0) (ah (ak (bC (aG zQ rfl 0 rfl wz (aF 1 0 (.inr (by kernel_rfl)) (λ_ _ ag=>trivial) sz9 ag9 rfl rfl (vS a_1.Player) rfl wz (aG zQ rfl 0 rfl wz (aF 3 1 (.inr (by kernel_rfl)) (λ_ _ ag=>⟨.inl ⟨rfl,rfl⟩,trivial⟩) sz9 ag9 rfl rfl (vS b_2.Player) rfl wz ?_))))))))))
 obtain ⟨r_5,hr_6,hF⟩:=bind_some hF
 refine aD (qU hr_6) rfl hb101 rfl rfl rfl rfl wz (aG Dx rfl 1 rfl wz (aF 6 0 (.inr (by kernel_rfl)) (λ_ _ ag=>⟨.inl ⟨rfl,rfl⟩,⟨.inl ⟨rfl,rfl⟩,trivial⟩⟩) sz3 ag3 rfl rfl (vI a_1.At) rfl wz (aG Dx rfl 1 rfl wz (aF 8 1 (.inr (by kernel_rfl)) (λ_ _ ag=>⟨.inl ⟨rfl,rfl⟩,⟨.inl ⟨rfl,rfl⟩,⟨.inl ⟨rfl,rfl⟩,trivial⟩⟩⟩) sz3 ag3 rfl rfl (vI b_2.At) rfl wz ?_))))
 obtain ⟨r_7,hr_8,hF⟩:=bind_some hF
 refine aD (qY hr_8) rfl hb102 rfl rfl rfl rfl wz (eZ (([r_5,r_7]:List Int).map eI) ik AA rfl rfl rfl rfl rfl wz ?_)
 obtain ⟨r_9,hr_10,hF⟩:=bind_some hF
 refine aD (xQ hr_10) rfl hb100 rfl rfl rfl rfl wz (aa (vI r_9) (ah ?_))
 obtain rfl:=ae hF
 exact ay (aJ [(vI r_9)] ⟨rfl,trivial⟩)
theorem xO {l_1:(List Beat)} {r:Int} (hF:jM l_1=some r) :
  FnM Tryz.prog 66 [(vL Beat.enc l_1)] [] (vI r) []:=by
 refine FnM.of_wH ⟨Tryz.prog,69,[],[]⟩ rfl Tryz.func66 rfl rfl (lb_ rfl) (by kernel_rfl) ?_
 unfold jM at hF
 refine ai (aa (vI 0) (ah (ak (ai (aa (vL Beat.enc l_1) (bW un71 rfl wz (aa (vB (decide ((l_1.length:Int)>500))) (ah ?_))))))))
 rcases aj hF with⟨hc_2,hF⟩|⟨hc_2,hF⟩
 ·refine aB rfl hc_2 (ai (aa (vI 2) (ah ?_)))
  obtain rfl:=ae hF
  exact ay (aJ [(vI 2)] ⟨rfl,trivial⟩)
 ·refine aA rfl hc_2 (ax (ak (ai (aa (vL Beat.enc l_1) (bW un71 rfl wz (aa (vI 0) (ah ?_)))))))
  obtain ⟨o_11,hj_12,hF⟩:=bind_some hF
  obtain ⟨hn_7,hj_12⟩:=bv hj_12
  refine di (λ(s_8:Unit)=>[]) (λ(s_8:Unit)=>[]) (λ(k_3:Nat)=>(λ(s_8:Unit)=>[(0,(vL Beat.enc l_1)),(8,(vL Beat.enc l_1)),(9,(vI (l_1.length:Int))),(10,(vI (k_3:Int)))])) (λk x s=>ig l_1 k x s) o_11 l_1 () hj_12 rfl (aK rfl) ?_ ?_
  ·rintro ⟨k_3,l_4,s_8⟩ ⟨hL_10,hD_6⟩
   dsimp only at hL_10 hD_6
   cases l_4 with
   | nil =>
    obtain rfl:=ae hL_10
    refine ai (aa (vB (decide ((k_3:Int)<(l_1.length:Int)))) (ah ?_))
    refine ak (aA rfl (drop_nil hD_6) (aX ?_))
    exact aU (s_8) rfl rfl (aK rfl)
   | cons x_5 l_4 =>
    obtain ⟨c_,hc_9,hL_10⟩:=bind_some hL_10
    refine ai (aa (vB (decide ((k_3:Int)<(l_1.length:Int)))) (ah ?_))
    refine ak (aB rfl (bD hD_6) (ax ?_))
    unfold ig at hc_9
    refine ak (aN (ai (aa (vI (k_3:Int)) (dR LH rfl rfl (bR hD_6) rfl wz (bQ LU ag70 rfl (.d (.agg (Beat.enc x_5))) rfl wz (dI 0 (.inl rfl) z70 rfl wz (λn_13=>aa (vI (k_3:Int)) (fP 0 il ft 0 LU rfl rfl (Beat.v x_5) rfl wz (ah (aN (ai (aG zQ rfl 0 rfl wz (aF 0 0 il ft sz9 ag9 rfl rfl (vS x_5.Player) rfl wz ?_)))))))))))))
    obtain ⟨r_14,hr_15,hc_9⟩:=bind_some hc_9
    refine aD (fw hr_15) rfl BI rfl rfl rfl rfl wz (aa (vB (!r_14)) (aa (vB (!r_14)) (ah ?_)))
    rcases aj hc_9 with⟨hc_16,hc_9⟩|⟨hc_16,hc_9⟩
    ·refine aB rfl hc_16 (ai (aa (vI 5) (ah ?_)))
     obtain rfl:=ae hc_9
     obtain rfl:=ae hL_10
     obtain rfl:=ae hF
     exact ay (aJ [(vI 5)] ⟨rfl,trivial⟩)
    ·refine aA rfl hc_16 (ak ?_)
     obtain ⟨v_17,h_18,hc_9⟩:=bind_some hc_9
     refine aP [(0,(vL Beat.enc l_1)),(3,(vI (k_3:Int))),(4,(.ref n_13 0 0)),(8,(vL Beat.enc l_1)),(9,(vI (l_1.length:Int))),(10,(vI (k_3:Int))),(20,(vB v_17))] [(n_13,some (.cells 3 (Beat.v x_5)))] ?_ ?_
     ·refine au (aG Dx rfl 1 rfl wz (aF 0 0 il ft sz3 ag3 rfl rfl (vI x_5.At) rfl wz ?_))
      obtain ⟨r_19,hr_20,h_18⟩:=bind_some h_18
      refine aD (gY hr_20) rfl Jw rfl rfl rfl rfl wz (aa (vB (!r_19)) ?_)
      rcases aj h_18 with⟨hc_21,h_18⟩|⟨hc_21,h_18⟩
      ·refine aC rfl hc_21 wz (af (af (af (aa (vB true) (aa (vB true) (ah ?_))))))
       obtain rfl:=ae h_18
       exact cu
      ·refine aC rfl hc_21 wz (aG D8 rfl 2 rfl wa (aF 0 0 il ft sz3 ag3 rfl rfl (vI x_5.Clock) rfl wa ?_))
       obtain ⟨r_22,hr_23,h_18⟩:=bind_some h_18
       refine aD (bu hr_23) rfl qG rfl rfl rfl rfl wa (aa (vB r_22) (aa (vB r_22) (ah ?_)))
       obtain rfl:=ae h_18
       exact cu
     ·rintro ⟨⟩ _ sl_ H_ hp_ hq_
      refine aO _ hp_ hq_ ?_
      rcases aj hc_9 with⟨hc_24,hc_9⟩|⟨hc_24,hc_9⟩
      ·refine aB rfl hc_24 (ai (aa (vI 1) (ah ?_)))
       obtain rfl:=ae hc_9
       obtain rfl:=ae hL_10
       obtain rfl:=ae hF
       exact ay (aJ [(vI 1)] ⟨rfl,trivial⟩)
      ·refine aA rfl hc_24 (ak ?_)
       obtain ⟨v_25,h_26,hc_9⟩:=bind_some hc_9
       refine aP [(0,(vL Beat.enc l_1)),(3,(vI (k_3:Int))),(4,(.ref n_13 0 0)),(8,(vL Beat.enc l_1)),(9,(vI (l_1.length:Int))),(10,(vI (k_3:Int))),(30,(vB v_25))] [(n_13,some (.cells 3 (Beat.v x_5)))] ?_ ?_
       ·refine bC (aa (vI (k_3:Int)) (aa (vB (decide ((k_3:Int)>0))) ?_))
        rcases aj h_26 with⟨hc_27,h_26⟩|⟨hc_27,h_26⟩
        ·refine aC rfl hc_27 wz (aH (vL Beat.enc l_1) wa rfl (aH (vI (k_3:Int)) wa rfl (aH (vI (w64 ((k_3:Int)-1))) wa rfl ?_)))
         obtain ⟨y_28,hy_29,h_26⟩:=bind_some h_26
         refine dR LH rfl rfl hy_29 rfl wa (bQ LU ag70 rfl (.d (.agg (Beat.enc y_28))) rfl wa (aF 8 0 (.inr (by kernel_rfl)) (λ_ _ ag=>trivial) LU ag70 rfl rfl (.d (.agg (Beat.enc x_5))) rfl wa ?_))
         obtain ⟨r_30,hr_31,h_26⟩:=bind_some h_26
         refine aD (vU hr_31) rfl hb82 rfl rfl rfl rfl wa (aH (vB (decide (r_30>=0))) wa rfl (aa (vB (decide (r_30>=0))) (aa (vB (decide (r_30>=0))) (ah ?_))))
         obtain rfl:=ae h_26
         exact cu
        ·refine aC rfl hc_27 wz (af (af (af (af (af (af (af (af (aa (vB false) (aa (vB false) (ah ?_)))))))))))
         obtain rfl:=ae h_26
         exact cu
       ·rintro ⟨⟩ _ sl_ H_ hp_ hq_
        refine aO _ hp_ hq_ ?_
        rcases aj hc_9 with⟨hc_32,hc_9⟩|⟨hc_32,hc_9⟩
        ·refine aB rfl hc_32 (ai (aa (vI 7) (ah ?_)))
         obtain rfl:=ae hc_9
         obtain rfl:=ae hL_10
         obtain rfl:=ae hF
         exact ay (aJ [(vI 7)] ⟨rfl,trivial⟩)
        ·refine aA rfl hc_32 (ak ?_)
         obtain ⟨v_33,h_34,hc_9⟩:=bind_some hc_9
         refine aP [(0,(vL Beat.enc l_1)),(8,(vL Beat.enc l_1)),(9,(vI (l_1.length:Int))),(10,(vI (k_3:Int))),(43,(vB v_33))] [(n_13,some (.cells 3 (Beat.v x_5)))] ?_ ?_
         ·refine bC (aa (vI (k_3:Int)) (aa (vB (decide ((k_3:Int)>0))) ?_))
          rcases aj h_34 with⟨hc_35,h_34⟩|⟨hc_35,h_34⟩
          ·refine aC rfl hc_35 wz (aG zQ rfl 0 rfl wa (aF 4 0 (.inr (by kernel_rfl)) (λ_ _ ag=>trivial) sz9 ag9 rfl rfl (vS x_5.Player) rfl wa (aH (vL Beat.enc l_1) wa rfl (aH (vI (k_3:Int)) wa rfl (aH (vI (w64 ((k_3:Int)-1))) wa rfl ?_)))))
           obtain ⟨y_36,hy_37,h_34⟩:=bind_some h_34
           refine dR LH rfl rfl hy_37 rfl wa (qo zQ rfl [.str y_36.Player,.int .i64 y_36.At,.int .i64 y_36.Clock] rfl rfl wa (bQ sz9 ag9 rfl (vS y_36.Player) rfl wa (aH (vB (sEq x_5.Player y_36.Player)) wa rfl (aa (vB (sEq x_5.Player y_36.Player)) ?_))))
           rcases aj h_34 with⟨hc_38,h_34⟩|⟨hc_38,h_34⟩
           ·refine aC rfl hc_38 wz (aG D8 rfl 2 rfl wa (aF 15 0 (.inr (by kernel_rfl)) (λ_ _ ag=>⟨.inl ⟨rfl,rfl⟩,trivial⟩) sz3 ag3 rfl rfl (vI x_5.Clock) rfl wa (aH (vL Beat.enc l_1) wa rfl (aH (vI (k_3:Int)) wa rfl (aH (vI (w64 ((k_3:Int)-1))) wa rfl ?_)))))
            obtain ⟨y_39,hy_40,h_34⟩:=bind_some h_34
            refine dR LH rfl rfl hy_40 rfl wa (qo D8 rfl [.int .i64 y_39.Clock] rfl rfl wa (bQ sz3 ag3 rfl (vI y_39.Clock) rfl wa (aH (vB (decide (x_5.Clock<=y_39.Clock))) wa rfl (aa (vB (decide (x_5.Clock<=y_39.Clock))) (aa (vB (decide (x_5.Clock<=y_39.Clock))) (ah ?_))))))
            obtain rfl:=ae h_34
            exact cu
           ·refine aC rfl hc_38 wz (af (af (af (af (af (af (af (af (af (aa (vB false) (aa (vB false) (ah ?_))))))))))))
            obtain rfl:=ae h_34
            exact cu
          ·refine aC rfl hc_35 wz (af (af (af (af (af (af (af (af (af (aa (vB false) (aa (vB false) (af (af (af (af (af (af (af (af (af (aa (vB false) (aa (vB false) (ah ?_)))))))))))))))))))))))
           obtain rfl:=ae h_34
           exact cu
         ·rintro ⟨⟩ _ sl_ H_ hp_ hq_
          refine aO _ hp_ hq_ ?_
          rcases aj hc_9 with⟨hc_41,hc_9⟩|⟨hc_41,hc_9⟩
          ·refine aB rfl hc_41 (ai (aa (vI 16) (ah ?_)))
           obtain rfl:=ae hc_9
           obtain rfl:=ae hL_10
           obtain rfl:=ae hF
           exact ay (aJ [(vI 16)] ⟨rfl,trivial⟩)
          ·refine aA rfl hc_41 (ax (au (eY (bH hD_6 hn_7) wz rfl (aa (vI ((k_3+1:Nat):Int)) (ah ?_)))))
           obtain rfl:=ae hc_9
           exact aY (k_3+1,l_4,()) ⟨hL_10,aZ hD_6⟩ (ls_ _) rfl (aK rfl)
  ·rintro s_8 ho_ sl_ H_ hp_ hq_
   subst ho_
   refine aO _ hp_ hq_ (ai (aa (vI 0) (ah ?_)))
   obtain rfl:=ae hF
   exact ay (aJ [(vI 0)] ⟨rfl,trivial⟩)
theorem zL {l_1:(List Beat)} {player_2:ByteArray} {back_3:Bool} {r:(List Beat_)} (hF:oL l_1 player_2 back_3=some r) :
  FnM Tryz.prog 68 [(vL Beat.enc l_1),(vS player_2),(vB back_3)] [] (vL Beat_.enc r) []:=by
 refine FnM.of_wH ⟨Tryz.prog,41,[],[]⟩ rfl Tryz.func68 rfl rfl (lb_ rfl) (by kernel_rfl) ?_
 unfold oL at hF
 refine ai (aa .nil (ah (ai (aa .nil (ah (ak (ai (aa (vL Beat.enc l_1) (bW un71 rfl wz (aa (vI 0) (ah (ou (λn_10 => ?_)))))))))))))
 obtain ⟨o_15,hj_16,hF⟩:=bind_some hF
 obtain ⟨hn_8,hj_16⟩:=bv hj_16
 refine jk (σ:=(List Beat_)) (N:=Nm) (λp=>(λ(s_9:List Beat_) (n_12:Nm)=>([(7,(gV n_12 2 s_9))]:SL_)) p.1 p.2) (λp=>(λ(s_9:List Beat_) (n_12:Nm)=>([(n_12,gB 2 Beat_.enc s_9)]:Hp)) p.1 p.2) (λ(k_4:Nat)=>(λp=>(λ(s_9:List Beat_) (n_12:Nm)=>([(1,(vS player_2)),(2,(vB back_3)),(7,(gV n_12 2 s_9)),(10,(vL Beat.enc l_1)),(11,(vI (l_1.length:Int))),(12,(vI (k_4:Int)))]:SL_)) p.1 p.2)) (λk x s=>ol player_2 back_3 k x s) o_15 l_1 (([]:List Beat_),n_10) hj_16 rfl (aK rfl) ?_ ?_
 ·rintro ⟨k_4,l_5,s_9,n_12⟩ ⟨hL_14,hD_7⟩
  dsimp only at hL_14 hD_7
  cases l_5 with
  | nil =>
   obtain rfl:=ae hL_14
   refine ai (aa (vB (decide ((k_4:Int)<(l_1.length:Int)))) (ah ?_))
   refine ak (aA rfl (drop_nil hD_7) (aX ?_))
   exact aU (s_9,n_12) rfl rfl (aK rfl)
  | cons x_6 l_5 =>
   obtain ⟨c_,hc_13,hL_14⟩:=bind_some hL_14
   refine ai (aa (vB (decide ((k_4:Int)<(l_1.length:Int)))) (ah ?_))
   refine ak (aB rfl (bD hD_7) (ax ?_))
   unfold ol at hc_13
   refine ak (aN (ai (dR LH rfl rfl (bR hD_7) rfl wz (bQ LU ag70 rfl (.d (.agg (Beat.enc x_6))) rfl wz (dI 0 (.inl rfl) z70 rfl wz (λn_17=>fP 0 il ft 1 LU rfl rfl (Beat.v x_6) rfl wz (ah (aN (ai (aG zQ rfl 0 rfl wz (aF 0 1 il ft sz9 ag9 rfl rfl (vS x_6.Player) rfl wz (aa (vS player_2) (aa (vB (sNe x_6.Player player_2)) (aa (vB (sNe x_6.Player player_2)) (ah ?_)))))))))))))))
   obtain ⟨v_18,h_19,hc_13⟩:=bind_some hc_13
   refine j4 (β:=Nm) (λ(n_20:Nm)=>([(1,(vS player_2)),(2,(vB back_3)),(7,(gV n_20 2 v_18)),(10,(vL Beat.enc l_1)),(11,(vI (l_1.length:Int))),(12,(vI (k_4:Int)))]:SL_)) (λ(n_20:Nm)=>([(n_20,gB 2 Beat_.enc v_18),(n_17,some (.cells 3 (Beat.v x_6)))]:Hp)) (λ_=>True) ?_ ?_
   ·rcases aj h_19 with⟨hc_21,h_19⟩|⟨hc_21,h_19⟩
    ·refine aB rfl hc_21 (ax ?_)
     obtain rfl:=ae h_19
     exact aU n_12 trivial rfl (aK rfl)
    ·refine aA rfl hc_21 (ai (aa (vB back_3) (aa (vB back_3) (ah ?_))))
     rcases aj h_19 with⟨hc_22,h_19⟩|⟨hc_22,h_19⟩
     ·refine aB rfl hc_22 (au (aa (gV n_12 2 s_9) (aG Dx rfl 1 rfl wz (aF 0 1 il ft sz3 ag3 rfl rfl (vI x_6.At) rfl wz (aG D8 rfl 2 rfl wz (aF 0 1 il ft sz3 ag3 rfl rfl (vI x_6.Clock) rfl wz (aH (.d (.agg (Beat_.enc (⟨x_6.At,x_6.Clock⟩:Beat_)))) wz (by kernel_rfl) (eZ (([(⟨x_6.At,x_6.Clock⟩:Beat_)]:List Beat_).map Beat_.enc) yR ez126 rfl rfl rfl rfl rfl wz ?_))))))))
      obtain ⟨a_23,hz_24,h_19⟩:=bind_some h_19
      refine kY 0 il ft (i:=0) Kk Kk EG z142 rfl (by decide) by142 (by decide) (λ_=>rfl) rfl rfl rfl hz_24 wz (λn_25=>aa (gV n_25 2 a_23) (ah ?_))
      obtain rfl:=ae h_19
      exact aU n_25 trivial rfl (aK rfl)
     ·refine aA rfl hc_22 (au (aa (gV n_12 2 s_9) (aG D8 rfl 2 rfl wz (aF 0 1 il ft sz3 ag3 rfl rfl (vI x_6.Clock) rfl wz (aG Dx rfl 1 rfl wz (aF 0 1 il ft sz3 ag3 rfl rfl (vI x_6.At) rfl wz (aH (.d (.agg (Beat_.enc (⟨x_6.Clock,x_6.At⟩:Beat_)))) wz (by kernel_rfl) (eZ (([(⟨x_6.Clock,x_6.At⟩:Beat_)]:List Beat_).map Beat_.enc) yR ez126 rfl rfl rfl rfl rfl wz ?_))))))))
      obtain ⟨a_26,hz_27,h_19⟩:=bind_some h_19
      refine kY 0 il ft (i:=0) Kk Kk EG z142 rfl (by decide) by142 (by decide) (λ_=>rfl) rfl rfl rfl hz_27 wz (λn_28=>aa (gV n_28 2 a_26) (ah ?_))
      obtain rfl:=ae h_19
      exact aU n_28 trivial rfl (aK rfl)
   ·rintro n_20 _ sl_ H_ hp_ hq_
    refine aO _ hp_ hq_ (au (eY (bH hD_7 hn_8) wz rfl (aa (vI ((k_4+1:Nat):Int)) (ah ?_))))
    obtain rfl:=ae hc_13
    exact aY (k_4+1,l_5,v_18,n_20) ⟨hL_14,aZ hD_7⟩ (ls_ _) rfl (aK rfl)
 ·rintro ⟨s_9,n_12⟩ ho_ sl_ H_ hp_ hq_
  subst ho_
  refine aO _ hp_ hq_ (ai (aa (gV n_12 2 s_9) (aa (gV n_12 2 s_9) (ah (jW 0 rfl (gW 6 0 rfl rfl (gW 7 0 rfl rfl (gW 40 0 rfl rfl ?_))))))))
  obtain rfl:=ae hF
  exact ay (aJ [(vL Beat_.enc s_9)] ⟨rfl,trivial⟩)
theorem Bw {l_1:(List Beat_)} {n_2:Int} {r:Int×Int} (hF:nP l_1 n_2=some r) :
  FnM Tryz.prog 67 [(vL Beat_.enc l_1),(vI n_2)] [] (.tup [(vI r.1),(vI r.2)]) []:=by
 refine FnM.of_wH ⟨Tryz.prog,108,[],[]⟩ rfl Tryz.func67 rfl rfl (lb_ rfl) (by kernel_rfl) ?_
 unfold nP at hF
 refine ai (aa (vI 0) (aa (vI 0) (ah (ak (ai (aa (vL Beat_.enc l_1) (bW Oq rfl wz (aa (vB ((l_1.length:Int)==0)) (ah ?_)))))))))
 rcases aj hF with⟨hc_3,hF⟩|⟨hc_3,hF⟩
 ·refine aB rfl hc_3 (ai (aa (vI 0) (aa (vI 8) (ah ?_))))
  obtain rfl:=ae hF
  exact ay (aJ [(vI 0),(vI 8)] ⟨rfl,⟨rfl,trivial⟩⟩)
 ·refine aA rfl hc_3 (ax (ai (aa (vI 0) (ah (ak ?_)))))
  obtain ⟨o_12,hj_13,hF⟩:=bind_some hF
  obtain ⟨nq_51,hj_13⟩:=dz hj_13
  refine fo (λ(s_9:Int)=>[(0,(vL Beat_.enc l_1)),(1,(vI n_2)),(6,(vI s_9))]) (λ(s_9:Int)=>[]) (λ(k_4:Nat)=>(λ(s_9:Int)=>[(0,(vL Beat_.enc l_1)),(1,(vI n_2)),(6,(vI s_9))])) (λs=>mG l_1 n_2 s) o_12 nq_51 0 hj_13 rfl (aK rfl) ?_ ?_
  ·rintro ⟨k_4,s_9⟩ hL_11
   dsimp only at hL_11
   cases k_4 with
   | zero=>cases hL_11
   | succ k_4 =>
    obtain ⟨c_,hc_10,hL_11⟩:=bind_some hL_11
    unfold mG at hc_10
    refine ak (ak ?_)
    obtain ⟨v_14,h_15,hc_10⟩:=bind_some hc_10
    refine aP [(0,(vL Beat_.enc l_1)),(1,(vI n_2)),(6,(vI s_9)),(25,(vB v_14))] [] ?_ ?_
    ·refine au (aa (vI s_9) (aa (vL Beat_.enc l_1) (bW Oq rfl wz (aa (vB (decide (s_9<(l_1.length:Int)))) ?_))))
     rcases aj h_15 with⟨hc_16,h_15⟩|⟨hc_16,h_15⟩
     ·refine aC rfl hc_16 wz (aH (vL Beat_.enc l_1) wa rfl (aH (vI s_9) wa rfl ?_))
      obtain ⟨y_17,hy_18,h_15⟩:=bind_some h_15
      refine dR yR rfl rfl hy_18 rfl wa (qo rZ rfl [.int .i64 y_17.f_from,.int .i64 y_17.f_to] rfl rfl wa (bQ sz3 ag3 rfl (vI y_17.f_from) rfl wa (aH (vI n_2) wa rfl (aH (vB (decide (y_17.f_from<=n_2))) wa rfl (aa (vB (decide (y_17.f_from<=n_2))) (ah ?_))))))
      obtain rfl:=ae h_15
      exact cu
     ·refine aC rfl hc_16 wz (af (af (af (af (af (af (af (aa (vB false) (ah ?_)))))))))
      obtain rfl:=ae h_15
      exact cu
    ·rintro ⟨⟩ _ sl_ H_ hp_ hq_
     refine aO _ hp_ hq_ ?_
     rcases aj hc_10 with⟨hc_19,hc_10⟩|⟨hc_19,hc_10⟩
     ·refine aB rfl hc_19 (ax (aN (au (aa (vI s_9) (aa (vI (w64 (s_9+1))) (aa (vI (w64 (s_9+1))) (ah ?_)))))))
      obtain rfl:=ae hc_10
      exact aY (k_4,(w64 (s_9+1))) hL_11 (ls_ _) rfl (aK rfl)
     ·refine aA rfl hc_19 (aX ?_)
      obtain rfl:=ae hc_10
      obtain rfl:=ae hL_11
      exact aU (s_9) rfl rfl (aK rfl)
  ·rintro s_9 ho_ sl_ H_ hp_ hq_
   subst ho_
   refine aO _ hp_ hq_ (ai (aa (vI 0) (ah (ak (aN (ai (aa (vI s_9) (aa (vB (s_9==0)) (aa (vB (s_9==0)) (ah ?_))))))))))
   rcases aj hF with⟨hc_20,hF⟩|⟨hc_20,hF⟩
   ·refine aB rfl hc_20 (bC (aa (vL Beat_.enc l_1) ?_))
    obtain ⟨y_21,hy_22,hF⟩:=bind_some hF
    refine dR yR rfl rfl hy_22 rfl wz (qo uR rfl [.int .i64 y_21.f_to] rfl rfl wz (bQ sz3 ag3 rfl (vI y_21.f_to) rfl wz (aa (vL Beat_.enc l_1) ?_)))
    obtain ⟨y_23,hy_24,hF⟩:=bind_some hF
    refine dR yR rfl rfl hy_24 rfl wz (qo rZ rfl [.int .i64 y_23.f_from,.int .i64 y_23.f_to] rfl rfl wz (bQ sz3 ag3 rfl (vI y_23.f_from) rfl wz (aa (vI n_2) (aa (vI (w64 (y_23.f_from-n_2))) (aa (vI (w64 (y_21.f_to-(w64 (y_23.f_from-n_2))))) (aa (vI (w64 (y_21.f_to-(w64 (y_23.f_from-n_2))))) (ah (ak (ai (aa (vI (w64 (y_21.f_to-(w64 (y_23.f_from-n_2))))) ?_))))))))))
    obtain ⟨r_25,hr_26,hF⟩:=bind_some hF
    refine aD (gY hr_26) rfl Jw rfl rfl rfl rfl wz (aa (vB (!r_25)) (ah ?_))
    rcases aj hF with⟨hc_27,hF⟩|⟨hc_27,hF⟩
    ·refine aB rfl hc_27 (ai (aa (vI 0) (aa (vI 11) (ah ?_))))
     obtain rfl:=ae hF
     exact ay (aJ [(vI 0),(vI 11)] ⟨rfl,⟨rfl,trivial⟩⟩)
    ·refine aA rfl hc_27 (ax (ai (aa (vI (w64 (y_21.f_to-(w64 (y_23.f_from-n_2))))) (aa (vI (w64 (y_21.f_to-(w64 (y_23.f_from-n_2))))) (aa (vI 0) (ah ?_))))))
     obtain rfl:=ae hF
     exact ay (aJ [(vI (w64 (y_21.f_to-(w64 (y_23.f_from-n_2))))),(vI 0)] ⟨rfl,⟨rfl,trivial⟩⟩)
   ·refine aA rfl hc_20 (ai (aa (vI s_9) (aa (vL Beat_.enc l_1) (bW Oq rfl wz (aa (vB (s_9==(l_1.length:Int))) (aa (vB (s_9==(l_1.length:Int))) (ah ?_)))))))
    rcases aj hF with⟨hc_28,hF⟩|⟨hc_28,hF⟩
    ·refine aB rfl hc_28 (bC (aa (vL Beat_.enc l_1) (aa (vI s_9) (aa (vI (w64 (s_9-1))) ?_))))
     obtain ⟨y_29,hy_30,hF⟩:=bind_some hF
     refine dR yR rfl rfl hy_30 rfl wz (qo uR rfl [.int .i64 y_29.f_to] rfl rfl wz (bQ sz3 ag3 rfl (vI y_29.f_to) rfl wz (aa (vI n_2) (aa (vI (w64 (y_29.f_to+n_2))) (aa (vL Beat_.enc l_1) (aa (vI s_9) (aa (vI (w64 (s_9-1))) ?_)))))))
     obtain ⟨y_31,hy_32,hF⟩:=bind_some hF
     refine dR yR rfl rfl hy_32 rfl wz (qo rZ rfl [.int .i64 y_31.f_from,.int .i64 y_31.f_to] rfl rfl wz (bQ sz3 ag3 rfl (vI y_31.f_from) rfl wz (aa (vI (w64 ((w64 (y_29.f_to+n_2))-y_31.f_from))) (aa (vI (w64 ((w64 (y_29.f_to+n_2))-y_31.f_from))) (ah (ak (ai (aa (vI (w64 ((w64 (y_29.f_to+n_2))-y_31.f_from))) ?_))))))))
     obtain ⟨r_33,hr_34,hF⟩:=bind_some hF
     refine aD (gY hr_34) rfl Jw rfl rfl rfl rfl wz (aa (vB (!r_33)) (ah ?_))
     rcases aj hF with⟨hc_35,hF⟩|⟨hc_35,hF⟩
     ·refine aB rfl hc_35 (ai (aa (vI 0) (aa (vI 11) (ah (aO (H0:=([]:Hp)) ([(4,(vI 0)),(5,(vI 11))]:SL_) (by kernel_rfl) (sW (by kernel_rfl)) ?_)))))
      obtain rfl:=ae hF
      exact ay (aJ [(vI 0),(vI 11)] ⟨rfl,⟨rfl,trivial⟩⟩)
     ·refine aA rfl hc_35 (ax (ai (aa (vI (w64 ((w64 (y_29.f_to+n_2))-y_31.f_from))) (aa (vI (w64 ((w64 (y_29.f_to+n_2))-y_31.f_from))) (aa (vI 0) (ah (aO (H0:=([]:Hp)) ([(4,(vI (w64 ((w64 (y_29.f_to+n_2))-y_31.f_from)))),(5,(vI 0))]:SL_) (by kernel_rfl) (sW (by kernel_rfl)) ?_)))))))
      obtain rfl:=ae hF
      exact ay (aJ [(vI (w64 ((w64 (y_29.f_to+n_2))-y_31.f_from))),(vI 0)] ⟨rfl,⟨rfl,trivial⟩⟩)
    ·refine aA rfl hc_28 (ak (bC (aa (vL Beat_.enc l_1) (aa (vI s_9) (aa (vI (w64 (s_9-1))) ?_)))))
     obtain ⟨y_36,hy_37,hF⟩:=bind_some hF
     refine dR yR rfl rfl hy_37 rfl wz (bQ EG ag142 rfl (.d (.agg (Beat_.enc y_36))) rfl wz (aa (vL Beat_.enc l_1) (aa (vI s_9) ?_)))
     obtain ⟨y_38,hy_39,hF⟩:=bind_some hF
     refine dR yR rfl rfl hy_39 rfl wz (bQ EG ag142 rfl (.d (.agg (Beat_.enc y_38))) rfl wz (dI 9 (.inr (by kernel_rfl)) z142 rfl wz (λn_40=>dI 10 (.inr (by kernel_rfl)) z142 rfl wz (λn_41=>fP 11 (.inr (by kernel_rfl)) (λ_ _ ag=>⟨.inr (.inr (by kernel_rfl)),⟨.inr (.inr (by kernel_rfl)),trivial⟩⟩) 0 EG rfl rfl [(vI y_36.f_from),(vI y_36.f_to)] rfl wz (fP 12 (.inr (by kernel_rfl)) (λ_ _ ag=>⟨.inr (.inr (by kernel_rfl)),⟨.inr (.inr (by kernel_rfl)),⟨.inr (.inr (by kernel_rfl)),trivial⟩⟩⟩) 1 EG rfl rfl [(vI y_38.f_from),(vI y_38.f_to)] rfl wz (ah (ak (ak ?_))))))))
     obtain ⟨v_42,h_43,hF⟩:=bind_some hF
     refine aP [(1,(vI n_2)),(8,(.ref n_40 0 0)),(9,(.ref n_41 0 0)),(50,(vB v_42))] [(n_40,some (.cells 2 [(vI y_36.f_from),(vI y_36.f_to)])),(n_41,some (.cells 2 [(vI y_38.f_from),(vI y_38.f_to)]))] ?_ ?_
     ·refine au (aG rZ rfl 0 rfl wz (aF 0 1 il ft sz3 ag3 rfl rfl (vI y_38.f_from) rfl wz (aG rZ rfl 0 rfl wz (aF 0 0 il ft sz3 ag3 rfl rfl (vI y_36.f_from) rfl wz (aa (vI (w64 (y_38.f_from-y_36.f_from))) (aa (vB (decide ((w64 (y_38.f_from-y_36.f_from))>2592000000))) ?_))))))
      rcases aj h_43 with⟨hc_44,h_43⟩|⟨hc_44,h_43⟩
      ·refine aC rfl hc_44 wz (af (af (af (af (af (af (aa (vB true) (ah ?_))))))))
       obtain rfl:=ae h_43
       exact cu
      ·refine aC rfl hc_44 wz (aG uR rfl 1 rfl wa (aF 0 1 il ft sz3 ag3 rfl rfl (vI y_38.f_to) rfl wa (aG uR rfl 1 rfl wa (aF 0 0 il ft sz3 ag3 rfl rfl (vI y_36.f_to) rfl wa (aH (vI (w64 (y_38.f_to-y_36.f_to))) wa rfl (aH (vB (decide ((w64 (y_38.f_to-y_36.f_to))>2592000000))) wa rfl (aa (vB (decide ((w64 (y_38.f_to-y_36.f_to))>2592000000))) (ah ?_))))))))
       obtain rfl:=ae h_43
       exact cu
     ·rintro ⟨⟩ _ sl_ H_ hp_ hq_
      refine aO _ hp_ hq_ ?_
      rcases aj hF with⟨hc_45,hF⟩|⟨hc_45,hF⟩
      ·refine aB rfl hc_45 (ai (aa (vI 0) (aa (vI 2) (ah ?_))))
       obtain rfl:=ae hF
       exact ay (aJ [(vI 0),(vI 2)] ⟨rfl,⟨rfl,trivial⟩⟩)
      ·refine aA rfl hc_45 (ax (bC (aG uR rfl 1 rfl wz (aF 1 0 (.inr (by kernel_rfl)) (λ_ _ ag=>trivial) sz3 ag3 rfl rfl (vI y_36.f_to) rfl wz (aa (vI n_2) (aG rZ rfl 0 rfl wz (aF 4 0 (.inr (by kernel_rfl)) (λ_ _ ag=>⟨.inl ⟨rfl,rfl⟩,trivial⟩) sz3 ag3 rfl rfl (vI y_36.f_from) rfl wz (aa (vI (w64 (n_2-y_36.f_from))) (aG uR rfl 1 rfl wz (aF 7 1 (.inr (by kernel_rfl)) (λ_ _ ag=>⟨.inl ⟨rfl,rfl⟩,⟨.inl ⟨rfl,rfl⟩,trivial⟩⟩) sz3 ag3 rfl rfl (vI y_38.f_to) rfl wz (aG uR rfl 1 rfl wz (aF 9 0 (.inr (by kernel_rfl)) (λ_ _ ag=>⟨.inl ⟨rfl,rfl⟩,⟨.inl ⟨rfl,rfl⟩,⟨.inl ⟨rfl,rfl⟩,trivial⟩⟩⟩) sz3 ag3 rfl rfl (vI y_36.f_to) rfl wz (aa (vI (w64 (y_38.f_to-y_36.f_to))) (aa (vI (w64 ((w64 (n_2-y_36.f_from))*(w64 (y_38.f_to-y_36.f_to))))) (aG rZ rfl 0 rfl wz (aF 13 1 (.inr (by kernel_rfl)) (λ_ _ ag=>⟨.inl ⟨rfl,rfl⟩,⟨.inl ⟨rfl,rfl⟩,⟨.inl ⟨rfl,rfl⟩,⟨.inl ⟨rfl,rfl⟩,trivial⟩⟩⟩⟩) sz3 ag3 rfl rfl (vI y_38.f_from) rfl wz (aG rZ rfl 0 rfl wz (aF 15 0 (.inr (by kernel_rfl)) (λ_ _ ag=>⟨.inl ⟨rfl,rfl⟩,⟨.inl ⟨rfl,rfl⟩,⟨.inl ⟨rfl,rfl⟩,⟨.inl ⟨rfl,rfl⟩,⟨.inl ⟨rfl,rfl⟩,trivial⟩⟩⟩⟩⟩) sz3 ag3 rfl rfl (vI y_36.f_from) rfl wz (aa (vI (w64 (y_38.f_from-y_36.f_from))) ?_)))))))))))))))))))
       obtain ⟨q_46,hz_47,hF⟩:=bind_some hF
       refine ND rfl rfl hz_47 wz (aa (vI (w64 (y_36.f_to+q_46))) (aa (vI (w64 (y_36.f_to+q_46))) (ah (ak (ai (aa (vI (w64 (y_36.f_to+q_46))) ?_))))))
       obtain ⟨r_48,hr_49,hF⟩:=bind_some hF
       refine aD (gY hr_49) rfl Jw rfl rfl rfl rfl wz (aa (vB (!r_48)) (ah ?_))
       rcases aj hF with⟨hc_50,hF⟩|⟨hc_50,hF⟩
       ·refine aB rfl hc_50 (ai (aa (vI 0) (aa (vI 11) (ah ?_))))
        obtain rfl:=ae hF
        exact ay (aJ [(vI 0),(vI 11)] ⟨rfl,⟨rfl,trivial⟩⟩)
       ·refine aA rfl hc_50 (ax (ai (aa (vI (w64 (y_36.f_to+q_46))) (aa (vI (w64 (y_36.f_to+q_46))) (aa (vI 0) (ah ?_))))))
        obtain rfl:=ae hF
        exact ay (aJ [(vI (w64 (y_36.f_to+q_46))),(vI 0)] ⟨rfl,⟨rfl,trivial⟩⟩)
theorem Cj {l_1:(List Beat)} {player_2:ByteArray} {n_3:Int} {back_4:Bool} {r:Int×Int} (hF:pz l_1 player_2 n_3 back_4=some r) :
  FnM Tryz.prog 47 [(vL Beat.enc l_1),(vS player_2),(vI n_3),(vB back_4)] [] (.tup [(vI r.1),(vI r.2)]) []:=by
 refine FnM.of_wH ⟨Tryz.prog,30,[],[]⟩ rfl Tryz.func47 rfl rfl (lb_ rfl) (by kernel_rfl) ?_
 unfold pz at hF
 refine ai (aa (vI 0) (aa (vI 0) (ah (ak (ai (aa (vL Beat.enc l_1) ?_))))))
 obtain ⟨r_5,hr_6,hF⟩:=bind_some hF
 refine aD (xO hr_6) rfl hb66 rfl rfl rfl rfl wz (aa (vI r_5) (ah (ai (aa (vI r_5) (aa (vB (r_5 != 0)) (ah ?_))))))
 rcases aj hF with⟨hc_7,hF⟩|⟨hc_7,hF⟩
 ·refine aB rfl hc_7 (ai (aa (vI r_5) (aa (vI 0) (aa (vI r_5) (ah ?_)))))
  obtain rfl:=ae hF
  exact ay (aJ [(vI 0),(vI r_5)] ⟨rfl,⟨rfl,trivial⟩⟩)
 ·refine aA rfl hc_7 (ax (ak (ai (aa (vS player_2) ?_))))
  obtain ⟨r_8,hr_9,hF⟩:=bind_some hF
  refine aD (fw hr_9) rfl BI rfl rfl rfl rfl wz (aa (vB (!r_8)) (ah ?_))
  rcases aj hF with⟨hc_10,hF⟩|⟨hc_10,hF⟩
  ·refine aB rfl hc_10 (ai (aa (vI 0) (aa (vI 5) (ah ?_))))
   obtain rfl:=ae hF
   exact ay (aJ [(vI 0),(vI 5)] ⟨rfl,⟨rfl,trivial⟩⟩)
  ·refine aA rfl hc_10 (ax (ak (ai (aa (vI n_3) ?_))))
   obtain ⟨r_11,hr_12,hF⟩:=bind_some hF
   refine aD (gY hr_12) rfl Jw rfl rfl rfl rfl wz (aa (vB (!r_11)) (ah ?_))
   rcases aj hF with⟨hc_13,hF⟩|⟨hc_13,hF⟩
   ·refine aB rfl hc_13 (ai (aa (vI 0) (aa (vI 1) (ah ?_))))
    obtain rfl:=ae hF
    exact ay (aJ [(vI 0),(vI 1)] ⟨rfl,⟨rfl,trivial⟩⟩)
   ·refine aA rfl hc_13 (ax (ai (aa (vL Beat.enc l_1) (aa (vS player_2) (aa (vB back_4) ?_)))))
    obtain ⟨r_14,hr_15,hF⟩:=bind_some hF
    refine aD (zL hr_15) rfl hb68 rfl rfl rfl rfl wz (aa (vI n_3) ?_)
    obtain ⟨r_16,hr_17,hF⟩:=bind_some hF
    refine aD (Bw hr_17) rfl hb67 rfl rfl rfl rfl wz (aa (vI r_16.1) (aa (vI r_16.2) (aa (vI r_16.1) (aa (vI r_16.2) (ah ?_)))))
    obtain rfl:=ae hF
    exact ay (aJ [(vI r_16.1),(vI r_16.2)] ⟨rfl,⟨rfl,trivial⟩⟩)
theorem BZ {l_1:(List Beat)} {player_2:ByteArray} {clock_3:Int} {r:Int×Int} (hF:pu l_1 player_2 clock_3=some r) :
  FnM Tryz.prog 26 [(vL Beat.enc l_1),(vS player_2),(vI clock_3)] [] (.tup [(vI r.1),(vI r.2)]) []:=by
 refine FnM.of_wH ⟨Tryz.prog,14,[],[]⟩ rfl Tryz.func26 rfl rfl (lb_ rfl) (by kernel_rfl) ?_
 unfold pu at hF
 refine ai (aa (vI 0) (aa (vI 0) (ah (ai (aa (vL Beat.enc l_1) (aa (vS player_2) (aa (vI clock_3) ?_)))))))
 obtain ⟨r_4,hr_5,hF⟩:=bind_some hF
 refine aD (Cj hr_5) rfl hb47 rfl rfl rfl rfl wz (aa (vI r_4.1) (aa (vI r_4.2) (aa (vI r_4.1) (aa (vI r_4.2) (ah ?_)))))
 obtain rfl:=ae hF
 exact ay (aJ [(vI r_4.1),(vI r_4.2)] ⟨rfl,⟨rfl,trivial⟩⟩)
end Go.Proofs.YtekmkepojbhafabGreatDoor.Law

