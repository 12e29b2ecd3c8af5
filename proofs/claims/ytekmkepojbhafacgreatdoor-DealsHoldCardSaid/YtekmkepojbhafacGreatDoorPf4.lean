/-
 The machine computes these plain functions (written by a program of ours).
-/
import Derived.Test.YtekmkepojbhafacGreatDoorFacts
import Derived.Test.YtekmkepojbhafacGreatDoorDefs
import Derived.Test.YtekmkepojbhafacGreatDoorPf3
open Go Go.Eng Go.Proofs
namespace Go.Proofs.YtekmkepojbhafacGreatDoor.Law
set_option maxRecDepth 100000
set_option linter.unusedVariables false
set_option maxHeartbeats 1000000
theorem uw {l_1:(List Entry)} {r:Int} (hF:gz l_1=some r) :
  FnM Tryz.prog 41 [(vL Entry.enc l_1)] [] (vI r) []:=by
 refine FnM.of_wH ⟨Tryz.prog,35,[],[]⟩ rfl Tryz.func41 rfl rfl (lb_ rfl) (by kernel_rfl) ?_
 unfold gz at hF
 refine ai (aa (vI 0) (ah (ak (ai (aa (vL Entry.enc l_1) (bR un100 rfl wz (aa (vB (decide ((l_1.length:Int)>200))) (ah ?_))))))))
 rcases aj hF with⟨hc_2,hF⟩|⟨hc_2,hF⟩
 ·refine aB rfl hc_2 (ai (aa (vI 2) (ah ?_)))
  obtain rfl:=ae hF
  exact ay (aK [(vI 2)] ⟨rfl,trivial⟩)
 ·refine aA rfl hc_2 (av (ak (ai (aa (vL Entry.enc l_1) (bR un100 rfl wz (aa (vI 0) (ah ?_)))))))
  obtain ⟨o_11,hj_12,hF⟩:=bind_some hF
  obtain ⟨hn_7,hj_12⟩:=bf hj_12
  refine cz (λ(s_8:Unit)=>[]) (λ(s_8:Unit)=>[]) (λ(k_3:Nat)=>(λ(s_8:Unit)=>[(0,(vL Entry.enc l_1)),(9,(vL Entry.enc l_1)),(10,(vI (l_1.length:Int))),(11,(vI (k_3:Int)))])) (λk x s=>fA l_1 k x s) o_11 l_1 () hj_12 rfl (aL rfl) ?_ ?_
  ·rintro ⟨k_3,l_4,s_8⟩ ⟨hL_10,hD_6⟩
   dsimp only at hL_10 hD_6
   cases l_4 with
   | nil =>
    obtain rfl:=ae hL_10
    refine ai (aa (vB (decide ((k_3:Int)<(l_1.length:Int)))) (ah ?_))
    refine ak (aA rfl (drop_nil hD_6) (aV ?_))
    exact aS (s_8) rfl rfl (aL rfl)
   | cons x_5 l_4 =>
    obtain ⟨c_,hc_9,hL_10⟩:=bind_some hL_10
    refine ai (aa (vB (decide ((k_3:Int)<(l_1.length:Int)))) (ah ?_))
    refine ak (aB rfl (bv hD_6) (av ?_))
    unfold fA at hc_9
    refine ak (aM (ai (aa (vI (k_3:Int)) (dD PN rfl rfl (bI hD_6) rfl wz (bE Lx NF rfl (.d (.agg (Entry.enc x_5))) rfl wz (dB 0 (.inl rfl) z72 rfl wz (λn_13=>aa (vI (k_3:Int)) (fE 0 il ft 0 Lx rfl rfl (Entry.v x_5) rfl wz (ah (ak (ai (aF 0 0 il ft Lx NF rfl rfl (.d (.agg (Entry.enc x_5))) rfl wz ?_))))))))))))
    obtain ⟨r_14,hr_15,hc_9⟩:=bind_some hc_9
    refine aD (wN hr_15) rfl hb68 rfl rfl rfl rfl wz (aa (vI r_14) (ah (ai (aa (vI r_14) (aa (vB (r_14 != 0)) (ah ?_))))))
    rcases aj hc_9 with⟨hc_16,hc_9⟩|⟨hc_16,hc_9⟩
    ·refine aB rfl hc_16 (ai (aa (vI r_14) (aa (vI r_14) (ah ?_))))
     obtain rfl:=ae hc_9
     obtain rfl:=ae hL_10
     obtain rfl:=ae hF
     exact ay (aK [(vI r_14)] ⟨rfl,trivial⟩)
    ·refine aA rfl hc_16 (av (ak ?_))
     obtain ⟨v_17,h_18,hc_9⟩:=bind_some hc_9
     refine aQ [(0,(vL Entry.enc l_1)),(9,(vL Entry.enc l_1)),(10,(vI (l_1.length:Int))),(11,(vI (k_3:Int))),(33,(vB v_17))] [(n_13,some (.cells 13 (Entry.v x_5)))] ?_ ?_
     ·refine bB (aa (vI (k_3:Int)) (aa (vB (decide ((k_3:Int)>0))) ?_))
      rcases aj h_18 with⟨hc_19,h_18⟩|⟨hc_19,h_18⟩
      ·refine aC rfl hc_19 wz (aH LP rfl 0 rfl wa (aF 4 0 (.inr (by kernel_rfl)) (λ_ _ ag=>trivial) sz9 ag9 rfl rfl (vS x_5.Key) rfl wa (aG (vL Entry.enc l_1) wa rfl (aG (vI (k_3:Int)) wa rfl (aG (vI (w64 ((k_3:Int)-1))) wa rfl ?_)))))
       obtain ⟨y_20,hy_21,h_18⟩:=bind_some h_18
       refine dD PN rfl rfl hy_21 rfl wa (oz LP rfl (Entry.enc y_20) rfl rfl wa (bE sz9 ag9 rfl (vS y_20.Key) rfl wa (aG (vB (sLe x_5.Key y_20.Key)) wa rfl (aa (vB (sLe x_5.Key y_20.Key)) (ah ?_)))))
       obtain rfl:=ae h_18
       exact cu
      ·refine aC rfl hc_19 wz (af (af (af (af (af (af (af (af (af (aa (vB false) (ah ?_)))))))))))
       obtain rfl:=ae h_18
       exact cu
     ·rintro ⟨⟩ _ sl_ H_ hp_ hq_
      refine aO _ hp_ hq_ ?_
      rcases aj hc_9 with⟨hc_22,hc_9⟩|⟨hc_22,hc_9⟩
      ·refine aB rfl hc_22 (ai (aa (vI 7) (ah ?_)))
       obtain rfl:=ae hc_9
       obtain rfl:=ae hL_10
       obtain rfl:=ae hF
       exact ay (aK [(vI 7)] ⟨rfl,trivial⟩)
      ·refine aA rfl hc_22 (av (au (dS (bC hD_6 hn_7) wz rfl (aa (vI ((k_3+1:Nat):Int)) (ah ?_)))))
       obtain rfl:=ae hc_9
       exact aU (k_3+1,l_4,()) ⟨hL_10,aX hD_6⟩ (ls_ _) rfl (aL rfl)
  ·rintro s_8 ho_ sl_ H_ hp_ hq_
   subst ho_
   refine aO _ hp_ hq_ (ai (aa (vI 0) (ah ?_)))
   obtain rfl:=ae hF
   exact ay (aK [(vI 0)] ⟨rfl,trivial⟩)
theorem uT {wv_1:Window} {r:Int} (hF:jE wv_1=some r) :
  FnM Tryz.prog 43 [(.d (.agg (Window.enc wv_1)))] [] (vI r) []:=by
 refine FnM.of_wH ⟨Tryz.prog,19,[],[]⟩ rfl Tryz.func43 rfl rfl (lb_ rfl) (by kernel_rfl) ?_
 unfold jE at hF
 refine ai (ig 0 (.inl rfl) [(vI wv_1.From),(vI wv_1.To)] rfl rfl wz (λn_2=>aa (vI 0) (ah (ak (ak ?_)))))
 obtain ⟨v_3,h_4,hF⟩:=bind_some hF
 refine aQ [(1,(.ref n_2 0 0)),(12,(vB v_3))] [(n_2,some (.cells 2 [(vI wv_1.From),(vI wv_1.To)]))] ?_ ?_
 ·refine au (aH nS rfl 0 rfl wz (aF 0 0 il ft sz3 ag3 rfl rfl (vI wv_1.From) rfl wz (aH nN rfl 1 rfl wz (aF 0 0 il ft sz3 ag3 rfl rfl (vI wv_1.To) rfl wz ?_))))
  obtain ⟨r_5,hr_6,h_4⟩:=bind_some h_4
  refine aD (bn hr_6) rfl qM rfl rfl rfl rfl wz ?_
  rcases aj h_4 with⟨hc_7,h_4⟩|⟨hc_7,h_4⟩
  ·refine aC rfl hc_7 wz (af (af (af (aa (vB true) (ah ?_)))))
   obtain rfl:=ae h_4
   exact cu
  ·refine aC rfl hc_7 wz (aH nN rfl 1 rfl wa (aF 0 0 il ft sz3 ag3 rfl rfl (vI wv_1.To) rfl wa (aG (vB (decide (wv_1.To>345686400000))) wa rfl (aa (vB (decide (wv_1.To>345686400000))) (ah ?_)))))
   obtain rfl:=ae h_4
   exact cu
 ·rintro ⟨⟩ _ sl_ H_ hp_ hq_
  refine aO _ hp_ hq_ ?_
  rcases aj hF with⟨hc_8,hF⟩|⟨hc_8,hF⟩
  ·refine aB rfl hc_8 (ai (aa (vI 1) (ah ?_)))
   obtain rfl:=ae hF
   exact ay (aK [(vI 1)] ⟨rfl,trivial⟩)
  ·refine aA rfl hc_8 (av (ak (ai (aH nN rfl 1 rfl wz (aF 0 0 il ft sz3 ag3 rfl rfl (vI wv_1.To) rfl wz (aH nS rfl 0 rfl wz (aF 0 0 il ft sz3 ag3 rfl rfl (vI wv_1.From) rfl wz (aa (vI (w64 (wv_1.To-wv_1.From))) (aa (vB (decide ((w64 (wv_1.To-wv_1.From))>34560000000))) (ah ?_))))))))))
   rcases aj hF with⟨hc_9,hF⟩|⟨hc_9,hF⟩
   ·refine aB rfl hc_9 (ai (aa (vI 2) (ah ?_)))
    obtain rfl:=ae hF
    exact ay (aK [(vI 2)] ⟨rfl,trivial⟩)
   ·refine aA rfl hc_9 (av (ai (aa (vI 0) (ah ?_))))
    obtain rfl:=ae hF
    exact ay (aK [(vI 0)] ⟨rfl,trivial⟩)
theorem mI {x_1:Int} {r:Bool} (hF:cmp_isNaN_int x_1=some r) :
  FnM Tryz.prog 122 [(vI x_1)] [] (vB r) []:=by
 refine FnM.of_wH ⟨Tryz.prog,6,[],[]⟩ rfl Tryz.func122 rfl rfl (lb_ rfl) (by kernel_rfl) ?_
 unfold cmp_isNaN_int at hF
 refine ai (aa (vB false) (ah (ai (aa (vI x_1) (aa (vI x_1) (aa (vB (x_1 != x_1)) (aa (vB (x_1 != x_1)) (ah ?_))))))))
 obtain rfl:=ae hF
 exact ay (aK [(vB (x_1 != x_1))] ⟨rfl,trivial⟩)
theorem CS {x_1:Int} {y_2:Int} {r:Bool} (hF:cmp_Less_int x_1 y_2=some r) :
  FnM Tryz.prog 104 [(vI x_1),(vI y_2)] [] (vB r) []:=by
 refine FnM.of_wH ⟨Tryz.prog,17,[],[]⟩ rfl Tryz.func104 rfl rfl (lb_ rfl) (by kernel_rfl) ?_
 unfold cmp_Less_int at hF
 refine ai (aa (vB false) (ah (ak ?_)))
 obtain ⟨v_3,h_4,hF⟩:=bind_some hF
 refine aQ [(4,(vB v_3))] [] ?_ ?_
 ·refine au (aa (vI x_1) ?_)
  obtain ⟨r_5,hr_6,h_4⟩:=bind_some h_4
  refine aD (mI hr_6) rfl MK rfl rfl rfl rfl wz ?_
  rcases aj h_4 with⟨hc_7,h_4⟩|⟨hc_7,h_4⟩
  ·refine aC rfl hc_7 wz (aG (vI y_2) wa rfl ?_)
   obtain ⟨r_8,hr_9,h_4⟩:=bind_some h_4
   refine aD (mI hr_9) rfl MK rfl rfl rfl rfl wa (aG (vB (!r_8)) wa rfl (aa (vB (!r_8)) ?_))
   rcases aj h_4 with⟨hc_10,h_4⟩|⟨hc_10,h_4⟩
   ·refine aC rfl hc_10 wz (af (af (af (aa (vB true) (aa (vB true) (ah ?_))))))
    obtain rfl:=ae h_4
    exact cu
   ·refine aC rfl hc_10 wz (aG (vI x_1) wa rfl (aG (vI y_2) wa rfl (aG (vB (decide (x_1<y_2))) wa rfl (aa (vB (decide (x_1<y_2))) (aa (vB (decide (x_1<y_2))) (ah ?_))))))
    obtain rfl:=ae h_4
    exact cu
  ·refine aC rfl hc_7 wz (af (af (af (aa (vB false) (aa (vB false) (aG (vI x_1) wa rfl (aG (vI y_2) wa rfl (aG (vB (decide (x_1<y_2))) wa rfl (aa (vB (decide (x_1<y_2))) (aa (vB (decide (x_1<y_2))) (ah ?_)))))))))))
   obtain rfl:=ae h_4
   exact cu
 ·rintro ⟨⟩ _ sl_ H_ hp_ hq_
  refine aO _ hp_ hq_ ?_
  obtain rfl:=ae hF
  exact ay (aK [(vB v_3)] ⟨rfl,trivial⟩)
theorem rF {x_1:Int} {r:Bool} (hF:iT x_1=some r) :
  FnM Tryz.prog 111 [(vI x_1)] [] (vB r) []:=by
 refine FnM.of_wH ⟨Tryz.prog,6,[],[]⟩ rfl Tryz.func111 rfl rfl (lb_ rfl) (by kernel_rfl) ?_
 unfold iT at hF
 refine ai (aa (vB false) (ah (ai (aa (vI x_1) (aa (vI x_1) (aa (vB (x_1 != x_1)) (aa (vB (x_1 != x_1)) (ah ?_))))))))
 obtain rfl:=ae hF
 exact ay (aK [(vB (x_1 != x_1))] ⟨rfl,trivial⟩)
theorem pE {x_1:(List Int)} {target_2:Int} {r:Int×Bool} (hF:dU x_1 target_2=some r) :
  FnM Tryz.prog 92 [(vL eI x_1),(vI target_2)] [] (.tup [(vI r.1),(vB r.2)]) []:=by
 refine FnM.of_wH ⟨Tryz.prog,54,[],[]⟩ rfl Tryz.func92 rfl rfl (lb_ rfl) (by kernel_rfl) ?_
 unfold dU at hF
 refine ai (aa (vI 0) (aa (vB false) (ah (ai (aa (vL eI x_1) (bR u7 rfl wz (aa (vI (x_1.length:Int)) (ah (ai (aa (vI (x_1.length:Int)) (aa (vI 0) (aa (vI (x_1.length:Int)) (ah (ak ?_))))))))))))))
 obtain ⟨o_11,hj_12,hF⟩:=bind_some hF
 obtain ⟨nq_34,hj_12⟩:=dA hj_12
 refine dZ (λ(s_8:Int×Int)=>[(0,(vL eI x_1)),(1,(vI target_2)),(6,(vI (x_1.length:Int))),(7,(vI s_8.1))]) (λ(s_8:Int×Int)=>[]) (λ(k_3:Nat)=>(λ(s_8:Int×Int)=>[(0,(vL eI x_1)),(1,(vI target_2)),(6,(vI (x_1.length:Int))),(7,(vI s_8.1)),(8,(vI s_8.2))])) (λs=>eG x_1 target_2 s) o_11 nq_34 (0,(x_1.length:Int)) hj_12 rfl (aL rfl) ?_ ?_
 ·rintro ⟨k_3,s_8⟩ hL_10
  dsimp only at hL_10
  cases k_3 with
  | zero=>cases hL_10
  | succ k_3 =>
   obtain ⟨c_,hc_9,hL_10⟩:=bind_some hL_10
   unfold eG at hc_9
   refine ak (ai (aa (vI s_8.1) (aa (vI s_8.2) (aa (vB (decide (s_8.1<s_8.2))) (ah ?_)))))
   rcases aj hc_9 with⟨hc_13,hc_9⟩|⟨hc_13,hc_9⟩
   ·refine aB rfl hc_13 (av (aM (ai (aa (vI s_8.1) (aa (vI s_8.2) (aa (vI (w64 (s_8.1+s_8.2))) (kR un3 AL rfl wz ?_)))))))
    obtain ⟨q_14,hz_15,hc_9⟩:=bind_some hc_9
    refine Ff rfl rfl hz_15 wz (kR AL un3 rfl wz (aa (vI (w64 q_14)) (ah (ai (aa (vL eI x_1) (aa (vI (w64 q_14)) ?_))))))
    obtain ⟨y_16,hy_17,hc_9⟩:=bind_some hc_9
    refine dD gK rfl rfl hy_17 rfl wz (bE sz3 ag3 rfl (vI y_16) rfl wz (aa (vI target_2) ?_))
    obtain ⟨r_18,hr_19,hc_9⟩:=bind_some hc_9
    refine aD (CS hr_19) rfl hb104 rfl rfl rfl rfl wz (ah ?_)
    rcases aj hc_9 with⟨hc_20,hc_9⟩|⟨hc_20,hc_9⟩
    ·refine aB rfl hc_20 (au (aa (vI (w64 q_14)) (aa (vI (w64 ((w64 q_14)+1))) (aa (vI (w64 ((w64 q_14)+1))) (ah ?_)))))
     obtain rfl:=ae hc_9
     exact aU (k_3,((w64 ((w64 q_14)+1)),s_8.2)) hL_10 (ls_ _) rfl (aL rfl)
    ·refine aA rfl hc_20 (au (aa (vI (w64 q_14)) (aa (vI (w64 q_14)) (ah ?_))))
     obtain rfl:=ae hc_9
     exact aU (k_3,(s_8.1,(w64 q_14))) hL_10 (ls_ _) rfl (aL rfl)
   ·refine aA rfl hc_13 (aV ?_)
    obtain rfl:=ae hc_9
    obtain rfl:=ae hL_10
    exact aS ((s_8.1,s_8.2)) rfl rfl (aL rfl)
 ·rintro s_8 ho_ sl_ H_ hp_ hq_
  subst ho_
  refine aO _ hp_ hq_ (ak ?_)
  obtain ⟨v_21,h_22,hF⟩:=bind_some hF
  refine aQ [(4,(vI s_8.1)),(5,(vB v_21))] [] ?_ ?_
  ·refine au (aa (vI s_8.1) (aa (vI s_8.1) (aa (vI (x_1.length:Int)) (aa (vB (decide (s_8.1<(x_1.length:Int)))) ?_))))
   rcases aj h_22 with⟨hc_23,h_22⟩|⟨hc_23,h_22⟩
   ·refine aC rfl hc_23 wz (aG (vL eI x_1) wa rfl (aG (vI s_8.1) wa rfl ?_))
    obtain ⟨y_24,hy_25,h_22⟩:=bind_some h_22
    refine dD gK rfl rfl hy_25 rfl wa (bE sz3 ag3 rfl (vI y_24) rfl wa (aG (vI target_2) wa rfl (aG (vB (y_24==target_2)) wa rfl ?_)))
    rcases aj h_22 with⟨hc_26,h_22⟩|⟨hc_26,h_22⟩
    ·refine aC rfl hc_26 wa (af (af (af (af (af (af (aY (wn rfl rfl) (aY (wn rfl rfl) (af (aG (vB true) wa rfl (aa (vB true) (aa (vI s_8.1) (aa (vB true) (ah ?_))))))))))))))
     obtain rfl:=ae h_22
     exact cu
    ·refine aC rfl hc_26 wa (aG (vL eI x_1) wa rfl (aG (vI s_8.1) wa rfl ?_))
     obtain ⟨y_27,hy_28,h_22⟩:=bind_some h_22
     refine dD gK rfl rfl hy_28 rfl wa (bE sz3 ag3 rfl (vI y_27) rfl wa ?_)
     obtain ⟨r_29,hr_30,h_22⟩:=bind_some h_22
     refine aD (rF hr_30) rfl hb111 rfl rfl rfl rfl wa ?_
     rcases aj h_22 with⟨hc_31,h_22⟩|⟨hc_31,h_22⟩
     ·refine aC rfl hc_31 wa (aG (vI target_2) wa rfl ?_)
      obtain ⟨r_32,hr_33,h_22⟩:=bind_some h_22
      refine aD (rF hr_33) rfl hb111 rfl rfl rfl rfl wa (aG (vB r_32) wa rfl (aG (vB r_32) wa rfl (aa (vB r_32) (aa (vI s_8.1) (aa (vB r_32) (ah ?_))))))
      obtain rfl:=ae h_22
      exact cu
     ·refine aC rfl hc_31 wa (af (af (aG (vB false) wa rfl (aG (vB false) wa rfl (aa (vB false) (aa (vI s_8.1) (aa (vB false) (ah ?_))))))))
      obtain rfl:=ae h_22
      exact cu
   ·refine aC rfl hc_23 wz (af (af (af (af (af (af (af (aY (wn rfl rfl) (aY (wn rfl rfl) (aY (wn rfl rfl) (aY (wn rfl rfl) (aY (wn rfl rfl) (aY (wn rfl rfl) (aY (wn rfl rfl) (aY (wn rfl rfl) (aY (wn rfl rfl) (af (aa (vB false) (aa (vI s_8.1) (aa (vB false) (ah ?_)))))))))))))))))))))
    obtain rfl:=ae h_22
    exact cu
  ·rintro ⟨⟩ _ sl_ H_ hp_ hq_
   refine aO _ hp_ hq_ ?_
   obtain rfl:=ae hF
   exact ay (aK [(vI s_8.1),(vB v_21)] ⟨rfl,⟨rfl,trivial⟩⟩)
theorem AV {e_1:Entry} {d_2:Int} {r:Bool} (hF:mh e_1 d_2=some r) :
  FnM Tryz.prog 69 [(.d (.agg (Entry.enc e_1))),(vI d_2)] [] (vB r) []:=by
 refine FnM.of_wH ⟨Tryz.prog,41,[],[]⟩ rfl Tryz.func69 rfl rfl (lb_ rfl) (by kernel_rfl) ?_
 unfold mh at hF
 refine ai (ig 0 (.inl rfl) (Entry.v e_1) rfl rfl wz (λn_3=>aa (vB false) (ah (ak (ak ?_)))))
 obtain ⟨v_4,h_5,hF⟩:=bind_some hF
 refine aQ [(1,(vI d_2)),(2,(.ref n_3 0 0)),(31,(vB v_4))] [(n_3,some (.cells 13 (Entry.v e_1)))] ?_ ?_
 ·refine bB (aa (vI d_2) (aH Ha rfl 3 rfl wz (aF 2 0 (.inr (by kernel_rfl)) (λ_ _ ag=>trivial) sz3 ag3 rfl rfl (vI e_1.First) rfl wz (aH G7 rfl 4 rfl wz (aF 4 0 (.inr (by kernel_rfl)) (λ_ _ ag=>⟨.inl ⟨rfl,rfl⟩,trivial⟩) sz3 ag3 rfl rfl (vI e_1.Last) rfl wz ?_)))))
  obtain ⟨r_6,hr_7,h_5⟩:=bind_some h_5
  refine aD (bn hr_7) rfl qM rfl rfl rfl rfl wz ?_
  rcases aj h_5 with⟨hc_8,h_5⟩|⟨hc_8,h_5⟩
  ·refine aC rfl hc_8 wz (af (af (af (af (af (af (af (af (aa (vB true) (aa (vB true) (af (af (af (af (af (af (af (aa (vB true) (ah ?_)))))))))))))))))))
   obtain rfl:=ae h_5
   exact cu
  ·refine aC rfl hc_8 wz (aG (vI d_2) wa rfl (aH Ha rfl 3 rfl wa (aF 9 0 (.inr (by kernel_rfl)) (λ_ _ ag=>⟨.inl ⟨rfl,rfl⟩,⟨.inl ⟨rfl,rfl⟩,trivial⟩⟩) sz3 ag3 rfl rfl (vI e_1.First) rfl wa (aG (vI (w64 (d_2-e_1.First))) wa rfl (aH Oe rfl 5 rfl wa (aF 12 0 (.inr (by kernel_rfl)) (λ_ _ ag=>⟨.inl ⟨rfl,rfl⟩,⟨.inl ⟨rfl,rfl⟩,⟨.inl ⟨rfl,rfl⟩,trivial⟩⟩⟩) sz3 ag3 rfl rfl (vI e_1.Every) rfl wa ?_))))))
   obtain ⟨q_9,hz_10,h_5⟩:=bind_some h_5
   refine OQ rfl rfl hz_10 wa (aG (vB (q_9 != 0)) wa rfl (aa (vB (q_9 != 0)) ?_))
   rcases aj h_5 with⟨hc_11,h_5⟩|⟨hc_11,h_5⟩
   ·refine aC rfl hc_11 wz (af (af (af (af (af (af (af (aa (vB true) (ah ?_)))))))))
    obtain rfl:=ae h_5
    exact cu
   ·refine aC rfl hc_11 wz (aH Ot rfl 6 rfl wa (aF 18 0 (.inr (by kernel_rfl)) (λ_ _ ag=>⟨.inl ⟨rfl,rfl⟩,⟨.inl ⟨rfl,rfl⟩,⟨.inl ⟨rfl,rfl⟩,⟨.inl ⟨rfl,rfl⟩,trivial⟩⟩⟩⟩) sz3 ag3 rfl rfl (vI e_1.Days) rfl wa (aG (vI d_2) wa rfl (aG (vI (d_2.tmod 7)) wa rfl ?_))))
    obtain ⟨q_12,hz_13,h_5⟩:=bind_some h_5
    refine Cf rfl rfl hz_13 wa (aG (vI (wy .i64 e_1.Days q_12)) wa rfl (aG (vB ((wy .i64 e_1.Days q_12)==0)) wa rfl (aa (vB ((wy .i64 e_1.Days q_12)==0)) (ah ?_))))
    obtain rfl:=ae h_5
    exact cu
 ·rintro ⟨⟩ _ sl_ H_ hp_ hq_
  refine aO _ hp_ hq_ ?_
  rcases aj hF with⟨hc_14,hF⟩|⟨hc_14,hF⟩
  ·refine aB rfl hc_14 (ai (aa (vB false) (ah ?_)))
   obtain rfl:=ae hF
   exact ay (aK [(vB false)] ⟨rfl,trivial⟩)
  ·refine aA rfl hc_14 (av (ai (aH OU rfl 7 rfl wz (aF 0 0 il ft uB wF rfl rfl (vL eI e_1.Except) rfl wz (aa (vI d_2) ?_)))))
   obtain ⟨r_15,hr_16,hF⟩:=bind_some hF
   refine aD (pE hr_16) rfl hb92 rfl rfl rfl rfl wz (aa (.tup [(vI r_15.1),(vB r_15.2)]) (aa (vI r_15.1) (aa (vB r_15.2) (aa (vI r_15.1) (aa (vB r_15.2) (ah (ai (aa (vB r_15.2) (aa (vB (!r_15.2)) (aa (vB (!r_15.2)) (ah ?_)))))))))))
   obtain rfl:=ae hF
   exact ay (aK [(vB (!r_15.2))] ⟨rfl,trivial⟩)
theorem zM {e_1:Entry} {zone_2:Int} {d_3:Int} {r:Window} (hF:nK e_1 zone_2 d_3=some r) :
  FnM Tryz.prog 70 [(.d (.agg (Entry.enc e_1))),(vI zone_2),(vI d_3)] [] (.d (.agg (Window.enc r))) []:=by
 refine FnM.of_wH ⟨Tryz.prog,32,[],[]⟩ rfl Tryz.func70 rfl rfl (lb_ rfl) (by kernel_rfl) ?_
 unfold nK at hF
 refine ai (ig 0 (.inl rfl) (Entry.v e_1) rfl rfl wz (λn_4=>dB 0 (.inl rfl) z39 rfl wz (λn_5=>ah (ai (aH Pj rfl 9 rfl wz (aF 0 0 il ft sz3 ag3 rfl rfl (vI e_1.To) rfl wz (aH Ll rfl 8 rfl wz (aF 0 0 il ft sz3 ag3 rfl rfl (vI e_1.From) rfl wz (aa (vI (w64 (e_1.To-e_1.From))) (aa (vI (w64 (e_1.To-e_1.From))) (ah (ak (ai (aa (vI (w64 (e_1.To-e_1.From))) (aa (vB (decide ((w64 (e_1.To-e_1.From))<=0))) (ah ?_))))))))))))))))
 obtain ⟨v_6,h_7,hF⟩:=bind_some hF
 refine aQ [(1,(vI zone_2)),(2,(vI d_3)),(3,(.ref n_4 0 0)),(6,(.ref n_5 0 0)),(7,(vI v_6))] [(n_4,some (.cells 13 (Entry.v e_1))),(n_5,some (.cells 2 [(vI 0),(vI 0)]))] ?_ ?_
 ·rcases aj h_7 with⟨hc_8,h_7⟩|⟨hc_8,h_7⟩
  ·refine aB rfl hc_8 (au (aa (vI (w64 (e_1.To-e_1.From))) (aa (vI (w64 ((w64 (e_1.To-e_1.From))+1440))) (aa (vI (w64 ((w64 (e_1.To-e_1.From))+1440))) (ah ?_)))))
   obtain rfl:=ae h_7
   exact cu
  ·refine aA rfl hc_8 (av ?_)
   obtain rfl:=ae h_7
   exact cu
 ·rintro ⟨⟩ _ sl_ H_ hp_ hq_
  refine aO _ hp_ hq_ (ai (aa (vI d_3) (aa (vI (w64 (d_3*1440))) (aH Ll rfl 8 rfl wz (aF 0 0 il ft sz3 ag3 rfl rfl (vI e_1.From) rfl wz (aa (vI (w64 ((w64 (d_3*1440))+e_1.From))) (aa (vI zone_2) (aa (vI (w64 ((w64 ((w64 (d_3*1440))+e_1.From))-zone_2))) (aa (vI (w64 ((w64 ((w64 ((w64 (d_3*1440))+e_1.From))-zone_2))*60000))) (aa (vI (w64 ((w64 ((w64 ((w64 (d_3*1440))+e_1.From))-zone_2))*60000))) (ah (ai (aa (vI (w64 ((w64 ((w64 ((w64 (d_3*1440))+e_1.From))-zone_2))*60000))) (aa (vI (w64 ((w64 ((w64 ((w64 (d_3*1440))+e_1.From))-zone_2))*60000))) (aa (vI v_6) (aa (vI (w64 (v_6*60000))) (aa (vI (w64 ((w64 ((w64 ((w64 ((w64 (d_3*1440))+e_1.From))-zone_2))*60000))+(w64 (v_6*60000))))) (aG (.d (.agg (Window.enc (⟨(w64 ((w64 ((w64 ((w64 (d_3*1440))+e_1.From))-zone_2))*60000)),(w64 ((w64 ((w64 ((w64 ((w64 (d_3*1440))+e_1.From))-zone_2))*60000))+(w64 (v_6*60000))))⟩:Window)))) wz (by kernel_rfl) (fE 0 il ft 1 yP rfl rfl [(vI (w64 ((w64 ((w64 ((w64 (d_3*1440))+e_1.From))-zone_2))*60000))),(vI (w64 ((w64 ((w64 ((w64 ((w64 (d_3*1440))+e_1.From))-zone_2))*60000))+(w64 (v_6*60000)))))] rfl wz (ah ?_))))))))))))))))))))
  obtain rfl:=ae hF
  exact ay (aK [(.d (.agg (Window.enc (⟨(w64 ((w64 ((w64 ((w64 (d_3*1440))+e_1.From))-zone_2))*60000)),(w64 ((w64 ((w64 ((w64 ((w64 (d_3*1440))+e_1.From))-zone_2))*60000))+(w64 (v_6*60000))))⟩:Window))))] ⟨⟨1,_,_,_,_,_,_,_,rfl,rfl,yP,FI,rfl⟩,trivial⟩)
theorem CU {t_1:Window} {wv_2:Window} {r:Window} (hF:vH t_1 wv_2=some r) :
  FnM Tryz.prog 45 [(.d (.agg (Window.enc t_1))),(.d (.agg (Window.enc wv_2)))] [] (.d (.agg (Window.enc r))) []:=by
 refine FnM.of_wH ⟨Tryz.prog,16,[],[]⟩ rfl Tryz.func45 rfl rfl (lb_ rfl) (by kernel_rfl) ?_
 unfold vH at hF
 refine ai (ig 0 (.inl rfl) [(vI t_1.From),(vI t_1.To)] rfl rfl wz (λn_3=>ig 0 (.inl rfl) [(vI wv_2.From),(vI wv_2.To)] rfl rfl wz (λn_4=>dB 0 (.inl rfl) z39 rfl wz (λn_5=>ah (ai (aH nS rfl 0 rfl wz (aF 0 0 il ft sz3 ag3 rfl rfl (vI t_1.From) rfl wz (aH nS rfl 0 rfl wz (aF 0 1 il ft sz3 ag3 rfl rfl (vI wv_2.From) rfl wz (sW (vI (uW t_1.From wv_2.From)) rfl (.inr rfl) wz (aH nN rfl 1 rfl wz (aF 0 0 il ft sz3 ag3 rfl rfl (vI t_1.To) rfl wz (aH nN rfl 1 rfl wz (aF 0 1 il ft sz3 ag3 rfl rfl (vI wv_2.To) rfl wz (sW (vI (zn t_1.To wv_2.To)) rfl (.inl rfl) wz (aG (.d (.agg (Window.enc (⟨(uW t_1.From wv_2.From),(zn t_1.To wv_2.To)⟩:Window)))) wz (by kernel_rfl) (fE 0 il ft 2 yP rfl rfl [(vI (uW t_1.From wv_2.From)),(vI (zn t_1.To wv_2.To))] rfl wz (ah ?_))))))))))))))))))
 obtain rfl:=ae hF
 exact ay (aK [(.d (.agg (Window.enc (⟨(uW t_1.From wv_2.From),(zn t_1.To wv_2.To)⟩:Window))))] ⟨⟨2,_,_,_,_,_,_,_,rfl,rfl,yP,FI,rfl⟩,trivial⟩)
theorem zA {e_1:Entry} {zone_2:Int} {wv_3:Window} {r:(List Window)} (hF:mq e_1 zone_2 wv_3=some r) :
  FnM Tryz.prog 44 [(.d (.agg (Entry.enc e_1))),(vI zone_2),(.d (.agg (Window.enc wv_3)))] [] (gV (ax 0) 2 r) (([]:List Box).map some++gO 2 Window.enc r):=by
 refine FnM.of_wH ⟨Tryz.prog,72,[],[]⟩ rfl Tryz.func44 rfl rfl (lb_ rfl) (by kernel_rfl) ?_
 unfold mq at hF
 refine ai (ig 0 (.inl rfl) (Entry.v e_1) rfl rfl wz (λn_4=>ig 0 (.inl rfl) [(vI wv_3.From),(vI wv_3.To)] rfl rfl wz (λn_5=>aa .nil (ah (ai (aa .nil (ah (ak (ak ?_)))))))))
 obtain ⟨v_6,h_7,hF⟩:=bind_some hF
 refine aQ [(1,(vI zone_2)),(3,(.ref n_4 0 0)),(5,(.ref n_5 0 0)),(7,.nil),(20,(vB v_6))] [(n_4,some (.cells 13 (Entry.v e_1))),(n_5,some (.cells 2 [(vI wv_3.From),(vI wv_3.To)]))] ?_ ?_
 ·refine au (aH pl72_12 rfl 12 rfl wz (aF 0 0 il ft sz4 ag4 rfl rfl (vB e_1.Gone) rfl wz ?_))
  rcases aj h_7 with⟨hc_8,h_7⟩|⟨hc_8,h_7⟩
  ·refine aC rfl hc_8 wz (af (af (af (af (af (aa (vB true) (ah ?_)))))))
   obtain rfl:=ae h_7
   exact cu
  ·refine aC rfl hc_8 wz (aH nS rfl 0 rfl wa (aF 0 1 il ft sz3 ag3 rfl rfl (vI wv_3.From) rfl wa (aH nN rfl 1 rfl wa (aF 0 1 il ft sz3 ag3 rfl rfl (vI wv_3.To) rfl wa (aG (vB (decide (wv_3.From>=wv_3.To))) wa rfl (aa (vB (decide (wv_3.From>=wv_3.To))) (ah ?_)))))))
   obtain rfl:=ae h_7
   exact cu
 ·rintro ⟨⟩ _ sl_ H_ hp_ hq_
  refine aO _ hp_ hq_ ?_
  rcases aj hF with⟨hc_9,hF⟩|⟨hc_9,hF⟩
  ·refine aB rfl hc_9 (ai (aa .nil (ah (pO (λn_10 => ?_)))))
   obtain rfl:=ae hF
   exact ay (finG (outs:=([]:List Box)) (.inr rfl) 2 rfl rfl rfl (by kernel_rfl) (by kernel_rfl))
  ·refine aA rfl hc_9 (av (ai (aH nS rfl 0 rfl wz (aF 0 1 il ft sz3 ag3 rfl rfl (vI wv_3.From) rfl wz (aa (vI zone_2) (aa (vI (w64 (zone_2*60000))) (aa (vI (w64 (wv_3.From+(w64 (zone_2*60000))))) (aa (vI (w64 ((w64 (wv_3.From+(w64 (zone_2*60000)))).tdiv 86400000))) (aa (vI (w64 ((w64 ((w64 (wv_3.From+(w64 (zone_2*60000)))).tdiv 86400000))-2))) (aa (vI (w64 ((w64 ((w64 (wv_3.From+(w64 (zone_2*60000)))).tdiv 86400000))-2))) (ah (ai (aH nN rfl 1 rfl wz (aF 0 1 il ft sz3 ag3 rfl rfl (vI wv_3.To) rfl wz (aa (vI zone_2) (aa (vI (w64 (zone_2*60000))) (aa (vI (w64 (wv_3.To+(w64 (zone_2*60000))))) (aa (vI (w64 ((w64 (wv_3.To+(w64 (zone_2*60000)))).tdiv 86400000))) (aa (vI (w64 ((w64 ((w64 (wv_3.To+(w64 (zone_2*60000)))).tdiv 86400000))+1))) (aa (vI (w64 ((w64 ((w64 (wv_3.To+(w64 (zone_2*60000)))).tdiv 86400000))+1))) (ah (ak (ai ?_)))))))))))))))))))))))
   refine aa (vI (w64 ((w64 ((w64 (wv_3.From+(w64 (zone_2*60000)))).tdiv 86400000))-2))) (aH Ha rfl 3 rfl wz (aF 0 0 il ft sz3 ag3 rfl rfl (vI e_1.First) rfl wz (sW (vI (uW (w64 ((w64 ((w64 (wv_3.From+(w64 (zone_2*60000)))).tdiv 86400000))-2)) e_1.First)) rfl (.inr rfl) wz (aa (vI (uW (w64 ((w64 ((w64 (wv_3.From+(w64 (zone_2*60000)))).tdiv 86400000))-2)) e_1.First)) (ah (pO (λn_17 => ?_)))))))
   obtain ⟨o_22,hj_23,hF⟩:=bind_some hF
   obtain ⟨nq_41,hj_23⟩:=dA hj_23
   refine Fj (σ:=(List Window)×Int) (N:=Nm) (λp=>(λ(s_16:(List Window)×Int) (n_19:Nm)=>([(7,(gV n_19 2 s_16.1))]:SL_)) p.1 p.2) (λp=>(λ(s_16:(List Window)×Int) (n_19:Nm)=>([(n_4,some (.cells 13 (Entry.v e_1))),(n_5,some (.cells 2 [(vI wv_3.From),(vI wv_3.To)])),(n_19,gB 2 Window.enc s_16.1)]:Hp)) p.1 p.2) (λ(k_11:Nat)=>(λp=>(λ(s_16:(List Window)×Int) (n_19:Nm)=>([(1,(vI zone_2)),(3,(.ref n_4 0 0)),(5,(.ref n_5 0 0)),(7,(gV n_19 2 s_16.1)),(9,(vI (w64 ((w64 ((w64 (wv_3.To+(w64 (zone_2*60000)))).tdiv 86400000))+1)))),(10,(vI s_16.2))]:SL_)) p.1 p.2)) (λs=>jQ wv_3 zone_2 e_1 s) o_22 nq_41 ((([]:List Window),(uW (w64 ((w64 ((w64 (wv_3.From+(w64 (zone_2*60000)))).tdiv 86400000))-2)) e_1.First)),n_17) hj_23 rfl (aL rfl) ?_ ?_
   ·rintro ⟨k_11,s_16,n_19⟩ hL_21
    dsimp only at hL_21
    cases k_11 with
    | zero=>cases hL_21
    | succ k_11 =>
     obtain ⟨c_,hc_20,hL_21⟩:=bind_some hL_21
     unfold jQ at hc_20
     refine ak (ai (aa (vI s_16.2) (aa (vI (w64 ((w64 ((w64 (wv_3.To+(w64 (zone_2*60000)))).tdiv 86400000))+1))) (aH G7 rfl 4 rfl wz (aF 0 0 il ft sz3 ag3 rfl rfl (vI e_1.Last) rfl wz (sW (vI (zn (w64 ((w64 ((w64 (wv_3.To+(w64 (zone_2*60000)))).tdiv 86400000))+1)) e_1.Last)) rfl (.inl rfl) wz (aa (vB (decide (s_16.2<=(zn (w64 ((w64 ((w64 (wv_3.To+(w64 (zone_2*60000)))).tdiv 86400000))+1)) e_1.Last)))) (ah ?_))))))))
     rcases aj hc_20 with⟨hc_24,hc_20⟩|⟨hc_24,hc_20⟩
     ·refine aB rfl hc_24 (av (ak (aM (ak (ai (aF 0 0 il ft Lx NF rfl rfl (.d (.agg (Entry.enc e_1))) rfl wz (aa (vI s_16.2) ?_)))))))
      obtain ⟨r_25,hr_26,hc_20⟩:=bind_some hc_20
      refine aD (AV hr_26) rfl hb69 rfl rfl rfl rfl wz (aa (vB (!r_25)) (ah ?_))
      rcases aj hc_20 with⟨hc_27,hc_20⟩|⟨hc_27,hc_20⟩
      ·refine aB rfl hc_27 (aV (au (aa (vI s_16.2) (aa (vI (w64 (s_16.2+1))) (aa (vI (w64 (s_16.2+1))) (ah ?_))))))
       obtain rfl:=ae hc_20
       exact aU (k_11,(s_16.1,(w64 (s_16.2+1))),n_19) hL_21 (ls_ _) rfl (aL rfl)
      ·refine aA rfl hc_27 (av (ai (aF 0 0 il ft Lx NF rfl rfl (.d (.agg (Entry.enc e_1))) rfl wz (aa (vI zone_2) (aa (vI s_16.2) ?_)))))
       obtain ⟨r_28,hr_29,hc_20⟩:=bind_some hc_20
       refine aD (zM hr_29) rfl hb70 rfl rfl rfl rfl wz (dB 0 (.inl rfl) z39 rfl wz (λn_30=>fE 0 il ft 3 yP rfl rfl [(vI r_28.From),(vI r_28.To)] rfl wz (ah (ak ?_))))
       obtain ⟨v_31,h_32,hc_20⟩:=bind_some hc_20
       refine aQ [(1,(vI zone_2)),(3,(.ref n_4 0 0)),(5,(.ref n_5 0 0)),(7,(gV n_19 2 s_16.1)),(9,(vI (w64 ((w64 ((w64 (wv_3.To+(w64 (zone_2*60000)))).tdiv 86400000))+1)))),(10,(vI s_16.2)),(11,(.ref n_30 0 0)),(66,(vB v_31))] [(n_4,some (.cells 13 (Entry.v e_1))),(n_5,some (.cells 2 [(vI wv_3.From),(vI wv_3.To)])),(n_19,gB 2 Window.enc s_16.1),(n_30,some (.cells 2 [(vI r_28.From),(vI r_28.To)]))] ?_ ?_
       ·refine au (aH nS rfl 0 rfl wz (aF 0 3 il ft sz3 ag3 rfl rfl (vI r_28.From) rfl wz (aH nN rfl 1 rfl wz (aF 0 1 il ft sz3 ag3 rfl rfl (vI wv_3.To) rfl wz (aa (vB (decide (r_28.From<wv_3.To))) ?_)))))
        rcases aj h_32 with⟨hc_33,h_32⟩|⟨hc_33,h_32⟩
        ·refine aC rfl hc_33 wz (aH nN rfl 1 rfl wa (aF 0 3 il ft sz3 ag3 rfl rfl (vI r_28.To) rfl wa (aH nS rfl 0 rfl wa (aF 0 1 il ft sz3 ag3 rfl rfl (vI wv_3.From) rfl wa (aG (vB (decide (r_28.To>wv_3.From))) wa rfl (aa (vB (decide (r_28.To>wv_3.From))) (ah ?_)))))))
         obtain rfl:=ae h_32
         exact cu
        ·refine aC rfl hc_33 wz (af (af (af (af (af (aa (vB false) (ah ?_)))))))
         obtain rfl:=ae h_32
         exact cu
       ·rintro ⟨⟩ _ sl_ H_ hp_ hq_
        refine aO _ hp_ hq_ ?_
        obtain ⟨v_34,h_35,hc_20⟩:=bind_some hc_20
        refine kW (β:=Nm) (λ(n_36:Nm)=>([(1,(vI zone_2)),(3,(.ref n_4 0 0)),(5,(.ref n_5 0 0)),(7,(gV n_36 2 v_34)),(9,(vI (w64 ((w64 ((w64 (wv_3.To+(w64 (zone_2*60000)))).tdiv 86400000))+1)))),(10,(vI s_16.2))]:SL_)) (λ(n_36:Nm)=>([(n_4,some (.cells 13 (Entry.v e_1))),(n_5,some (.cells 2 [(vI wv_3.From),(vI wv_3.To)])),(n_36,gB 2 Window.enc v_34),(n_30,some (.cells 2 [(vI r_28.From),(vI r_28.To)]))]:Hp)) (λ_=>True) ?_ ?_
        ·rcases aj h_35 with⟨hc_37,h_35⟩|⟨hc_37,h_35⟩
         ·refine aB rfl hc_37 (au (aa (gV n_19 2 s_16.1) (aF 0 3 il ft yP FI rfl rfl (.d (.agg (Window.enc r_28))) rfl wz (gm (([r_28]:List Window).map Window.enc) es68 ez68 rfl rfl rfl rfl rfl wz ?_))))
          obtain ⟨a_38,hz_39,h_35⟩:=bind_some h_35
          refine nO 0 il ft (i:=2) el68 el68 yP z39 rfl (by decide) by39 (by decide) (λ_=>rfl) rfl rfl rfl hz_39 wz (λn_40=>aa (gV n_40 2 a_38) (ah ?_))
          obtain rfl:=ae h_35
          exact aS n_40 trivial rfl (aL rfl)
         ·refine aA rfl hc_37 (av ?_)
          obtain rfl:=ae h_35
          exact aS n_19 trivial rfl (aL rfl)
        ·rintro n_36 _ sl_ H_ hp_ hq_
         refine aO _ hp_ hq_ (au (aa (vI s_16.2) (aa (vI (w64 (s_16.2+1))) (aa (vI (w64 (s_16.2+1))) (ah ?_)))))
         obtain rfl:=ae hc_20
         exact aU (k_11,(v_34,(w64 (s_16.2+1))),n_36) hL_21 (ls_ _) rfl (aL rfl)
     ·refine aA rfl hc_24 (aV ?_)
      obtain rfl:=ae hc_20
      obtain rfl:=ae hL_21
      exact aS ((s_16.1,s_16.2),n_19) rfl rfl (aL rfl)
   ·rintro ⟨s_16,n_19⟩ ho_ sl_ H_ hp_ hq_
    subst ho_
    refine aO _ hp_ hq_ (ai (aa (gV n_19 2 s_16.1) (aa (gV n_19 2 s_16.1) (ah ?_))))
    obtain rfl:=ae hF
    exact ay (finG (outs:=([]:List Box)) (.inr rfl) 2 rfl rfl rfl (by kernel_rfl) (by kernel_rfl))
theorem AA {e_1:Entry} {zone_2:Int} {wv_3:Window} {r:(List Window)×Int} (hF:lV e_1 zone_2 wv_3=some r) :
  FnM Tryz.prog 23 [(.d (.agg (Entry.enc e_1))),(vI zone_2),(.d (.agg (Window.enc wv_3)))] [] (.tup [(vL Window.enc r.1),(vI r.2)]) []:=by
 refine FnM.of_wH ⟨Tryz.prog,45,[],[]⟩ rfl Tryz.func23 rfl rfl (lb_ rfl) (by kernel_rfl) ?_
 unfold lV at hF
 refine ai (ig 0 (.inl rfl) (Entry.v e_1) rfl rfl wz (λn_4=>ig 0 (.inl rfl) [(vI wv_3.From),(vI wv_3.To)] rfl rfl wz (λn_5=>aa .nil (aa (vI 0) (ah (ak (ai (aF 0 0 il ft Lx NF rfl rfl (.d (.agg (Entry.enc e_1))) rfl wz (gm (([e_1]:List Entry).map Entry.enc) PN ez100 rfl rfl rfl rfl rfl wz ?_)))))))))
 obtain ⟨r_6,hr_7,hF⟩:=bind_some hF
 refine aD (uw hr_7) rfl hb41 rfl rfl rfl rfl wz (aa (vI r_6) (ah (ai (aa (vI r_6) (aa (vB (r_6 != 0)) (ah ?_))))))
 rcases aj hF with⟨hc_8,hF⟩|⟨hc_8,hF⟩
 ·refine aB rfl hc_8 (ai (aa (vI r_6) (aa .nil (aa (vI r_6) (ah ?_)))))
  obtain rfl:=ae hF
  exact ay (aK [.nil,(vI r_6)] ⟨rfl,⟨rfl,trivial⟩⟩)
 ·refine aA rfl hc_8 (av (ak (ai (aa (vI zone_2) ?_))))
  obtain ⟨r_9,hr_10,hF⟩:=bind_some hF
  refine aD (bn hr_10) rfl qM rfl rfl rfl rfl wz (ah ?_)
  rcases aj hF with⟨hc_11,hF⟩|⟨hc_11,hF⟩
  ·refine aB rfl hc_11 (ai (aa .nil (aa (vI 1) (ah ?_))))
   obtain rfl:=ae hF
   exact ay (aK [.nil,(vI 1)] ⟨rfl,⟨rfl,trivial⟩⟩)
  ·refine aA rfl hc_11 (av (ak (ai (aF 0 1 il ft yP FI rfl rfl (.d (.agg (Window.enc wv_3))) rfl wz ?_))))
   obtain ⟨r_12,hr_13,hF⟩:=bind_some hF
   refine aD (uT hr_13) rfl hb43 rfl rfl rfl rfl wz (aa (vI r_12) (ah (ai (aa (vI r_12) (aa (vB (r_12 != 0)) (ah ?_))))))
   rcases aj hF with⟨hc_14,hF⟩|⟨hc_14,hF⟩
   ·refine aB rfl hc_14 (ai (aa (vI r_12) (aa .nil (aa (vI r_12) (ah ?_)))))
    obtain rfl:=ae hF
    exact ay (aK [.nil,(vI r_12)] ⟨rfl,⟨rfl,trivial⟩⟩)
   ·refine aA rfl hc_14 (av (ai (aF 0 0 il ft Lx NF rfl rfl (.d (.agg (Entry.enc e_1))) rfl wz (aa (vI zone_2) (aF 0 1 il ft yP FI rfl rfl (.d (.agg (Window.enc wv_3))) rfl wz ?_)))))
    obtain ⟨r_15,hr_16,hF⟩:=bind_some hF
    refine h_callg [] (zA hr_16) rfl hb44 rfl (by kernel_rfl) (by kernel_rfl) (by kernel_rfl) (by kernel_rfl) (by kernel_rfl) rfl (by decide) (by kernel_rfl) wz ([(n_4,some (.cells 13 (Entry.v e_1))),(n_5,some (.cells 2 [(vI wv_3.From),(vI wv_3.To)]))]:Hp) (λ_=>by kernel_rfl) (λn_18=>aa (gV n_18 2 r_15) (ah (ak (ai (aa (gV n_18 2 r_15) (Iz un68 rfl wz (aa (vI 0) (ah ?_))))))))
    obtain ⟨o_27,hj_28,hF⟩:=bind_some hF
    obtain ⟨hn_23,hj_28⟩:=bf hj_28
    refine cz (λ(s_24:List Window)=>[(10,(gV n_18 2 s_24))]) (λ(s_24:List Window)=>[(n_4,some (.cells 13 (Entry.v e_1))),(n_5,some (.cells 2 [(vI wv_3.From),(vI wv_3.To)])),(n_18,gB 2 Window.enc s_24)]) (λ(k_19:Nat)=>(λ(s_24:List Window)=>[(5,(.ref n_5 0 0)),(10,(gV n_18 2 s_24)),(30,(gV n_18 2 s_24)),(31,(vI (r_15.length:Int))),(32,(vI (k_19:Int)))])) (λk x s=>lS wv_3 k x s) o_27 (List.range ((r_15.length:Int)).toNat) r_15 hj_28 rfl (aL rfl) ?_ ?_
    ·rintro ⟨k_19,l_20,s_24⟩ ⟨hL_26,hD_22⟩
     dsimp only at hL_26 hD_22
     cases l_20 with
     | nil =>
      obtain rfl:=ae hL_26
      refine ai (aa (vB (decide ((k_19:Int)<(r_15.length:Int)))) (ah ?_))
      refine ak (aA rfl (yB hD_22) (aV ?_))
      exact aS (s_24) rfl rfl (aL rfl)
     | cons x_21 l_20 =>
      obtain ⟨c_,hc_25,hL_26⟩:=bind_some hL_26
      refine ai (aa (vB (decide ((k_19:Int)<(r_15.length:Int)))) (ah ?_))
      refine ak (aB rfl (wB hD_22) (av ?_))
      unfold lS at hc_25
      refine ak (aM (ai (aa (vI (k_19:Int)) ?_)))
      obtain ⟨_,hi_29,hc_25⟩:=bind_some hc_25
      refine j5 es68 rfl rfl (gZ hi_29) (ek hi_29) wz ?_
      obtain ⟨e_30,hy_31,hc_25⟩:=bind_some hc_25
      refine uj 0 2 il ft yP FI rfl rfl hy_31 (.d (.agg (Window.enc e_30))) rfl wz (dB 0 (.inl rfl) z39 rfl wz (λn_32=>aa (vI (k_19:Int)) (fE 0 il ft 3 yP rfl rfl [(vI e_30.From),(vI e_30.To)] rfl wz (ah (au (aa (gV n_18 2 s_24) (aa (vI (k_19:Int)) (aF 0 3 il ft yP FI rfl rfl (.d (.agg (Window.enc e_30))) rfl wz (aF 0 1 il ft yP FI rfl rfl (.d (.agg (Window.enc wv_3))) rfl wz ?_)))))))))
      obtain ⟨r_33,hr_34,hc_25⟩:=bind_some hc_25
      refine aD (CU hr_34) rfl hb45 rfl rfl rfl rfl wz ?_
      obtain ⟨_,hi_35,hc_25⟩:=bind_some hc_25
      refine j5 es68 rfl rfl (gZ hi_35) (ek hi_35) wz ?_
      obtain ⟨e_36,hy_37,hc_25⟩:=bind_some hc_25
      refine D7 0 il ft 2 yP rfl rfl hy_37 r_33 rfl wz (jY (v':=(gV n_18 2 (s_24.set (0+((k_19:Int)).toNat) r_33))) 10 rfl (sK (by simp)) (jY (v':=(gV n_18 2 (s_24.set (0+((k_19:Int)).toNat) r_33))) 30 rfl (sK (by simp)) (jY (v':=(gV n_18 2 (s_24.set (0+((k_19:Int)).toNat) r_33))) 37 rfl (sK (by simp)) (ah (au (dS (yz hD_22 hn_23) wz rfl (aa (vI ((k_19+1:Nat):Int)) (ah ?_))))))))
      obtain rfl:=ae hc_25
      exact aU (k_19+1,l_20,(s_24.set (0+((k_19:Int)).toNat) r_33)) ⟨hL_26,aX hD_22⟩ (ls_ _) rfl (aL rfl)
    ·rintro s_24 ho_ sl_ H_ hp_ hq_
     subst ho_
     refine aO _ hp_ hq_ (ai (aa (gV n_18 2 s_24) (aa (gV n_18 2 s_24) (aa (vI 0) (ah (jN 2 rfl (gq 6 2 rfl rfl (gq 10 2 rfl rfl (gq 44 2 rfl rfl ?_)))))))))
     obtain rfl:=ae hF
     exact ay (aK [(vL Window.enc s_24),(vI 0)] ⟨rfl,⟨rfl,trivial⟩⟩)
theorem iI {n_1:Int} {r:Bool} (hF:dH n_1=some r) :
  FnM Tryz.prog 46 [(vI n_1)] [] (vB r) []:=by
 refine FnM.of_wH ⟨Tryz.prog,9,[],[]⟩ rfl Tryz.func46 rfl rfl (lb_ rfl) (by kernel_rfl) ?_
 unfold dH at hF
 refine ai (aa (vB false) (ah (ak ?_)))
 obtain ⟨v_2,h_3,hF⟩:=bind_some hF
 refine aQ [(2,(vB v_2))] [] ?_ ?_
 ·refine au (aa (vI n_1) (aa (vB (decide (n_1>=0))) ?_))
  rcases aj h_3 with⟨hc_4,h_3⟩|⟨hc_4,h_3⟩
  ·refine aC rfl hc_4 wz (aG (vI n_1) wa rfl (aG (vB (decide (n_1<345686400000))) wa rfl (aa (vB (decide (n_1<345686400000))) (aa (vB (decide (n_1<345686400000))) (ah ?_)))))
   obtain rfl:=ae h_3
   exact cu
  ·refine aC rfl hc_4 wz (af (af (aa (vB false) (aa (vB false) (ah ?_)))))
   obtain rfl:=ae h_3
   exact cu
 ·rintro ⟨⟩ _ sl_ H_ hp_ hq_
  refine aO _ hp_ hq_ ?_
  obtain rfl:=ae hF
  exact ay (aK [(vB v_2)] ⟨rfl,trivial⟩)
theorem DV {c_1:Campaign} {atv_2:Int} {r:Int} (hF:tO c_1 atv_2=some r) :
  FnM Tryz.prog 47 [(.d (.agg (Campaign.enc c_1))),(vI atv_2)] [] (vI r) []:=by
 refine FnM.of_wH ⟨Tryz.prog,35,[],[]⟩ rfl Tryz.func47 rfl rfl (lb_ rfl) (by kernel_rfl) ?_
 unfold tO at hF
 refine ai (ig 0 (.inl rfl) (Campaign.v c_1) rfl rfl wz (λn_3=>aa (vI 0) (ah (ak (aM (ai (aa (vI atv_2) (aH xG rfl 2 rfl wz (aH nS rfl 2 rfl wz (aF 0 0 il ft sz3 ag3 rfl rfl (vI c_1.Time.From) rfl wz (aa (vB (decide (atv_2<c_1.Time.From))) (aa (vB (decide (atv_2<c_1.Time.From))) (ah ?_)))))))))))))
 rcases aj hF with⟨hc_4,hF⟩|⟨hc_4,hF⟩
 ·refine aB rfl hc_4 (ai (aa (vI 0) (ah ?_)))
  obtain rfl:=ae hF
  exact ay (aK [(vI 0)] ⟨rfl,trivial⟩)
 ·refine aA rfl hc_4 (ai (aa (vI atv_2) (aH xG rfl 2 rfl wz (aH nN rfl 3 rfl wz (aF 0 0 il ft sz3 ag3 rfl rfl (vI c_1.Time.To) rfl wz (aa (vB (decide (atv_2>=c_1.Time.To))) (aa (vB (decide (atv_2>=c_1.Time.To))) (ah ?_))))))))
  rcases aj hF with⟨hc_5,hF⟩|⟨hc_5,hF⟩
  ·refine aB rfl hc_5 (ai (aH zI rfl 5 rfl wz (aF 0 0 il ft sz3 ag3 rfl rfl (vI c_1.Goal) rfl wz (aa (vI c_1.Goal) (ah ?_)))))
   obtain rfl:=ae hF
   exact ay (aK [(vI c_1.Goal)] ⟨rfl,trivial⟩)
  ·refine aA rfl hc_5 (av (ai (aH zI rfl 5 rfl wz (aF 0 0 il ft sz3 ag3 rfl rfl (vI c_1.Goal) rfl wz (aa (vI atv_2) (aH xG rfl 2 rfl wz (aH nS rfl 2 rfl wz (aF 0 0 il ft sz3 ag3 rfl rfl (vI c_1.Time.From) rfl wz (aa (vI (w64 (atv_2-c_1.Time.From))) (aa (vI (w64 (c_1.Goal*(w64 (atv_2-c_1.Time.From))))) (aH xG rfl 2 rfl wz (aH nN rfl 3 rfl wz (aF 0 0 il ft sz3 ag3 rfl rfl (vI c_1.Time.To) rfl wz (aH xG rfl 2 rfl wz (aH nS rfl 2 rfl wz (aF 0 0 il ft sz3 ag3 rfl rfl (vI c_1.Time.From) rfl wz (aa (vI (w64 (c_1.Time.To-c_1.Time.From))) ?_)))))))))))))))))
   obtain ⟨q_6,hz_7,hF⟩:=bind_some hF
   refine Pz rfl rfl hz_7 wz (aa (vI q_6) (ah (aO (H0:=([(n_3,some (.cells 8 (Campaign.v c_1)))]:Hp)) ([(4,(vI q_6))]:SL_) (by kernel_rfl) (vW (by kernel_rfl)) ?_)))
   obtain rfl:=ae hF
   exact ay (aK [(vI q_6)] ⟨rfl,trivial⟩)
theorem Dq {c_1:Campaign} {atv_2:Int} {r:Int×Int} (hF:qE c_1 atv_2=some r) :
  FnM Tryz.prog 24 [(.d (.agg (Campaign.enc c_1))),(vI atv_2)] [] (.tup [(vI r.1),(vI r.2)]) []:=by
 refine FnM.of_wH ⟨Tryz.prog,19,[],[]⟩ rfl Tryz.func24 rfl rfl (lb_ rfl) (by kernel_rfl) ?_
 unfold qE at hF
 refine ai (ig 0 (.inl rfl) (Campaign.v c_1) rfl rfl wz (λn_3=>aa (vI 0) (aa (vI 0) (ah (ak (ai (aF 0 0 il ft uC Ar rfl rfl (.d (.agg (Campaign.enc c_1))) rfl wz (gm (([c_1]:List Campaign).map Campaign.enc) Bw ez28 rfl rfl rfl rfl rfl wz ?_))))))))
 obtain ⟨r_4,hr_5,hF⟩:=bind_some hF
 refine aD (mW hr_5) rfl hb35 rfl rfl rfl rfl wz (aa (vI r_4) (ah (ai (aa (vI r_4) (aa (vB (r_4 != 0)) (ah ?_))))))
 rcases aj hF with⟨hc_6,hF⟩|⟨hc_6,hF⟩
 ·refine aB rfl hc_6 (ai (aa (vI r_4) (aa (vI 0) (aa (vI r_4) (ah ?_)))))
  obtain rfl:=ae hF
  exact ay (aK [(vI 0),(vI r_4)] ⟨rfl,⟨rfl,trivial⟩⟩)
 ·refine aA rfl hc_6 (av (ak (ai (aa (vI atv_2) ?_))))
  obtain ⟨r_7,hr_8,hF⟩:=bind_some hF
  refine aD (iI hr_8) rfl KZ rfl rfl rfl rfl wz (aa (vB (!r_7)) (ah ?_))
  rcases aj hF with⟨hc_9,hF⟩|⟨hc_9,hF⟩
  ·refine aB rfl hc_9 (ai (aa (vI 0) (aa (vI 1) (ah ?_))))
   obtain rfl:=ae hF
   exact ay (aK [(vI 0),(vI 1)] ⟨rfl,⟨rfl,trivial⟩⟩)
  ·refine aA rfl hc_9 (av (ai (aF 0 0 il ft uC Ar rfl rfl (.d (.agg (Campaign.enc c_1))) rfl wz (aa (vI atv_2) ?_))))
   obtain ⟨r_10,hr_11,hF⟩:=bind_some hF
   refine aD (DV hr_11) rfl hb47 rfl rfl rfl rfl wz (aa (vI r_10) (aa (vI 0) (ah ?_)))
   obtain rfl:=ae hF
   exact ay (aK [(vI r_10),(vI 0)] ⟨rfl,⟨rfl,trivial⟩⟩)
theorem oD {a_1:ByteArray} {b_2:ByteArray} {r:Int} (hF:gJ a_1 b_2=some r) :
  FnM Tryz.prog 97 [(vS a_1),(vS b_2)] [] (vI r) []:=by
 refine FnM.of_wH ⟨Tryz.prog,8,[],[]⟩ rfl Tryz.func97 rfl rfl (lb_ rfl) (by kernel_rfl) ?_
 unfold gJ at hF
 refine ai (aa (vI 0) (ah (ai (aa (vS a_1) (aa (vS b_2) (h_ext (OT (f:=116) Tryz.func116 rfl rfl (by kernel_rfl) (by kernel_rfl) _ _) rfl nb116 rfl wz (aa (vI (CW a_1 b_2)) (ah ?_))))))))
 obtain rfl:=ae hF
 exact ay (aK [(vI (CW a_1 b_2))] ⟨rfl,trivial⟩)
theorem kX {a_1:ByteArray} {b_2:ByteArray} {r:Int} (hF:strings_Compare a_1 b_2=some r) :
  FnM Tryz.prog 80 [(vS a_1),(vS b_2)] [] (vI r) []:=by
 refine FnM.of_wH ⟨Tryz.prog,8,[],[]⟩ rfl Tryz.func80 rfl rfl (lb_ rfl) (by kernel_rfl) ?_
 unfold strings_Compare at hF
 refine ai (aa (vI 0) (ah (ai (aa (vS a_1) (aa (vS b_2) ?_)))))
 obtain ⟨r_3,hr_4,hF⟩:=bind_some hF
 refine aD (oD hr_4) rfl hb97 rfl rfl rfl rfl wz (aa (vI r_3) (ah ?_))
 obtain rfl:=ae hF
 exact ay (aK [(vI r_3)] ⟨rfl,trivial⟩)
theorem sU {x_1:Int} {y_2:Int} {r:Int} (hF:cmp_Compare_int x_1 y_2=some r) :
  FnM Tryz.prog 113 [(vI x_1),(vI y_2)] [] (vI r) []:=by
 refine FnM.of_wH ⟨Tryz.prog,20,[],[]⟩ rfl Tryz.func113 rfl rfl (lb_ rfl) (by kernel_rfl) ?_
 unfold cmp_Compare_int at hF
 refine ai (aa (vI 0) (ah (ai (aa (vI x_1) ?_))))
 obtain ⟨r_3,hr_4,hF⟩:=bind_some hF
 refine aD (mI hr_4) rfl MK rfl rfl rfl rfl wz (aa (vB r_3) (ah (ai (aa (vI y_2) ?_))))
 obtain ⟨r_5,hr_6,hF⟩:=bind_some hF
 refine aD (mI hr_6) rfl MK rfl rfl rfl rfl wz (aa (vB r_5) (ah (ak (ai (aa (vB r_3) (ah ?_))))))
 rcases aj hF with⟨hc_7,hF⟩|⟨hc_7,hF⟩
 ·refine aB rfl hc_7 (ak (ai (aa (vB r_5) (ah ?_))))
  rcases aj hF with⟨hc_8,hF⟩|⟨hc_8,hF⟩
  ·refine aB rfl hc_8 (ai (aa (vI 0) (ah ?_)))
   obtain rfl:=ae hF
   exact ay (aK [(vI 0)] ⟨rfl,trivial⟩)
  ·refine aA rfl hc_8 (av (ai (aa (vI (-1)) (ah ?_))))
   obtain rfl:=ae hF
   exact ay (aK [(vI (-1))] ⟨rfl,trivial⟩)
 ·refine aA rfl hc_7 (av (ak (ai (aa (vB r_5) (ah ?_)))))
  rcases aj hF with⟨hc_9,hF⟩|⟨hc_9,hF⟩
  ·refine aB rfl hc_9 (ai (aa (vI 1) (ah ?_)))
   obtain rfl:=ae hF
   exact ay (aK [(vI 1)] ⟨rfl,trivial⟩)
  ·refine aA rfl hc_9 (av (ak (ai (aa (vI x_1) (aa (vI y_2) (aa (vB (decide (x_1<y_2))) (ah ?_)))))))
   rcases aj hF with⟨hc_10,hF⟩|⟨hc_10,hF⟩
   ·refine aB rfl hc_10 (ai (aa (vI (-1)) (ah ?_)))
    obtain rfl:=ae hF
    exact ay (aK [(vI (-1))] ⟨rfl,trivial⟩)
   ·refine aA rfl hc_10 (av (ak (ai (aa (vI x_1) (aa (vI y_2) (aa (vB (decide (x_1>y_2))) (ah ?_)))))))
    rcases aj hF with⟨hc_11,hF⟩|⟨hc_11,hF⟩
    ·refine aB rfl hc_11 (ai (aa (vI 1) (ah ?_)))
     obtain rfl:=ae hF
     exact ay (aK [(vI 1)] ⟨rfl,trivial⟩)
    ·refine aA rfl hc_11 (av (ai (aa (vI 0) (ah ?_))))
     obtain rfl:=ae hF
     exact ay (aK [(vI 0)] ⟨rfl,trivial⟩)
theorem yU {vals_1:(List Int)} {r:Int} (hF:wJ vals_1=some r) :
  FnM Tryz.prog 112 [(vL eI vals_1)] [] (vI r) []:=by
 refine FnM.of_wH ⟨Tryz.prog,18,[],[]⟩ rfl Tryz.func112 rfl rfl (lb_ rfl) (by kernel_rfl) ?_
 unfold wJ at hF
 refine ai (aa (vI 0) (ah (ai (aa (vI 0) (ah (ak (ai (aa (vL eI vals_1) (bR u7 rfl wz (aa (vI 0) (ah ?_)))))))))))
 obtain ⟨o_10,hj_11,hF⟩:=bind_some hF
 obtain ⟨hn_6,hj_11⟩:=bf hj_11
 refine cz (λ(s_7:Unit)=>[(3,(vI 0))]) (λ(s_7:Unit)=>[]) (λ(k_2:Nat)=>(λ(s_7:Unit)=>[(3,(vI 0)),(6,(vL eI vals_1)),(7,(vI (vals_1.length:Int))),(8,(vI (k_2:Int)))])) (λk x s=>ug k x s) o_10 vals_1 () hj_11 rfl (aL rfl) ?_ ?_
 ·rintro ⟨k_2,l_3,s_7⟩ ⟨hL_9,hD_5⟩
  dsimp only at hL_9 hD_5
  cases l_3 with
  | nil =>
   obtain rfl:=ae hL_9
   refine ai (aa (vB (decide ((k_2:Int)<(vals_1.length:Int)))) (ah ?_))
   refine ak (aA rfl (drop_nil hD_5) (aV ?_))
   exact aS (s_7) rfl rfl (aL rfl)
  | cons x_4 l_3 =>
   obtain ⟨c_,hc_8,hL_9⟩:=bind_some hL_9
   refine ai (aa (vB (decide ((k_2:Int)<(vals_1.length:Int)))) (ah ?_))
   refine ak (aB rfl (bv hD_5) (av ?_))
   unfold ug at hc_8
   refine ak (aM (ai (dD gK rfl rfl (bI hD_5) rfl wz (bE sz3 ag3 rfl (vI x_4) rfl wz (aa (vI x_4) (ah (ai (aa (vI x_4) (aa (vI 0) (aa (vB (x_4 != 0)) (ah ?_)))))))))))
   rcases aj hc_8 with⟨hc_12,hc_8⟩|⟨hc_12,hc_8⟩
   ·refine aB rfl hc_12 (ai (aa (vI x_4) (aa (vI x_4) (ah ?_))))
    obtain rfl:=ae hc_8
    obtain rfl:=ae hL_9
    obtain rfl:=ae hF
    exact ay (aK [(vI x_4)] ⟨rfl,trivial⟩)
   ·refine aA rfl hc_12 (av (au (dS (bC hD_5 hn_6) wz rfl (aa (vI ((k_2+1:Nat):Int)) (ah ?_)))))
    obtain rfl:=ae hc_8
    exact aU (k_2+1,l_3,()) ⟨hL_9,aX hD_5⟩ (ls_ _) rfl (aL rfl)
 ·rintro s_7 ho_ sl_ H_ hp_ hq_
  subst ho_
  refine aO _ hp_ hq_ (ai (aa (vI 0) (aa (vI 0) (ah ?_))))
  obtain rfl:=ae hF
  exact ay (aK [(vI 0)] ⟨rfl,trivial⟩)
theorem wY {a_1:Beat} {b_2:Beat} {r:Int} (hF:kY a_1 b_2=some r) :
  FnM Tryz.prog 93 [(.d (.agg (Beat.enc a_1))),(.d (.agg (Beat.enc b_2)))] [] (vI r) []:=by
 refine FnM.of_wH ⟨Tryz.prog,17,[],[]⟩ rfl Tryz.func93 rfl rfl (lb_ rfl) (by kernel_rfl) ?_
 unfold kY at hF
 refine ai (ig 0 (.inl rfl) (Beat.v a_1) rfl rfl wz (λn_3=>ig 0 (.inl rfl) (Beat.v b_2) rfl rfl wz (λn_4=>aa (vI 0) (ah (ak (bB (aH Br rfl 0 rfl wz (aF 1 0 (.inr (by kernel_rfl)) (λ_ _ ag=>trivial) sz9 ag9 rfl rfl (vS a_1.Player) rfl wz (aH Br rfl 0 rfl wz (aF 3 1 (.inr (by kernel_rfl)) (λ_ _ ag=>⟨.inl ⟨rfl,rfl⟩,trivial⟩) sz9 ag9 rfl rfl (vS b_2.Player) rfl wz ?_))))))))))
 obtain ⟨r_5,hr_6,hF⟩:=bind_some hF
 refine aD (kX hr_6) rfl hb80 rfl rfl rfl rfl wz (aH ER rfl 1 rfl wz (aF 6 0 (.inr (by kernel_rfl)) (λ_ _ ag=>⟨.inl ⟨rfl,rfl⟩,⟨.inl ⟨rfl,rfl⟩,trivial⟩⟩) sz3 ag3 rfl rfl (vI a_1.At) rfl wz (aH ER rfl 1 rfl wz (aF 8 1 (.inr (by kernel_rfl)) (λ_ _ ag=>⟨.inl ⟨rfl,rfl⟩,⟨.inl ⟨rfl,rfl⟩,⟨.inl ⟨rfl,rfl⟩,trivial⟩⟩⟩) sz3 ag3 rfl rfl (vI b_2.At) rfl wz ?_))))
 obtain ⟨r_7,hr_8,hF⟩:=bind_some hF
 refine aD (sU hr_8) rfl hb113 rfl rfl rfl rfl wz (gm (([r_5,r_7]:List Int).map eI) gK CK rfl rfl rfl rfl rfl wz ?_)
 obtain ⟨r_9,hr_10,hF⟩:=bind_some hF
 refine aD (yU hr_10) rfl hb112 rfl rfl rfl rfl wz (aa (vI r_9) (ah ?_))
 obtain rfl:=ae hF
 exact ay (aK [(vI r_9)] ⟨rfl,trivial⟩)
theorem yS {l_1:(List Beat)} {r:Int} (hF:ku l_1=some r) :
  FnM Tryz.prog 71 [(vL Beat.enc l_1)] [] (vI r) []:=by
 refine FnM.of_wH ⟨Tryz.prog,69,[],[]⟩ rfl Tryz.func71 rfl rfl (lb_ rfl) (by kernel_rfl) ?_
 unfold ku at hF
 refine ai (aa (vI 0) (ah (ak (ai (aa (vL Beat.enc l_1) (bR un77 rfl wz (aa (vB (decide ((l_1.length:Int)>500))) (ah ?_))))))))
 rcases aj hF with⟨hc_2,hF⟩|⟨hc_2,hF⟩
 ·refine aB rfl hc_2 (ai (aa (vI 2) (ah ?_)))
  obtain rfl:=ae hF
  exact ay (aK [(vI 2)] ⟨rfl,trivial⟩)
 ·refine aA rfl hc_2 (av (ak (ai (aa (vL Beat.enc l_1) (bR un77 rfl wz (aa (vI 0) (ah ?_)))))))
  obtain ⟨o_11,hj_12,hF⟩:=bind_some hF
  obtain ⟨hn_7,hj_12⟩:=bf hj_12
  refine cz (λ(s_8:Unit)=>[]) (λ(s_8:Unit)=>[]) (λ(k_3:Nat)=>(λ(s_8:Unit)=>[(0,(vL Beat.enc l_1)),(8,(vL Beat.enc l_1)),(9,(vI (l_1.length:Int))),(10,(vI (k_3:Int)))])) (λk x s=>iK l_1 k x s) o_11 l_1 () hj_12 rfl (aL rfl) ?_ ?_
  ·rintro ⟨k_3,l_4,s_8⟩ ⟨hL_10,hD_6⟩
   dsimp only at hL_10 hD_6
   cases l_4 with
   | nil =>
    obtain rfl:=ae hL_10
    refine ai (aa (vB (decide ((k_3:Int)<(l_1.length:Int)))) (ah ?_))
    refine ak (aA rfl (drop_nil hD_6) (aV ?_))
    exact aS (s_8) rfl rfl (aL rfl)
   | cons x_5 l_4 =>
    obtain ⟨c_,hc_9,hL_10⟩:=bind_some hL_10
    refine ai (aa (vB (decide ((k_3:Int)<(l_1.length:Int)))) (ah ?_))
    refine ak (aB rfl (bv hD_6) (av ?_))
    unfold iK at hc_9
    refine ak (aM (ai (aa (vI (k_3:Int)) (dD ND rfl rfl (bI hD_6) rfl wz (bE NH ag76 rfl (.d (.agg (Beat.enc x_5))) rfl wz (dB 0 (.inl rfl) z76 rfl wz (λn_13=>aa (vI (k_3:Int)) (fE 0 il ft 0 NH rfl rfl (Beat.v x_5) rfl wz (ah (aM (ai (aH Br rfl 0 rfl wz (aF 0 0 il ft sz9 ag9 rfl rfl (vS x_5.Player) rfl wz ?_)))))))))))))
    obtain ⟨r_14,hr_15,hc_9⟩:=bind_some hc_9
    refine aD (fD hr_15) rfl CF rfl rfl rfl rfl wz (aa (vB (!r_14)) (aa (vB (!r_14)) (ah ?_)))
    rcases aj hc_9 with⟨hc_16,hc_9⟩|⟨hc_16,hc_9⟩
    ·refine aB rfl hc_16 (ai (aa (vI 5) (ah ?_)))
     obtain rfl:=ae hc_9
     obtain rfl:=ae hL_10
     obtain rfl:=ae hF
     exact ay (aK [(vI 5)] ⟨rfl,trivial⟩)
    ·refine aA rfl hc_16 (ak ?_)
     obtain ⟨v_17,h_18,hc_9⟩:=bind_some hc_9
     refine aQ [(0,(vL Beat.enc l_1)),(3,(vI (k_3:Int))),(4,(.ref n_13 0 0)),(8,(vL Beat.enc l_1)),(9,(vI (l_1.length:Int))),(10,(vI (k_3:Int))),(20,(vB v_17))] [(n_13,some (.cells 3 (Beat.v x_5)))] ?_ ?_
     ·refine au (aH ER rfl 1 rfl wz (aF 0 0 il ft sz3 ag3 rfl rfl (vI x_5.At) rfl wz ?_))
      obtain ⟨r_19,hr_20,h_18⟩:=bind_some h_18
      refine aD (iI hr_20) rfl KZ rfl rfl rfl rfl wz (aa (vB (!r_19)) ?_)
      rcases aj h_18 with⟨hc_21,h_18⟩|⟨hc_21,h_18⟩
      ·refine aC rfl hc_21 wz (af (af (af (aa (vB true) (aa (vB true) (ah ?_))))))
       obtain rfl:=ae h_18
       exact cu
      ·refine aC rfl hc_21 wz (aH Fh rfl 2 rfl wa (aF 0 0 il ft sz3 ag3 rfl rfl (vI x_5.Clock) rfl wa ?_))
       obtain ⟨r_22,hr_23,h_18⟩:=bind_some h_18
       refine aD (bn hr_23) rfl qM rfl rfl rfl rfl wa (aa (vB r_22) (aa (vB r_22) (ah ?_)))
       obtain rfl:=ae h_18
       exact cu
     ·rintro ⟨⟩ _ sl_ H_ hp_ hq_
      refine aO _ hp_ hq_ ?_
      rcases aj hc_9 with⟨hc_24,hc_9⟩|⟨hc_24,hc_9⟩
      ·refine aB rfl hc_24 (ai (aa (vI 1) (ah ?_)))
       obtain rfl:=ae hc_9
       obtain rfl:=ae hL_10
       obtain rfl:=ae hF
       exact ay (aK [(vI 1)] ⟨rfl,trivial⟩)
      ·refine aA rfl hc_24 (ak ?_)
       obtain ⟨v_25,h_26,hc_9⟩:=bind_some hc_9
       refine aQ [(0,(vL Beat.enc l_1)),(3,(vI (k_3:Int))),(4,(.ref n_13 0 0)),(8,(vL Beat.enc l_1)),(9,(vI (l_1.length:Int))),(10,(vI (k_3:Int))),(30,(vB v_25))] [(n_13,some (.cells 3 (Beat.v x_5)))] ?_ ?_
       ·refine bB (aa (vI (k_3:Int)) (aa (vB (decide ((k_3:Int)>0))) ?_))
        rcases aj h_26 with⟨hc_27,h_26⟩|⟨hc_27,h_26⟩
        ·refine aC rfl hc_27 wz (aG (vL Beat.enc l_1) wa rfl (aG (vI (k_3:Int)) wa rfl (aG (vI (w64 ((k_3:Int)-1))) wa rfl ?_)))
         obtain ⟨y_28,hy_29,h_26⟩:=bind_some h_26
         refine dD ND rfl rfl hy_29 rfl wa (bE NH ag76 rfl (.d (.agg (Beat.enc y_28))) rfl wa (aF 8 0 (.inr (by kernel_rfl)) (λ_ _ ag=>trivial) NH ag76 rfl rfl (.d (.agg (Beat.enc x_5))) rfl wa ?_))
         obtain ⟨r_30,hr_31,h_26⟩:=bind_some h_26
         refine aD (wY hr_31) rfl hb93 rfl rfl rfl rfl wa (aG (vB (decide (r_30>=0))) wa rfl (aa (vB (decide (r_30>=0))) (aa (vB (decide (r_30>=0))) (ah ?_))))
         obtain rfl:=ae h_26
         exact cu
        ·refine aC rfl hc_27 wz (af (af (af (af (af (af (af (af (aa (vB false) (aa (vB false) (ah ?_)))))))))))
         obtain rfl:=ae h_26
         exact cu
       ·rintro ⟨⟩ _ sl_ H_ hp_ hq_
        refine aO _ hp_ hq_ ?_
        rcases aj hc_9 with⟨hc_32,hc_9⟩|⟨hc_32,hc_9⟩
        ·refine aB rfl hc_32 (ai (aa (vI 7) (ah ?_)))
         obtain rfl:=ae hc_9
         obtain rfl:=ae hL_10
         obtain rfl:=ae hF
         exact ay (aK [(vI 7)] ⟨rfl,trivial⟩)
        ·refine aA rfl hc_32 (ak ?_)
         obtain ⟨v_33,h_34,hc_9⟩:=bind_some hc_9
         refine aQ [(0,(vL Beat.enc l_1)),(8,(vL Beat.enc l_1)),(9,(vI (l_1.length:Int))),(10,(vI (k_3:Int))),(43,(vB v_33))] [(n_13,some (.cells 3 (Beat.v x_5)))] ?_ ?_
         ·refine bB (aa (vI (k_3:Int)) (aa (vB (decide ((k_3:Int)>0))) ?_))
          rcases aj h_34 with⟨hc_35,h_34⟩|⟨hc_35,h_34⟩
          ·refine aC rfl hc_35 wz (aH Br rfl 0 rfl wa (aF 4 0 (.inr (by kernel_rfl)) (λ_ _ ag=>trivial) sz9 ag9 rfl rfl (vS x_5.Player) rfl wa (aG (vL Beat.enc l_1) wa rfl (aG (vI (k_3:Int)) wa rfl (aG (vI (w64 ((k_3:Int)-1))) wa rfl ?_)))))
           obtain ⟨y_36,hy_37,h_34⟩:=bind_some h_34
           refine dD ND rfl rfl hy_37 rfl wa (oz Br rfl [.str y_36.Player,.int .i64 y_36.At,.int .i64 y_36.Clock] rfl rfl wa (bE sz9 ag9 rfl (vS y_36.Player) rfl wa (aG (vB (sEq x_5.Player y_36.Player)) wa rfl (aa (vB (sEq x_5.Player y_36.Player)) ?_))))
           rcases aj h_34 with⟨hc_38,h_34⟩|⟨hc_38,h_34⟩
           ·refine aC rfl hc_38 wz (aH Fh rfl 2 rfl wa (aF 15 0 (.inr (by kernel_rfl)) (λ_ _ ag=>⟨.inl ⟨rfl,rfl⟩,trivial⟩) sz3 ag3 rfl rfl (vI x_5.Clock) rfl wa (aG (vL Beat.enc l_1) wa rfl (aG (vI (k_3:Int)) wa rfl (aG (vI (w64 ((k_3:Int)-1))) wa rfl ?_)))))
            obtain ⟨y_39,hy_40,h_34⟩:=bind_some h_34
            refine dD ND rfl rfl hy_40 rfl wa (oz Fh rfl [.int .i64 y_39.Clock] rfl rfl wa (bE sz3 ag3 rfl (vI y_39.Clock) rfl wa (aG (vB (decide (x_5.Clock<=y_39.Clock))) wa rfl (aa (vB (decide (x_5.Clock<=y_39.Clock))) (aa (vB (decide (x_5.Clock<=y_39.Clock))) (ah ?_))))))
            obtain rfl:=ae h_34
            exact cu
           ·refine aC rfl hc_38 wz (af (af (af (af (af (af (af (af (af (aa (vB false) (aa (vB false) (ah ?_))))))))))))
            obtain rfl:=ae h_34
            exact cu
          ·refine aC rfl hc_35 wz (af (af (af (af (af (af (af (af (af (aa (vB false) (aa (vB false) (af (af (af (af (af (af (af (af (af (aa (vB false) (aa (vB false) (ah ?_)))))))))))))))))))))))
           obtain rfl:=ae h_34
           exact cu
         ·rintro ⟨⟩ _ sl_ H_ hp_ hq_
          refine aO _ hp_ hq_ ?_
          rcases aj hc_9 with⟨hc_41,hc_9⟩|⟨hc_41,hc_9⟩
          ·refine aB rfl hc_41 (ai (aa (vI 16) (ah ?_)))
           obtain rfl:=ae hc_9
           obtain rfl:=ae hL_10
           obtain rfl:=ae hF
           exact ay (aK [(vI 16)] ⟨rfl,trivial⟩)
          ·refine aA rfl hc_41 (av (au (dS (bC hD_6 hn_7) wz rfl (aa (vI ((k_3+1:Nat):Int)) (ah ?_)))))
           obtain rfl:=ae hc_9
           exact aU (k_3+1,l_4,()) ⟨hL_10,aX hD_6⟩ (ls_ _) rfl (aL rfl)
  ·rintro s_8 ho_ sl_ H_ hp_ hq_
   subst ho_
   refine aO _ hp_ hq_ (ai (aa (vI 0) (ah ?_)))
   obtain rfl:=ae hF
   exact ay (aK [(vI 0)] ⟨rfl,trivial⟩)
theorem BV {l_1:(List Beat)} {player_2:ByteArray} {back_3:Bool} {r:(List Beat_)} (hF:qa l_1 player_2 back_3=some r) :
  FnM Tryz.prog 73 [(vL Beat.enc l_1),(vS player_2),(vB back_3)] [] (vL Beat_.enc r) []:=by
 refine FnM.of_wH ⟨Tryz.prog,41,[],[]⟩ rfl Tryz.func73 rfl rfl (lb_ rfl) (by kernel_rfl) ?_
 unfold qa at hF
 refine ai (aa .nil (ah (ai (aa .nil (ah (ak (ai (aa (vL Beat.enc l_1) (bR un77 rfl wz (aa (vI 0) (ah (pO (λn_10 => ?_)))))))))))))
 obtain ⟨o_15,hj_16,hF⟩:=bind_some hF
 obtain ⟨hn_8,hj_16⟩:=bf hj_16
 refine iP (σ:=(List Beat_)) (N:=Nm) (λp=>(λ(s_9:List Beat_) (n_12:Nm)=>([(7,(gV n_12 2 s_9))]:SL_)) p.1 p.2) (λp=>(λ(s_9:List Beat_) (n_12:Nm)=>([(n_12,gB 2 Beat_.enc s_9)]:Hp)) p.1 p.2) (λ(k_4:Nat)=>(λp=>(λ(s_9:List Beat_) (n_12:Nm)=>([(1,(vS player_2)),(2,(vB back_3)),(7,(gV n_12 2 s_9)),(10,(vL Beat.enc l_1)),(11,(vI (l_1.length:Int))),(12,(vI (k_4:Int)))]:SL_)) p.1 p.2)) (λk x s=>pR player_2 back_3 k x s) o_15 l_1 (([]:List Beat_),n_10) hj_16 rfl (aL rfl) ?_ ?_
 ·rintro ⟨k_4,l_5,s_9,n_12⟩ ⟨hL_14,hD_7⟩
  dsimp only at hL_14 hD_7
  cases l_5 with
  | nil =>
   obtain rfl:=ae hL_14
   refine ai (aa (vB (decide ((k_4:Int)<(l_1.length:Int)))) (ah ?_))
   refine ak (aA rfl (drop_nil hD_7) (aV ?_))
   exact aS (s_9,n_12) rfl rfl (aL rfl)
  | cons x_6 l_5 =>
   obtain ⟨c_,hc_13,hL_14⟩:=bind_some hL_14
   refine ai (aa (vB (decide ((k_4:Int)<(l_1.length:Int)))) (ah ?_))
   refine ak (aB rfl (bv hD_7) (av ?_))
   unfold pR at hc_13
   refine ak (aM (ai (dD ND rfl rfl (bI hD_7) rfl wz (bE NH ag76 rfl (.d (.agg (Beat.enc x_6))) rfl wz (dB 0 (.inl rfl) z76 rfl wz (λn_17=>fE 0 il ft 1 NH rfl rfl (Beat.v x_6) rfl wz (ah (aM (ai (aH Br rfl 0 rfl wz (aF 0 1 il ft sz9 ag9 rfl rfl (vS x_6.Player) rfl wz (aa (vS player_2) (aa (vB (sNe x_6.Player player_2)) (aa (vB (sNe x_6.Player player_2)) (ah ?_)))))))))))))))
   obtain ⟨v_18,h_19,hc_13⟩:=bind_some hc_13
   refine kW (β:=Nm) (λ(n_20:Nm)=>([(1,(vS player_2)),(2,(vB back_3)),(7,(gV n_20 2 v_18)),(10,(vL Beat.enc l_1)),(11,(vI (l_1.length:Int))),(12,(vI (k_4:Int)))]:SL_)) (λ(n_20:Nm)=>([(n_20,gB 2 Beat_.enc v_18),(n_17,some (.cells 3 (Beat.v x_6)))]:Hp)) (λ_=>True) ?_ ?_
   ·rcases aj h_19 with⟨hc_21,h_19⟩|⟨hc_21,h_19⟩
    ·refine aB rfl hc_21 (av ?_)
     obtain rfl:=ae h_19
     exact aS n_12 trivial rfl (aL rfl)
    ·refine aA rfl hc_21 (ai (aa (vB back_3) (aa (vB back_3) (ah ?_))))
     rcases aj h_19 with⟨hc_22,h_19⟩|⟨hc_22,h_19⟩
     ·refine aB rfl hc_22 (au (aa (gV n_12 2 s_9) (aH ER rfl 1 rfl wz (aF 0 1 il ft sz3 ag3 rfl rfl (vI x_6.At) rfl wz (aH Fh rfl 2 rfl wz (aF 0 1 il ft sz3 ag3 rfl rfl (vI x_6.Clock) rfl wz (aG (.d (.agg (Beat_.enc (⟨x_6.At,x_6.Clock⟩:Beat_)))) wz (by kernel_rfl) (gm (([(⟨x_6.At,x_6.Clock⟩:Beat_)]:List Beat_).map Beat_.enc) AB ez137 rfl rfl rfl rfl rfl wz ?_))))))))
      obtain ⟨a_23,hz_24,h_19⟩:=bind_some h_19
      refine nO 0 il ft (i:=0) Ml Ml Gu z158 rfl (by decide) by158 (by decide) (λ_=>rfl) rfl rfl rfl hz_24 wz (λn_25=>aa (gV n_25 2 a_23) (ah ?_))
      obtain rfl:=ae h_19
      exact aS n_25 trivial rfl (aL rfl)
     ·refine aA rfl hc_22 (au (aa (gV n_12 2 s_9) (aH Fh rfl 2 rfl wz (aF 0 1 il ft sz3 ag3 rfl rfl (vI x_6.Clock) rfl wz (aH ER rfl 1 rfl wz (aF 0 1 il ft sz3 ag3 rfl rfl (vI x_6.At) rfl wz (aG (.d (.agg (Beat_.enc (⟨x_6.Clock,x_6.At⟩:Beat_)))) wz (by kernel_rfl) (gm (([(⟨x_6.Clock,x_6.At⟩:Beat_)]:List Beat_).map Beat_.enc) AB ez137 rfl rfl rfl rfl rfl wz ?_))))))))
      obtain ⟨a_26,hz_27,h_19⟩:=bind_some h_19
      refine nO 0 il ft (i:=0) Ml Ml Gu z158 rfl (by decide) by158 (by decide) (λ_=>rfl) rfl rfl rfl hz_27 wz (λn_28=>aa (gV n_28 2 a_26) (ah ?_))
      obtain rfl:=ae h_19
      exact aS n_28 trivial rfl (aL rfl)
   ·rintro n_20 _ sl_ H_ hp_ hq_
    refine aO _ hp_ hq_ (au (dS (bC hD_7 hn_8) wz rfl (aa (vI ((k_4+1:Nat):Int)) (ah ?_))))
    obtain rfl:=ae hc_13
    exact aU (k_4+1,l_5,v_18,n_20) ⟨hL_14,aX hD_7⟩ (ls_ _) rfl (aL rfl)
 ·rintro ⟨s_9,n_12⟩ ho_ sl_ H_ hp_ hq_
  subst ho_
  refine aO _ hp_ hq_ (ai (aa (gV n_12 2 s_9) (aa (gV n_12 2 s_9) (ah (jN 0 rfl (gq 6 0 rfl rfl (gq 7 0 rfl rfl (gq 40 0 rfl rfl ?_))))))))
  obtain rfl:=ae hF
  exact ay (aK [(vL Beat_.enc s_9)] ⟨rfl,trivial⟩)
theorem C9 {l_1:(List Beat_)} {n_2:Int} {r:Int×Int} (hF:o9 l_1 n_2=some r) :
  FnM Tryz.prog 72 [(vL Beat_.enc l_1),(vI n_2)] [] (.tup [(vI r.1),(vI r.2)]) []:=by
 refine FnM.of_wH ⟨Tryz.prog,108,[],[]⟩ rfl Tryz.func72 rfl rfl (lb_ rfl) (by kernel_rfl) ?_
 unfold o9 at hF
 refine ai (aa (vI 0) (aa (vI 0) (ah (ak (ai (aa (vL Beat_.enc l_1) (bR OY rfl wz (aa (vB ((l_1.length:Int)==0)) (ah ?_)))))))))
 rcases aj hF with⟨hc_3,hF⟩|⟨hc_3,hF⟩
 ·refine aB rfl hc_3 (ai (aa (vI 0) (aa (vI 8) (ah ?_))))
  obtain rfl:=ae hF
  exact ay (aK [(vI 0),(vI 8)] ⟨rfl,⟨rfl,trivial⟩⟩)
 ·refine aA rfl hc_3 (av (ai (aa (vI 0) (ah (ak ?_)))))
  obtain ⟨o_12,hj_13,hF⟩:=bind_some hF
  obtain ⟨nq_51,hj_13⟩:=dA hj_13
  refine dZ (λ(s_9:Int)=>[(0,(vL Beat_.enc l_1)),(1,(vI n_2)),(6,(vI s_9))]) (λ(s_9:Int)=>[]) (λ(k_4:Nat)=>(λ(s_9:Int)=>[(0,(vL Beat_.enc l_1)),(1,(vI n_2)),(6,(vI s_9))])) (λs=>nL l_1 n_2 s) o_12 nq_51 0 hj_13 rfl (aL rfl) ?_ ?_
  ·rintro ⟨k_4,s_9⟩ hL_11
   dsimp only at hL_11
   cases k_4 with
   | zero=>cases hL_11
   | succ k_4 =>
    obtain ⟨c_,hc_10,hL_11⟩:=bind_some hL_11
    unfold nL at hc_10
    refine ak (ak ?_)
    obtain ⟨v_14,h_15,hc_10⟩:=bind_some hc_10
    refine aQ [(0,(vL Beat_.enc l_1)),(1,(vI n_2)),(6,(vI s_9)),(25,(vB v_14))] [] ?_ ?_
    ·refine au (aa (vI s_9) (aa (vL Beat_.enc l_1) (bR OY rfl wz (aa (vB (decide (s_9<(l_1.length:Int)))) ?_))))
     rcases aj h_15 with⟨hc_16,h_15⟩|⟨hc_16,h_15⟩
     ·refine aC rfl hc_16 wz (aG (vL Beat_.enc l_1) wa rfl (aG (vI s_9) wa rfl ?_))
      obtain ⟨y_17,hy_18,h_15⟩:=bind_some h_15
      refine dD AB rfl rfl hy_18 rfl wa (oz tQ rfl [.int .i64 y_17.f_from,.int .i64 y_17.f_to] rfl rfl wa (bE sz3 ag3 rfl (vI y_17.f_from) rfl wa (aG (vI n_2) wa rfl (aG (vB (decide (y_17.f_from<=n_2))) wa rfl (aa (vB (decide (y_17.f_from<=n_2))) (ah ?_))))))
      obtain rfl:=ae h_15
      exact cu
     ·refine aC rfl hc_16 wz (af (af (af (af (af (af (af (aa (vB false) (ah ?_)))))))))
      obtain rfl:=ae h_15
      exact cu
    ·rintro ⟨⟩ _ sl_ H_ hp_ hq_
     refine aO _ hp_ hq_ ?_
     rcases aj hc_10 with⟨hc_19,hc_10⟩|⟨hc_19,hc_10⟩
     ·refine aB rfl hc_19 (av (aM (au (aa (vI s_9) (aa (vI (w64 (s_9+1))) (aa (vI (w64 (s_9+1))) (ah ?_)))))))
      obtain rfl:=ae hc_10
      exact aU (k_4,(w64 (s_9+1))) hL_11 (ls_ _) rfl (aL rfl)
     ·refine aA rfl hc_19 (aV ?_)
      obtain rfl:=ae hc_10
      obtain rfl:=ae hL_11
      exact aS (s_9) rfl rfl (aL rfl)
  ·rintro s_9 ho_ sl_ H_ hp_ hq_
   subst ho_
   refine aO _ hp_ hq_ (ai (aa (vI 0) (ah (ak (aM (ai (aa (vI s_9) (aa (vB (s_9==0)) (aa (vB (s_9==0)) (ah ?_))))))))))
   rcases aj hF with⟨hc_20,hF⟩|⟨hc_20,hF⟩
   ·refine aB rfl hc_20 (bB (aa (vL Beat_.enc l_1) ?_))
    obtain ⟨y_21,hy_22,hF⟩:=bind_some hF
    refine dD AB rfl rfl hy_22 rfl wz (oz wQ rfl [.int .i64 y_21.f_to] rfl rfl wz (bE sz3 ag3 rfl (vI y_21.f_to) rfl wz (aa (vL Beat_.enc l_1) ?_)))
    obtain ⟨y_23,hy_24,hF⟩:=bind_some hF
    refine dD AB rfl rfl hy_24 rfl wz (oz tQ rfl [.int .i64 y_23.f_from,.int .i64 y_23.f_to] rfl rfl wz (bE sz3 ag3 rfl (vI y_23.f_from) rfl wz (aa (vI n_2) (aa (vI (w64 (y_23.f_from-n_2))) (aa (vI (w64 (y_21.f_to-(w64 (y_23.f_from-n_2))))) (aa (vI (w64 (y_21.f_to-(w64 (y_23.f_from-n_2))))) (ah (ak (ai (aa (vI (w64 (y_21.f_to-(w64 (y_23.f_from-n_2))))) ?_))))))))))
    obtain ⟨r_25,hr_26,hF⟩:=bind_some hF
    refine aD (iI hr_26) rfl KZ rfl rfl rfl rfl wz (aa (vB (!r_25)) (ah ?_))
    rcases aj hF with⟨hc_27,hF⟩|⟨hc_27,hF⟩
    ·refine aB rfl hc_27 (ai (aa (vI 0) (aa (vI 11) (ah ?_))))
     obtain rfl:=ae hF
     exact ay (aK [(vI 0),(vI 11)] ⟨rfl,⟨rfl,trivial⟩⟩)
    ·refine aA rfl hc_27 (av (ai (aa (vI (w64 (y_21.f_to-(w64 (y_23.f_from-n_2))))) (aa (vI (w64 (y_21.f_to-(w64 (y_23.f_from-n_2))))) (aa (vI 0) (ah ?_))))))
     obtain rfl:=ae hF
     exact ay (aK [(vI (w64 (y_21.f_to-(w64 (y_23.f_from-n_2))))),(vI 0)] ⟨rfl,⟨rfl,trivial⟩⟩)
   ·refine aA rfl hc_20 (ai (aa (vI s_9) (aa (vL Beat_.enc l_1) (bR OY rfl wz (aa (vB (s_9==(l_1.length:Int))) (aa (vB (s_9==(l_1.length:Int))) (ah ?_)))))))
    rcases aj hF with⟨hc_28,hF⟩|⟨hc_28,hF⟩
    ·refine aB rfl hc_28 (bB (aa (vL Beat_.enc l_1) (aa (vI s_9) (aa (vI (w64 (s_9-1))) ?_))))
     obtain ⟨y_29,hy_30,hF⟩:=bind_some hF
     refine dD AB rfl rfl hy_30 rfl wz (oz wQ rfl [.int .i64 y_29.f_to] rfl rfl wz (bE sz3 ag3 rfl (vI y_29.f_to) rfl wz (aa (vI n_2) (aa (vI (w64 (y_29.f_to+n_2))) (aa (vL Beat_.enc l_1) (aa (vI s_9) (aa (vI (w64 (s_9-1))) ?_)))))))
     obtain ⟨y_31,hy_32,hF⟩:=bind_some hF
     refine dD AB rfl rfl hy_32 rfl wz (oz tQ rfl [.int .i64 y_31.f_from,.int .i64 y_31.f_to] rfl rfl wz (bE sz3 ag3 rfl (vI y_31.f_from) rfl wz (aa (vI (w64 ((w64 (y_29.f_to+n_2))-y_31.f_from))) (aa (vI (w64 ((w64 (y_29.f_to+n_2))-y_31.f_from))) (ah (ak (ai (aa (vI (w64 ((w64 (y_29.f_to+n_2))-y_31.f_from))) ?_))))))))
     obtain ⟨r_33,hr_34,hF⟩:=bind_some hF
     refine aD (iI hr_34) rfl KZ rfl rfl rfl rfl wz (aa (vB (!r_33)) (ah ?_))
     rcases aj hF with⟨hc_35,hF⟩|⟨hc_35,hF⟩
     ·refine aB rfl hc_35 (ai (aa (vI 0) (aa (vI 11) (ah (aO (H0:=([]:Hp)) ([(4,(vI 0)),(5,(vI 11))]:SL_) (by kernel_rfl) (vW (by kernel_rfl)) ?_)))))
      obtain rfl:=ae hF
      exact ay (aK [(vI 0),(vI 11)] ⟨rfl,⟨rfl,trivial⟩⟩)
     ·refine aA rfl hc_35 (av (ai (aa (vI (w64 ((w64 (y_29.f_to+n_2))-y_31.f_from))) (aa (vI (w64 ((w64 (y_29.f_to+n_2))-y_31.f_from))) (aa (vI 0) (ah (aO (H0:=([]:Hp)) ([(4,(vI (w64 ((w64 (y_29.f_to+n_2))-y_31.f_from)))),(5,(vI 0))]:SL_) (by kernel_rfl) (vW (by kernel_rfl)) ?_)))))))
      obtain rfl:=ae hF
      exact ay (aK [(vI (w64 ((w64 (y_29.f_to+n_2))-y_31.f_from))),(vI 0)] ⟨rfl,⟨rfl,trivial⟩⟩)
    ·refine aA rfl hc_28 (ak (bB (aa (vL Beat_.enc l_1) (aa (vI s_9) (aa (vI (w64 (s_9-1))) ?_)))))
     obtain ⟨y_36,hy_37,hF⟩:=bind_some hF
     refine dD AB rfl rfl hy_37 rfl wz (bE Gu ag158 rfl (.d (.agg (Beat_.enc y_36))) rfl wz (aa (vL Beat_.enc l_1) (aa (vI s_9) ?_)))
     obtain ⟨y_38,hy_39,hF⟩:=bind_some hF
     refine dD AB rfl rfl hy_39 rfl wz (bE Gu ag158 rfl (.d (.agg (Beat_.enc y_38))) rfl wz (dB 9 (.inr (by kernel_rfl)) z158 rfl wz (λn_40=>dB 10 (.inr (by kernel_rfl)) z158 rfl wz (λn_41=>fE 11 (.inr (by kernel_rfl)) (λ_ _ ag=>⟨.inr (.inr (by kernel_rfl)),⟨.inr (.inr (by kernel_rfl)),trivial⟩⟩) 0 Gu rfl rfl [(vI y_36.f_from),(vI y_36.f_to)] rfl wz (fE 12 (.inr (by kernel_rfl)) (λ_ _ ag=>⟨.inr (.inr (by kernel_rfl)),⟨.inr (.inr (by kernel_rfl)),⟨.inr (.inr (by kernel_rfl)),trivial⟩⟩⟩) 1 Gu rfl rfl [(vI y_38.f_from),(vI y_38.f_to)] rfl wz (ah (ak (ak ?_))))))))
     obtain ⟨v_42,h_43,hF⟩:=bind_some hF
     refine aQ [(1,(vI n_2)),(8,(.ref n_40 0 0)),(9,(.ref n_41 0 0)),(50,(vB v_42))] [(n_40,some (.cells 2 [(vI y_36.f_from),(vI y_36.f_to)])),(n_41,some (.cells 2 [(vI y_38.f_from),(vI y_38.f_to)]))] ?_ ?_
     ·refine au (aH tQ rfl 0 rfl wz (aF 0 1 il ft sz3 ag3 rfl rfl (vI y_38.f_from) rfl wz (aH tQ rfl 0 rfl wz (aF 0 0 il ft sz3 ag3 rfl rfl (vI y_36.f_from) rfl wz (aa (vI (w64 (y_38.f_from-y_36.f_from))) (aa (vB (decide ((w64 (y_38.f_from-y_36.f_from))>2592000000))) ?_))))))
      rcases aj h_43 with⟨hc_44,h_43⟩|⟨hc_44,h_43⟩
      ·refine aC rfl hc_44 wz (af (af (af (af (af (af (aa (vB true) (ah ?_))))))))
       obtain rfl:=ae h_43
       exact cu
      ·refine aC rfl hc_44 wz (aH wQ rfl 1 rfl wa (aF 0 1 il ft sz3 ag3 rfl rfl (vI y_38.f_to) rfl wa (aH wQ rfl 1 rfl wa (aF 0 0 il ft sz3 ag3 rfl rfl (vI y_36.f_to) rfl wa (aG (vI (w64 (y_38.f_to-y_36.f_to))) wa rfl (aG (vB (decide ((w64 (y_38.f_to-y_36.f_to))>2592000000))) wa rfl (aa (vB (decide ((w64 (y_38.f_to-y_36.f_to))>2592000000))) (ah ?_))))))))
       obtain rfl:=ae h_43
       exact cu
     ·rintro ⟨⟩ _ sl_ H_ hp_ hq_
      refine aO _ hp_ hq_ ?_
      rcases aj hF with⟨hc_45,hF⟩|⟨hc_45,hF⟩
      ·refine aB rfl hc_45 (ai (aa (vI 0) (aa (vI 2) (ah ?_))))
       obtain rfl:=ae hF
       exact ay (aK [(vI 0),(vI 2)] ⟨rfl,⟨rfl,trivial⟩⟩)
      ·refine aA rfl hc_45 (av (bB (aH wQ rfl 1 rfl wz (aF 1 0 (.inr (by kernel_rfl)) (λ_ _ ag=>trivial) sz3 ag3 rfl rfl (vI y_36.f_to) rfl wz (aa (vI n_2) (aH tQ rfl 0 rfl wz (aF 4 0 (.inr (by kernel_rfl)) (λ_ _ ag=>⟨.inl ⟨rfl,rfl⟩,trivial⟩) sz3 ag3 rfl rfl (vI y_36.f_from) rfl wz (aa (vI (w64 (n_2-y_36.f_from))) (aH wQ rfl 1 rfl wz (aF 7 1 (.inr (by kernel_rfl)) (λ_ _ ag=>⟨.inl ⟨rfl,rfl⟩,⟨.inl ⟨rfl,rfl⟩,trivial⟩⟩) sz3 ag3 rfl rfl (vI y_38.f_to) rfl wz (aH wQ rfl 1 rfl wz (aF 9 0 (.inr (by kernel_rfl)) (λ_ _ ag=>⟨.inl ⟨rfl,rfl⟩,⟨.inl ⟨rfl,rfl⟩,⟨.inl ⟨rfl,rfl⟩,trivial⟩⟩⟩) sz3 ag3 rfl rfl (vI y_36.f_to) rfl wz (aa (vI (w64 (y_38.f_to-y_36.f_to))) (aa (vI (w64 ((w64 (n_2-y_36.f_from))*(w64 (y_38.f_to-y_36.f_to))))) (aH tQ rfl 0 rfl wz (aF 13 1 (.inr (by kernel_rfl)) (λ_ _ ag=>⟨.inl ⟨rfl,rfl⟩,⟨.inl ⟨rfl,rfl⟩,⟨.inl ⟨rfl,rfl⟩,⟨.inl ⟨rfl,rfl⟩,trivial⟩⟩⟩⟩) sz3 ag3 rfl rfl (vI y_38.f_from) rfl wz (aH tQ rfl 0 rfl wz (aF 15 0 (.inr (by kernel_rfl)) (λ_ _ ag=>⟨.inl ⟨rfl,rfl⟩,⟨.inl ⟨rfl,rfl⟩,⟨.inl ⟨rfl,rfl⟩,⟨.inl ⟨rfl,rfl⟩,⟨.inl ⟨rfl,rfl⟩,trivial⟩⟩⟩⟩⟩) sz3 ag3 rfl rfl (vI y_36.f_from) rfl wz (aa (vI (w64 (y_38.f_from-y_36.f_from))) ?_)))))))))))))))))))
       obtain ⟨q_46,hz_47,hF⟩:=bind_some hF
       refine Pz rfl rfl hz_47 wz (aa (vI (w64 (y_36.f_to+q_46))) (aa (vI (w64 (y_36.f_to+q_46))) (ah (ak (ai (aa (vI (w64 (y_36.f_to+q_46))) ?_))))))
       obtain ⟨r_48,hr_49,hF⟩:=bind_some hF
       refine aD (iI hr_49) rfl KZ rfl rfl rfl rfl wz (aa (vB (!r_48)) (ah ?_))
       rcases aj hF with⟨hc_50,hF⟩|⟨hc_50,hF⟩
       ·refine aB rfl hc_50 (ai (aa (vI 0) (aa (vI 11) (ah ?_))))
        obtain rfl:=ae hF
        exact ay (aK [(vI 0),(vI 11)] ⟨rfl,⟨rfl,trivial⟩⟩)
       ·refine aA rfl hc_50 (av (ai (aa (vI (w64 (y_36.f_to+q_46))) (aa (vI (w64 (y_36.f_to+q_46))) (aa (vI 0) (ah ?_))))))
        obtain rfl:=ae hF
        exact ay (aK [(vI (w64 (y_36.f_to+q_46))),(vI 0)] ⟨rfl,⟨rfl,trivial⟩⟩)
theorem El {l_1:(List Beat)} {player_2:ByteArray} {n_3:Int} {back_4:Bool} {r:Int×Int} (hF:qm l_1 player_2 n_3 back_4=some r) :
  FnM Tryz.prog 48 [(vL Beat.enc l_1),(vS player_2),(vI n_3),(vB back_4)] [] (.tup [(vI r.1),(vI r.2)]) []:=by
 refine FnM.of_wH ⟨Tryz.prog,30,[],[]⟩ rfl Tryz.func48 rfl rfl (lb_ rfl) (by kernel_rfl) ?_
 unfold qm at hF
 refine ai (aa (vI 0) (aa (vI 0) (ah (ak (ai (aa (vL Beat.enc l_1) ?_))))))
 obtain ⟨r_5,hr_6,hF⟩:=bind_some hF
 refine aD (yS hr_6) rfl hb71 rfl rfl rfl rfl wz (aa (vI r_5) (ah (ai (aa (vI r_5) (aa (vB (r_5 != 0)) (ah ?_))))))
 rcases aj hF with⟨hc_7,hF⟩|⟨hc_7,hF⟩
 ·refine aB rfl hc_7 (ai (aa (vI r_5) (aa (vI 0) (aa (vI r_5) (ah ?_)))))
  obtain rfl:=ae hF
  exact ay (aK [(vI 0),(vI r_5)] ⟨rfl,⟨rfl,trivial⟩⟩)
 ·refine aA rfl hc_7 (av (ak (ai (aa (vS player_2) ?_))))
  obtain ⟨r_8,hr_9,hF⟩:=bind_some hF
  refine aD (fD hr_9) rfl CF rfl rfl rfl rfl wz (aa (vB (!r_8)) (ah ?_))
  rcases aj hF with⟨hc_10,hF⟩|⟨hc_10,hF⟩
  ·refine aB rfl hc_10 (ai (aa (vI 0) (aa (vI 5) (ah ?_))))
   obtain rfl:=ae hF
   exact ay (aK [(vI 0),(vI 5)] ⟨rfl,⟨rfl,trivial⟩⟩)
  ·refine aA rfl hc_10 (av (ak (ai (aa (vI n_3) ?_))))
   obtain ⟨r_11,hr_12,hF⟩:=bind_some hF
   refine aD (iI hr_12) rfl KZ rfl rfl rfl rfl wz (aa (vB (!r_11)) (ah ?_))
   rcases aj hF with⟨hc_13,hF⟩|⟨hc_13,hF⟩
   ·refine aB rfl hc_13 (ai (aa (vI 0) (aa (vI 1) (ah ?_))))
    obtain rfl:=ae hF
    exact ay (aK [(vI 0),(vI 1)] ⟨rfl,⟨rfl,trivial⟩⟩)
   ·refine aA rfl hc_13 (av (ai (aa (vL Beat.enc l_1) (aa (vS player_2) (aa (vB back_4) ?_)))))
    obtain ⟨r_14,hr_15,hF⟩:=bind_some hF
    refine aD (BV hr_15) rfl hb73 rfl rfl rfl rfl wz (aa (vI n_3) ?_)
    obtain ⟨r_16,hr_17,hF⟩:=bind_some hF
    refine aD (C9 hr_17) rfl hb72 rfl rfl rfl rfl wz (aa (vI r_16.1) (aa (vI r_16.2) (aa (vI r_16.1) (aa (vI r_16.2) (ah ?_)))))
    obtain rfl:=ae hF
    exact ay (aK [(vI r_16.1),(vI r_16.2)] ⟨rfl,⟨rfl,trivial⟩⟩)
theorem D8 {l_1:(List Beat)} {player_2:ByteArray} {clock_3:Int} {r:Int×Int} (hF:qz l_1 player_2 clock_3=some r) :
  FnM Tryz.prog 25 [(vL Beat.enc l_1),(vS player_2),(vI clock_3)] [] (.tup [(vI r.1),(vI r.2)]) []:=by
 refine FnM.of_wH ⟨Tryz.prog,14,[],[]⟩ rfl Tryz.func25 rfl rfl (lb_ rfl) (by kernel_rfl) ?_
 unfold qz at hF
 refine ai (aa (vI 0) (aa (vI 0) (ah (ai (aa (vL Beat.enc l_1) (aa (vS player_2) (aa (vI clock_3) ?_)))))))
 obtain ⟨r_4,hr_5,hF⟩:=bind_some hF
 refine aD (El hr_5) rfl hb48 rfl rfl rfl rfl wz (aa (vI r_4.1) (aa (vI r_4.2) (aa (vI r_4.1) (aa (vI r_4.2) (ah ?_)))))
 obtain rfl:=ae hF
 exact ay (aK [(vI r_4.1),(vI r_4.2)] ⟨rfl,⟨rfl,trivial⟩⟩)
end Go.Proofs.YtekmkepojbhafacGreatDoor.Law

