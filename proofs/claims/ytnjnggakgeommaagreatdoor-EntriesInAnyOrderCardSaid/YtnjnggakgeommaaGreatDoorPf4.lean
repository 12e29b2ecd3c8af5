/-
 The machine computes these plain functions (written by a program of ours).
-/
import Derived.Test.YtnjnggakgeommaaGreatDoorFacts
import Derived.Test.YtnjnggakgeommaaGreatDoorDefs
import Derived.Test.YtnjnggakgeommaaGreatDoorPf3
open Go Go.Eng Go.Proofs
namespace Go.Proofs.YtnjnggakgeommaaGreatDoor.Law
set_option maxRecDepth 100000
set_option linter.unusedVariables false
set_option maxHeartbeats 1000000
theorem rF {wv_1:Window} {r:Int} (hF:iL wv_1=some r) :
  FnM Tryz.prog 101 [(.d (.agg (Window.enc wv_1)))] [] (vI r) []:=by
 refine FnM.of_wH ⟨Tryz.prog,19,[],[]⟩ rfl Tryz.func101 rfl rfl (lb_ rfl) (by kernel_rfl) ?_
 unfold iL at hF
 refine af (aa (gH 0 (.inl rfl) [(vI wv_1.From),(vI wv_1.To)] rfl rfl wz (λn_2=>ae (vI 0) wz rfl (ak (af (af ?_))))))
 obtain ⟨v_3,h_4,hF⟩:=bind_some hF
 refine aH (β:=Unit) (λ_=>([(1,(.ref n_2 0 0)),(12,(vB v_3))]:SL_)) (λ_=>([(n_2,some (.cells 2 [(vI wv_1.From),(vI wv_1.To)]))]:Hp)) (λ_=>True) ?_ ?_
 ·refine aa (aF nu rfl 0 rfl wz (aC 0 0 il ft sz3 ag3 rfl rfl (vI wv_1.From) rfl wz (aF mY rfl 1 rfl wz (aC 0 0 il ft sz3 ag3 rfl rfl (vI wv_1.To) rfl wz ?_))))
  obtain ⟨r_5,hr_6,h_4⟩:=bind_some h_4
  refine aD (bf hr_6) rfl qj rfl rfl rfl rfl wz ?_
  rcases au h_4 with⟨hc_7,h_4⟩|⟨hc_7,h_4⟩
  ·refine ax rfl hc_7 wz (ah wa (ah wa (ah wa (ae (vB true) wz rfl (ak ?_)))))
   obtain rfl:=aj h_4
   exact cu
  ·refine ax rfl hc_7 wz (aF mY rfl 1 rfl wa (aC 0 0 il ft sz3 ag3 rfl rfl (vI wv_1.To) rfl wa (ae (vB (decide (wv_1.To>345686400000))) wa rfl (ae (vB (decide (wv_1.To>345686400000))) wz rfl (ak ?_)))))
   obtain rfl:=aj h_4
   exact cu
 ·rintro ⟨⟩ _ sl_ H_ hp_ hq_
  refine aM _ hp_ hq_ ?_
  rcases au hF with⟨hc_8,hF⟩|⟨hc_8,hF⟩
  ·refine aB rfl hc_8 (af (aa (ae (vI 1) wz rfl (ak ?_))))
   obtain rfl:=aj hF
   exact ay (aO (.inr rfl) [(vI 1)] ⟨rfl,trivial⟩ rfl rfl rfl)
  ·refine aA rfl hc_8 (av (af (af (aa (aF mY rfl 1 rfl wz (aC 0 0 il ft sz3 ag3 rfl rfl (vI wv_1.To) rfl wz (aF nu rfl 0 rfl wz (aC 0 0 il ft sz3 ag3 rfl rfl (vI wv_1.From) rfl wz (ae (vI (w64 (wv_1.To-wv_1.From))) wz rfl (ae (vB (decide ((w64 (wv_1.To-wv_1.From))>34560000000))) wz rfl (ak ?_)))))))))))
   rcases au hF with⟨hc_9,hF⟩|⟨hc_9,hF⟩
   ·refine aB rfl hc_9 (af (aa (ae (vI 2) wz rfl (ak ?_))))
    obtain rfl:=aj hF
    exact ay (aO (.inr rfl) [(vI 2)] ⟨rfl,trivial⟩ rfl rfl rfl)
   ·refine aA rfl hc_9 (av (af (aa (ae (vI 0) wz rfl (ak ?_)))))
    obtain rfl:=aj hF
    exact ay (aO (.inr rfl) [(vI 0)] ⟨rfl,trivial⟩ rfl rfl rfl)
theorem kR {x_1:Int} {r:Bool} (hF:cmp_isNaN_int x_1=some r) :
  FnM Tryz.prog 169 [(vI x_1)] [] (vB r) []:=by
 refine FnM.of_wH ⟨Tryz.prog,6,[],[]⟩ rfl Tryz.func169 rfl rfl (lb_ rfl) (by kernel_rfl) ?_
 unfold cmp_isNaN_int at hF
 refine af (aa (ae (vB false) wz rfl (ak (af (aa (ae (vI x_1) wz rfl (ae (vI x_1) wz rfl (ae (vB (x_1 != x_1)) wz rfl (ae (vB (x_1 != x_1)) wz rfl (ak ?_))))))))))
 obtain rfl:=aj hF
 exact ay (aO (.inr rfl) [(vB (x_1 != x_1))] ⟨rfl,trivial⟩ rfl rfl rfl)
theorem Af {x_1:Int} {y_2:Int} {r:Bool} (hF:cmp_Less_int x_1 y_2=some r) :
  FnM Tryz.prog 233 [(vI x_1),(vI y_2)] [] (vB r) []:=by
 refine FnM.of_wH ⟨Tryz.prog,17,[],[]⟩ rfl Tryz.func233 rfl rfl (lb_ rfl) (by kernel_rfl) ?_
 unfold cmp_Less_int at hF
 refine af (aa (ae (vB false) wz rfl (ak (af ?_))))
 obtain ⟨v_3,h_4,hF⟩:=bind_some hF
 refine aH (β:=Unit) (λ_=>([(4,(vB v_3))]:SL_)) (λ_=>([]:Hp)) (λ_=>True) ?_ ?_
 ·refine aa (ae (vI x_1) wz rfl ?_)
  obtain ⟨r_5,hr_6,h_4⟩:=bind_some h_4
  refine aD (kR hr_6) rfl Im rfl rfl rfl rfl wz ?_
  rcases au h_4 with⟨hc_7,h_4⟩|⟨hc_7,h_4⟩
  ·refine ax rfl hc_7 wz (ae (vI y_2) wa rfl ?_)
   obtain ⟨r_8,hr_9,h_4⟩:=bind_some h_4
   refine aD (kR hr_9) rfl Im rfl rfl rfl rfl wa (ae (vB (!r_8)) wa rfl (ae (vB (!r_8)) wz rfl ?_))
   rcases au h_4 with⟨hc_10,h_4⟩|⟨hc_10,h_4⟩
   ·refine ax rfl hc_10 wz (ah wa (ah wa (ah wa (ae (vB true) wz rfl (ae (vB true) wz rfl (ak ?_))))))
    obtain rfl:=aj h_4
    exact cu
   ·refine ax rfl hc_10 wz (ae (vI x_1) wa rfl (ae (vI y_2) wa rfl (ae (vB (decide (x_1<y_2))) wa rfl (ae (vB (decide (x_1<y_2))) wz rfl (ae (vB (decide (x_1<y_2))) wz rfl (ak ?_))))))
    obtain rfl:=aj h_4
    exact cu
  ·refine ax rfl hc_7 wz (ah wa (ah wa (ah wa (ae (vB false) wz rfl (ae (vB false) wz rfl (ae (vI x_1) wa rfl (ae (vI y_2) wa rfl (ae (vB (decide (x_1<y_2))) wa rfl (ae (vB (decide (x_1<y_2))) wz rfl (ae (vB (decide (x_1<y_2))) wz rfl (ak ?_)))))))))))
   obtain rfl:=aj h_4
   exact cu
 ·rintro ⟨⟩ _ sl_ H_ hp_ hq_
  refine aM _ hp_ hq_ ?_
  obtain rfl:=aj hF
  exact ay (aO (.inr rfl) [(vB v_3)] ⟨rfl,trivial⟩ rfl rfl rfl)
theorem oW {x_1:Int} {r:Bool} (hF:gZ x_1=some r) :
  FnM Tryz.prog 249 [(vI x_1)] [] (vB r) []:=by
 refine FnM.of_wH ⟨Tryz.prog,6,[],[]⟩ rfl Tryz.func249 rfl rfl (lb_ rfl) (by kernel_rfl) ?_
 unfold gZ at hF
 refine af (aa (ae (vB false) wz rfl (ak (af (aa (ae (vI x_1) wz rfl (ae (vI x_1) wz rfl (ae (vB (x_1 != x_1)) wz rfl (ae (vB (x_1 != x_1)) wz rfl (ak ?_))))))))))
 obtain rfl:=aj hF
 exact ay (aO (.inr rfl) [(vB (x_1 != x_1))] ⟨rfl,trivial⟩ rfl rfl rfl)
theorem ny {x_1:(List Int)} {target_2:Int} {r:Int×Bool} (hF:dF x_1 target_2=some r) :
  FnM Tryz.prog 206 [(vL eI x_1),(vI target_2)] [] (.tup [(vI r.1),(vB r.2)]) []:=by
 refine FnM.of_wH ⟨Tryz.prog,54,[],[]⟩ rfl Tryz.func206 rfl rfl (lb_ rfl) (by kernel_rfl) ?_
 unfold dF at hF
 refine af (aa (ae (vI 0) wz rfl (ae (vB false) wz rfl (ak (af (aa (ae (vL eI x_1) wz rfl (bJ qi rfl wz (ae (vI (x_1.length:Int)) wz rfl (ak (af (aa (ae (vI (x_1.length:Int)) wz rfl (ae (vI 0) wz rfl (ae (vI (x_1.length:Int)) wz rfl (ak (af ?_)))))))))))))))))
 obtain ⟨o_11,hj_12,hF⟩:=bind_some hF
 obtain ⟨nq_34,hj_12⟩:=d9 hj_12
 refine aH (β:=(Int×Int)) (λ(s_8:Int×Int)=>([(0,(vL eI x_1)),(1,(vI target_2)),(6,(vI (x_1.length:Int))),(7,(vI s_8.1))]:SL_)) (λ(s_8:Int×Int)=>([]:Hp)) (λp=>o_11 = .go p) ?_ ?_
 ·refine aG (bv (β:=Nat×(Int×Int)) (λp=>(λ(k_3:Nat) (s_8:Int×Int)=>([(0,(vL eI x_1)),(1,(vI target_2)),(6,(vI (x_1.length:Int))),(7,(vI s_8.1)),(8,(vI s_8.2))]:SL_)) p.1 p.2) (λp=>(λ(k_3:Nat) (s_8:Int×Int)=>([]:Hp)) p.1 p.2) (λp=>iterN (λs=>dR x_1 target_2 s) p.1 p.2=some o_11) (λp=>p.1) (nq_34,(0,(x_1.length:Int))) hj_12 rfl (aK rfl) ?_)
  rintro ⟨k_3,s_8⟩ hL_10
  dsimp only at hL_10
  cases k_3 with
  | zero=>cases hL_10
  | succ k_3 =>
   obtain ⟨c_,hc_9,hL_10⟩:=bind_some hL_10
   unfold dR at hc_9
   refine af (af (aa (ae (vI s_8.1) wz rfl (ae (vI s_8.2) wz rfl (ae (vB (decide (s_8.1<s_8.2))) wz rfl (ak ?_))))))
   rcases au hc_9 with⟨hc_13,hc_9⟩|⟨hc_13,hc_9⟩
   ·refine aB rfl hc_13 (av (aG (af (aa (ae (vI s_8.1) wz rfl (ae (vI s_8.2) wz rfl (ae (vI (w64 (s_8.1+s_8.2))) wz rfl (nk un3 KY rfl wz ?_))))))))
    obtain ⟨q_14,hz_15,hc_9⟩:=bind_some hc_9
    refine I4 rfl rfl hz_15 wz (nk KY un3 rfl wz (ae (vI (w64 q_14)) wz rfl (ak (af (aa (ae (vL eI x_1) wz rfl (ae (vI (w64 q_14)) wz rfl ?_)))))))
    obtain ⟨y_16,hy_17,hc_9⟩:=bind_some hc_9
    refine dP kE rfl rfl hy_17 rfl wz (bO sz3 ag3 rfl (vI y_16) rfl wz (ae (vI target_2) wz rfl ?_))
    obtain ⟨r_18,hr_19,hc_9⟩:=bind_some hc_9
    refine aD (Af hr_19) rfl hb233 rfl rfl rfl rfl wz (ak ?_)
    rcases au hc_9 with⟨hc_20,hc_9⟩|⟨hc_20,hc_9⟩
    ·refine aB rfl hc_20 (aa (ae (vI (w64 q_14)) wz rfl (ae (vI (w64 ((w64 q_14)+1))) wz rfl (ae (vI (w64 ((w64 q_14)+1))) wz rfl (ak ?_)))))
     obtain rfl:=aj hc_9
     exact aY (k_3,((w64 ((w64 q_14)+1)),s_8.2)) hL_10 (ls_ _) rfl (aK rfl)
    ·refine aA rfl hc_20 (aa (ae (vI (w64 q_14)) wz rfl (ae (vI (w64 q_14)) wz rfl (ak ?_))))
     obtain rfl:=aj hc_9
     exact aY (k_3,(s_8.1,(w64 q_14))) hL_10 (ls_ _) rfl (aK rfl)
   ·refine aA rfl hc_13 (aX ?_)
    obtain rfl:=aj hc_9
    obtain rfl:=aj hL_10
    exact aS ((s_8.1,s_8.2)) rfl rfl (aK rfl)
 ·rintro s_8 ho_ sl_ H_ hp_ hq_
  subst ho_
  refine aM _ hp_ hq_ (af ?_)
  obtain ⟨v_21,h_22,hF⟩:=bind_some hF
  refine aH (β:=Unit) (λ_=>([(4,(vI s_8.1)),(5,(vB v_21))]:SL_)) (λ_=>([]:Hp)) (λ_=>True) ?_ ?_
  ·refine aa (ae (vI s_8.1) wz rfl (ae (vI s_8.1) wz rfl (ae (vI (x_1.length:Int)) wz rfl (ae (vB (decide (s_8.1<(x_1.length:Int)))) wz rfl ?_))))
   rcases au h_22 with⟨hc_23,h_22⟩|⟨hc_23,h_22⟩
   ·refine ax rfl hc_23 wz (ae (vL eI x_1) wa rfl (ae (vI s_8.1) wa rfl ?_))
    obtain ⟨y_24,hy_25,h_22⟩:=bind_some h_22
    refine dP kE rfl rfl hy_25 rfl wa (bO sz3 ag3 rfl (vI y_24) rfl wa (ae (vI target_2) wa rfl (ae (vB (y_24==target_2)) wa rfl ?_)))
    rcases au h_22 with⟨hc_26,h_22⟩|⟨hc_26,h_22⟩
    ·refine ax rfl hc_26 wa (ah wa (ah wa (ah wa (ah wa (ah wa (ah wa (ah (wn rfl rfl) (ah (wn rfl rfl) (ah wa (ae (vB true) wa rfl (ae (vB true) wz rfl (ae (vI s_8.1) wz rfl (ae (vB true) wz rfl (ak ?_))))))))))))))
     obtain rfl:=aj h_22
     exact cu
    ·refine ax rfl hc_26 wa (ae (vL eI x_1) wa rfl (ae (vI s_8.1) wa rfl ?_))
     obtain ⟨y_27,hy_28,h_22⟩:=bind_some h_22
     refine dP kE rfl rfl hy_28 rfl wa (bO sz3 ag3 rfl (vI y_27) rfl wa ?_)
     obtain ⟨r_29,hr_30,h_22⟩:=bind_some h_22
     refine aD (oW hr_30) rfl hb249 rfl rfl rfl rfl wa ?_
     rcases au h_22 with⟨hc_31,h_22⟩|⟨hc_31,h_22⟩
     ·refine ax rfl hc_31 wa (ae (vI target_2) wa rfl ?_)
      obtain ⟨r_32,hr_33,h_22⟩:=bind_some h_22
      refine aD (oW hr_33) rfl hb249 rfl rfl rfl rfl wa (ae (vB r_32) wa rfl (ae (vB r_32) wa rfl (ae (vB r_32) wz rfl (ae (vI s_8.1) wz rfl (ae (vB r_32) wz rfl (ak ?_))))))
      obtain rfl:=aj h_22
      exact cu
     ·refine ax rfl hc_31 wa (ah wa (ah wa (ae (vB false) wa rfl (ae (vB false) wa rfl (ae (vB false) wz rfl (ae (vI s_8.1) wz rfl (ae (vB false) wz rfl (ak ?_))))))))
      obtain rfl:=aj h_22
      exact cu
   ·refine ax rfl hc_23 wz (ah wa (ah wa (ah wa (ah wa (ah wa (ah wa (ah wa (ah (wn rfl rfl) (ah (wn rfl rfl) (ah (wn rfl rfl) (ah (wn rfl rfl) (ah (wn rfl rfl) (ah (wn rfl rfl) (ah (wn rfl rfl) (ah (wn rfl rfl) (ah (wn rfl rfl) (ah wa (ae (vB false) wz rfl (ae (vI s_8.1) wz rfl (ae (vB false) wz rfl (ak ?_)))))))))))))))))))))
    obtain rfl:=aj h_22
    exact cu
  ·rintro ⟨⟩ _ sl_ H_ hp_ hq_
   refine aM _ hp_ hq_ ?_
   obtain rfl:=aj hF
   exact ay (aO (.inr rfl) [(vI s_8.1),(vB v_21)] ⟨rfl,⟨rfl,trivial⟩⟩ rfl rfl rfl)
theorem yl {e_1:Entry} {d_2:Int} {r:Bool} (hF:jU e_1 d_2=some r) :
  FnM Tryz.prog 152 [(.d (.agg (Entry.enc e_1))),(vI d_2)] [] (vB r) []:=by
 refine FnM.of_wH ⟨Tryz.prog,41,[],[]⟩ rfl Tryz.func152 rfl rfl (lb_ rfl) (by kernel_rfl) ?_
 unfold jU at hF
 refine af (aa (gH 0 (.inl rfl) [(vS e_1.Key),(vS e_1.Item),(vI e_1.Version),(vI e_1.First),(vI e_1.Last),(vI e_1.Every),(vI e_1.Days),(vL eI e_1.Except),(vI e_1.From),(vI e_1.To),(vI e_1.Prio),(vL eS e_1.Tags),(vB e_1.Gone)] rfl rfl wz (λn_3=>ae (vB false) wz rfl (ak (af (af ?_))))))
 obtain ⟨v_4,h_5,hF⟩:=bind_some hF
 refine aH (β:=Unit) (λ_=>([(1,(vI d_2)),(2,(.ref n_3 0 0)),(31,(vB v_4))]:SL_)) (λ_=>([(n_3,some (.cells 13 [(vS e_1.Key),(vS e_1.Item),(vI e_1.Version),(vI e_1.First),(vI e_1.Last),(vI e_1.Every),(vI e_1.Days),(vL eI e_1.Except),(vI e_1.From),(vI e_1.To),(vI e_1.Prio),(vL eS e_1.Tags),(vB e_1.Gone)]))]:Hp)) (λ_=>True) ?_ ?_
 ·refine bG (ae (vI d_2) wz rfl (aF uV rfl 3 rfl wz (aC 2 0 (.inr (by kernel_rfl)) (λ_ _ ag=>trivial) sz3 ag3 rfl rfl (vI e_1.First) rfl wz (aF ve rfl 4 rfl wz (aC 4 0 (.inr (by kernel_rfl)) (λ_ _ ag=>⟨.inl ⟨rfl,rfl⟩,trivial⟩) sz3 ag3 rfl rfl (vI e_1.Last) rfl wz ?_)))))
  obtain ⟨r_6,hr_7,h_5⟩:=bind_some h_5
  refine aD (bf hr_7) rfl qj rfl rfl rfl rfl wz ?_
  rcases au h_5 with⟨hc_8,h_5⟩|⟨hc_8,h_5⟩
  ·refine ax rfl hc_8 wz (ah wa (ah wa (ah wa (ah wa (ah wa (ah wa (ah wa (ah wa (ae (vB true) wz rfl (ae (vB true) wz rfl (ah wa (ah wa (ah wa (ah wa (ah wa (ah wa (ah wa (ae (vB true) wz rfl (ak ?_)))))))))))))))))))
   obtain rfl:=aj h_5
   exact cu
  ·refine ax rfl hc_8 wz (ae (vI d_2) wa rfl (aF uV rfl 3 rfl wa (aC 9 0 (.inr (by kernel_rfl)) (λ_ _ ag=>⟨.inl ⟨rfl,rfl⟩,⟨.inl ⟨rfl,rfl⟩,trivial⟩⟩) sz3 ag3 rfl rfl (vI e_1.First) rfl wa (ae (vI (w64 (d_2-e_1.First))) wa rfl (aF Bq rfl 5 rfl wa (aC 12 0 (.inr (by kernel_rfl)) (λ_ _ ag=>⟨.inl ⟨rfl,rfl⟩,⟨.inl ⟨rfl,rfl⟩,⟨.inl ⟨rfl,rfl⟩,trivial⟩⟩⟩) sz3 ag3 rfl rfl (vI e_1.Every) rfl wa ?_))))))
   obtain ⟨q_9,hz_10,h_5⟩:=bind_some h_5
   refine K5 rfl rfl hz_10 wa (ae (vB (q_9 != 0)) wa rfl (ae (vB (q_9 != 0)) wz rfl ?_))
   rcases au h_5 with⟨hc_11,h_5⟩|⟨hc_11,h_5⟩
   ·refine ax rfl hc_11 wz (ah wa (ah wa (ah wa (ah wa (ah wa (ah wa (ah wa (ae (vB true) wz rfl (ak ?_)))))))))
    obtain rfl:=aj h_5
    exact cu
   ·refine ax rfl hc_11 wz (aF BC rfl 6 rfl wa (aC 18 0 (.inr (by kernel_rfl)) (λ_ _ ag=>⟨.inl ⟨rfl,rfl⟩,⟨.inl ⟨rfl,rfl⟩,⟨.inl ⟨rfl,rfl⟩,⟨.inl ⟨rfl,rfl⟩,trivial⟩⟩⟩⟩) sz3 ag3 rfl rfl (vI e_1.Days) rfl wa (ae (vI d_2) wa rfl (ae (vI (d_2.tmod 7)) wa rfl ?_))))
    obtain ⟨q_12,hz_13,h_5⟩:=bind_some h_5
    refine zV rfl rfl hz_13 wa (ae (vI (tu .i64 e_1.Days q_12)) wa rfl (ae (vB ((tu .i64 e_1.Days q_12)==0)) wa rfl (ae (vB ((tu .i64 e_1.Days q_12)==0)) wz rfl (ak ?_))))
    obtain rfl:=aj h_5
    exact cu
 ·rintro ⟨⟩ _ sl_ H_ hp_ hq_
  refine aM _ hp_ hq_ ?_
  rcases au hF with⟨hc_14,hF⟩|⟨hc_14,hF⟩
  ·refine aB rfl hc_14 (af (aa (ae (vB false) wz rfl (ak ?_))))
   obtain rfl:=aj hF
   exact ay (aO (.inr rfl) [(vB false)] ⟨rfl,trivial⟩ rfl rfl rfl)
  ·refine aA rfl hc_14 (av (af (aa (aF mZ rfl 7 rfl wz (aC 0 0 il ft u6 zx rfl rfl (vL eI e_1.Except) rfl wz (ae (vI d_2) wz rfl ?_))))))
   obtain ⟨r_15,hr_16,hF⟩:=bind_some hF
   refine aD (ny hr_16) rfl hb206 rfl rfl rfl rfl wz (ae (.tup [(vI r_15.1),(vB r_15.2)]) wz rfl (ae (vI r_15.1) wz rfl (ae (vB r_15.2) wz rfl (ae (vI r_15.1) wz rfl (ae (vB r_15.2) wz rfl (ak (af (aa (ae (vB r_15.2) wz rfl (ae (vB (!r_15.2)) wz rfl (ae (vB (!r_15.2)) wz rfl (ak ?_))))))))))))
   obtain rfl:=aj hF
   exact ay (aO (.inr rfl) [(vB (!r_15.2))] ⟨rfl,trivial⟩ rfl rfl rfl)
theorem wW {e_1:Entry} {zone_2:Int} {d_3:Int} {r:Window} (hF:lG e_1 zone_2 d_3=some r) :
  FnM Tryz.prog 153 [(.d (.agg (Entry.enc e_1))),(vI zone_2),(vI d_3)] [] (.d (.agg (Window.enc r))) []:=by
 refine FnM.of_wH ⟨Tryz.prog,32,[],[]⟩ rfl Tryz.func153 rfl rfl (lb_ rfl) (by kernel_rfl) ?_
 unfold lG at hF
 refine af (aa (gH 0 (.inl rfl) [(vS e_1.Key),(vS e_1.Item),(vI e_1.Version),(vI e_1.First),(vI e_1.Last),(vI e_1.Every),(vI e_1.Days),(vL eI e_1.Except),(vI e_1.From),(vI e_1.To),(vI e_1.Prio),(vL eS e_1.Tags),(vB e_1.Gone)] rfl rfl wz (λn_4=>dA 0 (.inl rfl) z49 rfl wz (λn_5=>ak (af (aa (aF Bp rfl 9 rfl wz (aC 0 0 il ft sz3 ag3 rfl rfl (vI e_1.To) rfl wz (aF y9 rfl 8 rfl wz (aC 0 0 il ft sz3 ag3 rfl rfl (vI e_1.From) rfl wz (ae (vI (w64 (e_1.To-e_1.From))) wz rfl (ae (vI (w64 (e_1.To-e_1.From))) wz rfl (ak (af (af (aa (ae (vI (w64 (e_1.To-e_1.From))) wz rfl (ae (vB (decide ((w64 (e_1.To-e_1.From))<=0))) wz rfl (ak ?_)))))))))))))))))))
 obtain ⟨v_6,h_7,hF⟩:=bind_some hF
 refine aH (β:=Unit) (λ_=>([(1,(vI zone_2)),(2,(vI d_3)),(3,(.ref n_4 0 0)),(6,(.ref n_5 0 0)),(7,(vI v_6))]:SL_)) (λ_=>([(n_4,some (.cells 13 [(vS e_1.Key),(vS e_1.Item),(vI e_1.Version),(vI e_1.First),(vI e_1.Last),(vI e_1.Every),(vI e_1.Days),(vL eI e_1.Except),(vI e_1.From),(vI e_1.To),(vI e_1.Prio),(vL eS e_1.Tags),(vB e_1.Gone)])),(n_5,some (.cells 2 [(vI 0),(vI 0)]))]:Hp)) (λ_=>True) ?_ ?_
 ·rcases au h_7 with⟨hc_8,h_7⟩|⟨hc_8,h_7⟩
  ·refine aB rfl hc_8 (aa (ae (vI (w64 (e_1.To-e_1.From))) wz rfl (ae (vI (w64 ((w64 (e_1.To-e_1.From))+1440))) wz rfl (ae (vI (w64 ((w64 (e_1.To-e_1.From))+1440))) wz rfl (ak ?_)))))
   obtain rfl:=aj h_7
   exact cu
  ·refine aA rfl hc_8 (av ?_)
   obtain rfl:=aj h_7
   exact cu
 ·rintro ⟨⟩ _ sl_ H_ hp_ hq_
  refine aM _ hp_ hq_ (af (aa (ae (vI d_3) wz rfl (ae (vI (w64 (d_3*1440))) wz rfl (aF y9 rfl 8 rfl wz (aC 0 0 il ft sz3 ag3 rfl rfl (vI e_1.From) rfl wz (ae (vI (w64 ((w64 (d_3*1440))+e_1.From))) wz rfl (ae (vI zone_2) wz rfl (ae (vI (w64 ((w64 ((w64 (d_3*1440))+e_1.From))-zone_2))) wz rfl (ae (vI (w64 ((w64 ((w64 ((w64 (d_3*1440))+e_1.From))-zone_2))*60000))) wz rfl (ae (vI (w64 ((w64 ((w64 ((w64 (d_3*1440))+e_1.From))-zone_2))*60000))) wz rfl (ak (af (aa (ae (vI (w64 ((w64 ((w64 ((w64 (d_3*1440))+e_1.From))-zone_2))*60000))) wz rfl (ae (vI (w64 ((w64 ((w64 ((w64 (d_3*1440))+e_1.From))-zone_2))*60000))) wz rfl (ae (vI v_6) wz rfl (ae (vI (w64 (v_6*60000))) wz rfl (ae (vI (w64 ((w64 ((w64 ((w64 ((w64 (d_3*1440))+e_1.From))-zone_2))*60000))+(w64 (v_6*60000))))) wz rfl (ae (.d (.agg (Window.enc (⟨(w64 ((w64 ((w64 ((w64 (d_3*1440))+e_1.From))-zone_2))*60000)),(w64 ((w64 ((w64 ((w64 ((w64 (d_3*1440))+e_1.From))-zone_2))*60000))+(w64 (v_6*60000))))⟩:Window)))) wz (by kernel_rfl) (dX 0 il ft 1 xn rfl rfl [(vI (w64 ((w64 ((w64 ((w64 (d_3*1440))+e_1.From))-zone_2))*60000))),(vI (w64 ((w64 ((w64 ((w64 ((w64 (d_3*1440))+e_1.From))-zone_2))*60000))+(w64 (v_6*60000)))))] rfl wz (ak ?_))))))))))))))))))))))
  obtain rfl:=aj hF
  exact ay (aO (.inr rfl) [(.d (.agg (Window.enc (⟨(w64 ((w64 ((w64 ((w64 (d_3*1440))+e_1.From))-zone_2))*60000)),(w64 ((w64 ((w64 ((w64 ((w64 (d_3*1440))+e_1.From))-zone_2))*60000))+(w64 (v_6*60000))))⟩:Window))))] ⟨⟨1,_,_,_,_,_,_,_,rfl,rfl,xn,D9,rfl⟩,trivial⟩ rfl rfl rfl)
theorem Ai {t_1:Window} {wv_2:Window} {r:Window} (hF:tN t_1 wv_2=some r) :
  FnM Tryz.prog 103 [(.d (.agg (Window.enc t_1))),(.d (.agg (Window.enc wv_2)))] [] (.d (.agg (Window.enc r))) []:=by
 refine FnM.of_wH ⟨Tryz.prog,16,[],[]⟩ rfl Tryz.func103 rfl rfl (lb_ rfl) (by kernel_rfl) ?_
 unfold tN at hF
 refine af (aa (gH 0 (.inl rfl) [(vI t_1.From),(vI t_1.To)] rfl rfl wz (λn_3=>gH 0 (.inl rfl) [(vI wv_2.From),(vI wv_2.To)] rfl rfl wz (λn_4=>dA 0 (.inl rfl) z49 rfl wz (λn_5=>ak (af (aa (aF nu rfl 0 rfl wz (aC 0 0 il ft sz3 ag3 rfl rfl (vI t_1.From) rfl wz (aF nu rfl 0 rfl wz (aC 0 1 il ft sz3 ag3 rfl rfl (vI wv_2.From) rfl wz (rY (vI (rV t_1.From wv_2.From)) rfl (.inr rfl) wz (aF mY rfl 1 rfl wz (aC 0 0 il ft sz3 ag3 rfl rfl (vI t_1.To) rfl wz (aF mY rfl 1 rfl wz (aC 0 1 il ft sz3 ag3 rfl rfl (vI wv_2.To) rfl wz (rY (vI (D8 t_1.To wv_2.To)) rfl (.inl rfl) wz (ae (.d (.agg (Window.enc (⟨(rV t_1.From wv_2.From),(D8 t_1.To wv_2.To)⟩:Window)))) wz (by kernel_rfl) (dX 0 il ft 2 xn rfl rfl [(vI (rV t_1.From wv_2.From)),(vI (D8 t_1.To wv_2.To))] rfl wz (ak ?_))))))))))))))))))))
 obtain rfl:=aj hF
 exact ay (aO (.inr rfl) [(.d (.agg (Window.enc (⟨(rV t_1.From wv_2.From),(D8 t_1.To wv_2.To)⟩:Window))))] ⟨⟨2,_,_,_,_,_,_,_,rfl,rfl,xn,D9,rfl⟩,trivial⟩ rfl rfl rfl)
theorem xx {e_1:Entry} {zone_2:Int} {wv_3:Window} {r:(List Window)} (hF:jZ e_1 zone_2 wv_3=some r) :
  FnM Tryz.prog 102 [(.d (.agg (Entry.enc e_1))),(vI zone_2),(.d (.agg (Window.enc wv_3)))] [] (gV (aJ 0) 2 r) (([]:List Box).map some++gO 2 Window.enc r):=by
 refine FnM.of_wH ⟨Tryz.prog,72,[],[]⟩ rfl Tryz.func102 rfl rfl (lb_ rfl) (by kernel_rfl) ?_
 unfold jZ at hF
 refine af (aa (gH 0 (.inl rfl) [(vS e_1.Key),(vS e_1.Item),(vI e_1.Version),(vI e_1.First),(vI e_1.Last),(vI e_1.Every),(vI e_1.Days),(vL eI e_1.Except),(vI e_1.From),(vI e_1.To),(vI e_1.Prio),(vL eS e_1.Tags),(vB e_1.Gone)] rfl rfl wz (λn_4=>gH 0 (.inl rfl) [(vI wv_3.From),(vI wv_3.To)] rfl rfl wz (λn_5=>ae .nil wz rfl (ak (af (aa (ae .nil wz rfl (ak (af (af ?_)))))))))))
 obtain ⟨v_6,h_7,hF⟩:=bind_some hF
 refine aH (β:=Unit) (λ_=>([(1,(vI zone_2)),(3,(.ref n_4 0 0)),(5,(.ref n_5 0 0)),(7,.nil),(20,(vB v_6))]:SL_)) (λ_=>([(n_4,some (.cells 13 [(vS e_1.Key),(vS e_1.Item),(vI e_1.Version),(vI e_1.First),(vI e_1.Last),(vI e_1.Every),(vI e_1.Days),(vL eI e_1.Except),(vI e_1.From),(vI e_1.To),(vI e_1.Prio),(vL eS e_1.Tags),(vB e_1.Gone)])),(n_5,some (.cells 2 [(vI wv_3.From),(vI wv_3.To)]))]:Hp)) (λ_=>True) ?_ ?_
 ·refine aa (aF Ay rfl 12 rfl wz (aC 0 0 il ft sz4 ag4 rfl rfl (vB e_1.Gone) rfl wz ?_))
  rcases au h_7 with⟨hc_8,h_7⟩|⟨hc_8,h_7⟩
  ·refine ax rfl hc_8 wz (ah wa (ah wa (ah wa (ah wa (ah wa (ae (vB true) wz rfl (ak ?_)))))))
   obtain rfl:=aj h_7
   exact cu
  ·refine ax rfl hc_8 wz (aF nu rfl 0 rfl wa (aC 0 1 il ft sz3 ag3 rfl rfl (vI wv_3.From) rfl wa (aF mY rfl 1 rfl wa (aC 0 1 il ft sz3 ag3 rfl rfl (vI wv_3.To) rfl wa (ae (vB (decide (wv_3.From>=wv_3.To))) wa rfl (ae (vB (decide (wv_3.From>=wv_3.To))) wz rfl (ak ?_)))))))
   obtain rfl:=aj h_7
   exact cu
 ·rintro ⟨⟩ _ sl_ H_ hp_ hq_
  refine aM _ hp_ hq_ ?_
  rcases au hF with⟨hc_9,hF⟩|⟨hc_9,hF⟩
  ·refine aB rfl hc_9 (af (aa (ae .nil wz rfl (ak (kZ (λn_10 => ?_))))))
   obtain rfl:=aj hF
   exact ay (finG (outs:=([]:List Box)) (.inr rfl) 2 rfl rfl rfl (by kernel_rfl) (by kernel_rfl))
  ·refine aA rfl hc_9 (av (af (aa (aF nu rfl 0 rfl wz (aC 0 1 il ft sz3 ag3 rfl rfl (vI wv_3.From) rfl wz (ae (vI zone_2) wz rfl (ae (vI (w64 (zone_2*60000))) wz rfl (ae (vI (w64 (wv_3.From+(w64 (zone_2*60000))))) wz rfl (ae (vI (w64 ((w64 (wv_3.From+(w64 (zone_2*60000)))).tdiv 86400000))) wz rfl (ae (vI (w64 ((w64 ((w64 (wv_3.From+(w64 (zone_2*60000)))).tdiv 86400000))-2))) wz rfl (ae (vI (w64 ((w64 ((w64 (wv_3.From+(w64 (zone_2*60000)))).tdiv 86400000))-2))) wz rfl (ak (af (aa (aF mY rfl 1 rfl wz (aC 0 1 il ft sz3 ag3 rfl rfl (vI wv_3.To) rfl wz (ae (vI zone_2) wz rfl (ae (vI (w64 (zone_2*60000))) wz rfl (ae (vI (w64 (wv_3.To+(w64 (zone_2*60000))))) wz rfl (ae (vI (w64 ((w64 (wv_3.To+(w64 (zone_2*60000)))).tdiv 86400000))) wz rfl (ae (vI (w64 ((w64 ((w64 (wv_3.To+(w64 (zone_2*60000)))).tdiv 86400000))+1))) wz rfl (ae (vI (w64 ((w64 ((w64 (wv_3.To+(w64 (zone_2*60000)))).tdiv 86400000))+1))) wz rfl (ak ?_)))))))))))))))))))))))
   refine af (af (aa (ae (vI (w64 ((w64 ((w64 (wv_3.From+(w64 (zone_2*60000)))).tdiv 86400000))-2))) wz rfl (aF uV rfl 3 rfl wz (aC 0 0 il ft sz3 ag3 rfl rfl (vI e_1.First) rfl wz (rY (vI (rV (w64 ((w64 ((w64 (wv_3.From+(w64 (zone_2*60000)))).tdiv 86400000))-2)) e_1.First)) rfl (.inr rfl) wz (ae (vI (rV (w64 ((w64 ((w64 (wv_3.From+(w64 (zone_2*60000)))).tdiv 86400000))-2)) e_1.First)) wz rfl (ak (kZ (λn_17 => ?_))))))))))
   obtain ⟨o_22,hj_23,hF⟩:=bind_some hF
   obtain ⟨nq_41,hj_23⟩:=d9 hj_23
   refine aH (β:=((List Window)×Int)×Nm) (λp=>(λ(s_16:(List Window)×Int) (n_19:Nm)=>([(7,(gV n_19 2 s_16.1))]:SL_)) p.1 p.2) (λp=>(λ(s_16:(List Window)×Int) (n_19:Nm)=>([(n_4,some (.cells 13 [(vS e_1.Key),(vS e_1.Item),(vI e_1.Version),(vI e_1.First),(vI e_1.Last),(vI e_1.Every),(vI e_1.Days),(vL eI e_1.Except),(vI e_1.From),(vI e_1.To),(vI e_1.Prio),(vL eS e_1.Tags),(vB e_1.Gone)])),(n_5,some (.cells 2 [(vI wv_3.From),(vI wv_3.To)])),(n_19,gB 2 Window.enc s_16.1)]:Hp)) p.1 p.2) (λp=>o_22 = .go p.1) ?_ ?_
   ·refine aG (bv (β:=Nat×((List Window)×Int)×Nm) (λp=>(λ(k_11:Nat) (s_16:(List Window)×Int) (n_19:Nm)=>([(1,(vI zone_2)),(3,(.ref n_4 0 0)),(5,(.ref n_5 0 0)),(7,(gV n_19 2 s_16.1)),(9,(vI (w64 ((w64 ((w64 (wv_3.To+(w64 (zone_2*60000)))).tdiv 86400000))+1)))),(10,(vI s_16.2))]:SL_)) p.1 p.2.1 p.2.2) (λp=>(λ(k_11:Nat) (s_16:(List Window)×Int) (n_19:Nm)=>([(n_4,some (.cells 13 [(vS e_1.Key),(vS e_1.Item),(vI e_1.Version),(vI e_1.First),(vI e_1.Last),(vI e_1.Every),(vI e_1.Days),(vL eI e_1.Except),(vI e_1.From),(vI e_1.To),(vI e_1.Prio),(vL eS e_1.Tags),(vB e_1.Gone)])),(n_5,some (.cells 2 [(vI wv_3.From),(vI wv_3.To)])),(n_19,gB 2 Window.enc s_16.1)]:Hp)) p.1 p.2.1 p.2.2) (λp=>iterN (λs=>iO wv_3 zone_2 e_1 s) p.1 p.2.1=some o_22) (λp=>p.1) (nq_41,(([]:List Window),(rV (w64 ((w64 ((w64 (wv_3.From+(w64 (zone_2*60000)))).tdiv 86400000))-2)) e_1.First)),n_17) hj_23 rfl (aK rfl) ?_)
    rintro ⟨k_11,s_16,n_19⟩ hL_21
    dsimp only at hL_21
    cases k_11 with
    | zero=>cases hL_21
    | succ k_11 =>
     obtain ⟨c_,hc_20,hL_21⟩:=bind_some hL_21
     unfold iO at hc_20
     refine af (af (aa (ae (vI s_16.2) wz rfl (ae (vI (w64 ((w64 ((w64 (wv_3.To+(w64 (zone_2*60000)))).tdiv 86400000))+1))) wz rfl (aF ve rfl 4 rfl wz (aC 0 0 il ft sz3 ag3 rfl rfl (vI e_1.Last) rfl wz (rY (vI (D8 (w64 ((w64 ((w64 (wv_3.To+(w64 (zone_2*60000)))).tdiv 86400000))+1)) e_1.Last)) rfl (.inl rfl) wz (ae (vB (decide (s_16.2<=(D8 (w64 ((w64 ((w64 (wv_3.To+(w64 (zone_2*60000)))).tdiv 86400000))+1)) e_1.Last)))) wz rfl (ak ?_)))))))))
     rcases au hc_20 with⟨hc_24,hc_20⟩|⟨hc_24,hc_20⟩
     ·refine aB rfl hc_24 (av (af (aG (af (af (aa (aC 0 0 il ft iX pu rfl rfl (.d (.agg (Entry.enc e_1))) rfl wz (ae (vI s_16.2) wz rfl ?_))))))))
      obtain ⟨r_25,hr_26,hc_20⟩:=bind_some hc_20
      refine aD (yl hr_26) rfl hb152 rfl rfl rfl rfl wz (ae (vB (!r_25)) wz rfl (ak ?_))
      rcases au hc_20 with⟨hc_27,hc_20⟩|⟨hc_27,hc_20⟩
      ·refine aB rfl hc_27 (aX (aa (ae (vI s_16.2) wz rfl (ae (vI (w64 (s_16.2+1))) wz rfl (ae (vI (w64 (s_16.2+1))) wz rfl (ak ?_))))))
       obtain rfl:=aj hc_20
       exact aY (k_11,(s_16.1,(w64 (s_16.2+1))),n_19) hL_21 (ls_ _) rfl (aK rfl)
      ·refine aA rfl hc_27 (av (af (aa (aC 0 0 il ft iX pu rfl rfl (.d (.agg (Entry.enc e_1))) rfl wz (ae (vI zone_2) wz rfl (ae (vI s_16.2) wz rfl ?_))))))
       obtain ⟨r_28,hr_29,hc_20⟩:=bind_some hc_20
       refine aD (wW hr_29) rfl hb153 rfl rfl rfl rfl wz (dA 0 (.inl rfl) z49 rfl wz (λn_30=>dX 0 il ft 3 xn rfl rfl [(vI r_28.From),(vI r_28.To)] rfl wz (ak (af ?_))))
       obtain ⟨v_31,h_32,hc_20⟩:=bind_some hc_20
       refine aH (β:=Unit) (λ_=>([(1,(vI zone_2)),(3,(.ref n_4 0 0)),(5,(.ref n_5 0 0)),(7,(gV n_19 2 s_16.1)),(9,(vI (w64 ((w64 ((w64 (wv_3.To+(w64 (zone_2*60000)))).tdiv 86400000))+1)))),(10,(vI s_16.2)),(11,(.ref n_30 0 0)),(66,(vB v_31))]:SL_)) (λ_=>([(n_4,some (.cells 13 [(vS e_1.Key),(vS e_1.Item),(vI e_1.Version),(vI e_1.First),(vI e_1.Last),(vI e_1.Every),(vI e_1.Days),(vL eI e_1.Except),(vI e_1.From),(vI e_1.To),(vI e_1.Prio),(vL eS e_1.Tags),(vB e_1.Gone)])),(n_5,some (.cells 2 [(vI wv_3.From),(vI wv_3.To)])),(n_19,gB 2 Window.enc s_16.1),(n_30,some (.cells 2 [(vI r_28.From),(vI r_28.To)]))]:Hp)) (λ_=>True) ?_ ?_
       ·refine aa (aF nu rfl 0 rfl wz (aC 0 3 il ft sz3 ag3 rfl rfl (vI r_28.From) rfl wz (aF mY rfl 1 rfl wz (aC 0 1 il ft sz3 ag3 rfl rfl (vI wv_3.To) rfl wz (ae (vB (decide (r_28.From<wv_3.To))) wz rfl ?_)))))
        rcases au h_32 with⟨hc_33,h_32⟩|⟨hc_33,h_32⟩
        ·refine ax rfl hc_33 wz (aF mY rfl 1 rfl wa (aC 0 3 il ft sz3 ag3 rfl rfl (vI r_28.To) rfl wa (aF nu rfl 0 rfl wa (aC 0 1 il ft sz3 ag3 rfl rfl (vI wv_3.From) rfl wa (ae (vB (decide (r_28.To>wv_3.From))) wa rfl (ae (vB (decide (r_28.To>wv_3.From))) wz rfl (ak ?_)))))))
         obtain rfl:=aj h_32
         exact cu
        ·refine ax rfl hc_33 wz (ah wa (ah wa (ah wa (ah wa (ah wa (ae (vB false) wz rfl (ak ?_)))))))
         obtain rfl:=aj h_32
         exact cu
       ·rintro ⟨⟩ _ sl_ H_ hp_ hq_
        refine aM _ hp_ hq_ ?_
        obtain ⟨v_34,h_35,hc_20⟩:=bind_some hc_20
        refine aH (β:=Nm) (λ(n_36:Nm)=>([(1,(vI zone_2)),(3,(.ref n_4 0 0)),(5,(.ref n_5 0 0)),(7,(gV n_36 2 v_34)),(9,(vI (w64 ((w64 ((w64 (wv_3.To+(w64 (zone_2*60000)))).tdiv 86400000))+1)))),(10,(vI s_16.2))]:SL_)) (λ(n_36:Nm)=>([(n_4,some (.cells 13 [(vS e_1.Key),(vS e_1.Item),(vI e_1.Version),(vI e_1.First),(vI e_1.Last),(vI e_1.Every),(vI e_1.Days),(vL eI e_1.Except),(vI e_1.From),(vI e_1.To),(vI e_1.Prio),(vL eS e_1.Tags),(vB e_1.Gone)])),(n_5,some (.cells 2 [(vI wv_3.From),(vI wv_3.To)])),(n_36,gB 2 Window.enc v_34),(n_30,some (.cells 2 [(vI r_28.From),(vI r_28.To)]))]:Hp)) (λ_=>True) ?_ ?_
        ·rcases au h_35 with⟨hc_37,h_35⟩|⟨hc_37,h_35⟩
         ·refine aB rfl hc_37 (aa (ae (gV n_19 2 s_16.1) wz rfl (aC 0 3 il ft xn D9 rfl rfl (.d (.agg (Window.enc r_28))) rfl wz (eO (([r_28]:List Window).map Window.enc) es56 ez56 rfl rfl rfl rfl rfl wz ?_))))
          obtain ⟨a_38,hz_39,h_35⟩:=bind_some h_35
          refine jH 0 il ft (i:=2) el56 el56 xn z49 rfl (by decide) by49 (by decide) (λ_=>rfl) rfl rfl rfl hz_39 wz (λn_40=>ae (gV n_40 2 a_38) wz rfl (ak ?_))
          obtain rfl:=aj h_35
          exact aS n_40 trivial rfl (aK rfl)
         ·refine aA rfl hc_37 (av ?_)
          obtain rfl:=aj h_35
          exact aS n_19 trivial rfl (aK rfl)
        ·rintro n_36 _ sl_ H_ hp_ hq_
         refine aM _ hp_ hq_ (aa (ae (vI s_16.2) wz rfl (ae (vI (w64 (s_16.2+1))) wz rfl (ae (vI (w64 (s_16.2+1))) wz rfl (ak ?_)))))
         obtain rfl:=aj hc_20
         exact aY (k_11,(v_34,(w64 (s_16.2+1))),n_36) hL_21 (ls_ _) rfl (aK rfl)
     ·refine aA rfl hc_24 (aX ?_)
      obtain rfl:=aj hc_20
      obtain rfl:=aj hL_21
      exact aS ((s_16.1,s_16.2),n_19) rfl rfl (aK rfl)
   ·rintro ⟨s_16,n_19⟩ ho_ sl_ H_ hp_ hq_
    subst ho_
    refine aM _ hp_ hq_ (af (aa (ae (gV n_19 2 s_16.1) wz rfl (ae (gV n_19 2 s_16.1) wz rfl (ak ?_)))))
    obtain rfl:=aj hF
    exact ay (finG (outs:=([]:List Box)) (.inr rfl) 2 rfl rfl rfl (by kernel_rfl) (by kernel_rfl))
theorem yh {e_1:Entry} {zone_2:Int} {wv_3:Window} {r:(List Window)×Int} (hF:j5 e_1 zone_2 wv_3=some r) :
  FnM Tryz.prog 64 [(.d (.agg (Entry.enc e_1))),(vI zone_2),(.d (.agg (Window.enc wv_3)))] [] (.tup [(vL Window.enc r.1),(vI r.2)]) []:=by
 refine FnM.of_wH ⟨Tryz.prog,45,[],[]⟩ rfl Tryz.func64 rfl rfl (lb_ rfl) (by kernel_rfl) ?_
 unfold j5 at hF
 refine af (aa (gH 0 (.inl rfl) [(vS e_1.Key),(vS e_1.Item),(vI e_1.Version),(vI e_1.First),(vI e_1.Last),(vI e_1.Every),(vI e_1.Days),(vL eI e_1.Except),(vI e_1.From),(vI e_1.To),(vI e_1.Prio),(vL eS e_1.Tags),(vB e_1.Gone)] rfl rfl wz (λn_4=>gH 0 (.inl rfl) [(vI wv_3.From),(vI wv_3.To)] rfl rfl wz (λn_5=>ae .nil wz rfl (ae (vI 0) wz rfl (ak (af (af (aa (aC 0 0 il ft iX pu rfl rfl (.d (.agg (Entry.enc e_1))) rfl wz (eO (([e_1]:List Entry).map Entry.enc) Cg Kr rfl rfl rfl rfl rfl wz ?_)))))))))))
 obtain ⟨r_6,hr_7,hF⟩:=bind_some hF
 refine aD (lC hr_7) rfl hb13 rfl rfl rfl rfl wz (ae (vI r_6) wz rfl (ak (af (aa (ae (vI r_6) wz rfl (ae (vB (r_6 != 0)) wz rfl (ak ?_)))))))
 rcases au hF with⟨hc_8,hF⟩|⟨hc_8,hF⟩
 ·refine aB rfl hc_8 (af (aa (ae (vI r_6) wz rfl (ae .nil wz rfl (ae (vI r_6) wz rfl (ak ?_))))))
  obtain rfl:=aj hF
  exact ay (aO (.inr rfl) [.nil,(vI r_6)] ⟨rfl,⟨rfl,trivial⟩⟩ rfl rfl rfl)
 ·refine aA rfl hc_8 (av (af (af (aa (ae (vI zone_2) wz rfl ?_)))))
  obtain ⟨r_9,hr_10,hF⟩:=bind_some hF
  refine aD (bf hr_10) rfl qj rfl rfl rfl rfl wz (ak ?_)
  rcases au hF with⟨hc_11,hF⟩|⟨hc_11,hF⟩
  ·refine aB rfl hc_11 (af (aa (ae .nil wz rfl (ae (vI 1) wz rfl (ak ?_)))))
   obtain rfl:=aj hF
   exact ay (aO (.inr rfl) [.nil,(vI 1)] ⟨rfl,⟨rfl,trivial⟩⟩ rfl rfl rfl)
  ·refine aA rfl hc_11 (av (af (af (aa (aC 0 1 il ft xn D9 rfl rfl (.d (.agg (Window.enc wv_3))) rfl wz ?_)))))
   obtain ⟨r_12,hr_13,hF⟩:=bind_some hF
   refine aD (rF hr_13) rfl hb101 rfl rfl rfl rfl wz (ae (vI r_12) wz rfl (ak (af (aa (ae (vI r_12) wz rfl (ae (vB (r_12 != 0)) wz rfl (ak ?_)))))))
   rcases au hF with⟨hc_14,hF⟩|⟨hc_14,hF⟩
   ·refine aB rfl hc_14 (af (aa (ae (vI r_12) wz rfl (ae .nil wz rfl (ae (vI r_12) wz rfl (ak ?_))))))
    obtain rfl:=aj hF
    exact ay (aO (.inr rfl) [.nil,(vI r_12)] ⟨rfl,⟨rfl,trivial⟩⟩ rfl rfl rfl)
   ·refine aA rfl hc_14 (av (af (aa (aC 0 0 il ft iX pu rfl rfl (.d (.agg (Entry.enc e_1))) rfl wz (ae (vI zone_2) wz rfl (aC 0 1 il ft xn D9 rfl rfl (.d (.agg (Window.enc wv_3))) rfl wz ?_))))))
    obtain ⟨r_15,hr_16,hF⟩:=bind_some hF
    refine h_callg [] (xx hr_16) rfl hb102 rfl (by kernel_rfl) (by kernel_rfl) (by kernel_rfl) (by kernel_rfl) (by kernel_rfl) rfl (by decide) (by kernel_rfl) wz ([(n_4,some (.cells 13 [(vS e_1.Key),(vS e_1.Item),(vI e_1.Version),(vI e_1.First),(vI e_1.Last),(vI e_1.Every),(vI e_1.Days),(vL eI e_1.Except),(vI e_1.From),(vI e_1.To),(vI e_1.Prio),(vL eS e_1.Tags),(vB e_1.Gone)])),(n_5,some (.cells 2 [(vI wv_3.From),(vI wv_3.To)]))]:Hp) (λ_=>by kernel_rfl) (λn_18=>ae (gV n_18 2 r_15) wz rfl (ak (af (af (aa (ae (gV n_18 2 r_15) wz rfl (G7 un56 rfl wz (ae (vI 0) wz rfl (ak ?_)))))))))
    obtain ⟨o_27,hj_28,hF⟩:=bind_some hF
    obtain ⟨hn_23,hj_28⟩:=bg hj_28
    refine aH (β:=((List Window))) (λ(s_24:List Window)=>([(10,(gV n_18 2 s_24))]:SL_)) (λ(s_24:List Window)=>([(n_4,some (.cells 13 [(vS e_1.Key),(vS e_1.Item),(vI e_1.Version),(vI e_1.First),(vI e_1.Last),(vI e_1.Every),(vI e_1.Days),(vL eI e_1.Except),(vI e_1.From),(vI e_1.To),(vI e_1.Prio),(vL eS e_1.Tags),(vB e_1.Gone)])),(n_5,some (.cells 2 [(vI wv_3.From),(vI wv_3.To)])),(n_18,gB 2 Window.enc s_24)]:Hp)) (λp=>o_27 = .go p) ?_ ?_
    ·refine aG (bv (β:=Nat×(List Nat)×((List Window))) (λp=>(λ(k_19:Nat) (l_20:List Nat) (s_24:List Window)=>([(5,(.ref n_5 0 0)),(10,(gV n_18 2 s_24)),(30,(gV n_18 2 s_24)),(31,(vI (r_15.length:Int))),(32,(vI (k_19:Int)))]:SL_)) p.1 p.2.1 p.2.2) (λp=>(λ(k_19:Nat) (l_20:List Nat) (s_24:List Window)=>([(n_4,some (.cells 13 [(vS e_1.Key),(vS e_1.Item),(vI e_1.Version),(vI e_1.First),(vI e_1.Last),(vI e_1.Every),(vI e_1.Days),(vL eI e_1.Except),(vI e_1.From),(vI e_1.To),(vI e_1.Prio),(vL eS e_1.Tags),(vB e_1.Gone)])),(n_5,some (.cells 2 [(vI wv_3.From),(vI wv_3.To)])),(n_18,gB 2 Window.enc s_24)]:Hp)) p.1 p.2.1 p.2.2) (λp=>forR (λk x s=>jN wv_3 k x s) p.2.1 p.1 p.2.2=some o_27/\((List.range ((r_15.length:Int)).toNat)).drop p.1=p.2.1) (λp=>p.2.1.length) (0,(List.range ((r_15.length:Int)).toNat),r_15) ⟨hj_28,rfl⟩ rfl (aK rfl) ?_)
     rintro ⟨k_19,l_20,s_24⟩ ⟨hL_26,hD_22⟩
     dsimp only at hL_26 hD_22
     cases l_20 with
     | nil =>
      obtain rfl:=aj hL_26
      refine af (aa (ae (vB (decide ((k_19:Int)<(r_15.length:Int)))) wz rfl (ak ?_)))
      refine af (aA rfl (Dr hD_22) (aX ?_))
      exact aS (s_24) rfl rfl (aK rfl)
     | cons x_21 l_20 =>
      obtain ⟨c_,hc_25,hL_26⟩:=bind_some hL_26
      refine af (aa (ae (vB (decide ((k_19:Int)<(r_15.length:Int)))) wz rfl (ak ?_)))
      refine af (aB rfl (AP hD_22) (av ?_))
      unfold jN at hc_25
      refine af (aG (af (aa (ae (vI (k_19:Int)) wz rfl ?_))))
      obtain ⟨_,hi_29,hc_25⟩:=bind_some hc_25
      refine AQ es56 rfl rfl (qC hi_29) (mo hi_29) wz ?_
      obtain ⟨e_30,hy_31,hc_25⟩:=bind_some hc_25
      refine uf 0 2 il ft xn D9 rfl rfl hy_31 (.d (.agg (Window.enc e_30))) rfl wz (dA 0 (.inl rfl) z49 rfl wz (λn_32=>ae (vI (k_19:Int)) wz rfl (dX 0 il ft 3 xn rfl rfl [(vI e_30.From),(vI e_30.To)] rfl wz (ak (aa (ae (gV n_18 2 s_24) wz rfl (ae (vI (k_19:Int)) wz rfl (aC 0 3 il ft xn D9 rfl rfl (.d (.agg (Window.enc e_30))) rfl wz (aC 0 1 il ft xn D9 rfl rfl (.d (.agg (Window.enc wv_3))) rfl wz ?_)))))))))
      obtain ⟨r_33,hr_34,hc_25⟩:=bind_some hc_25
      refine aD (Ai hr_34) rfl hb103 rfl rfl rfl rfl wz ?_
      obtain ⟨_,hi_35,hc_25⟩:=bind_some hc_25
      refine AQ es56 rfl rfl (qC hi_35) (mo hi_35) wz ?_
      obtain ⟨e_36,hy_37,hc_25⟩:=bind_some hc_25
      refine EF 0 il ft 2 xn rfl rfl hy_37 r_33 rfl wz (kG (v':=(gV n_18 2 (s_24.set (0+((k_19:Int)).toNat) r_33))) 10 rfl (qY (by simp)) (kG (v':=(gV n_18 2 (s_24.set (0+((k_19:Int)).toNat) r_33))) 30 rfl (qY (by simp)) (kG (v':=(gV n_18 2 (s_24.set (0+((k_19:Int)).toNat) r_33))) 37 rfl (qY (by simp)) (ak (aa (eQ (Dw hD_22 hn_23) wz rfl (ae (vI ((k_19+1:Nat):Int)) wz rfl (ak ?_))))))))
      obtain rfl:=aj hc_25
      exact aY (k_19+1,l_20,(s_24.set (0+((k_19:Int)).toNat) r_33)) ⟨hL_26,aR hD_22⟩ (ls_ _) rfl (aK rfl)
    ·rintro s_24 ho_ sl_ H_ hp_ hq_
     subst ho_
     refine aM _ hp_ hq_ (af (aa (ae (gV n_18 2 s_24) wz rfl (ae (gV n_18 2 s_24) wz rfl (ae (vI 0) wz rfl (ak (fB 2 rfl (ek 6 2 rfl rfl (ek 10 2 rfl rfl (ek 44 2 rfl rfl ?_))))))))))
     obtain rfl:=aj hF
     exact ay (aO (.inr rfl) [(vL Window.enc s_24),(vI 0)] ⟨rfl,⟨rfl,trivial⟩⟩ rfl rfl rfl)
theorem xL {wv_1:Window} {r:Bool} (hF:mM wv_1=some r) :
  FnM Tryz.prog 159 [(.d (.agg (Window.enc wv_1)))] [] (vB r) []:=by
 refine FnM.of_wH ⟨Tryz.prog,18,[],[]⟩ rfl Tryz.func159 rfl rfl (lb_ rfl) (by kernel_rfl) ?_
 unfold mM at hF
 refine af (aa (gH 0 (.inl rfl) [(vI wv_1.From),(vI wv_1.To)] rfl rfl wz (λn_2=>ae (vB false) wz rfl (ak (af ?_)))))
 obtain ⟨v_3,h_4,hF⟩:=bind_some hF
 refine aH (β:=Unit) (λ_=>([(2,(vB v_3))]:SL_)) (λ_=>([(n_2,some (.cells 2 [(vI wv_1.From),(vI wv_1.To)]))]:Hp)) (λ_=>True) ?_ ?_
 ·refine aa (aF nu rfl 0 rfl wz (aC 0 0 il ft sz3 ag3 rfl rfl (vI wv_1.From) rfl wz (ae (vB (decide (wv_1.From>=0))) wz rfl ?_)))
  rcases au h_4 with⟨hc_5,h_4⟩|⟨hc_5,h_4⟩
  ·refine ax rfl hc_5 wz (aF nu rfl 0 rfl wa (aC 0 0 il ft sz3 ag3 rfl rfl (vI wv_1.From) rfl wa (aF mY rfl 1 rfl wa (aC 0 0 il ft sz3 ag3 rfl rfl (vI wv_1.To) rfl wa (ae (vB (decide (wv_1.From<wv_1.To))) wa rfl (ae (vB (decide (wv_1.From<wv_1.To))) wz rfl ?_))))))
   rcases au h_4 with⟨hc_6,h_4⟩|⟨hc_6,h_4⟩
   ·refine ax rfl hc_6 wz (aF mY rfl 1 rfl wa (aC 0 0 il ft sz3 ag3 rfl rfl (vI wv_1.To) rfl wa (ae (vB (decide (wv_1.To<=345686400000))) wa rfl (ae (vB (decide (wv_1.To<=345686400000))) wz rfl (ae (vB (decide (wv_1.To<=345686400000))) wz rfl (ak ?_))))))
    obtain rfl:=aj h_4
    exact cu
   ·refine ax rfl hc_6 wz (ah wa (ah wa (ah wa (ae (vB false) wz rfl (ae (vB false) wz rfl (ak ?_))))))
    obtain rfl:=aj h_4
    exact cu
  ·refine ax rfl hc_5 wz (ah wa (ah wa (ah wa (ah wa (ah wa (ae (vB false) wz rfl (ae (vB false) wz rfl (ah wa (ah wa (ah wa (ae (vB false) wz rfl (ae (vB false) wz rfl (ak ?_)))))))))))))
   obtain rfl:=aj h_4
   exact cu
 ·rintro ⟨⟩ _ sl_ H_ hp_ hq_
  refine aM _ hp_ hq_ ?_
  obtain rfl:=aj hF
  exact ay (aO (.inr rfl) [(vB v_3)] ⟨rfl,trivial⟩ rfl rfl rfl)
theorem uD {l_1:(List ByteArray)} {r:Int} (hF:iE l_1=some r) :
  FnM Tryz.prog 160 [(vL eS l_1)] [] (vI r) []:=by
 refine FnM.of_wH ⟨Tryz.prog,8,[],[]⟩ rfl Tryz.func160 rfl rfl (lb_ rfl) (by kernel_rfl) ?_
 unfold iE at hF
 refine af (aa (ae (vI 0) wz rfl (ak (af (af (aa (ae (vL eS l_1) wz rfl (bJ xc rfl wz (ae (vB (decide ((l_1.length:Int)>20))) wz rfl (ak ?_))))))))))
 rcases au hF with⟨hc_2,hF⟩|⟨hc_2,hF⟩
 ·refine aB rfl hc_2 (af (aa (ae (vI 2) wz rfl (ak ?_))))
  obtain rfl:=aj hF
  exact ay (aO (.inr rfl) [(vI 2)] ⟨rfl,trivial⟩ rfl rfl rfl)
 ·refine aA rfl hc_2 (av (af (aa (ae (vL eS l_1) wz rfl ?_))))
  obtain ⟨r_3,hr_4,hF⟩:=bind_some hF
  refine aD (pV hr_4) rfl hb92 rfl rfl rfl rfl wz (ae (vI r_3) wz rfl (ak ?_))
  obtain rfl:=aj hF
  exact ay (aO (.inr rfl) [(vI r_3)] ⟨rfl,trivial⟩ rfl rfl rfl)
theorem qy {l_1:(List Campaign)} {r:Int} (hF:fD l_1=some r) :
  FnM Tryz.prog 107 [(vL Campaign.enc l_1)] [] (vI r) []:=by
 refine FnM.of_wH ⟨Tryz.prog,73,[],[]⟩ rfl Tryz.func107 rfl rfl (lb_ rfl) (by kernel_rfl) ?_
 unfold fD at hF
 refine af (aa (ae (vI 0) wz rfl (ak (af (af (aa (ae (vL Campaign.enc l_1) wz rfl (bJ un157 rfl wz (ae (vB (decide ((l_1.length:Int)>30))) wz rfl (ak ?_))))))))))
 rcases au hF with⟨hc_2,hF⟩|⟨hc_2,hF⟩
 ·refine aB rfl hc_2 (af (aa (ae (vI 2) wz rfl (ak ?_))))
  obtain rfl:=aj hF
  exact ay (aO (.inr rfl) [(vI 2)] ⟨rfl,trivial⟩ rfl rfl rfl)
 ·refine aA rfl hc_2 (av (af (af (aa (ae (vL Campaign.enc l_1) wz rfl (bJ un157 rfl wz (ae (vI 0) wz rfl (ak ?_))))))))
  obtain ⟨o_11,hj_12,hF⟩:=bind_some hF
  obtain ⟨hn_7,hj_12⟩:=bg hj_12
  refine aH (β:=(Unit)) (λ(s_8:Unit)=>([]:SL_)) (λ(s_8:Unit)=>([]:Hp)) (λp=>o_11 = .go p) ?_ ?_
  ·refine aG (bv (β:=Nat×(List Campaign)×(Unit)) (λp=>(λ(k_3:Nat) (l_4:List Campaign) (s_8:Unit)=>([(0,(vL Campaign.enc l_1)),(9,(vL Campaign.enc l_1)),(10,(vI (l_1.length:Int))),(11,(vI (k_3:Int)))]:SL_)) p.1 p.2.1 p.2.2) (λp=>(λ(k_3:Nat) (l_4:List Campaign) (s_8:Unit)=>([]:Hp)) p.1 p.2.1 p.2.2) (λp=>forR (λk x s=>dY l_1 k x s) p.2.1 p.1 p.2.2=some o_11/\(l_1).drop p.1=p.2.1) (λp=>p.2.1.length) (0,l_1,()) ⟨hj_12,rfl⟩ rfl (aK rfl) ?_)
   rintro ⟨k_3,l_4,s_8⟩ ⟨hL_10,hD_6⟩
   dsimp only at hL_10 hD_6
   cases l_4 with
   | nil =>
    obtain rfl:=aj hL_10
    refine af (aa (ae (vB (decide ((k_3:Int)<(l_1.length:Int)))) wz rfl (ak ?_)))
    refine af (aA rfl (drop_nil hD_6) (aX ?_))
    exact aS (s_8) rfl rfl (aK rfl)
   | cons x_5 l_4 =>
    obtain ⟨c_,hc_9,hL_10⟩:=bind_some hL_10
    refine af (aa (ae (vB (decide ((k_3:Int)<(l_1.length:Int)))) wz rfl (ak ?_)))
    refine af (aB rfl (bz hD_6) (av ?_))
    unfold dY at hc_9
    refine af (aG (af (aa (ae (vI (k_3:Int)) wz rfl (dP J8 rfl rfl (bE hD_6) rfl wz (bO II K9 rfl (.d (.agg (Campaign.enc x_5))) rfl wz (dA 0 (.inl rfl) z110 rfl wz (λn_13=>ae (vI (k_3:Int)) wz rfl (dX 0 il ft 0 II rfl rfl [(vS x_5.Key),(vS x_5.Class),(vI x_5.Time.From),(vI x_5.Time.To),(vL eS x_5.Tags),(vI x_5.Goal),(vI x_5.Most),(vI x_5.Cents)] rfl wz (ak (af (aG (af ?_)))))))))))))
    obtain ⟨v_14,h_15,hc_9⟩:=bind_some hc_9
    refine aH (β:=Unit) (λ_=>([(0,(vL Campaign.enc l_1)),(3,(vI (k_3:Int))),(4,(.ref n_13 0 0)),(9,(vL Campaign.enc l_1)),(10,(vI (l_1.length:Int))),(11,(vI (k_3:Int))),(16,(vB v_14))]:SL_)) (λ_=>([(n_13,some (.cells 8 [(vS x_5.Key),(vS x_5.Class),(vI x_5.Time.From),(vI x_5.Time.To),(vL eS x_5.Tags),(vI x_5.Goal),(vI x_5.Most),(vI x_5.Cents)]))]:Hp)) (λ_=>True) ?_ ?_
    ·refine aa (aF Ex rfl 0 rfl wz (aC 0 0 il ft sz9 ag9 rfl rfl (vS x_5.Key) rfl wz ?_))
     obtain ⟨r_16,hr_17,h_15⟩:=bind_some h_15
     refine aD (fA hr_17) rfl Bl rfl rfl rfl rfl wz (ae (vB (!r_16)) wz rfl ?_)
     rcases au h_15 with⟨hc_18,h_15⟩|⟨hc_18,h_15⟩
     ·refine ax rfl hc_18 wz (ah wa (ah wa (ah wa (ah wa (ah (wn rfl rfl) (ah (wn rfl rfl) (ah (wn rfl rfl) (ah (wn rfl rfl) (ah wa (ae (vB true) wz rfl (ae (vB true) wz rfl (ak ?_))))))))))))
      obtain rfl:=aj h_15
      exact cu
     ·refine ax rfl hc_18 wz (aF IA rfl 1 rfl wa (aC 0 0 il ft sz9 ag9 rfl rfl (vS x_5.Class) rfl wa (ae (vB (sNe x_5.Class (⟨#[]⟩:ByteArray))) wa rfl ?_)))
      rcases au h_15 with⟨hc_19,h_15⟩|⟨hc_19,h_15⟩
      ·refine ax rfl hc_19 wa (aF IA rfl 1 rfl wa (aC 0 0 il ft sz9 ag9 rfl rfl (vS x_5.Class) rfl wa ?_))
       obtain ⟨r_20,hr_21,h_15⟩:=bind_some h_15
       refine aD (fA hr_21) rfl Bl rfl rfl rfl rfl wa (ae (vB (!r_20)) wa rfl (ae (vB (!r_20)) wa rfl (ae (vB (!r_20)) wz rfl (ae (vB (!r_20)) wz rfl (ak ?_)))))
       obtain rfl:=aj h_15
       exact cu
      ·refine ax rfl hc_19 wa (ah wa (ah wa (ah wa (ah wa (ae (vB false) wa rfl (ae (vB false) wz rfl (ae (vB false) wz rfl (ak ?_))))))))
       obtain rfl:=aj h_15
       exact cu
    ·rintro ⟨⟩ _ sl_ H_ hp_ hq_
     refine aM _ hp_ hq_ ?_
     rcases au hc_9 with⟨hc_22,hc_9⟩|⟨hc_22,hc_9⟩
     ·refine aB rfl hc_22 (af (aa (ae (vI 5) wz rfl (ak ?_))))
      obtain rfl:=aj hc_9
      obtain rfl:=aj hL_10
      obtain rfl:=aj hF
      exact ay (aO (.inr rfl) [(vI 5)] ⟨rfl,trivial⟩ rfl rfl rfl)
     ·refine aA rfl hc_22 (af ?_)
      obtain ⟨v_23,h_24,hc_9⟩:=bind_some hc_9
      refine aH (β:=Unit) (λ_=>([(0,(vL Campaign.enc l_1)),(4,(.ref n_13 0 0)),(9,(vL Campaign.enc l_1)),(10,(vI (l_1.length:Int))),(11,(vI (k_3:Int))),(32,(vB v_23))]:SL_)) (λ_=>([(n_13,some (.cells 8 [(vS x_5.Key),(vS x_5.Class),(vI x_5.Time.From),(vI x_5.Time.To),(vL eS x_5.Tags),(vI x_5.Goal),(vI x_5.Most),(vI x_5.Cents)]))]:Hp)) (λ_=>True) ?_ ?_
      ·refine bG (ae (vI (k_3:Int)) wz rfl (ae (vB (decide ((k_3:Int)>0))) wz rfl ?_))
       rcases au h_24 with⟨hc_25,h_24⟩|⟨hc_25,h_24⟩
       ·refine ax rfl hc_25 wz (aF Ex rfl 0 rfl wa (aC 4 0 (.inr (by kernel_rfl)) (λ_ _ ag=>trivial) sz9 ag9 rfl rfl (vS x_5.Key) rfl wa (ae (vL Campaign.enc l_1) wa rfl (ae (vI (k_3:Int)) wa rfl (ae (vI (w64 ((k_3:Int)-1))) wa rfl ?_)))))
        obtain ⟨y_26,hy_27,h_24⟩:=bind_some h_24
        refine dP J8 rfl rfl hy_27 rfl wa (p9 Ex rfl (Campaign.enc y_26) rfl rfl wa (bO sz9 ag9 rfl (vS y_26.Key) rfl wa (ae (vB (sLe x_5.Key y_26.Key)) wa rfl (ae (vB (sLe x_5.Key y_26.Key)) wz rfl (ae (vB (sLe x_5.Key y_26.Key)) wz rfl (ak ?_))))))
        obtain rfl:=aj h_24
        exact cu
       ·refine ax rfl hc_25 wz (ah wa (ah wa (ah wa (ah wa (ah wa (ah wa (ah wa (ah wa (ah wa (ae (vB false) wz rfl (ae (vB false) wz rfl (ak ?_))))))))))))
        obtain rfl:=aj h_24
        exact cu
      ·rintro ⟨⟩ _ sl_ H_ hp_ hq_
       refine aM _ hp_ hq_ ?_
       rcases au hc_9 with⟨hc_28,hc_9⟩|⟨hc_28,hc_9⟩
       ·refine aB rfl hc_28 (af (aa (ae (vI 7) wz rfl (ak ?_))))
        obtain rfl:=aj hc_9
        obtain rfl:=aj hL_10
        obtain rfl:=aj hF
        exact ay (aO (.inr rfl) [(vI 7)] ⟨rfl,trivial⟩ rfl rfl rfl)
       ·refine aA rfl hc_28 (af ?_)
        obtain ⟨v_29,h_30,hc_9⟩:=bind_some hc_9
        refine aH (β:=Unit) (λ_=>([(0,(vL Campaign.enc l_1)),(4,(.ref n_13 0 0)),(9,(vL Campaign.enc l_1)),(10,(vI (l_1.length:Int))),(11,(vI (k_3:Int))),(46,(vB v_29))]:SL_)) (λ_=>([(n_13,some (.cells 8 [(vS x_5.Key),(vS x_5.Class),(vI x_5.Time.From),(vI x_5.Time.To),(vL eS x_5.Tags),(vI x_5.Goal),(vI x_5.Most),(vI x_5.Cents)]))]:Hp)) (λ_=>True) ?_ ?_
        ·refine aa (aF vF rfl 2 rfl wz (aC 0 0 il ft xn D9 rfl rfl (.d (.agg (Window.enc x_5.Time))) rfl wz ?_))
         obtain ⟨r_31,hr_32,h_30⟩:=bind_some h_30
         refine aD (xL hr_32) rfl hb159 rfl rfl rfl rfl wz (ae (vB (!r_31)) wz rfl ?_)
         rcases au h_30 with⟨hc_33,h_30⟩|⟨hc_33,h_30⟩
         ·refine ax rfl hc_33 wz (ah wa (ah wa (ah wa (ae (vB true) wz rfl (ae (vB true) wz rfl (ah wa (ah wa (ah wa (ae (vB true) wz rfl (ae (vB true) wz rfl (ah wa (ah wa (ah wa (ae (vB true) wz rfl (ae (vB true) wz rfl (ak ?_))))))))))))))))
          obtain rfl:=aj h_30
          exact cu
         ·refine ax rfl hc_33 wz (aF Ep rfl 5 rfl wa (aC 0 0 il ft sz3 ag3 rfl rfl (vI x_5.Goal) rfl wa ?_))
          obtain ⟨r_34,hr_35,h_30⟩:=bind_some h_30
          refine aD (bf hr_35) rfl qj rfl rfl rfl rfl wa (ae (vB r_34) wz rfl ?_)
          rcases au h_30 with⟨hc_36,h_30⟩|⟨hc_36,h_30⟩
          ·refine ax rfl hc_36 wz (ah wa (ah wa (ah wa (ae (vB true) wz rfl (ae (vB true) wz rfl (ah wa (ah wa (ah wa (ae (vB true) wz rfl (ae (vB true) wz rfl (ak ?_)))))))))))
           obtain rfl:=aj h_30
           exact cu
          ·refine ax rfl hc_36 wz (aF pl110_5 rfl 6 rfl wa (aC 0 0 il ft sz3 ag3 rfl rfl (vI x_5.Most) rfl wa ?_))
           obtain ⟨r_37,hr_38,h_30⟩:=bind_some h_30
           refine aD (bf hr_38) rfl qj rfl rfl rfl rfl wa (ae (vB r_37) wz rfl ?_)
           rcases au h_30 with⟨hc_39,h_30⟩|⟨hc_39,h_30⟩
           ·refine ax rfl hc_39 wz (ah wa (ah wa (ah wa (ae (vB true) wz rfl (ae (vB true) wz rfl (ak ?_))))))
            obtain rfl:=aj h_30
            exact cu
           ·refine ax rfl hc_39 wz (aF pl110_6 rfl 7 rfl wa (aC 0 0 il ft sz3 ag3 rfl rfl (vI x_5.Cents) rfl wa ?_))
            obtain ⟨r_40,hr_41,h_30⟩:=bind_some h_30
            refine aD (bf hr_41) rfl qj rfl rfl rfl rfl wa (ae (vB r_40) wz rfl (ae (vB r_40) wz rfl (ak ?_)))
            obtain rfl:=aj h_30
            exact cu
        ·rintro ⟨⟩ _ sl_ H_ hp_ hq_
         refine aM _ hp_ hq_ ?_
         rcases au hc_9 with⟨hc_42,hc_9⟩|⟨hc_42,hc_9⟩
         ·refine aB rfl hc_42 (af (aa (ae (vI 1) wz rfl (ak ?_))))
          obtain rfl:=aj hc_9
          obtain rfl:=aj hL_10
          obtain rfl:=aj hF
          exact ay (aO (.inr rfl) [(vI 1)] ⟨rfl,trivial⟩ rfl rfl rfl)
         ·refine aA rfl hc_42 (av (af (aa (aF pl110_3 rfl 4 rfl wz (aC 0 0 il ft uX yK rfl rfl (vL eS x_5.Tags) rfl wz ?_)))))
          obtain ⟨r_43,hr_44,hc_9⟩:=bind_some hc_9
          refine aD (uD hr_44) rfl hb160 rfl rfl rfl rfl wz (ae (vI r_43) wz rfl (ak (af (aa (ae (vI r_43) wz rfl (ae (vB (r_43 != 0)) wz rfl (ak ?_)))))))
          rcases au hc_9 with⟨hc_45,hc_9⟩|⟨hc_45,hc_9⟩
          ·refine aB rfl hc_45 (af (aa (ae (vI r_43) wz rfl (ae (vI r_43) wz rfl (ak ?_)))))
           obtain rfl:=aj hc_9
           obtain rfl:=aj hL_10
           obtain rfl:=aj hF
           exact ay (aO (.inr rfl) [(vI r_43)] ⟨rfl,trivial⟩ rfl rfl rfl)
          ·refine aA rfl hc_45 (av (aa (eQ (bB hD_6 hn_7) wz rfl (ae (vI ((k_3+1:Nat):Int)) wz rfl (ak ?_)))))
           obtain rfl:=aj hc_9
           exact aY (k_3+1,l_4,()) ⟨hL_10,aR hD_6⟩ (ls_ _) rfl (aK rfl)
  ·rintro s_8 ho_ sl_ H_ hp_ hq_
   subst ho_
   refine aM _ hp_ hq_ (af (aa (ae (vI 0) wz rfl (ak ?_))))
   obtain rfl:=aj hF
   exact ay (aO (.inr rfl) [(vI 0)] ⟨rfl,trivial⟩ rfl rfl rfl)
theorem gN {n_1:Int} {r:Bool} (hF:cO n_1=some r) :
  FnM Tryz.prog 108 [(vI n_1)] [] (vB r) []:=by
 refine FnM.of_wH ⟨Tryz.prog,9,[],[]⟩ rfl Tryz.func108 rfl rfl (lb_ rfl) (by kernel_rfl) ?_
 unfold cO at hF
 refine af (aa (ae (vB false) wz rfl (ak (af ?_))))
 obtain ⟨v_2,h_3,hF⟩:=bind_some hF
 refine aH (β:=Unit) (λ_=>([(2,(vB v_2))]:SL_)) (λ_=>([]:Hp)) (λ_=>True) ?_ ?_
 ·refine aa (ae (vI n_1) wz rfl (ae (vB (decide (n_1>=0))) wz rfl ?_))
  rcases au h_3 with⟨hc_4,h_3⟩|⟨hc_4,h_3⟩
  ·refine ax rfl hc_4 wz (ae (vI n_1) wa rfl (ae (vB (decide (n_1<345686400000))) wa rfl (ae (vB (decide (n_1<345686400000))) wz rfl (ae (vB (decide (n_1<345686400000))) wz rfl (ak ?_)))))
   obtain rfl:=aj h_3
   exact cu
  ·refine ax rfl hc_4 wz (ah wa (ah wa (ae (vB false) wz rfl (ae (vB false) wz rfl (ak ?_)))))
   obtain rfl:=aj h_3
   exact cu
 ·rintro ⟨⟩ _ sl_ H_ hp_ hq_
  refine aM _ hp_ hq_ ?_
  obtain rfl:=aj hF
  exact ay (aO (.inr rfl) [(vB v_2)] ⟨rfl,trivial⟩ rfl rfl rfl)
theorem BH {c_1:Campaign} {atv_2:Int} {r:Int} (hF:qH c_1 atv_2=some r) :
  FnM Tryz.prog 109 [(.d (.agg (Campaign.enc c_1))),(vI atv_2)] [] (vI r) []:=by
 refine FnM.of_wH ⟨Tryz.prog,35,[],[]⟩ rfl Tryz.func109 rfl rfl (lb_ rfl) (by kernel_rfl) ?_
 unfold qH at hF
 refine af (aa (gH 0 (.inl rfl) [(vS c_1.Key),(vS c_1.Class),(vI c_1.Time.From),(vI c_1.Time.To),(vL eS c_1.Tags),(vI c_1.Goal),(vI c_1.Most),(vI c_1.Cents)] rfl rfl wz (λn_3=>ae (vI 0) wz rfl (ak (af (aG (af (aa (ae (vI atv_2) wz rfl (aF vF rfl 2 rfl wz (aF nu rfl 2 rfl wz (aC 0 0 il ft sz3 ag3 rfl rfl (vI c_1.Time.From) rfl wz (ae (vB (decide (atv_2<c_1.Time.From))) wz rfl (ae (vB (decide (atv_2<c_1.Time.From))) wz rfl (ak ?_)))))))))))))))
 rcases au hF with⟨hc_4,hF⟩|⟨hc_4,hF⟩
 ·refine aB rfl hc_4 (af (aa (ae (vI 0) wz rfl (ak ?_))))
  obtain rfl:=aj hF
  exact ay (aO (.inr rfl) [(vI 0)] ⟨rfl,trivial⟩ rfl rfl rfl)
 ·refine aA rfl hc_4 (af (aa (ae (vI atv_2) wz rfl (aF vF rfl 2 rfl wz (aF mY rfl 3 rfl wz (aC 0 0 il ft sz3 ag3 rfl rfl (vI c_1.Time.To) rfl wz (ae (vB (decide (atv_2>=c_1.Time.To))) wz rfl (ae (vB (decide (atv_2>=c_1.Time.To))) wz rfl (ak ?_)))))))))
  rcases au hF with⟨hc_5,hF⟩|⟨hc_5,hF⟩
  ·refine aB rfl hc_5 (af (aa (aF Ep rfl 5 rfl wz (aC 0 0 il ft sz3 ag3 rfl rfl (vI c_1.Goal) rfl wz (ae (vI c_1.Goal) wz rfl (ak ?_))))))
   obtain rfl:=aj hF
   exact ay (aO (.inr rfl) [(vI c_1.Goal)] ⟨rfl,trivial⟩ rfl rfl rfl)
  ·refine aA rfl hc_5 (av (af (aa (aF Ep rfl 5 rfl wz (aC 0 0 il ft sz3 ag3 rfl rfl (vI c_1.Goal) rfl wz (ae (vI atv_2) wz rfl (aF vF rfl 2 rfl wz (aF nu rfl 2 rfl wz (aC 0 0 il ft sz3 ag3 rfl rfl (vI c_1.Time.From) rfl wz (ae (vI (w64 (atv_2-c_1.Time.From))) wz rfl (ae (vI (w64 (c_1.Goal*(w64 (atv_2-c_1.Time.From))))) wz rfl (aF vF rfl 2 rfl wz (aF mY rfl 3 rfl wz (aC 0 0 il ft sz3 ag3 rfl rfl (vI c_1.Time.To) rfl wz (aF vF rfl 2 rfl wz (aF nu rfl 2 rfl wz (aC 0 0 il ft sz3 ag3 rfl rfl (vI c_1.Time.From) rfl wz (ae (vI (w64 (c_1.Time.To-c_1.Time.From))) wz rfl ?_))))))))))))))))))
   obtain ⟨q_6,hz_7,hF⟩:=bind_some hF
   refine J5 rfl rfl hz_7 wz (ae (vI q_6) wz rfl (ak (aM (H0:=([(n_3,some (.cells 8 [(vS c_1.Key),(vS c_1.Class),(vI c_1.Time.From),(vI c_1.Time.To),(vL eS c_1.Tags),(vI c_1.Goal),(vI c_1.Most),(vI c_1.Cents)]))]:Hp)) ([(4,(vI q_6))]:SL_) (by kernel_rfl) (sO (by kernel_rfl)) ?_)))
   obtain rfl:=aj hF
   exact ay (aO (.inr rfl) [(vI q_6)] ⟨rfl,trivial⟩ rfl rfl rfl)
theorem BM {c_1:Campaign} {atv_2:Int} {r:Int×Int} (hF:nZ c_1 atv_2=some r) :
  FnM Tryz.prog 67 [(.d (.agg (Campaign.enc c_1))),(vI atv_2)] [] (.tup [(vI r.1),(vI r.2)]) []:=by
 refine FnM.of_wH ⟨Tryz.prog,19,[],[]⟩ rfl Tryz.func67 rfl rfl (lb_ rfl) (by kernel_rfl) ?_
 unfold nZ at hF
 refine af (aa (gH 0 (.inl rfl) [(vS c_1.Key),(vS c_1.Class),(vI c_1.Time.From),(vI c_1.Time.To),(vL eS c_1.Tags),(vI c_1.Goal),(vI c_1.Most),(vI c_1.Cents)] rfl rfl wz (λn_3=>ae (vI 0) wz rfl (ae (vI 0) wz rfl (ak (af (af (aa (aC 0 0 il ft II K9 rfl rfl (.d (.agg (Campaign.enc c_1))) rfl wz (eO (([c_1]:List Campaign).map Campaign.enc) J8 ez157 rfl rfl rfl rfl rfl wz ?_))))))))))
 obtain ⟨r_4,hr_5,hF⟩:=bind_some hF
 refine aD (qy hr_5) rfl hb107 rfl rfl rfl rfl wz (ae (vI r_4) wz rfl (ak (af (aa (ae (vI r_4) wz rfl (ae (vB (r_4 != 0)) wz rfl (ak ?_)))))))
 rcases au hF with⟨hc_6,hF⟩|⟨hc_6,hF⟩
 ·refine aB rfl hc_6 (af (aa (ae (vI r_4) wz rfl (ae (vI 0) wz rfl (ae (vI r_4) wz rfl (ak ?_))))))
  obtain rfl:=aj hF
  exact ay (aO (.inr rfl) [(vI 0),(vI r_4)] ⟨rfl,⟨rfl,trivial⟩⟩ rfl rfl rfl)
 ·refine aA rfl hc_6 (av (af (af (aa (ae (vI atv_2) wz rfl ?_)))))
  obtain ⟨r_7,hr_8,hF⟩:=bind_some hF
  refine aD (gN hr_8) rfl CJ rfl rfl rfl rfl wz (ae (vB (!r_7)) wz rfl (ak ?_))
  rcases au hF with⟨hc_9,hF⟩|⟨hc_9,hF⟩
  ·refine aB rfl hc_9 (af (aa (ae (vI 0) wz rfl (ae (vI 1) wz rfl (ak ?_)))))
   obtain rfl:=aj hF
   exact ay (aO (.inr rfl) [(vI 0),(vI 1)] ⟨rfl,⟨rfl,trivial⟩⟩ rfl rfl rfl)
  ·refine aA rfl hc_9 (av (af (aa (aC 0 0 il ft II K9 rfl rfl (.d (.agg (Campaign.enc c_1))) rfl wz (ae (vI atv_2) wz rfl ?_)))))
   obtain ⟨r_10,hr_11,hF⟩:=bind_some hF
   refine aD (BH hr_11) rfl hb109 rfl rfl rfl rfl wz (ae (vI r_10) wz rfl (ae (vI 0) wz rfl (ak ?_)))
   obtain rfl:=aj hF
   exact ay (aO (.inr rfl) [(vI r_10),(vI 0)] ⟨rfl,⟨rfl,trivial⟩⟩ rfl rfl rfl)
theorem l5 {a_1:ByteArray} {b_2:ByteArray} {r:Int} (hF:fT a_1 b_2=some r) :
  FnM Tryz.prog 97 [(vS a_1),(vS b_2)] [] (vI r) []:=by
 refine FnM.of_wH ⟨Tryz.prog,8,[],[]⟩ rfl Tryz.func97 rfl rfl (lb_ rfl) (by kernel_rfl) ?_
 unfold fT at hF
 refine af (aa (ae (vI 0) wz rfl (ak (af (aa (ae (vS a_1) wz rfl (ae (vS b_2) wz rfl (h_ext (Kz (f:=148) Tryz.func148 rfl rfl (by kernel_rfl) (by kernel_rfl) _ _) rfl nb148 rfl wz (ae (vI (KH a_1 b_2)) wz rfl (ak ?_))))))))))
 obtain rfl:=aj hF
 exact ay (aO (.inr rfl) [(vI (KH a_1 b_2))] ⟨rfl,trivial⟩ rfl rfl rfl)
theorem pX {a_1:ByteArray} {b_2:ByteArray} {r:Int} (hF:strings_Compare a_1 b_2=some r) :
  FnM Tryz.prog 61 [(vS a_1),(vS b_2)] [] (vI r) []:=by
 refine FnM.of_wH ⟨Tryz.prog,8,[],[]⟩ rfl Tryz.func61 rfl rfl (lb_ rfl) (by kernel_rfl) ?_
 unfold strings_Compare at hF
 refine af (aa (ae (vI 0) wz rfl (ak (af (aa (ae (vS a_1) wz rfl (ae (vS b_2) wz rfl ?_)))))))
 obtain ⟨r_3,hr_4,hF⟩:=bind_some hF
 refine aD (l5 hr_4) rfl hb97 rfl rfl rfl rfl wz (ae (vI r_3) wz rfl (ak ?_))
 obtain rfl:=aj hF
 exact ay (aO (.inr rfl) [(vI r_3)] ⟨rfl,trivial⟩ rfl rfl rfl)
theorem qb {x_1:Int} {y_2:Int} {r:Int} (hF:cmp_Compare_int x_1 y_2=some r) :
  FnM Tryz.prog 115 [(vI x_1),(vI y_2)] [] (vI r) []:=by
 refine FnM.of_wH ⟨Tryz.prog,20,[],[]⟩ rfl Tryz.func115 rfl rfl (lb_ rfl) (by kernel_rfl) ?_
 unfold cmp_Compare_int at hF
 refine af (aa (ae (vI 0) wz rfl (ak (af (aa (ae (vI x_1) wz rfl ?_))))))
 obtain ⟨r_3,hr_4,hF⟩:=bind_some hF
 refine aD (kR hr_4) rfl Im rfl rfl rfl rfl wz (ae (vB r_3) wz rfl (ak (af (aa (ae (vI y_2) wz rfl ?_)))))
 obtain ⟨r_5,hr_6,hF⟩:=bind_some hF
 refine aD (kR hr_6) rfl Im rfl rfl rfl rfl wz (ae (vB r_5) wz rfl (ak (af (af (aa (ae (vB r_3) wz rfl (ak ?_)))))))
 rcases au hF with⟨hc_7,hF⟩|⟨hc_7,hF⟩
 ·refine aB rfl hc_7 (af (af (aa (ae (vB r_5) wz rfl (ak ?_)))))
  rcases au hF with⟨hc_8,hF⟩|⟨hc_8,hF⟩
  ·refine aB rfl hc_8 (af (aa (ae (vI 0) wz rfl (ak ?_))))
   obtain rfl:=aj hF
   exact ay (aO (.inr rfl) [(vI 0)] ⟨rfl,trivial⟩ rfl rfl rfl)
  ·refine aA rfl hc_8 (av (af (aa (ae (vI (-1)) wz rfl (ak ?_)))))
   obtain rfl:=aj hF
   exact ay (aO (.inr rfl) [(vI (-1))] ⟨rfl,trivial⟩ rfl rfl rfl)
 ·refine aA rfl hc_7 (av (af (af (aa (ae (vB r_5) wz rfl (ak ?_))))))
  rcases au hF with⟨hc_9,hF⟩|⟨hc_9,hF⟩
  ·refine aB rfl hc_9 (af (aa (ae (vI 1) wz rfl (ak ?_))))
   obtain rfl:=aj hF
   exact ay (aO (.inr rfl) [(vI 1)] ⟨rfl,trivial⟩ rfl rfl rfl)
  ·refine aA rfl hc_9 (av (af (af (aa (ae (vI x_1) wz rfl (ae (vI y_2) wz rfl (ae (vB (decide (x_1<y_2))) wz rfl (ak ?_))))))))
   rcases au hF with⟨hc_10,hF⟩|⟨hc_10,hF⟩
   ·refine aB rfl hc_10 (af (aa (ae (vI (-1)) wz rfl (ak ?_))))
    obtain rfl:=aj hF
    exact ay (aO (.inr rfl) [(vI (-1))] ⟨rfl,trivial⟩ rfl rfl rfl)
   ·refine aA rfl hc_10 (av (af (af (aa (ae (vI x_1) wz rfl (ae (vI y_2) wz rfl (ae (vB (decide (x_1>y_2))) wz rfl (ak ?_))))))))
    rcases au hF with⟨hc_11,hF⟩|⟨hc_11,hF⟩
    ·refine aB rfl hc_11 (af (aa (ae (vI 1) wz rfl (ak ?_))))
     obtain rfl:=aj hF
     exact ay (aO (.inr rfl) [(vI 1)] ⟨rfl,trivial⟩ rfl rfl rfl)
    ·refine aA rfl hc_11 (av (af (aa (ae (vI 0) wz rfl (ak ?_)))))
     obtain rfl:=aj hF
     exact ay (aO (.inr rfl) [(vI 0)] ⟨rfl,trivial⟩ rfl rfl rfl)
theorem wK {vals_1:(List Int)} {r:Int} (hF:tJ vals_1=some r) :
  FnM Tryz.prog 171 [(vL eI vals_1)] [] (vI r) []:=by
 refine FnM.of_wH ⟨Tryz.prog,18,[],[]⟩ rfl Tryz.func171 rfl rfl (lb_ rfl) (by kernel_rfl) ?_
 unfold tJ at hF
 refine af (aa (ae (vI 0) wz rfl (ak (af (aa (ae (vI 0) wz rfl (ak (af (af (aa (ae (vL eI vals_1) wz rfl (bJ qi rfl wz (ae (vI 0) wz rfl (ak ?_))))))))))))))
 obtain ⟨o_10,hj_11,hF⟩:=bind_some hF
 obtain ⟨hn_6,hj_11⟩:=bg hj_11
 refine aH (β:=(Unit)) (λ(s_7:Unit)=>([(3,(vI 0))]:SL_)) (λ(s_7:Unit)=>([]:Hp)) (λp=>o_10 = .go p) ?_ ?_
 ·refine aG (bv (β:=Nat×(List Int)×(Unit)) (λp=>(λ(k_2:Nat) (l_3:List Int) (s_7:Unit)=>([(3,(vI 0)),(6,(vL eI vals_1)),(7,(vI (vals_1.length:Int))),(8,(vI (k_2:Int)))]:SL_)) p.1 p.2.1 p.2.2) (λp=>(λ(k_2:Nat) (l_3:List Int) (s_7:Unit)=>([]:Hp)) p.1 p.2.1 p.2.2) (λp=>forR (λk x s=>qK k x s) p.2.1 p.1 p.2.2=some o_10/\(vals_1).drop p.1=p.2.1) (λp=>p.2.1.length) (0,vals_1,()) ⟨hj_11,rfl⟩ rfl (aK rfl) ?_)
  rintro ⟨k_2,l_3,s_7⟩ ⟨hL_9,hD_5⟩
  dsimp only at hL_9 hD_5
  cases l_3 with
  | nil =>
   obtain rfl:=aj hL_9
   refine af (aa (ae (vB (decide ((k_2:Int)<(vals_1.length:Int)))) wz rfl (ak ?_)))
   refine af (aA rfl (drop_nil hD_5) (aX ?_))
   exact aS (s_7) rfl rfl (aK rfl)
  | cons x_4 l_3 =>
   obtain ⟨c_,hc_8,hL_9⟩:=bind_some hL_9
   refine af (aa (ae (vB (decide ((k_2:Int)<(vals_1.length:Int)))) wz rfl (ak ?_)))
   refine af (aB rfl (bz hD_5) (av ?_))
   unfold qK at hc_8
   refine af (aG (af (aa (dP kE rfl rfl (bE hD_5) rfl wz (bO sz3 ag3 rfl (vI x_4) rfl wz (ae (vI x_4) wz rfl (ak (af (aa (ae (vI x_4) wz rfl (ae (vI 0) wz rfl (ae (vB (x_4 != 0)) wz rfl (ak ?_)))))))))))))
   rcases au hc_8 with⟨hc_12,hc_8⟩|⟨hc_12,hc_8⟩
   ·refine aB rfl hc_12 (af (aa (ae (vI x_4) wz rfl (ae (vI x_4) wz rfl (ak ?_)))))
    obtain rfl:=aj hc_8
    obtain rfl:=aj hL_9
    obtain rfl:=aj hF
    exact ay (aO (.inr rfl) [(vI x_4)] ⟨rfl,trivial⟩ rfl rfl rfl)
   ·refine aA rfl hc_12 (av (aa (eQ (bB hD_5 hn_6) wz rfl (ae (vI ((k_2+1:Nat):Int)) wz rfl (ak ?_)))))
    obtain rfl:=aj hc_8
    exact aY (k_2+1,l_3,()) ⟨hL_9,aR hD_5⟩ (ls_ _) rfl (aK rfl)
 ·rintro s_7 ho_ sl_ H_ hp_ hq_
  subst ho_
  refine aM _ hp_ hq_ (af (aa (ae (vI 0) wz rfl (ae (vI 0) wz rfl (ak ?_)))))
  obtain rfl:=aj hF
  exact ay (aO (.inr rfl) [(vI 0)] ⟨rfl,trivial⟩ rfl rfl rfl)
theorem uu {a_1:Beat} {b_2:Beat} {r:Int} (hF:jr a_1 b_2=some r) :
  FnM Tryz.prog 210 [(.d (.agg (Beat.enc a_1))),(.d (.agg (Beat.enc b_2)))] [] (vI r) []:=by
 refine FnM.of_wH ⟨Tryz.prog,17,[],[]⟩ rfl Tryz.func210 rfl rfl (lb_ rfl) (by kernel_rfl) ?_
 unfold jr at hF
 refine af (aa (gH 0 (.inl rfl) [(vS a_1.Player),(vI a_1.At),(vI a_1.Clock)] rfl rfl wz (λn_3=>gH 0 (.inl rfl) [(vS b_2.Player),(vI b_2.At),(vI b_2.Clock)] rfl rfl wz (λn_4=>ae (vI 0) wz rfl (ak (af (bG (aF vR rfl 0 rfl wz (aC 1 0 (.inr (by kernel_rfl)) (λ_ _ ag=>trivial) sz9 ag9 rfl rfl (vS a_1.Player) rfl wz (aF vR rfl 0 rfl wz (aC 3 1 (.inr (by kernel_rfl)) (λ_ _ ag=>⟨.inl ⟨rfl,rfl⟩,trivial⟩) sz9 ag9 rfl rfl (vS b_2.Player) rfl wz ?_)))))))))))
 obtain ⟨r_5,hr_6,hF⟩:=bind_some hF
 refine aD (pX hr_6) rfl hb61 rfl rfl rfl rfl wz (aF yC rfl 1 rfl wz (aC 6 0 (.inr (by kernel_rfl)) (λ_ _ ag=>⟨.inl ⟨rfl,rfl⟩,⟨.inl ⟨rfl,rfl⟩,trivial⟩⟩) sz3 ag3 rfl rfl (vI a_1.At) rfl wz (aF yC rfl 1 rfl wz (aC 8 1 (.inr (by kernel_rfl)) (λ_ _ ag=>⟨.inl ⟨rfl,rfl⟩,⟨.inl ⟨rfl,rfl⟩,⟨.inl ⟨rfl,rfl⟩,trivial⟩⟩⟩) sz3 ag3 rfl rfl (vI b_2.At) rfl wz ?_))))
 obtain ⟨r_7,hr_8,hF⟩:=bind_some hF
 refine aD (qb hr_8) rfl hb115 rfl rfl rfl rfl wz (eO (([r_5,r_7]:List Int).map eI) kE xE rfl rfl rfl rfl rfl wz ?_)
 obtain ⟨r_9,hr_10,hF⟩:=bind_some hF
 refine aD (wK hr_10) rfl hb171 rfl rfl rfl rfl wz (ae (vI r_9) wz rfl (ak ?_))
 obtain rfl:=aj hF
 exact ay (aO (.inr rfl) [(vI r_9)] ⟨rfl,trivial⟩ rfl rfl rfl)
end Go.Proofs.YtnjnggakgeommaaGreatDoor.Law

