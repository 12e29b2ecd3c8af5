/-
 The machine computes these plain functions (written by a program of ours).
-/
import Derived.Test.YtjhcehhmdmbleaaGreatDoorFacts
import Derived.Test.YtjhcehhmdmbleaaGreatDoorDefs
import Derived.Test.YtjhcehhmdmbleaaGreatDoorPf1
import Derived.Test.YtjhcehhmdmbleaaGreatDoorShelf
open Go Go.Eng Go.Proofs
namespace Go.Proofs.YtjhcehhmdmbleaaGreatDoor.Law
set_option maxRecDepth 100000
set_option linter.unusedVariables false
set_option maxHeartbeats 1000000
theorem mD {x_1:(List ByteArray)} {target_2:ByteArray} {r:Int×Bool} (hF:dA x_1 target_2=some r) :
  FnM Tryz.prog 286 [(vL eS x_1),(vS target_2)] [] (.tup [(vI r.1),(vB r.2)]) []:=by
 refine FnM.of_wH ⟨Tryz.prog,54,[],[]⟩ rfl Tryz.func286 rfl rfl (Nat.le_of_ble_eq_true rfl) (by kernel_rfl) ?_
 unfold dA at hF
 refine af (aa (ae (vI 0) wz rfl (ae (vB false) wz rfl (aj (af (aa (ae (vL eS x_1) wz rfl (cO Ck rfl wz (ae (vI (x_1.length:Int)) wz rfl (aj (af (aa (ae (vI (x_1.length:Int)) wz rfl (ae (vI 0) wz rfl (ae (vI (x_1.length:Int)) wz rfl (aj (af ?_)))))))))))))))))
 obtain ⟨o_11,hj_12,hF⟩:=bind_some hF
 obtain ⟨nq_34,hj_12⟩:=cz hj_12
 refine aH (β:=(Int×Int)) (fun (s_8:Int×Int)=>([(0,(vL eS x_1)),(1,(vS target_2)),(6,(vI (x_1.length:Int))),(7,(vI s_8.1))]:List (Nat×V))) (fun (s_8:Int×Int)=>([]:Hp)) (fun p=>o_11 = .go p) ?_ ?_
 ·refine aC (aV (β:=Nat×(Int×Int)) (fun p=>(fun (k_3:Nat) (s_8:Int×Int)=>([(0,(vL eS x_1)),(1,(vS target_2)),(6,(vI (x_1.length:Int))),(7,(vI s_8.1)),(8,(vI s_8.2))]:List (Nat×V))) p.1 p.2) (fun p=>(fun (k_3:Nat) (s_8:Int×Int)=>([]:Hp)) p.1 p.2) (fun p=>iterN (fun s=>aS x_1 target_2 s) p.1 p.2=some o_11) (fun p=>p.1) (nq_34,(0,(x_1.length:Int))) hj_12 rfl (aJ rfl) ?_)
  rintro ⟨k_3,s_8⟩ hL_10
  dsimp only at hL_10
  cases k_3 with
  | zero=>cases hL_10
  | succ k_3 =>
   obtain ⟨c_,hc_9,hL_10⟩:=bind_some hL_10
   unfold aS at hc_9
   refine af (af (aa (ae (vI s_8.1) wz rfl (ae (vI s_8.2) wz rfl (ae (vB (decide (s_8.1 < s_8.2))) wz rfl (aj ?_))))))
   rcases au hc_9 with⟨hc_13,hc_9⟩ | ⟨hc_13,hc_9⟩
   ·refine aA rfl hc_13 (av (aC (af (aa (ae (vI s_8.1) wz rfl (ae (vI s_8.2) wz rfl (ae (vI (w64 (s_8.1 + s_8.2))) wz rfl (mr un3 EK rfl wz ?_))))))))
    obtain ⟨q_14,hz_15,hc_9⟩:=bind_some hc_9
    refine Ii rfl rfl hz_15 wz (mr EK un3 rfl wz (ae (vI (w64 q_14)) wz rfl (aj (af (aa (ae (vL eS x_1) wz rfl (ae (vI (w64 q_14)) wz rfl ?_)))))))
    obtain ⟨y_16,hy_17,hc_9⟩:=bind_some hc_9
    refine dU wP rfl rfl hy_17 rfl wz (bN sz9 ag9 rfl (vS y_16) rfl wz (ae (vS target_2) wz rfl ?_))
    obtain ⟨r_18,hr_19,hc_9⟩:=bind_some hc_9
    refine aG (yD hr_19) rfl hb322 rfl rfl rfl rfl wz (aj ?_)
    rcases au hc_9 with⟨hc_20,hc_9⟩ | ⟨hc_20,hc_9⟩
    ·refine aA rfl hc_20 (aa (ae (vI (w64 q_14)) wz rfl (ae (vI (w64 ((w64 q_14) + 1))) wz rfl (ae (vI (w64 ((w64 q_14) + 1))) wz rfl (aj ?_)))))
     obtain rfl:=ah hc_9
     exact aP (k_3,((w64 ((w64 q_14) + 1)),s_8.2)) hL_10 (Nat.lt_succ_self _) rfl (aJ rfl)
    ·refine ay rfl hc_20 (aa (ae (vI (w64 q_14)) wz rfl (ae (vI (w64 q_14)) wz rfl (aj ?_))))
     obtain rfl:=ah hc_9
     exact aP (k_3,(s_8.1,(w64 q_14))) hL_10 (Nat.lt_succ_self _) rfl (aJ rfl)
   ·refine ay rfl hc_13 (aQ ?_)
    obtain rfl:=ah hc_9
    obtain rfl:=ah hL_10
    exact aR ((s_8.1,s_8.2)) rfl rfl (aJ rfl)
 ·rintro s_8 ho_ sl_ H_ hp_ hq_
  subst ho_
  refine aL _ hp_ hq_ (af ?_)
  obtain ⟨v_21,h_22,hF⟩:=bind_some hF
  refine aH (β:=Unit) (fun _=>([(4,(vI s_8.1)),(5,(vB v_21))]:List (Nat×V))) (fun _=>([]:Hp)) (fun _=>True) ?_ ?_
  ·refine aa (ae (vI s_8.1) wz rfl (ae (vI s_8.1) wz rfl (ae (vI (x_1.length:Int)) wz rfl (ae (vB (decide (s_8.1 < (x_1.length:Int)))) wz rfl ?_))))
   rcases au h_22 with⟨hc_23,h_22⟩ | ⟨hc_23,h_22⟩
   ·refine aF rfl hc_23 wz (ae (vL eS x_1) wa rfl (ae (vI s_8.1) wa rfl ?_))
    obtain ⟨y_24,hy_25,h_22⟩:=bind_some h_22
    refine dU wP rfl rfl hy_25 rfl wa (bN sz9 ag9 rfl (vS y_24) rfl wa (ae (vS target_2) wa rfl (ae (vB (sEq y_24 target_2)) wa rfl ?_)))
    rcases au h_22 with⟨hc_26,h_22⟩ | ⟨hc_26,h_22⟩
    ·refine aF rfl hc_26 wa (ak wa (ak wa (ak wa (ak wa (ak wa (ak wa (ak (wn rfl rfl) (ak (wn rfl rfl) (ak wa (ae (vB true) wa rfl (ae (vB true) wz rfl (ae (vI s_8.1) wz rfl (ae (vB true) wz rfl (aj ?_))))))))))))))
     obtain rfl:=ah h_22
     exact cu
    ·refine aF rfl hc_26 wa (ae (vL eS x_1) wa rfl (ae (vI s_8.1) wa rfl ?_))
     obtain ⟨y_27,hy_28,h_22⟩:=bind_some h_22
     refine dU wP rfl rfl hy_28 rfl wa (bN sz9 ag9 rfl (vS y_27) rfl wa ?_)
     obtain ⟨r_29,hr_30,h_22⟩:=bind_some h_22
     refine aG (nN hr_30) rfl hb323 rfl rfl rfl rfl wa ?_
     rcases au h_22 with⟨hc_31,h_22⟩ | ⟨hc_31,h_22⟩
     ·refine aF rfl hc_31 wa (ae (vS target_2) wa rfl ?_)
      obtain ⟨r_32,hr_33,h_22⟩:=bind_some h_22
      refine aG (nN hr_33) rfl hb323 rfl rfl rfl rfl wa (ae (vB r_32) wa rfl (ae (vB r_32) wa rfl (ae (vB r_32) wz rfl (ae (vI s_8.1) wz rfl (ae (vB r_32) wz rfl (aj ?_))))))
      obtain rfl:=ah h_22
      exact cu
     ·refine aF rfl hc_31 wa (ak wa (ak wa (ae (vB false) wa rfl (ae (vB false) wa rfl (ae (vB false) wz rfl (ae (vI s_8.1) wz rfl (ae (vB false) wz rfl (aj ?_))))))))
      obtain rfl:=ah h_22
      exact cu
   ·refine aF rfl hc_23 wz (ak wa (ak wa (ak wa (ak wa (ak wa (ak wa (ak wa (ak (wn rfl rfl) (ak (wn rfl rfl) (ak (wn rfl rfl) (ak (wn rfl rfl) (ak (wn rfl rfl) (ak (wn rfl rfl) (ak (wn rfl rfl) (ak (wn rfl rfl) (ak (wn rfl rfl) (ak wa (ae (vB false) wz rfl (ae (vI s_8.1) wz rfl (ae (vB false) wz rfl (aj ?_)))))))))))))))))))))
    obtain rfl:=ah h_22
    exact cu
  ·rintro ⟨⟩ _ sl_ H_ hp_ hq_
   refine aL _ hp_ hq_ ?_
   obtain rfl:=ah hF
   exact aB (aO (.inr rfl) [(vI s_8.1),(vB v_21)] ⟨rfl,⟨rfl,trivial⟩⟩ rfl rfl rfl)
theorem ut {e_1:Entry} {p_2:Player} {r:Bool} (hF:mF e_1 p_2=some r) :
  FnM Tryz.prog 228 [(.d (.agg (Entry.enc e_1))),(.d (.agg (Player.enc p_2)))] [] (vB r) []:=by
 refine FnM.of_wH ⟨Tryz.prog,26,[],[]⟩ rfl Tryz.func228 rfl rfl (Nat.le_of_ble_eq_true rfl) (by kernel_rfl) ?_
 unfold mF at hF
 refine af (aa (ek 0 (.inl rfl) [(vS e_1.Key),(vS e_1.Item),(vI e_1.Version),(vI e_1.First),(vI e_1.Last),(vI e_1.Every),(vI e_1.Days),(vL eI e_1.Except),(vI e_1.From),(vI e_1.To),(vI e_1.Prio),(vL eS e_1.Tags),(vB e_1.Gone)] rfl rfl wz (fun n_3=>ek 0 (.inl rfl) [(vS p_2.Key),(vS p_2.Screen),(vI p_2.Zone),(vL eS p_2.Tags)] rfl rfl wz (fun n_4=>ae (vB false) wz rfl (aj (af (af (aa (aI zn rfl 11 rfl wz (aD 0 0 il ft BI Db rfl rfl (vL eS e_1.Tags) rfl wz (cO Ck rfl wz (ae (vI 0) wz rfl (aj ?_)))))))))))))
 obtain ⟨o_13,hj_14,hF⟩:=bind_some hF
 obtain ⟨hn_9,hj_14⟩:=bv hj_14
 refine aH (β:=(Unit)) (fun (s_10:Unit)=>([]:List (Nat×V))) (fun (s_10:Unit)=>([(n_3,some (.cells 13 [(vS e_1.Key),(vS e_1.Item),(vI e_1.Version),(vI e_1.First),(vI e_1.Last),(vI e_1.Every),(vI e_1.Days),(vL eI e_1.Except),(vI e_1.From),(vI e_1.To),(vI e_1.Prio),(vL eS e_1.Tags),(vB e_1.Gone)])),(n_4,some (.cells 4 [(vS p_2.Key),(vS p_2.Screen),(vI p_2.Zone),(vL eS p_2.Tags)]))]:Hp)) (fun p=>o_13 = .go p) ?_ ?_
 ·refine aC (aV (β:=Nat×(List ByteArray)×(Unit)) (fun p=>(fun (k_5:Nat) (l_6:List ByteArray) (s_10:Unit)=>([(3,(.ref n_4 0 0)),(10,(vL eS e_1.Tags)),(11,(vI (e_1.Tags.length:Int))),(12,(vI (k_5:Int)))]:List (Nat×V))) p.1 p.2.1 p.2.2) (fun p=>(fun (k_5:Nat) (l_6:List ByteArray) (s_10:Unit)=>([(n_3,some (.cells 13 [(vS e_1.Key),(vS e_1.Item),(vI e_1.Version),(vI e_1.First),(vI e_1.Last),(vI e_1.Every),(vI e_1.Days),(vL eI e_1.Except),(vI e_1.From),(vI e_1.To),(vI e_1.Prio),(vL eS e_1.Tags),(vB e_1.Gone)])),(n_4,some (.cells 4 [(vS p_2.Key),(vS p_2.Screen),(vI p_2.Zone),(vL eS p_2.Tags)]))]:Hp)) p.1 p.2.1 p.2.2) (fun p=>forR (fun k x s=>iR p_2 k x s) p.2.1 p.1 p.2.2=some o_13∧(e_1.Tags).drop p.1=p.2.1) (fun p=>p.2.1.length) (0,e_1.Tags,()) ⟨hj_14,rfl⟩ rfl (aJ rfl) ?_)
  rintro ⟨k_5,l_6,s_10⟩ ⟨hL_12,hD_8⟩
  dsimp only at hL_12 hD_8
  cases l_6 with
  | nil =>
   obtain rfl:=ah hL_12
   refine af (aa (ae (vB (decide ((k_5:Int) < (e_1.Tags.length:Int)))) wz rfl (aj ?_)))
   refine af (ay rfl (drop_nil hD_8) (aQ ?_))
   exact aR (s_10) rfl rfl (aJ rfl)
  | cons x_7 l_6 =>
   obtain ⟨c_,hc_11,hL_12⟩:=bind_some hL_12
   refine af (aa (ae (vB (decide ((k_5:Int) < (e_1.Tags.length:Int)))) wz rfl (aj ?_)))
   refine af (aA rfl (bL hD_8) (av ?_))
   unfold iR at hc_11
   refine af (aC (af (aa (dU wP rfl rfl (bT hD_8) rfl wz (bN sz9 ag9 rfl (vS x_7) rfl wz (ae (vS x_7) wz rfl (aj (af (aa (aI LD rfl 3 rfl wz (aD 0 1 il ft BI Db rfl rfl (vL eS p_2.Tags) rfl wz (ae (vS x_7) wz rfl ?_))))))))))))
   obtain ⟨r_15,hr_16,hc_11⟩:=bind_some hc_11
   refine aG (mD hr_16) rfl hb286 rfl rfl rfl rfl wz (ae (.tup [(vI r_15.1),(vB r_15.2)]) wz rfl (ae (vI r_15.1) wz rfl (ae (vB r_15.2) wz rfl (ae (vI r_15.1) wz rfl (ae (vB r_15.2) wz rfl (aj (af (aa (ae (vB r_15.2) wz rfl (ae (vB (!r_15.2)) wz rfl (aj ?_)))))))))))
   rcases au hc_11 with⟨hc_17,hc_11⟩ | ⟨hc_17,hc_11⟩
   ·refine aA rfl hc_17 (af (aa (ae (vB false) wz rfl (aj ?_))))
    obtain rfl:=ah hc_11
    obtain rfl:=ah hL_12
    obtain rfl:=ah hF
    exact aB (aO (.inr rfl) [(vB false)] ⟨rfl,trivial⟩ rfl rfl rfl)
   ·refine ay rfl hc_17 (av (aa (fJ (bO hD_8 hn_9) wz rfl (ae (vI ((k_5 + 1:Nat):Int)) wz rfl (aj ?_)))))
    obtain rfl:=ah hc_11
    exact aP (k_5 + 1,l_6,()) ⟨hL_12,aW hD_8⟩ (Nat.lt_succ_self _) rfl (aJ rfl)
 ·rintro s_10 ho_ sl_ H_ hp_ hq_
  subst ho_
  refine aL _ hp_ hq_ (af (aa (ae (vB true) wz rfl (aj ?_))))
  obtain rfl:=ah hF
  exact aB (aO (.inr rfl) [(vB true)] ⟨rfl,trivial⟩ rfl rfl rfl)
theorem l6 {x_1:Int} {r:Bool} (hF:cmp_isNaN_int x_1=some r) :
  FnM Tryz.prog 186 [(vI x_1)] [] (vB r) []:=by
 refine FnM.of_wH ⟨Tryz.prog,6,[],[]⟩ rfl Tryz.func186 rfl rfl (Nat.le_of_ble_eq_true rfl) (by kernel_rfl) ?_
 unfold cmp_isNaN_int at hF
 refine af (aa (ae (vB false) wz rfl (aj (af (aa (ae (vI x_1) wz rfl (ae (vI x_1) wz rfl (ae (vB (x_1 != x_1)) wz rfl (ae (vB (x_1 != x_1)) wz rfl (aj ?_))))))))))
 obtain rfl:=ah hF
 exact aB (aO (.inr rfl) [(vB (x_1 != x_1))] ⟨rfl,trivial⟩ rfl rfl rfl)
theorem BJ {x_1:Int} {y_2:Int} {r:Bool} (hF:cmp_Less_int x_1 y_2=some r) :
  FnM Tryz.prog 220 [(vI x_1),(vI y_2)] [] (vB r) []:=by
 refine FnM.of_wH ⟨Tryz.prog,17,[],[]⟩ rfl Tryz.func220 rfl rfl (Nat.le_of_ble_eq_true rfl) (by kernel_rfl) ?_
 unfold cmp_Less_int at hF
 refine af (aa (ae (vB false) wz rfl (aj (af ?_))))
 obtain ⟨v_3,h_4,hF⟩:=bind_some hF
 refine aH (β:=Unit) (fun _=>([(4,(vB v_3))]:List (Nat×V))) (fun _=>([]:Hp)) (fun _=>True) ?_ ?_
 ·refine aa (ae (vI x_1) wz rfl ?_)
  obtain ⟨r_5,hr_6,h_4⟩:=bind_some h_4
  refine aG (l6 hr_6) rfl JX rfl rfl rfl rfl wz ?_
  rcases au h_4 with⟨hc_7,h_4⟩ | ⟨hc_7,h_4⟩
  ·refine aF rfl hc_7 wz (ae (vI y_2) wa rfl ?_)
   obtain ⟨r_8,hr_9,h_4⟩:=bind_some h_4
   refine aG (l6 hr_9) rfl JX rfl rfl rfl rfl wa (ae (vB (!r_8)) wa rfl (ae (vB (!r_8)) wz rfl ?_))
   rcases au h_4 with⟨hc_10,h_4⟩ | ⟨hc_10,h_4⟩
   ·refine aF rfl hc_10 wz (ak wa (ak wa (ak wa (ae (vB true) wz rfl (ae (vB true) wz rfl (aj ?_))))))
    obtain rfl:=ah h_4
    exact cu
   ·refine aF rfl hc_10 wz (ae (vI x_1) wa rfl (ae (vI y_2) wa rfl (ae (vB (decide (x_1 < y_2))) wa rfl (ae (vB (decide (x_1 < y_2))) wz rfl (ae (vB (decide (x_1 < y_2))) wz rfl (aj ?_))))))
    obtain rfl:=ah h_4
    exact cu
  ·refine aF rfl hc_7 wz (ak wa (ak wa (ak wa (ae (vB false) wz rfl (ae (vB false) wz rfl (ae (vI x_1) wa rfl (ae (vI y_2) wa rfl (ae (vB (decide (x_1 < y_2))) wa rfl (ae (vB (decide (x_1 < y_2))) wz rfl (ae (vB (decide (x_1 < y_2))) wz rfl (aj ?_)))))))))))
   obtain rfl:=ah h_4
   exact cu
 ·rintro ⟨⟩ _ sl_ H_ hp_ hq_
  refine aL _ hp_ hq_ ?_
  obtain rfl:=ah hF
  exact aB (aO (.inr rfl) [(vB v_3)] ⟨rfl,trivial⟩ rfl rfl rfl)
theorem qm {x_1:Int} {r:Bool} (hF:fQ x_1=some r) :
  FnM Tryz.prog 313 [(vI x_1)] [] (vB r) []:=by
 refine FnM.of_wH ⟨Tryz.prog,6,[],[]⟩ rfl Tryz.func313 rfl rfl (Nat.le_of_ble_eq_true rfl) (by kernel_rfl) ?_
 unfold fQ at hF
 refine af (aa (ae (vB false) wz rfl (aj (af (aa (ae (vI x_1) wz rfl (ae (vI x_1) wz rfl (ae (vB (x_1 != x_1)) wz rfl (ae (vB (x_1 != x_1)) wz rfl (aj ?_))))))))))
 obtain rfl:=ah hF
 exact aB (aO (.inr rfl) [(vB (x_1 != x_1))] ⟨rfl,trivial⟩ rfl rfl rfl)
theorem oH {x_1:(List Int)} {target_2:Int} {r:Int×Bool} (hF:cZ x_1 target_2=some r) :
  FnM Tryz.prog 265 [(vL eI x_1),(vI target_2)] [] (.tup [(vI r.1),(vB r.2)]) []:=by
 refine FnM.of_wH ⟨Tryz.prog,54,[],[]⟩ rfl Tryz.func265 rfl rfl (Nat.le_of_ble_eq_true rfl) (by kernel_rfl) ?_
 unfold cZ at hF
 refine af (aa (ae (vI 0) wz rfl (ae (vB false) wz rfl (aj (af (aa (ae (vL eI x_1) wz rfl (cO vW rfl wz (ae (vI (x_1.length:Int)) wz rfl (aj (af (aa (ae (vI (x_1.length:Int)) wz rfl (ae (vI 0) wz rfl (ae (vI (x_1.length:Int)) wz rfl (aj (af ?_)))))))))))))))))
 obtain ⟨o_11,hj_12,hF⟩:=bind_some hF
 obtain ⟨nq_34,hj_12⟩:=cz hj_12
 refine aH (β:=(Int×Int)) (fun (s_8:Int×Int)=>([(0,(vL eI x_1)),(1,(vI target_2)),(6,(vI (x_1.length:Int))),(7,(vI s_8.1))]:List (Nat×V))) (fun (s_8:Int×Int)=>([]:Hp)) (fun p=>o_11 = .go p) ?_ ?_
 ·refine aC (aV (β:=Nat×(Int×Int)) (fun p=>(fun (k_3:Nat) (s_8:Int×Int)=>([(0,(vL eI x_1)),(1,(vI target_2)),(6,(vI (x_1.length:Int))),(7,(vI s_8.1)),(8,(vI s_8.2))]:List (Nat×V))) p.1 p.2) (fun p=>(fun (k_3:Nat) (s_8:Int×Int)=>([]:Hp)) p.1 p.2) (fun p=>iterN (fun s=>aY x_1 target_2 s) p.1 p.2=some o_11) (fun p=>p.1) (nq_34,(0,(x_1.length:Int))) hj_12 rfl (aJ rfl) ?_)
  rintro ⟨k_3,s_8⟩ hL_10
  dsimp only at hL_10
  cases k_3 with
  | zero=>cases hL_10
  | succ k_3 =>
   obtain ⟨c_,hc_9,hL_10⟩:=bind_some hL_10
   unfold aY at hc_9
   refine af (af (aa (ae (vI s_8.1) wz rfl (ae (vI s_8.2) wz rfl (ae (vB (decide (s_8.1 < s_8.2))) wz rfl (aj ?_))))))
   rcases au hc_9 with⟨hc_13,hc_9⟩ | ⟨hc_13,hc_9⟩
   ·refine aA rfl hc_13 (av (aC (af (aa (ae (vI s_8.1) wz rfl (ae (vI s_8.2) wz rfl (ae (vI (w64 (s_8.1 + s_8.2))) wz rfl (mr un3 EK rfl wz ?_))))))))
    obtain ⟨q_14,hz_15,hc_9⟩:=bind_some hc_9
    refine Ii rfl rfl hz_15 wz (mr EK un3 rfl wz (ae (vI (w64 q_14)) wz rfl (aj (af (aa (ae (vL eI x_1) wz rfl (ae (vI (w64 q_14)) wz rfl ?_)))))))
    obtain ⟨y_16,hy_17,hc_9⟩:=bind_some hc_9
    refine dU kw rfl rfl hy_17 rfl wz (bN sz3 ag3 rfl (vI y_16) rfl wz (ae (vI target_2) wz rfl ?_))
    obtain ⟨r_18,hr_19,hc_9⟩:=bind_some hc_9
    refine aG (BJ hr_19) rfl hb220 rfl rfl rfl rfl wz (aj ?_)
    rcases au hc_9 with⟨hc_20,hc_9⟩ | ⟨hc_20,hc_9⟩
    ·refine aA rfl hc_20 (aa (ae (vI (w64 q_14)) wz rfl (ae (vI (w64 ((w64 q_14) + 1))) wz rfl (ae (vI (w64 ((w64 q_14) + 1))) wz rfl (aj ?_)))))
     obtain rfl:=ah hc_9
     exact aP (k_3,((w64 ((w64 q_14) + 1)),s_8.2)) hL_10 (Nat.lt_succ_self _) rfl (aJ rfl)
    ·refine ay rfl hc_20 (aa (ae (vI (w64 q_14)) wz rfl (ae (vI (w64 q_14)) wz rfl (aj ?_))))
     obtain rfl:=ah hc_9
     exact aP (k_3,(s_8.1,(w64 q_14))) hL_10 (Nat.lt_succ_self _) rfl (aJ rfl)
   ·refine ay rfl hc_13 (aQ ?_)
    obtain rfl:=ah hc_9
    obtain rfl:=ah hL_10
    exact aR ((s_8.1,s_8.2)) rfl rfl (aJ rfl)
 ·rintro s_8 ho_ sl_ H_ hp_ hq_
  subst ho_
  refine aL _ hp_ hq_ (af ?_)
  obtain ⟨v_21,h_22,hF⟩:=bind_some hF
  refine aH (β:=Unit) (fun _=>([(4,(vI s_8.1)),(5,(vB v_21))]:List (Nat×V))) (fun _=>([]:Hp)) (fun _=>True) ?_ ?_
  ·refine aa (ae (vI s_8.1) wz rfl (ae (vI s_8.1) wz rfl (ae (vI (x_1.length:Int)) wz rfl (ae (vB (decide (s_8.1 < (x_1.length:Int)))) wz rfl ?_))))
   rcases au h_22 with⟨hc_23,h_22⟩ | ⟨hc_23,h_22⟩
   ·refine aF rfl hc_23 wz (ae (vL eI x_1) wa rfl (ae (vI s_8.1) wa rfl ?_))
    obtain ⟨y_24,hy_25,h_22⟩:=bind_some h_22
    refine dU kw rfl rfl hy_25 rfl wa (bN sz3 ag3 rfl (vI y_24) rfl wa (ae (vI target_2) wa rfl (ae (vB (y_24 == target_2)) wa rfl ?_)))
    rcases au h_22 with⟨hc_26,h_22⟩ | ⟨hc_26,h_22⟩
    ·refine aF rfl hc_26 wa (ak wa (ak wa (ak wa (ak wa (ak wa (ak wa (ak (wn rfl rfl) (ak (wn rfl rfl) (ak wa (ae (vB true) wa rfl (ae (vB true) wz rfl (ae (vI s_8.1) wz rfl (ae (vB true) wz rfl (aj ?_))))))))))))))
     obtain rfl:=ah h_22
     exact cu
    ·refine aF rfl hc_26 wa (ae (vL eI x_1) wa rfl (ae (vI s_8.1) wa rfl ?_))
     obtain ⟨y_27,hy_28,h_22⟩:=bind_some h_22
     refine dU kw rfl rfl hy_28 rfl wa (bN sz3 ag3 rfl (vI y_27) rfl wa ?_)
     obtain ⟨r_29,hr_30,h_22⟩:=bind_some h_22
     refine aG (qm hr_30) rfl hb313 rfl rfl rfl rfl wa ?_
     rcases au h_22 with⟨hc_31,h_22⟩ | ⟨hc_31,h_22⟩
     ·refine aF rfl hc_31 wa (ae (vI target_2) wa rfl ?_)
      obtain ⟨r_32,hr_33,h_22⟩:=bind_some h_22
      refine aG (qm hr_33) rfl hb313 rfl rfl rfl rfl wa (ae (vB r_32) wa rfl (ae (vB r_32) wa rfl (ae (vB r_32) wz rfl (ae (vI s_8.1) wz rfl (ae (vB r_32) wz rfl (aj ?_))))))
      obtain rfl:=ah h_22
      exact cu
     ·refine aF rfl hc_31 wa (ak wa (ak wa (ae (vB false) wa rfl (ae (vB false) wa rfl (ae (vB false) wz rfl (ae (vI s_8.1) wz rfl (ae (vB false) wz rfl (aj ?_))))))))
      obtain rfl:=ah h_22
      exact cu
   ·refine aF rfl hc_23 wz (ak wa (ak wa (ak wa (ak wa (ak wa (ak wa (ak wa (ak (wn rfl rfl) (ak (wn rfl rfl) (ak (wn rfl rfl) (ak (wn rfl rfl) (ak (wn rfl rfl) (ak (wn rfl rfl) (ak (wn rfl rfl) (ak (wn rfl rfl) (ak (wn rfl rfl) (ak wa (ae (vB false) wz rfl (ae (vI s_8.1) wz rfl (ae (vB false) wz rfl (aj ?_)))))))))))))))))))))
    obtain rfl:=ah h_22
    exact cu
  ·rintro ⟨⟩ _ sl_ H_ hp_ hq_
   refine aL _ hp_ hq_ ?_
   obtain rfl:=ah hF
   exact aB (aO (.inr rfl) [(vI s_8.1),(vB v_21)] ⟨rfl,⟨rfl,trivial⟩⟩ rfl rfl rfl)
theorem rY {e_1:Entry} {d_2:Int} {r:Bool} (hF:ja e_1 d_2=some r) :
  FnM Tryz.prog 198 [(.d (.agg (Entry.enc e_1))),(vI d_2)] [] (vB r) []:=by
 refine FnM.of_wH ⟨Tryz.prog,41,[],[]⟩ rfl Tryz.func198 rfl rfl (Nat.le_of_ble_eq_true rfl) (by kernel_rfl) ?_
 unfold ja at hF
 refine af (aa (ek 0 (.inl rfl) [(vS e_1.Key),(vS e_1.Item),(vI e_1.Version),(vI e_1.First),(vI e_1.Last),(vI e_1.Every),(vI e_1.Days),(vL eI e_1.Except),(vI e_1.From),(vI e_1.To),(vI e_1.Prio),(vL eS e_1.Tags),(vB e_1.Gone)] rfl rfl wz (fun n_3=>ae (vB false) wz rfl (aj (af (af ?_))))))
 obtain ⟨v_4,h_5,hF⟩:=bind_some hF
 refine aH (β:=Unit) (fun _=>([(1,(vI d_2)),(2,(.ref n_3 0 0)),(31,(vB v_4))]:List (Nat×V))) (fun _=>([(n_3,some (.cells 13 [(vS e_1.Key),(vS e_1.Item),(vI e_1.Version),(vI e_1.First),(vI e_1.Last),(vI e_1.Every),(vI e_1.Days),(vL eI e_1.Except),(vI e_1.From),(vI e_1.To),(vI e_1.Prio),(vL eS e_1.Tags),(vB e_1.Gone)]))]:Hp)) (fun _=>True) ?_ ?_
 ·refine bC (ae (vI d_2) wz rfl (aI xC rfl 3 rfl wz (aD 2 0 (.inr (by kernel_rfl)) (fun _ _ ag=>trivial) sz3 ag3 rfl rfl (vI e_1.First) rfl wz (aI xx rfl 4 rfl wz (aD 4 0 (.inr (by kernel_rfl)) (fun _ _ ag=>⟨.inl ⟨rfl,rfl⟩,trivial⟩) sz3 ag3 rfl rfl (vI e_1.Last) rfl wz ?_)))))
  obtain ⟨r_6,hr_7,h_5⟩:=bind_some h_5
  refine aG (bg hr_7) rfl qE rfl rfl rfl rfl wz ?_
  rcases au h_5 with⟨hc_8,h_5⟩ | ⟨hc_8,h_5⟩
  ·refine aF rfl hc_8 wz (ak wa (ak wa (ak wa (ak wa (ak wa (ak wa (ak wa (ak wa (ae (vB true) wz rfl (ae (vB true) wz rfl (ak wa (ak wa (ak wa (ak wa (ak wa (ak wa (ak wa (ae (vB true) wz rfl (aj ?_)))))))))))))))))))
   obtain rfl:=ah h_5
   exact cu
  ·refine aF rfl hc_8 wz (ae (vI d_2) wa rfl (aI xC rfl 3 rfl wa (aD 9 0 (.inr (by kernel_rfl)) (fun _ _ ag=>⟨.inl ⟨rfl,rfl⟩,⟨.inl ⟨rfl,rfl⟩,trivial⟩⟩) sz3 ag3 rfl rfl (vI e_1.First) rfl wa (ae (vI (w64 (d_2 - e_1.First))) wa rfl (aI JM rfl 5 rfl wa (aD 12 0 (.inr (by kernel_rfl)) (fun _ _ ag=>⟨.inl ⟨rfl,rfl⟩,⟨.inl ⟨rfl,rfl⟩,⟨.inl ⟨rfl,rfl⟩,trivial⟩⟩⟩) sz3 ag3 rfl rfl (vI e_1.Every) rfl wa ?_))))))
   obtain ⟨q_9,hz_10,h_5⟩:=bind_some h_5
   refine K8 rfl rfl hz_10 wa (ae (vB (q_9 != 0)) wa rfl (ae (vB (q_9 != 0)) wz rfl ?_))
   rcases au h_5 with⟨hc_11,h_5⟩ | ⟨hc_11,h_5⟩
   ·refine aF rfl hc_11 wz (ak wa (ak wa (ak wa (ak wa (ak wa (ak wa (ak wa (ae (vB true) wz rfl (aj ?_)))))))))
    obtain rfl:=ah h_5
    exact cu
   ·refine aF rfl hc_11 wz (aI Jz rfl 6 rfl wa (aD 18 0 (.inr (by kernel_rfl)) (fun _ _ ag=>⟨.inl ⟨rfl,rfl⟩,⟨.inl ⟨rfl,rfl⟩,⟨.inl ⟨rfl,rfl⟩,⟨.inl ⟨rfl,rfl⟩,trivial⟩⟩⟩⟩) sz3 ag3 rfl rfl (vI e_1.Days) rfl wa (ae (vI d_2) wa rfl (ae (vI (d_2.tmod 7)) wa rfl ?_))))
    obtain ⟨q_12,hz_13,h_5⟩:=bind_some h_5
    refine A8 rfl rfl hz_13 wa (ae (vI (pq .i64 e_1.Days q_12)) wa rfl (ae (vB ((pq .i64 e_1.Days q_12) == 0)) wa rfl (ae (vB ((pq .i64 e_1.Days q_12) == 0)) wz rfl (aj ?_))))
    obtain rfl:=ah h_5
    exact cu
 ·rintro ⟨⟩ _ sl_ H_ hp_ hq_
  refine aL _ hp_ hq_ ?_
  rcases au hF with⟨hc_14,hF⟩ | ⟨hc_14,hF⟩
  ·refine aA rfl hc_14 (af (aa (ae (vB false) wz rfl (aj ?_))))
   obtain rfl:=ah hF
   exact aB (aO (.inr rfl) [(vB false)] ⟨rfl,trivial⟩ rfl rfl rfl)
  ·refine ay rfl hc_14 (av (af (aa (aI BP rfl 7 rfl wz (aD 0 0 il ft yI Ac rfl rfl (vL eI e_1.Except) rfl wz (ae (vI d_2) wz rfl ?_))))))
   obtain ⟨r_15,hr_16,hF⟩:=bind_some hF
   refine aG (oH hr_16) rfl hb265 rfl rfl rfl rfl wz (ae (.tup [(vI r_15.1),(vB r_15.2)]) wz rfl (ae (vI r_15.1) wz rfl (ae (vB r_15.2) wz rfl (ae (vI r_15.1) wz rfl (ae (vB r_15.2) wz rfl (aj (af (aa (ae (vB r_15.2) wz rfl (ae (vB (!r_15.2)) wz rfl (ae (vB (!r_15.2)) wz rfl (aj ?_))))))))))))
   obtain rfl:=ah hF
   exact aB (aO (.inr rfl) [(vB (!r_15.2))] ⟨rfl,trivial⟩ rfl rfl rfl)
theorem qY {e_1:Entry} {zone_2:Int} {d_3:Int} {r:Window} (hF:jk e_1 zone_2 d_3=some r) :
  FnM Tryz.prog 199 [(.d (.agg (Entry.enc e_1))),(vI zone_2),(vI d_3)] [] (.d (.agg (Window.enc r))) []:=by
 refine FnM.of_wH ⟨Tryz.prog,32,[],[]⟩ rfl Tryz.func199 rfl rfl (Nat.le_of_ble_eq_true rfl) (by kernel_rfl) ?_
 unfold jk at hF
 refine af (aa (ek 0 (.inl rfl) [(vS e_1.Key),(vS e_1.Item),(vI e_1.Version),(vI e_1.First),(vI e_1.Last),(vI e_1.Every),(vI e_1.Days),(vL eI e_1.Except),(vI e_1.From),(vI e_1.To),(vI e_1.Prio),(vL eS e_1.Tags),(vB e_1.Gone)] rfl rfl wz (fun n_4=>dB 0 (.inl rfl) z60 rfl wz (fun n_5=>aj (af (aa (aI J9 rfl 9 rfl wz (aD 0 0 il ft sz3 ag3 rfl rfl (vI e_1.To) rfl wz (aI FM rfl 8 rfl wz (aD 0 0 il ft sz3 ag3 rfl rfl (vI e_1.From) rfl wz (ae (vI (w64 (e_1.To - e_1.From))) wz rfl (ae (vI (w64 (e_1.To - e_1.From))) wz rfl (aj (af (af (aa (ae (vI (w64 (e_1.To - e_1.From))) wz rfl (ae (vB (decide ((w64 (e_1.To - e_1.From))≤0))) wz rfl (aj ?_)))))))))))))))))))
 obtain ⟨v_6,h_7,hF⟩:=bind_some hF
 refine aH (β:=Unit) (fun _=>([(1,(vI zone_2)),(2,(vI d_3)),(3,(.ref n_4 0 0)),(6,(.ref n_5 0 0)),(7,(vI v_6))]:List (Nat×V))) (fun _=>([(n_4,some (.cells 13 [(vS e_1.Key),(vS e_1.Item),(vI e_1.Version),(vI e_1.First),(vI e_1.Last),(vI e_1.Every),(vI e_1.Days),(vL eI e_1.Except),(vI e_1.From),(vI e_1.To),(vI e_1.Prio),(vL eS e_1.Tags),(vB e_1.Gone)])),(n_5,some (.cells 2 [(vI 0),(vI 0)]))]:Hp)) (fun _=>True) ?_ ?_
 ·rcases au h_7 with⟨hc_8,h_7⟩ | ⟨hc_8,h_7⟩
  ·refine aA rfl hc_8 (aa (ae (vI (w64 (e_1.To - e_1.From))) wz rfl (ae (vI (w64 ((w64 (e_1.To - e_1.From)) + 1440))) wz rfl (ae (vI (w64 ((w64 (e_1.To - e_1.From)) + 1440))) wz rfl (aj ?_)))))
   obtain rfl:=ah h_7
   exact cu
  ·refine ay rfl hc_8 (av ?_)
   obtain rfl:=ah h_7
   exact cu
 ·rintro ⟨⟩ _ sl_ H_ hp_ hq_
  refine aL _ hp_ hq_ (af (aa (ae (vI d_3) wz rfl (ae (vI (w64 (d_3 * 1440))) wz rfl (aI FM rfl 8 rfl wz (aD 0 0 il ft sz3 ag3 rfl rfl (vI e_1.From) rfl wz (ae (vI (w64 ((w64 (d_3 * 1440)) + e_1.From))) wz rfl (ae (vI zone_2) wz rfl (ae (vI (w64 ((w64 ((w64 (d_3 * 1440)) + e_1.From)) - zone_2))) wz rfl (ae (vI (w64 ((w64 ((w64 ((w64 (d_3 * 1440)) + e_1.From)) - zone_2)) * 60000))) wz rfl (ae (vI (w64 ((w64 ((w64 ((w64 (d_3 * 1440)) + e_1.From)) - zone_2)) * 60000))) wz rfl (aj (af (aa (ae (vI (w64 ((w64 ((w64 ((w64 (d_3 * 1440)) + e_1.From)) - zone_2)) * 60000))) wz rfl (ae (vI (w64 ((w64 ((w64 ((w64 (d_3 * 1440)) + e_1.From)) - zone_2)) * 60000))) wz rfl (ae (vI v_6) wz rfl (ae (vI (w64 (v_6 * 60000))) wz rfl (ae (vI (w64 ((w64 ((w64 ((w64 ((w64 (d_3 * 1440)) + e_1.From)) - zone_2)) * 60000)) + (w64 (v_6 * 60000))))) wz rfl (ae (.d (.agg (Window.enc (⟨(w64 ((w64 ((w64 ((w64 (d_3 * 1440)) + e_1.From)) - zone_2)) * 60000)),(w64 ((w64 ((w64 ((w64 ((w64 (d_3 * 1440)) + e_1.From)) - zone_2)) * 60000)) + (w64 (v_6 * 60000))))⟩:Window)))) wz (by kernel_rfl) (fH 0 il ft 1 mE rfl rfl [(vI (w64 ((w64 ((w64 ((w64 (d_3 * 1440)) + e_1.From)) - zone_2)) * 60000))),(vI (w64 ((w64 ((w64 ((w64 ((w64 (d_3 * 1440)) + e_1.From)) - zone_2)) * 60000)) + (w64 (v_6 * 60000)))))] rfl wz (aj ?_))))))))))))))))))))))
  obtain rfl:=ah hF
  exact aB (aO (.inr rfl) [(.d (.agg (Window.enc (⟨(w64 ((w64 ((w64 ((w64 (d_3 * 1440)) + e_1.From)) - zone_2)) * 60000)),(w64 ((w64 ((w64 ((w64 ((w64 (d_3 * 1440)) + e_1.From)) - zone_2)) * 60000)) + (w64 (v_6 * 60000))))⟩:Window))))] ⟨⟨1,_,_,_,_,_,_,_,rfl,rfl,mE,sw,rfl⟩,trivial⟩ rfl rfl rfl)
theorem rT {e_1:Entry} {zone_2:Int} {wv_3:Window} {r:(List Window)} (hF:fG e_1 zone_2 wv_3=some r) :
  FnM Tryz.prog 154 [(.d (.agg (Entry.enc e_1))),(vI zone_2),(.d (.agg (Window.enc wv_3)))] [] (vL Window.enc r) []:=by
 refine FnM.of_wH ⟨Tryz.prog,72,[],[]⟩ rfl Tryz.func154 rfl rfl (Nat.le_of_ble_eq_true rfl) (by kernel_rfl) ?_
 unfold fG at hF
 refine af (aa (ek 0 (.inl rfl) [(vS e_1.Key),(vS e_1.Item),(vI e_1.Version),(vI e_1.First),(vI e_1.Last),(vI e_1.Every),(vI e_1.Days),(vL eI e_1.Except),(vI e_1.From),(vI e_1.To),(vI e_1.Prio),(vL eS e_1.Tags),(vB e_1.Gone)] rfl rfl wz (fun n_4=>ek 0 (.inl rfl) [(vI wv_3.From),(vI wv_3.To)] rfl rfl wz (fun n_5=>ae .nil wz rfl (aj (af (aa (ae .nil wz rfl (aj (af (af ?_)))))))))))
 obtain ⟨v_6,h_7,hF⟩:=bind_some hF
 refine aH (β:=Unit) (fun _=>([(1,(vI zone_2)),(3,(.ref n_4 0 0)),(5,(.ref n_5 0 0)),(7,.nil),(20,(vB v_6))]:List (Nat×V))) (fun _=>([(n_4,some (.cells 13 [(vS e_1.Key),(vS e_1.Item),(vI e_1.Version),(vI e_1.First),(vI e_1.Last),(vI e_1.Every),(vI e_1.Days),(vL eI e_1.Except),(vI e_1.From),(vI e_1.To),(vI e_1.Prio),(vL eS e_1.Tags),(vB e_1.Gone)])),(n_5,some (.cells 2 [(vI wv_3.From),(vI wv_3.To)]))]:Hp)) (fun _=>True) ?_ ?_
 ·refine aa (aI HV rfl 12 rfl wz (aD 0 0 il ft sz4 ag4 rfl rfl (vB e_1.Gone) rfl wz ?_))
  rcases au h_7 with⟨hc_8,h_7⟩ | ⟨hc_8,h_7⟩
  ·refine aF rfl hc_8 wz (ak wa (ak wa (ak wa (ak wa (ak wa (ae (vB true) wz rfl (aj ?_)))))))
   obtain rfl:=ah h_7
   exact cu
  ·refine aF rfl hc_8 wz (aI iH rfl 0 rfl wa (aD 0 1 il ft sz3 ag3 rfl rfl (vI wv_3.From) rfl wa (aI jF rfl 1 rfl wa (aD 0 1 il ft sz3 ag3 rfl rfl (vI wv_3.To) rfl wa (ae (vB (decide (wv_3.From≥wv_3.To))) wa rfl (ae (vB (decide (wv_3.From≥wv_3.To))) wz rfl (aj ?_)))))))
   obtain rfl:=ah h_7
   exact cu
 ·rintro ⟨⟩ _ sl_ H_ hp_ hq_
  refine aL _ hp_ hq_ ?_
  rcases au hF with⟨hc_9,hF⟩ | ⟨hc_9,hF⟩
  ·refine aA rfl hc_9 (af (aa (ae .nil wz rfl (aj ?_))))
   obtain rfl:=ah hF
   exact aB (aO (.inr rfl) [.nil] ⟨rfl,trivial⟩ rfl rfl rfl)
  ·refine ay rfl hc_9 (av (af (aa (aI iH rfl 0 rfl wz (aD 0 1 il ft sz3 ag3 rfl rfl (vI wv_3.From) rfl wz (ae (vI zone_2) wz rfl (ae (vI (w64 (zone_2 * 60000))) wz rfl (ae (vI (w64 (wv_3.From + (w64 (zone_2 * 60000))))) wz rfl (ae (vI (w64 ((w64 (wv_3.From + (w64 (zone_2 * 60000)))).tdiv 86400000))) wz rfl (ae (vI (w64 ((w64 ((w64 (wv_3.From + (w64 (zone_2 * 60000)))).tdiv 86400000)) - 2))) wz rfl (ae (vI (w64 ((w64 ((w64 (wv_3.From + (w64 (zone_2 * 60000)))).tdiv 86400000)) - 2))) wz rfl (aj (af (aa (aI jF rfl 1 rfl wz (aD 0 1 il ft sz3 ag3 rfl rfl (vI wv_3.To) rfl wz (ae (vI zone_2) wz rfl (ae (vI (w64 (zone_2 * 60000))) wz rfl (ae (vI (w64 (wv_3.To + (w64 (zone_2 * 60000))))) wz rfl (ae (vI (w64 ((w64 (wv_3.To + (w64 (zone_2 * 60000)))).tdiv 86400000))) wz rfl (ae (vI (w64 ((w64 ((w64 (wv_3.To + (w64 (zone_2 * 60000)))).tdiv 86400000)) + 1))) wz rfl (ae (vI (w64 ((w64 ((w64 (wv_3.To + (w64 (zone_2 * 60000)))).tdiv 86400000)) + 1))) wz rfl (aj ?_)))))))))))))))))))))))
   refine af (af (aa (ae (vI (w64 ((w64 ((w64 (wv_3.From + (w64 (zone_2 * 60000)))).tdiv 86400000)) - 2))) wz rfl (aI xC rfl 3 rfl wz (aD 0 0 il ft sz3 ag3 rfl rfl (vI e_1.First) rfl wz (nS (vI (ma (w64 ((w64 ((w64 (wv_3.From + (w64 (zone_2 * 60000)))).tdiv 86400000)) - 2)) e_1.First)) rfl (.inr rfl) wz (ae (vI (ma (w64 ((w64 ((w64 (wv_3.From + (w64 (zone_2 * 60000)))).tdiv 86400000)) - 2)) e_1.First)) wz rfl (aj (mo (fun n_16 => ?_))))))))))
   obtain ⟨o_21,hj_22,hF⟩:=bind_some hF
   obtain ⟨nq_40,hj_22⟩:=cz hj_22
   refine aH (β:=((List Window)×Int)×Nm) (fun p=>(fun (s_15:(List Window)×Int) (n_18:Nm)=>([(7,(gV n_18 2 s_15.1))]:List (Nat×V))) p.1 p.2) (fun p=>(fun (s_15:(List Window)×Int) (n_18:Nm)=>([(n_4,some (.cells 13 [(vS e_1.Key),(vS e_1.Item),(vI e_1.Version),(vI e_1.First),(vI e_1.Last),(vI e_1.Every),(vI e_1.Days),(vL eI e_1.Except),(vI e_1.From),(vI e_1.To),(vI e_1.Prio),(vL eS e_1.Tags),(vB e_1.Gone)])),(n_5,some (.cells 2 [(vI wv_3.From),(vI wv_3.To)])),(n_18,gB 2 Window.enc s_15.1)]:Hp)) p.1 p.2) (fun p=>o_21 = .go p.1) ?_ ?_
   ·refine aC (aV (β:=Nat×((List Window)×Int)×Nm) (fun p=>(fun (k_10:Nat) (s_15:(List Window)×Int) (n_18:Nm)=>([(1,(vI zone_2)),(3,(.ref n_4 0 0)),(5,(.ref n_5 0 0)),(7,(gV n_18 2 s_15.1)),(9,(vI (w64 ((w64 ((w64 (wv_3.To + (w64 (zone_2 * 60000)))).tdiv 86400000)) + 1)))),(10,(vI s_15.2))]:List (Nat×V))) p.1 p.2.1 p.2.2) (fun p=>(fun (k_10:Nat) (s_15:(List Window)×Int) (n_18:Nm)=>([(n_4,some (.cells 13 [(vS e_1.Key),(vS e_1.Item),(vI e_1.Version),(vI e_1.First),(vI e_1.Last),(vI e_1.Every),(vI e_1.Days),(vL eI e_1.Except),(vI e_1.From),(vI e_1.To),(vI e_1.Prio),(vL eS e_1.Tags),(vB e_1.Gone)])),(n_5,some (.cells 2 [(vI wv_3.From),(vI wv_3.To)])),(n_18,gB 2 Window.enc s_15.1)]:Hp)) p.1 p.2.1 p.2.2) (fun p=>iterN (fun s=>dM wv_3 zone_2 e_1 s) p.1 p.2.1=some o_21) (fun p=>p.1) (nq_40,(([]:List Window),(ma (w64 ((w64 ((w64 (wv_3.From + (w64 (zone_2 * 60000)))).tdiv 86400000)) - 2)) e_1.First)),n_16) hj_22 rfl (aJ rfl) ?_)
    rintro ⟨k_10,s_15,n_18⟩ hL_20
    dsimp only at hL_20
    cases k_10 with
    | zero=>cases hL_20
    | succ k_10 =>
     obtain ⟨c_,hc_19,hL_20⟩:=bind_some hL_20
     unfold dM at hc_19
     refine af (af (aa (ae (vI s_15.2) wz rfl (ae (vI (w64 ((w64 ((w64 (wv_3.To + (w64 (zone_2 * 60000)))).tdiv 86400000)) + 1))) wz rfl (aI xx rfl 4 rfl wz (aD 0 0 il ft sz3 ag3 rfl rfl (vI e_1.Last) rfl wz (nS (vI (p9 (w64 ((w64 ((w64 (wv_3.To + (w64 (zone_2 * 60000)))).tdiv 86400000)) + 1)) e_1.Last)) rfl (.inl rfl) wz (ae (vB (decide (s_15.2≤(p9 (w64 ((w64 ((w64 (wv_3.To + (w64 (zone_2 * 60000)))).tdiv 86400000)) + 1)) e_1.Last)))) wz rfl (aj ?_)))))))))
     rcases au hc_19 with⟨hc_23,hc_19⟩ | ⟨hc_23,hc_19⟩
     ·refine aA rfl hc_23 (av (af (aC (af (af (aa (aD 0 0 il ft qo tK rfl rfl (.d (.agg (Entry.enc e_1))) rfl wz (ae (vI s_15.2) wz rfl ?_))))))))
      obtain ⟨r_24,hr_25,hc_19⟩:=bind_some hc_19
      refine aG (rY hr_25) rfl hb198 rfl rfl rfl rfl wz (ae (vB (!r_24)) wz rfl (aj ?_))
      rcases au hc_19 with⟨hc_26,hc_19⟩ | ⟨hc_26,hc_19⟩
      ·refine aA rfl hc_26 (aQ (aa (ae (vI s_15.2) wz rfl (ae (vI (w64 (s_15.2 + 1))) wz rfl (ae (vI (w64 (s_15.2 + 1))) wz rfl (aj ?_))))))
       obtain rfl:=ah hc_19
       exact aP (k_10,(s_15.1,(w64 (s_15.2 + 1))),n_18) hL_20 (Nat.lt_succ_self _) rfl (aJ rfl)
      ·refine ay rfl hc_26 (av (af (aa (aD 0 0 il ft qo tK rfl rfl (.d (.agg (Entry.enc e_1))) rfl wz (ae (vI zone_2) wz rfl (ae (vI s_15.2) wz rfl ?_))))))
       obtain ⟨r_27,hr_28,hc_19⟩:=bind_some hc_19
       refine aG (qY hr_28) rfl hb199 rfl rfl rfl rfl wz (dB 0 (.inl rfl) z60 rfl wz (fun n_29=>fH 0 il ft 3 mE rfl rfl [(vI r_27.From),(vI r_27.To)] rfl wz (aj (af ?_))))
       obtain ⟨v_30,h_31,hc_19⟩:=bind_some hc_19
       refine aH (β:=Unit) (fun _=>([(1,(vI zone_2)),(3,(.ref n_4 0 0)),(5,(.ref n_5 0 0)),(7,(gV n_18 2 s_15.1)),(9,(vI (w64 ((w64 ((w64 (wv_3.To + (w64 (zone_2 * 60000)))).tdiv 86400000)) + 1)))),(10,(vI s_15.2)),(11,(.ref n_29 0 0)),(66,(vB v_30))]:List (Nat×V))) (fun _=>([(n_4,some (.cells 13 [(vS e_1.Key),(vS e_1.Item),(vI e_1.Version),(vI e_1.First),(vI e_1.Last),(vI e_1.Every),(vI e_1.Days),(vL eI e_1.Except),(vI e_1.From),(vI e_1.To),(vI e_1.Prio),(vL eS e_1.Tags),(vB e_1.Gone)])),(n_5,some (.cells 2 [(vI wv_3.From),(vI wv_3.To)])),(n_18,gB 2 Window.enc s_15.1),(n_29,some (.cells 2 [(vI r_27.From),(vI r_27.To)]))]:Hp)) (fun _=>True) ?_ ?_
       ·refine aa (aI iH rfl 0 rfl wz (aD 0 3 il ft sz3 ag3 rfl rfl (vI r_27.From) rfl wz (aI jF rfl 1 rfl wz (aD 0 1 il ft sz3 ag3 rfl rfl (vI wv_3.To) rfl wz (ae (vB (decide (r_27.From < wv_3.To))) wz rfl ?_)))))
        rcases au h_31 with⟨hc_32,h_31⟩ | ⟨hc_32,h_31⟩
        ·refine aF rfl hc_32 wz (aI jF rfl 1 rfl wa (aD 0 3 il ft sz3 ag3 rfl rfl (vI r_27.To) rfl wa (aI iH rfl 0 rfl wa (aD 0 1 il ft sz3 ag3 rfl rfl (vI wv_3.From) rfl wa (ae (vB (decide (r_27.To > wv_3.From))) wa rfl (ae (vB (decide (r_27.To > wv_3.From))) wz rfl (aj ?_)))))))
         obtain rfl:=ah h_31
         exact cu
        ·refine aF rfl hc_32 wz (ak wa (ak wa (ak wa (ak wa (ak wa (ae (vB false) wz rfl (aj ?_)))))))
         obtain rfl:=ah h_31
         exact cu
       ·rintro ⟨⟩ _ sl_ H_ hp_ hq_
        refine aL _ hp_ hq_ ?_
        obtain ⟨v_33,h_34,hc_19⟩:=bind_some hc_19
        refine aH (β:=Nm) (fun (n_35:Nm)=>([(1,(vI zone_2)),(3,(.ref n_4 0 0)),(5,(.ref n_5 0 0)),(7,(gV n_35 2 v_33)),(9,(vI (w64 ((w64 ((w64 (wv_3.To + (w64 (zone_2 * 60000)))).tdiv 86400000)) + 1)))),(10,(vI s_15.2))]:List (Nat×V))) (fun (n_35:Nm)=>([(n_4,some (.cells 13 [(vS e_1.Key),(vS e_1.Item),(vI e_1.Version),(vI e_1.First),(vI e_1.Last),(vI e_1.Every),(vI e_1.Days),(vL eI e_1.Except),(vI e_1.From),(vI e_1.To),(vI e_1.Prio),(vL eS e_1.Tags),(vB e_1.Gone)])),(n_5,some (.cells 2 [(vI wv_3.From),(vI wv_3.To)])),(n_35,gB 2 Window.enc v_33),(n_29,some (.cells 2 [(vI r_27.From),(vI r_27.To)]))]:Hp)) (fun _=>True) ?_ ?_
        ·rcases au h_34 with⟨hc_36,h_34⟩ | ⟨hc_36,h_34⟩
         ·refine aA rfl hc_36 (aa (ae (gV n_18 2 s_15.1) wz rfl (aD 0 3 il ft mE sw rfl rfl (.d (.agg (Window.enc r_27))) rfl wz (eU (([r_27]:List Window).map Window.enc) Eu ez147 rfl rfl rfl rfl rfl wz ?_))))
          obtain ⟨a_37,hz_38,h_34⟩:=bind_some h_34
          refine lJ 0 il ft (i:=2) JU JU mE z60 rfl (by decide) by60 (by decide) (fun _=>rfl) rfl rfl rfl hz_38 wz (fun n_39=>ae (gV n_39 2 a_37) wz rfl (aj ?_))
          obtain rfl:=ah h_34
          exact aR n_39 trivial rfl (aJ rfl)
         ·refine ay rfl hc_36 (av ?_)
          obtain rfl:=ah h_34
          exact aR n_18 trivial rfl (aJ rfl)
        ·rintro n_35 _ sl_ H_ hp_ hq_
         refine aL _ hp_ hq_ (aa (ae (vI s_15.2) wz rfl (ae (vI (w64 (s_15.2 + 1))) wz rfl (ae (vI (w64 (s_15.2 + 1))) wz rfl (aj ?_)))))
         obtain rfl:=ah hc_19
         exact aP (k_10,(v_33,(w64 (s_15.2 + 1))),n_35) hL_20 (Nat.lt_succ_self _) rfl (aJ rfl)
     ·refine ay rfl hc_23 (aQ ?_)
      obtain rfl:=ah hc_19
      obtain rfl:=ah hL_20
      exact aR ((s_15.1,s_15.2),n_18) rfl rfl (aJ rfl)
   ·rintro ⟨s_15,n_18⟩ ho_ sl_ H_ hp_ hq_
    subst ho_
    refine aL _ hp_ hq_ (af (aa (ae (gV n_18 2 s_15.1) wz rfl (ae (gV n_18 2 s_15.1) wz rfl (aj (iK 2 rfl (eH 6 2 rfl rfl (eH 7 2 rfl rfl (eH 71 2 rfl rfl ?_)))))))))
    obtain rfl:=ah hF
    exact aB (aO (.inr rfl) [(vL Window.enc s_15.1)] ⟨rfl,trivial⟩ rfl rfl rfl)
theorem zt {l_1:(List Entry)} {p_2:Player} {wv_3:Window} {r:(List Span)} (hF:gp l_1 p_2 wv_3=some r) :
  FnM Tryz.prog 170 [(vL Entry.enc l_1),(.d (.agg (Player.enc p_2))),(.d (.agg (Window.enc wv_3)))] [] (vL Span.enc r) []:=by
 refine FnM.of_wH ⟨Tryz.prog,47,[],[]⟩ rfl Tryz.func170 rfl rfl (Nat.le_of_ble_eq_true rfl) (by kernel_rfl) ?_
 unfold gp at hF
 refine af (aa (ek 0 (.inl rfl) [(vS p_2.Key),(vS p_2.Screen),(vI p_2.Zone),(vL eS p_2.Tags)] rfl rfl wz (fun n_4=>ek 0 (.inl rfl) [(vI wv_3.From),(vI wv_3.To)] rfl rfl wz (fun n_5=>ae .nil wz rfl (aj (af (aa (ae .nil wz rfl (aj (af (af (aa (ae (vL Entry.enc l_1) wz rfl (cO un77 rfl wz (ae (vI 0) wz rfl (aj (mo (fun n_12 => ?_))))))))))))))))))
 obtain ⟨o_17,hj_18,hF⟩:=bind_some hF
 obtain ⟨hn_10,hj_18⟩:=bv hj_18
 refine aH (β:=((List Span))×Nm) (fun p=>(fun (s_11:(List Span)) (n_14:Nm)=>([(7,(gV n_14 3 s_11))]:List (Nat×V))) p.1 p.2) (fun p=>(fun (s_11:(List Span)) (n_14:Nm)=>([(n_4,some (.cells 4 [(vS p_2.Key),(vS p_2.Screen),(vI p_2.Zone),(vL eS p_2.Tags)])),(n_5,some (.cells 2 [(vI wv_3.From),(vI wv_3.To)])),(n_14,gB 3 Span.enc s_11)]:Hp)) p.1 p.2) (fun p=>o_17 = .go p.1) ?_ ?_
 ·refine aC (aV (β:=Nat×(List Entry)×((List Span))×Nm) (fun p=>(fun (k_6:Nat) (l_7:List Entry) (s_11:(List Span)) (n_14:Nm)=>([(0,(vL Entry.enc l_1)),(4,(.ref n_4 0 0)),(5,(.ref n_5 0 0)),(7,(gV n_14 3 s_11)),(12,(vI (l_1.length:Int))),(13,(vI (k_6:Int)))]:List (Nat×V))) p.1 p.2.1 p.2.2.1 p.2.2.2) (fun p=>(fun (k_6:Nat) (l_7:List Entry) (s_11:(List Span)) (n_14:Nm)=>([(n_4,some (.cells 4 [(vS p_2.Key),(vS p_2.Screen),(vI p_2.Zone),(vL eS p_2.Tags)])),(n_5,some (.cells 2 [(vI wv_3.From),(vI wv_3.To)])),(n_14,gB 3 Span.enc s_11)]:Hp)) p.1 p.2.1 p.2.2.1 p.2.2.2) (fun p=>forR (fun k x s=>gu p_2 wv_3 l_1 k x s) p.2.1 p.1 p.2.2.1=some o_17∧(l_1).drop p.1=p.2.1) (fun p=>p.2.1.length) (0,l_1,([]:List Span),n_12) ⟨hj_18,rfl⟩ rfl (aJ rfl) ?_)
  rintro ⟨k_6,l_7,s_11,n_14⟩ ⟨hL_16,hD_9⟩
  dsimp only at hL_16 hD_9
  cases l_7 with
  | nil =>
   obtain rfl:=ah hL_16
   refine af (aa (ae (vB (decide ((k_6:Int) < (l_1.length:Int)))) wz rfl (aj ?_)))
   refine af (ay rfl (drop_nil hD_9) (aQ ?_))
   exact aR (s_11,n_14) rfl rfl (aJ rfl)
  | cons x_8 l_7 =>
   obtain ⟨c_,hc_15,hL_16⟩:=bind_some hL_16
   refine af (aa (ae (vB (decide ((k_6:Int) < (l_1.length:Int)))) wz rfl (aj ?_)))
   refine af (aA rfl (bL hD_9) (av ?_))
   unfold gu at hc_15
   refine af (aC (af (aa (ae (vI (k_6:Int)) wz rfl (ae (vI (k_6:Int)) wz rfl (aj (af (af (bC (ae (vL Entry.enc l_1) wz rfl (ae (vI (k_6:Int)) wz rfl (dU Ed rfl rfl (bT hD_9) rfl wz (bN qo tK rfl (.d (.agg (Entry.enc x_8))) rfl wz (aD 4 0 (.inr (by kernel_rfl)) (fun _ _ ag=>trivial) uJ wO rfl rfl (.d (.agg (Player.enc p_2))) rfl wz ?_))))))))))))))
   obtain ⟨r_19,hr_20,hc_15⟩:=bind_some hc_15
   refine aG (ut hr_20) rfl hb228 rfl rfl rfl rfl wz (ae (vB (!r_19)) wz rfl (aj ?_))
   rcases au hc_15 with⟨hc_21,hc_15⟩ | ⟨hc_21,hc_15⟩
   ·refine aA rfl hc_21 (aQ (aa (fJ (bO hD_9 hn_10) wz rfl (ae (vI ((k_6 + 1:Nat):Int)) wz rfl (aj ?_)))))
    obtain rfl:=ah hc_15
    exact aP (k_6 + 1,l_7,s_11,n_14) ⟨hL_16,aW hD_9⟩ (Nat.lt_succ_self _) rfl (aJ rfl)
   ·refine ay rfl hc_21 (av (af (bC (ae (vL Entry.enc l_1) wz rfl (ae (vI (k_6:Int)) wz rfl (dU Ed rfl rfl (bT hD_9) rfl wz (bN qo tK rfl (.d (.agg (Entry.enc x_8))) rfl wz (aI Jl rfl 2 rfl wz (aD 5 0 (.inr (by kernel_rfl)) (fun _ _ ag=>trivial) sz3 ag3 rfl rfl (vI p_2.Zone) rfl wz (aD 6 1 (.inr (by kernel_rfl)) (fun _ _ ag=>⟨.inl ⟨rfl,rfl⟩,trivial⟩) mE sw rfl rfl (.d (.agg (Window.enc wv_3))) rfl wz ?_))))))))))
    obtain ⟨r_22,hr_23,hc_15⟩:=bind_some hc_15
    refine aG (rT hr_23) rfl MU rfl rfl rfl rfl wz (cO JW rfl wz (ae (vI 0) wz rfl (aj ?_)))
    obtain ⟨o_34,hj_35,hc_15⟩:=bind_some hc_15
    obtain ⟨hn_28,hj_35⟩:=bv hj_35
    refine aH (β:=((List Span))×Nm) (fun p=>(fun (s_29:(List Span)) (n_31:Nm)=>([(0,(vL Entry.enc l_1)),(4,(.ref n_4 0 0)),(5,(.ref n_5 0 0)),(7,(gV n_31 3 s_29)),(12,(vI (l_1.length:Int))),(13,(vI (k_6:Int)))]:List (Nat×V))) p.1 p.2) (fun p=>(fun (s_29:(List Span)) (n_31:Nm)=>([(n_4,some (.cells 4 [(vS p_2.Key),(vS p_2.Screen),(vI p_2.Zone),(vL eS p_2.Tags)])),(n_5,some (.cells 2 [(vI wv_3.From),(vI wv_3.To)])),(n_31,gB 3 Span.enc s_29)]:Hp)) p.1 p.2) (fun p=>o_34 = .go p.1) ?_ ?_
    ·refine aC (aV (β:=Nat×(List Window)×((List Span))×Nm) (fun p=>(fun (k_24:Nat) (l_25:List Window) (s_29:(List Span)) (n_31:Nm)=>([(0,(vL Entry.enc l_1)),(4,(.ref n_4 0 0)),(5,(.ref n_5 0 0)),(7,(gV n_31 3 s_29)),(8,(vI (k_6:Int))),(12,(vI (l_1.length:Int))),(13,(vI (k_6:Int))),(30,(vL Window.enc r_22)),(31,(vI (r_22.length:Int))),(32,(vI (k_24:Int)))]:List (Nat×V))) p.1 p.2.1 p.2.2.1 p.2.2.2) (fun p=>(fun (k_24:Nat) (l_25:List Window) (s_29:(List Span)) (n_31:Nm)=>([(n_4,some (.cells 4 [(vS p_2.Key),(vS p_2.Screen),(vI p_2.Zone),(vL eS p_2.Tags)])),(n_5,some (.cells 2 [(vI wv_3.From),(vI wv_3.To)])),(n_31,gB 3 Span.enc s_29)]:Hp)) p.1 p.2.1 p.2.2.1 p.2.2.2) (fun p=>forR (fun k x s=>gq l_1 k_6 k x s) p.2.1 p.1 p.2.2.1=some o_34∧(r_22).drop p.1=p.2.1) (fun p=>p.2.1.length) (0,r_22,s_11,n_14) ⟨hj_35,rfl⟩ rfl (aJ rfl) ?_)
     rintro ⟨k_24,l_25,s_29,n_31⟩ ⟨hL_33,hD_27⟩
     dsimp only at hL_33 hD_27
     cases l_25 with
     | nil =>
      obtain rfl:=ah hL_33
      refine af (aa (ae (vB (decide ((k_24:Int) < (r_22.length:Int)))) wz rfl (aj ?_)))
      refine af (ay rfl (drop_nil hD_27) (aQ ?_))
      exact aR (s_29,n_31) rfl rfl (aJ rfl)
     | cons x_26 l_25 =>
      obtain ⟨c_,hc_32,hL_33⟩:=bind_some hL_33
      refine af (aa (ae (vB (decide ((k_24:Int) < (r_22.length:Int)))) wz rfl (aj ?_)))
      refine af (aA rfl (bL hD_27) (av ?_))
      unfold gq at hc_32
      refine af (aC (af (aa (dU Eu rfl rfl (bT hD_27) rfl wz (bN mE sw rfl (.d (.agg (Window.enc x_26))) rfl wz (dB 0 (.inl rfl) z60 rfl wz (fun n_36=>fH 0 il ft 3 mE rfl rfl [(vI x_26.From),(vI x_26.To)] rfl wz (aj (bC (ae (gV n_31 3 s_29) wz rfl (ae (vL Entry.enc l_1) wz rfl (ae (vI (k_6:Int)) wz rfl ?_))))))))))))
      obtain ⟨y_37,hy_38,hc_32⟩:=bind_some hc_32
      refine dU Ed rfl rfl hy_38 rfl wz (aD 4 3 (.inr (by kernel_rfl)) (fun _ _ ag=>trivial) mE sw rfl rfl (.d (.agg (Window.enc x_26))) rfl wz (ae (.d (.agg (Span.enc (⟨(some y_37),x_26⟩:Span)))) wz (by kernel_rfl) (eU (([(⟨(some y_37),x_26⟩:Span)]:List Span).map Span.enc) ny K9 rfl rfl rfl rfl rfl wz ?_)))
      obtain ⟨a_39,hz_40,hc_32⟩:=bind_some hc_32
      refine lJ 7 (.inr (by kernel_rfl)) (fun _ _ ag=>⟨.inr (.inr (by kernel_rfl)),trivial⟩) (i:=2) C8 C8 iX Ho rfl (by decide) Md (by decide) (fun _=>rfl) rfl rfl rfl hz_40 wz (fun n_41=>ae (gV n_41 3 a_39) wz rfl (aj (aa (fJ (bO hD_27 hn_28) wz rfl (ae (vI ((k_24 + 1:Nat):Int)) wz rfl (aj ?_))))))
      obtain rfl:=ah hc_32
      exact aP (k_24 + 1,l_25,a_39,n_41) ⟨hL_33,aW hD_27⟩ (Nat.lt_succ_self _) rfl (aJ rfl)
    ·rintro ⟨s_29,n_31⟩ ho_ sl_ H_ hp_ hq_
     subst ho_
     refine aL _ hp_ hq_ (aa (fJ (bO hD_9 hn_10) wz rfl (ae (vI ((k_6 + 1:Nat):Int)) wz rfl (aj ?_))))
     obtain rfl:=ah hc_15
     exact aP (k_6 + 1,l_7,s_29,n_31) ⟨hL_16,aW hD_9⟩ (Nat.lt_succ_self _) rfl (aJ rfl)
 ·rintro ⟨s_11,n_14⟩ ho_ sl_ H_ hp_ hq_
  subst ho_
  refine aL _ hp_ hq_ (af (aa (ae (gV n_14 3 s_11) wz rfl (ae (gV n_14 3 s_11) wz rfl (aj (iK 2 rfl (eH 6 2 rfl rfl (eH 7 2 rfl rfl (eH 46 2 rfl rfl ?_)))))))))
  obtain rfl:=ah hF
  exact aB (aO (.inr rfl) [(vL Span.enc s_11)] ⟨rfl,trivial⟩ rfl rfl rfl)
theorem iT {x_1:Int} {y_2:Int} {r:Int} (hF:cmp_Compare_int x_1 y_2=some r) :
  FnM Tryz.prog 114 [(vI x_1),(vI y_2)] [] (vI r) []:=by
 refine FnM.of_wH ⟨Tryz.prog,20,[],[]⟩ rfl Tryz.func114 rfl rfl (Nat.le_of_ble_eq_true rfl) (by kernel_rfl) ?_
 unfold cmp_Compare_int at hF
 refine af (aa (ae (vI 0) wz rfl (aj (af (aa (ae (vI x_1) wz rfl ?_))))))
 obtain ⟨r_3,hr_4,hF⟩:=bind_some hF
 refine aG (l6 hr_4) rfl JX rfl rfl rfl rfl wz (ae (vB r_3) wz rfl (aj (af (aa (ae (vI y_2) wz rfl ?_)))))
 obtain ⟨r_5,hr_6,hF⟩:=bind_some hF
 refine aG (l6 hr_6) rfl JX rfl rfl rfl rfl wz (ae (vB r_5) wz rfl (aj (af (af (aa (ae (vB r_3) wz rfl (aj ?_)))))))
 rcases au hF with⟨hc_7,hF⟩ | ⟨hc_7,hF⟩
 ·refine aA rfl hc_7 (af (af (aa (ae (vB r_5) wz rfl (aj ?_)))))
  rcases au hF with⟨hc_8,hF⟩ | ⟨hc_8,hF⟩
  ·refine aA rfl hc_8 (af (aa (ae (vI 0) wz rfl (aj ?_))))
   obtain rfl:=ah hF
   exact aB (aO (.inr rfl) [(vI 0)] ⟨rfl,trivial⟩ rfl rfl rfl)
  ·refine ay rfl hc_8 (av (af (aa (ae (vI (-1)) wz rfl (aj ?_)))))
   obtain rfl:=ah hF
   exact aB (aO (.inr rfl) [(vI (-1))] ⟨rfl,trivial⟩ rfl rfl rfl)
 ·refine ay rfl hc_7 (av (af (af (aa (ae (vB r_5) wz rfl (aj ?_))))))
  rcases au hF with⟨hc_9,hF⟩ | ⟨hc_9,hF⟩
  ·refine aA rfl hc_9 (af (aa (ae (vI 1) wz rfl (aj ?_))))
   obtain rfl:=ah hF
   exact aB (aO (.inr rfl) [(vI 1)] ⟨rfl,trivial⟩ rfl rfl rfl)
  ·refine ay rfl hc_9 (av (af (af (aa (ae (vI x_1) wz rfl (ae (vI y_2) wz rfl (ae (vB (decide (x_1 < y_2))) wz rfl (aj ?_))))))))
   rcases au hF with⟨hc_10,hF⟩ | ⟨hc_10,hF⟩
   ·refine aA rfl hc_10 (af (aa (ae (vI (-1)) wz rfl (aj ?_))))
    obtain rfl:=ah hF
    exact aB (aO (.inr rfl) [(vI (-1))] ⟨rfl,trivial⟩ rfl rfl rfl)
   ·refine ay rfl hc_10 (av (af (af (aa (ae (vI x_1) wz rfl (ae (vI y_2) wz rfl (ae (vB (decide (x_1 > y_2))) wz rfl (aj ?_))))))))
    rcases au hF with⟨hc_11,hF⟩ | ⟨hc_11,hF⟩
    ·refine aA rfl hc_11 (af (aa (ae (vI 1) wz rfl (aj ?_))))
     obtain rfl:=ah hF
     exact aB (aO (.inr rfl) [(vI 1)] ⟨rfl,trivial⟩ rfl rfl rfl)
    ·refine ay rfl hc_11 (av (af (aa (ae (vI 0) wz rfl (aj ?_)))))
     obtain rfl:=ah hF
     exact aB (aO (.inr rfl) [(vI 0)] ⟨rfl,trivial⟩ rfl rfl rfl)
theorem vR {a_1:Span} {b_2:Span} {r:Int} (hF:ib a_1 b_2=some r) :
  FnM Tryz.prog 172 [(.d (.agg (Span.enc a_1))),(.d (.agg (Span.enc b_2)))] [] (vI r) []:=by
 refine FnM.of_wH ⟨Tryz.prog,12,[],[]⟩ rfl Tryz.func172 rfl rfl (Nat.le_of_ble_eq_true rfl) (by kernel_rfl) ?_
 unfold ib at hF
 refine af (aa (ek 0 (.inl rfl) [(.d (dP Entry.enc a_1.f_e)),(vI a_1.f_time.From),(vI a_1.f_time.To)] rfl (bI (kU _ _) (bI rfl (bI rfl rfl))) wz (fun n_3=>ek 0 (.inl rfl) [(.d (dP Entry.enc b_2.f_e)),(vI b_2.f_time.From),(vI b_2.f_time.To)] rfl (bI (kU _ _) (bI rfl (bI rfl rfl))) wz (fun n_4=>ae (vI 0) wz rfl (aj (af (aa (aI uX rfl 1 rfl wz (aI iH rfl 1 rfl wz (aD 0 0 il ft sz3 ag3 rfl rfl (vI a_1.f_time.From) rfl wz (aI uX rfl 1 rfl wz (aI iH rfl 1 rfl wz (aD 0 1 il ft sz3 ag3 rfl rfl (vI b_2.f_time.From) rfl wz ?_)))))))))))))
 obtain ⟨r_5,hr_6,hF⟩:=bind_some hF
 refine aG (iT hr_6) rfl GV rfl rfl rfl rfl wz (ae (vI r_5) wz rfl (aj ?_))
 obtain rfl:=ah hF
 exact aB (aO (.inr rfl) [(vI r_5)] ⟨rfl,trivial⟩ rfl rfl rfl)
theorem mh {x r:(List Span)} (hF:fZ x=some r) :
  FnM Tryz.prog 171 [(dV (ax 0) 3 x),(.fn 172 [])] (([]:List Box)++gI 3 Span.enc x) (.tup []) (([]:List Box).map some++gT x (gB 3 Span.enc r)) :=
 Kv (E:=Span.enc) (F:=fun a b=>ib a b) rfl (fun _=>rfl) (fun a b r h=>vR h) hb172 (fun β _ enc hk h1 cf hO g cb blk off cap d w eg hcmp hH hblk hsz=>Tryz.slices_SortFunc_eq_f171 3 Tryz.isAgg181 Tryz.sizeOf181 enc hk h1 cf hO g cb blk off cap d w eg hcmp hH hblk hsz) (fun p cap fv w=>Tryz.slices_SortFunc_none_f171 (α:=Nat) p cap fv w) hF
theorem rF {l_1:(List Entry)} {p_2:Player} {wv_3:Window} {r:(List Span)} (hF:gp l_1 p_2 wv_3=some r) :
  FnM Tryz.prog 170 [(vL Entry.enc l_1),(.d (.agg (Player.enc p_2))),(.d (.agg (Window.enc wv_3)))] [] (gV (ax 0) 3 r) (([]:List Box).map some++gO 3 Span.enc r):=by
 refine FnM.of_wH ⟨Tryz.prog,47,[],[]⟩ rfl Tryz.func170 rfl rfl (Nat.le_of_ble_eq_true rfl) (by kernel_rfl) ?_
 unfold gp at hF
 refine af (aa (ek 0 (.inl rfl) [(vS p_2.Key),(vS p_2.Screen),(vI p_2.Zone),(vL eS p_2.Tags)] rfl rfl wz (fun n_4=>ek 0 (.inl rfl) [(vI wv_3.From),(vI wv_3.To)] rfl rfl wz (fun n_5=>ae .nil wz rfl (aj (af (aa (ae .nil wz rfl (aj (af (af (aa (ae (vL Entry.enc l_1) wz rfl (cO un77 rfl wz (ae (vI 0) wz rfl (aj (mo (fun n_12 => ?_))))))))))))))))))
 obtain ⟨o_17,hj_18,hF⟩:=bind_some hF
 obtain ⟨hn_10,hj_18⟩:=bv hj_18
 refine aH (β:=((List Span))×Nm) (fun p=>(fun (s_11:(List Span)) (n_14:Nm)=>([(7,(gV n_14 3 s_11))]:List (Nat×V))) p.1 p.2) (fun p=>(fun (s_11:(List Span)) (n_14:Nm)=>([(n_4,some (.cells 4 [(vS p_2.Key),(vS p_2.Screen),(vI p_2.Zone),(vL eS p_2.Tags)])),(n_5,some (.cells 2 [(vI wv_3.From),(vI wv_3.To)])),(n_14,gB 3 Span.enc s_11)]:Hp)) p.1 p.2) (fun p=>o_17 = .go p.1) ?_ ?_
 ·refine aC (aV (β:=Nat×(List Entry)×((List Span))×Nm) (fun p=>(fun (k_6:Nat) (l_7:List Entry) (s_11:(List Span)) (n_14:Nm)=>([(0,(vL Entry.enc l_1)),(4,(.ref n_4 0 0)),(5,(.ref n_5 0 0)),(7,(gV n_14 3 s_11)),(12,(vI (l_1.length:Int))),(13,(vI (k_6:Int)))]:List (Nat×V))) p.1 p.2.1 p.2.2.1 p.2.2.2) (fun p=>(fun (k_6:Nat) (l_7:List Entry) (s_11:(List Span)) (n_14:Nm)=>([(n_4,some (.cells 4 [(vS p_2.Key),(vS p_2.Screen),(vI p_2.Zone),(vL eS p_2.Tags)])),(n_5,some (.cells 2 [(vI wv_3.From),(vI wv_3.To)])),(n_14,gB 3 Span.enc s_11)]:Hp)) p.1 p.2.1 p.2.2.1 p.2.2.2) (fun p=>forR (fun k x s=>gu p_2 wv_3 l_1 k x s) p.2.1 p.1 p.2.2.1=some o_17∧(l_1).drop p.1=p.2.1) (fun p=>p.2.1.length) (0,l_1,([]:List Span),n_12) ⟨hj_18,rfl⟩ rfl (aJ rfl) ?_)
  rintro ⟨k_6,l_7,s_11,n_14⟩ ⟨hL_16,hD_9⟩
  dsimp only at hL_16 hD_9
  cases l_7 with
  | nil =>
   obtain rfl:=ah hL_16
   refine af (aa (ae (vB (decide ((k_6:Int) < (l_1.length:Int)))) wz rfl (aj ?_)))
   refine af (ay rfl (drop_nil hD_9) (aQ ?_))
   exact aR (s_11,n_14) rfl rfl (aJ rfl)
  | cons x_8 l_7 =>
   obtain ⟨c_,hc_15,hL_16⟩:=bind_some hL_16
   refine af (aa (ae (vB (decide ((k_6:Int) < (l_1.length:Int)))) wz rfl (aj ?_)))
   refine af (aA rfl (bL hD_9) (av ?_))
   unfold gu at hc_15
   refine af (aC (af (aa (ae (vI (k_6:Int)) wz rfl (ae (vI (k_6:Int)) wz rfl (aj (af (af (bC (ae (vL Entry.enc l_1) wz rfl (ae (vI (k_6:Int)) wz rfl (dU Ed rfl rfl (bT hD_9) rfl wz (bN qo tK rfl (.d (.agg (Entry.enc x_8))) rfl wz (aD 4 0 (.inr (by kernel_rfl)) (fun _ _ ag=>trivial) uJ wO rfl rfl (.d (.agg (Player.enc p_2))) rfl wz ?_))))))))))))))
   obtain ⟨r_19,hr_20,hc_15⟩:=bind_some hc_15
   refine aG (ut hr_20) rfl hb228 rfl rfl rfl rfl wz (ae (vB (!r_19)) wz rfl (aj ?_))
   rcases au hc_15 with⟨hc_21,hc_15⟩ | ⟨hc_21,hc_15⟩
   ·refine aA rfl hc_21 (aQ (aa (fJ (bO hD_9 hn_10) wz rfl (ae (vI ((k_6 + 1:Nat):Int)) wz rfl (aj ?_)))))
    obtain rfl:=ah hc_15
    exact aP (k_6 + 1,l_7,s_11,n_14) ⟨hL_16,aW hD_9⟩ (Nat.lt_succ_self _) rfl (aJ rfl)
   ·refine ay rfl hc_21 (av (af (bC (ae (vL Entry.enc l_1) wz rfl (ae (vI (k_6:Int)) wz rfl (dU Ed rfl rfl (bT hD_9) rfl wz (bN qo tK rfl (.d (.agg (Entry.enc x_8))) rfl wz (aI Jl rfl 2 rfl wz (aD 5 0 (.inr (by kernel_rfl)) (fun _ _ ag=>trivial) sz3 ag3 rfl rfl (vI p_2.Zone) rfl wz (aD 6 1 (.inr (by kernel_rfl)) (fun _ _ ag=>⟨.inl ⟨rfl,rfl⟩,trivial⟩) mE sw rfl rfl (.d (.agg (Window.enc wv_3))) rfl wz ?_))))))))))
    obtain ⟨r_22,hr_23,hc_15⟩:=bind_some hc_15
    refine aG (rT hr_23) rfl MU rfl rfl rfl rfl wz (cO JW rfl wz (ae (vI 0) wz rfl (aj ?_)))
    obtain ⟨o_34,hj_35,hc_15⟩:=bind_some hc_15
    obtain ⟨hn_28,hj_35⟩:=bv hj_35
    refine aH (β:=((List Span))×Nm) (fun p=>(fun (s_29:(List Span)) (n_31:Nm)=>([(0,(vL Entry.enc l_1)),(4,(.ref n_4 0 0)),(5,(.ref n_5 0 0)),(7,(gV n_31 3 s_29)),(12,(vI (l_1.length:Int))),(13,(vI (k_6:Int)))]:List (Nat×V))) p.1 p.2) (fun p=>(fun (s_29:(List Span)) (n_31:Nm)=>([(n_4,some (.cells 4 [(vS p_2.Key),(vS p_2.Screen),(vI p_2.Zone),(vL eS p_2.Tags)])),(n_5,some (.cells 2 [(vI wv_3.From),(vI wv_3.To)])),(n_31,gB 3 Span.enc s_29)]:Hp)) p.1 p.2) (fun p=>o_34 = .go p.1) ?_ ?_
    ·refine aC (aV (β:=Nat×(List Window)×((List Span))×Nm) (fun p=>(fun (k_24:Nat) (l_25:List Window) (s_29:(List Span)) (n_31:Nm)=>([(0,(vL Entry.enc l_1)),(4,(.ref n_4 0 0)),(5,(.ref n_5 0 0)),(7,(gV n_31 3 s_29)),(8,(vI (k_6:Int))),(12,(vI (l_1.length:Int))),(13,(vI (k_6:Int))),(30,(vL Window.enc r_22)),(31,(vI (r_22.length:Int))),(32,(vI (k_24:Int)))]:List (Nat×V))) p.1 p.2.1 p.2.2.1 p.2.2.2) (fun p=>(fun (k_24:Nat) (l_25:List Window) (s_29:(List Span)) (n_31:Nm)=>([(n_4,some (.cells 4 [(vS p_2.Key),(vS p_2.Screen),(vI p_2.Zone),(vL eS p_2.Tags)])),(n_5,some (.cells 2 [(vI wv_3.From),(vI wv_3.To)])),(n_31,gB 3 Span.enc s_29)]:Hp)) p.1 p.2.1 p.2.2.1 p.2.2.2) (fun p=>forR (fun k x s=>gq l_1 k_6 k x s) p.2.1 p.1 p.2.2.1=some o_34∧(r_22).drop p.1=p.2.1) (fun p=>p.2.1.length) (0,r_22,s_11,n_14) ⟨hj_35,rfl⟩ rfl (aJ rfl) ?_)
     rintro ⟨k_24,l_25,s_29,n_31⟩ ⟨hL_33,hD_27⟩
     dsimp only at hL_33 hD_27
     cases l_25 with
     | nil =>
      obtain rfl:=ah hL_33
      refine af (aa (ae (vB (decide ((k_24:Int) < (r_22.length:Int)))) wz rfl (aj ?_)))
      refine af (ay rfl (drop_nil hD_27) (aQ ?_))
      exact aR (s_29,n_31) rfl rfl (aJ rfl)
     | cons x_26 l_25 =>
      obtain ⟨c_,hc_32,hL_33⟩:=bind_some hL_33
      refine af (aa (ae (vB (decide ((k_24:Int) < (r_22.length:Int)))) wz rfl (aj ?_)))
      refine af (aA rfl (bL hD_27) (av ?_))
      unfold gq at hc_32
      refine af (aC (af (aa (dU Eu rfl rfl (bT hD_27) rfl wz (bN mE sw rfl (.d (.agg (Window.enc x_26))) rfl wz (dB 0 (.inl rfl) z60 rfl wz (fun n_36=>fH 0 il ft 3 mE rfl rfl [(vI x_26.From),(vI x_26.To)] rfl wz (aj (bC (ae (gV n_31 3 s_29) wz rfl (ae (vL Entry.enc l_1) wz rfl (ae (vI (k_6:Int)) wz rfl ?_))))))))))))
      obtain ⟨y_37,hy_38,hc_32⟩:=bind_some hc_32
      refine dU Ed rfl rfl hy_38 rfl wz (aD 4 3 (.inr (by kernel_rfl)) (fun _ _ ag=>trivial) mE sw rfl rfl (.d (.agg (Window.enc x_26))) rfl wz (ae (.d (.agg (Span.enc (⟨(some y_37),x_26⟩:Span)))) wz (by kernel_rfl) (eU (([(⟨(some y_37),x_26⟩:Span)]:List Span).map Span.enc) ny K9 rfl rfl rfl rfl rfl wz ?_)))
      obtain ⟨a_39,hz_40,hc_32⟩:=bind_some hc_32
      refine lJ 7 (.inr (by kernel_rfl)) (fun _ _ ag=>⟨.inr (.inr (by kernel_rfl)),trivial⟩) (i:=2) C8 C8 iX Ho rfl (by decide) Md (by decide) (fun _=>rfl) rfl rfl rfl hz_40 wz (fun n_41=>ae (gV n_41 3 a_39) wz rfl (aj (aa (fJ (bO hD_27 hn_28) wz rfl (ae (vI ((k_24 + 1:Nat):Int)) wz rfl (aj ?_))))))
      obtain rfl:=ah hc_32
      exact aP (k_24 + 1,l_25,a_39,n_41) ⟨hL_33,aW hD_27⟩ (Nat.lt_succ_self _) rfl (aJ rfl)
    ·rintro ⟨s_29,n_31⟩ ho_ sl_ H_ hp_ hq_
     subst ho_
     refine aL _ hp_ hq_ (aa (fJ (bO hD_9 hn_10) wz rfl (ae (vI ((k_6 + 1:Nat):Int)) wz rfl (aj ?_))))
     obtain rfl:=ah hc_15
     exact aP (k_6 + 1,l_7,s_29,n_31) ⟨hL_16,aW hD_9⟩ (Nat.lt_succ_self _) rfl (aJ rfl)
 ·rintro ⟨s_11,n_14⟩ ho_ sl_ H_ hp_ hq_
  subst ho_
  refine aL _ hp_ hq_ (af (aa (ae (gV n_14 3 s_11) wz rfl (ae (gV n_14 3 s_11) wz rfl (aj ?_)))))
  obtain rfl:=ah hF
  exact aB (finG (outs:=([]:List Box)) (.inr rfl) 2 rfl rfl rfl (by kernel_rfl) (by kernel_rfl))
theorem vF {t_1:Window} {wv_2:Window} {r:Window} (hF:qB t_1 wv_2=some r) :
  FnM Tryz.prog 155 [(.d (.agg (Window.enc t_1))),(.d (.agg (Window.enc wv_2)))] [] (.d (.agg (Window.enc r))) []:=by
 refine FnM.of_wH ⟨Tryz.prog,16,[],[]⟩ rfl Tryz.func155 rfl rfl (Nat.le_of_ble_eq_true rfl) (by kernel_rfl) ?_
 unfold qB at hF
 refine af (aa (ek 0 (.inl rfl) [(vI t_1.From),(vI t_1.To)] rfl rfl wz (fun n_3=>ek 0 (.inl rfl) [(vI wv_2.From),(vI wv_2.To)] rfl rfl wz (fun n_4=>dB 0 (.inl rfl) z60 rfl wz (fun n_5=>aj (af (aa (aI iH rfl 0 rfl wz (aD 0 0 il ft sz3 ag3 rfl rfl (vI t_1.From) rfl wz (aI iH rfl 0 rfl wz (aD 0 1 il ft sz3 ag3 rfl rfl (vI wv_2.From) rfl wz (nS (vI (ma t_1.From wv_2.From)) rfl (.inr rfl) wz (aI jF rfl 1 rfl wz (aD 0 0 il ft sz3 ag3 rfl rfl (vI t_1.To) rfl wz (aI jF rfl 1 rfl wz (aD 0 1 il ft sz3 ag3 rfl rfl (vI wv_2.To) rfl wz (nS (vI (p9 t_1.To wv_2.To)) rfl (.inl rfl) wz (ae (.d (.agg (Window.enc (⟨(ma t_1.From wv_2.From),(p9 t_1.To wv_2.To)⟩:Window)))) wz (by kernel_rfl) (fH 0 il ft 2 mE rfl rfl [(vI (ma t_1.From wv_2.From)),(vI (p9 t_1.To wv_2.To))] rfl wz (aj ?_))))))))))))))))))))
 obtain rfl:=ah hF
 exact aB (aO (.inr rfl) [(.d (.agg (Window.enc (⟨(ma t_1.From wv_2.From),(p9 t_1.To wv_2.To)⟩:Window))))] ⟨⟨2,_,_,_,_,_,_,_,rfl,rfl,mE,sw,rfl⟩,trivial⟩ rfl rfl rfl)
theorem l8 {x r:(List Int)} (hF:dC x=some r) :
  FnM Tryz.prog 90 [(dV (ax 0) 1 x)] (([]:List Box)++gI 1 eI x) (.tup []) (([]:List Box).map some++gT x (gB 1 eI r)) :=
 LJ Tryz.slices_Sort_int Tryz.slices_Sort_int_none hF
theorem kE {s_1:(List Int)} {r:(List Int)} (hF:bS s_1=some r) :
  FnM Tryz.prog 91 [(dV (ax 0) 1 s_1)] (([]:List Box)++gI 1 eI s_1) (vL eI r) (([]:List Box).map some++gT s_1 none):=by
 refine FnM.of_wHv ⟨Tryz.prog,61,[],[]⟩ rfl Tryz.func91 rfl rfl (Nat.le_of_ble_eq_true rfl) (by kernel_rfl) ?_
 unfold bS at hF
 refine af (aa (ae .nil wz rfl (aj (af (af (aa (ae (dV (ax 0) 1 s_1) wz rfl (AB vW rfl wz (ae (vB (decide ((s_1.length:Int) < 2))) wz rfl (aj ?_))))))))))
 rcases au hF with⟨hc_2,hF⟩ | ⟨hc_2,hF⟩
 ·refine aA rfl hc_2 (af (aa (ae (dV (ax 0) 1 s_1) wz rfl (ae (dV (ax 0) 1 s_1) wz rfl (aj (iK 0 rfl (yF 0 0 rfl rfl (yF 2 0 rfl rfl (yF 6 0 rfl rfl (yF 9 0 rfl rfl (Ga (i:=0) rfl ?_)))))))))))
  obtain rfl:=ah hF
  exact aB (BM (bs:=([]:List Box)) (os:=([]:List Box)) (xs:=s_1) (o:=none) (.inr rfl) [(vL eI s_1)] ⟨rfl,trivial⟩ rfl rfl rfl rfl rfl (by kernel_rfl) zw rfl)
 ·refine ay rfl hc_2 (av (af (af (aa (ae (vI 1) wz rfl (aj ?_))))))
  obtain ⟨o_11,hj_12,hF⟩:=bind_some hF
  obtain ⟨nq_52,hj_12⟩:=cz hj_12
  refine aH (β:=(Int)) (fun (s_8:Int)=>([(0,(dV (ax 0) 1 s_1))]:List (Nat×V))) (fun (s_8:Int)=>([((ax 0),gB 1 eI s_1)]:Hp)) (fun p=>o_11 = .go p) ?_ ?_
  ·refine aC (aV (β:=Nat×(Int)) (fun p=>(fun (k_3:Nat) (s_8:Int)=>([(0,(dV (ax 0) 1 s_1)),(3,(vI s_8))]:List (Nat×V))) p.1 p.2) (fun p=>(fun (k_3:Nat) (s_8:Int)=>([((ax 0),gB 1 eI s_1)]:Hp)) p.1 p.2) (fun p=>iterN (fun s=>aU s_1 s) p.1 p.2=some o_11) (fun p=>p.1) (nq_52,1) hj_12 rfl (aJ rfl) ?_)
   rintro ⟨k_3,s_8⟩ hL_10
   dsimp only at hL_10
   cases k_3 with
   | zero=>cases hL_10
   | succ k_3 =>
    obtain ⟨c_,hc_9,hL_10⟩:=bind_some hL_10
    unfold aU at hc_9
    refine af (af (aa (ae (vI s_8) wz rfl (ae (dV (ax 0) 1 s_1) wz rfl (AB vW rfl wz (ae (vB (decide (s_8 < (s_1.length:Int)))) wz rfl (aj ?_)))))))
    rcases au hc_9 with⟨hc_13,hc_9⟩ | ⟨hc_13,hc_9⟩
    ·refine aA rfl hc_13 (av (af (aC (af (bC (ae (dV (ax 0) 1 s_1) wz rfl (ae (vI s_8) wz rfl ?_)))))))
     obtain ⟨_,hi_14,hc_9⟩:=bind_some hc_9
     refine lM kw rfl rfl (jf hi_14) (gm hi_14) wz ?_
     obtain ⟨e_15,hy_16,hc_9⟩:=bind_some hc_9
     refine ko 3 0 (.inr (by kernel_rfl)) (fun _ _ ag=>trivial) sz3 ag3 rfl rfl hy_16 (vI e_15) rfl wz (ae (dV (ax 0) 1 s_1) wz rfl (ae (vI s_8) wz rfl (ae (vI (w64 (s_8 - 1))) wz rfl ?_)))
     obtain ⟨_,hi_17,hc_9⟩:=bind_some hc_9
     refine lM kw rfl rfl (jf hi_17) (gm hi_17) wz ?_
     obtain ⟨e_18,hy_19,hc_9⟩:=bind_some hc_9
     refine ko 8 0 (.inr (by kernel_rfl)) (fun _ _ ag=>⟨.inl ⟨rfl,rfl⟩,trivial⟩) sz3 ag3 rfl rfl hy_19 (vI e_18) rfl wz (ae (vB (e_15 == e_18)) wz rfl (aj ?_))
     rcases au hc_9 with⟨hc_20,hc_9⟩ | ⟨hc_20,hc_9⟩
     ·refine aA rfl hc_20 (af (aa (ae (dV (ax 0) 1 s_1) wz rfl (ae (vI s_8) wz rfl ?_))))
      obtain ⟨_,hn_21,hc_9⟩:=bind_some hc_9
      replace hn_21:=Jh hn_21
      refine dN (v':=(vV (ax 0) 1 s_1)) 0 rfl (y8 hn_21) (dN (v':=(vV (ax 0) 1 s_1)) 11 rfl (y8 hn_21) (dN (v':=(vV (ax 0) 1 s_1)) 16 rfl (y8 hn_21) (dN (v':=(vV (ax 0) 1 s_1)) 20 rfl (y8 hn_21) (dN (v':=(vV (ax 0) 1 s_1)) 26 rfl (y8 hn_21) (Hz 0 rfl (BX hn_21) ?_)))))
      obtain ⟨_,hr_22,hc_9⟩:=bind_some hc_9
      refine DD vW sz3 rfl rfl hr_22 wz (ae (.vs (ax 0) 1 ((s_8).toNat) (((s_1.length:Int)).toNat - (s_8).toNat)) wz rfl (aj (af (af (aa (ae (vI 1) wz rfl (aj ?_)))))))
      obtain ⟨o_31,hj_32,hc_9⟩:=bind_some hc_9
      obtain ⟨nq_51,hj_32⟩:=cz hj_32
      refine aH (β:=((List Int)×Int×Int)) (fun (s_28:(List Int)×Int×Int)=>([(0,(vV (ax 0) 1 s_28.1)),(3,(vI s_28.2.1))]:List (Nat×V))) (fun (s_28:(List Int)×Int×Int)=>([((ax 0),some (bV 1 eI s_28.1))]:Hp)) (fun p=>o_31 = .go p) ?_ ?_
      ·refine aC (aV (β:=Nat×((List Int)×Int×Int)) (fun p=>(fun (k_23:Nat) (s_28:(List Int)×Int×Int)=>([(0,(vV (ax 0) 1 s_28.1)),(3,(vI s_28.2.1)),(4,(.vs (ax 0) 1 ((s_8).toNat) (((s_1.length:Int)).toNat - (s_8).toNat))),(5,(vI s_28.2.2))]:List (Nat×V))) p.1 p.2) (fun p=>(fun (k_23:Nat) (s_28:(List Int)×Int×Int)=>([((ax 0),some (bV 1 eI s_28.1))]:Hp)) p.1 p.2) (fun p=>iterN (fun s=>bQ s_1 s_8 s) p.1 p.2=some o_31) (fun p=>p.1) (nq_51,(s_1,s_8,1)) hj_32 rfl (aJ rfl) ?_)
       rintro ⟨k_23,s_28⟩ hL_30
       dsimp only at hL_30
       cases k_23 with
       | zero=>cases hL_30
       | succ k_23 =>
        obtain ⟨c_,hc_29,hL_30⟩:=bind_some hL_30
        unfold bQ at hc_29
        refine af (af (aa (ae (vI s_28.2.2) wz rfl (ae (.vs (ax 0) 1 ((s_8).toNat) (((s_1.length:Int)).toNat - (s_8).toNat)) wz rfl (h_lenp vW rfl wz (ae (vB (decide (s_28.2.2 < (((((s_1.length:Int)).toNat - (s_8).toNat):Nat):Int)))) wz rfl (aj ?_)))))))
        rcases au hc_29 with⟨hc_33,hc_29⟩ | ⟨hc_33,hc_29⟩
        ·refine aA rfl hc_33 (av (af (aC (af (bC (ae (.vs (ax 0) 1 ((s_8).toNat) (((s_1.length:Int)).toNat - (s_8).toNat)) wz rfl (ae (vI s_28.2.2) wz rfl ?_)))))))
         obtain ⟨_,hi_34,hc_29⟩:=bind_some hc_29
         refine zH kw rfl rfl (MM hi_34) (IV hi_34) wz ?_
         obtain ⟨e_35,hy_36,hc_29⟩:=bind_some hc_29
         refine EU 3 0 (.inr (by kernel_rfl)) (fun _ _ ag=>trivial) sz3 ag3 rfl rfl hy_36 (vI e_35) rfl wz (ae (.vs (ax 0) 1 ((s_8).toNat) (((s_1.length:Int)).toNat - (s_8).toNat)) wz rfl (ae (vI s_28.2.2) wz rfl (ae (vI (w64 (s_28.2.2 - 1))) wz rfl ?_)))
         obtain ⟨_,hi_37,hc_29⟩:=bind_some hc_29
         refine zH kw rfl rfl (MM hi_37) (IV hi_37) wz ?_
         obtain ⟨e_38,hy_39,hc_29⟩:=bind_some hc_29
         refine EU 8 0 (.inr (by kernel_rfl)) (fun _ _ ag=>⟨.inl ⟨rfl,rfl⟩,trivial⟩) sz3 ag3 rfl rfl hy_39 (vI e_38) rfl wz (ae (vB (e_35 != e_38)) wz rfl (aj ?_))
         obtain ⟨v_40,h_41,hc_29⟩:=bind_some hc_29
         refine aH (β:=Unit) (fun _=>([(0,(vV (ax 0) 1 v_40.1)),(3,(vI v_40.2)),(4,(.vs (ax 0) 1 ((s_8).toNat) (((s_1.length:Int)).toNat - (s_8).toNat))),(5,(vI s_28.2.2))]:List (Nat×V))) (fun _=>([((ax 0),some (bV 1 eI v_40.1))]:Hp)) (fun _=>True) ?_ ?_
         ·rcases au h_41 with⟨hc_42,h_41⟩ | ⟨hc_42,h_41⟩
          ·refine aA rfl hc_42 (af (aa (ae (vV (ax 0) 1 s_28.1) wz rfl (ae (vI s_28.2.1) wz rfl (ae (.vs (ax 0) 1 ((s_8).toNat) (((s_1.length:Int)).toNat - (s_8).toNat)) wz rfl (ae (vI s_28.2.2) wz rfl ?_))))))
           obtain ⟨_,hi_43,h_41⟩:=bind_some h_41
           refine zH kw rfl rfl (MM hi_43) (IV hi_43) wz ?_
           obtain ⟨e_44,hy_45,h_41⟩:=bind_some h_41
           refine EU 0 0 il ft sz3 ag3 rfl rfl hy_45 (vI e_44) rfl wz ?_
           obtain ⟨_,hi_46,h_41⟩:=bind_some h_41
           refine zH kw rfl rfl (jf hi_46) (gm hi_46) wz ?_
           obtain ⟨e_47,hy_48,h_41⟩:=bind_some h_41
           refine Li 0 il ft 0 sz3 rfl rfl hy_48 e_44 rfl wz (dN (v':=(vV (ax 0) 1 (s_28.1.set (0 + (s_28.2.1).toNat) e_44))) 0 rfl (sD (by simp)) (dN (v':=(vV (ax 0) 1 (s_28.1.set (0 + (s_28.2.1).toNat) e_44))) 45 rfl (sD (by simp)) (aj (aa (ae (vI s_28.2.1) wz rfl (ae (vI (w64 (s_28.2.1 + 1))) wz rfl (ae (vI (w64 (s_28.2.1 + 1))) wz rfl (aj ?_))))))))
           obtain rfl:=ah h_41
           exact cu
          ·refine ay rfl hc_42 (av ?_)
           obtain rfl:=ah h_41
           exact cu
         ·rintro ⟨⟩ _ sl_ H_ hp_ hq_
          refine aL _ hp_ hq_ (aa (ae (vI s_28.2.2) wz rfl (ae (vI (w64 (s_28.2.2 + 1))) wz rfl (ae (vI (w64 (s_28.2.2 + 1))) wz rfl (aj ?_)))))
          obtain rfl:=ah hc_29
          exact aP (k_23,(v_40.1,v_40.2,(w64 (s_28.2.2 + 1)))) hL_30 (Nat.lt_succ_self _) rfl (aJ rfl)
        ·refine ay rfl hc_33 (aQ ?_)
         obtain rfl:=ah hc_29
         obtain rfl:=ah hL_30
         exact aR ((s_28.1,s_28.2.1,s_28.2.2)) rfl rfl (aJ rfl)
      ·rintro s_28 ho_ sl_ H_ hp_ hq_
       subst ho_
       refine aL _ hp_ hq_ (af (aa (ae (vV (ax 0) 1 s_28.1) wz rfl (ae (vI s_28.2.1) wz rfl ?_))))
       obtain ⟨_,hr_49,hc_9⟩:=bind_some hc_9
       refine DD vW sz3 rfl rfl hr_49 wz (J8 (i:=0) 0 il ft 0 Jb sz3 z3 rfl rfl rfl (by decide) rfl (qF hr_49) rfl wz (dN (v':=(vV (ax 0) 1 (s_28.1.take ((s_28.2.1).toNat)++List.replicate (((s_28.1.length:Int)).toNat - (s_28.2.1).toNat) 0++s_28.1.drop (((s_28.2.1).toNat) + (((s_28.1.length:Int)).toNat - (s_28.2.1).toNat))))) 0 rfl (sD (xu (qF hr_49))) (dN (v':=(vV (ax 0) 1 (s_28.1.take ((s_28.2.1).toNat)++List.replicate (((s_28.1.length:Int)).toNat - (s_28.2.1).toNat) 0++s_28.1.drop (((s_28.2.1).toNat) + (((s_28.1.length:Int)).toNat - (s_28.2.1).toNat))))) 54 rfl (sD (xu (qF hr_49))) (aj (af (aa (ae (vV (ax 0) 1 (s_28.1.take ((s_28.2.1).toNat)++List.replicate (((s_28.1.length:Int)).toNat - (s_28.2.1).toNat) 0++s_28.1.drop (((s_28.2.1).toNat) + (((s_28.1.length:Int)).toNat - (s_28.2.1).toNat)))) wz rfl (ae (vI s_28.2.1) wz rfl ?_))))))))
       obtain ⟨_,hr_50,hc_9⟩:=bind_some hc_9
       refine GN vW sz3 rfl rfl hr_50 wz (ae (.vs (ax 0) 1 0 ((s_28.2.1).toNat)) wz rfl (aj (FE 0 rfl (EI 0 0 rfl rfl (L6 2 0 rfl rfl (qF hr_50) (EI 54 0 rfl rfl (EI 57 0 rfl rfl (L6 59 0 rfl rfl (qF hr_50) (Ga (i:=0) rfl ?_)))))))))
       obtain rfl:=ah hc_9
       obtain rfl:=ah hL_10
       obtain rfl:=ah hF
       exact aB (BM (bs:=([]:List Box)) (os:=([]:List Box)) (xs:=s_1) (o:=none) (.inr rfl) [(vL eI (cutL (s_28.1.take ((s_28.2.1).toNat)++List.replicate (((s_28.1.length:Int)).toNat - (s_28.2.1).toNat) 0++s_28.1.drop (((s_28.2.1).toNat) + (((s_28.1.length:Int)).toNat - (s_28.2.1).toNat))) 0 ((s_28.2.1).toNat)))] ⟨rfl,trivial⟩ rfl rfl rfl rfl rfl (by kernel_rfl) zw rfl)
     ·refine ay rfl hc_20 (av (aa (ae (vI s_8) wz rfl (ae (vI (w64 (s_8 + 1))) wz rfl (ae (vI (w64 (s_8 + 1))) wz rfl (aj ?_))))))
      obtain rfl:=ah hc_9
      exact aP (k_3,(w64 (s_8 + 1))) hL_10 (Nat.lt_succ_self _) rfl (aJ rfl)
    ·refine ay rfl hc_13 (aQ ?_)
     obtain rfl:=ah hc_9
     obtain rfl:=ah hL_10
     exact aR (s_8) rfl rfl (aJ rfl)
  ·rintro s_8 ho_ sl_ H_ hp_ hq_
   subst ho_
   refine aL _ hp_ hq_ (af (aa (ae (dV (ax 0) 1 s_1) wz rfl (ae (dV (ax 0) 1 s_1) wz rfl (aj (iK 0 rfl (yF 0 0 rfl rfl (yF 2 0 rfl rfl (yF 60 0 rfl rfl (Ga (i:=0) rfl ?_))))))))))
   obtain rfl:=ah hF
   exact aB (BM (bs:=([]:List Box)) (os:=([]:List Box)) (xs:=s_1) (o:=none) (.inr rfl) [(vL eI s_1)] ⟨rfl,trivial⟩ rfl rfl rfl rfl rfl (by kernel_rfl) zw rfl)
theorem zX {l_1:(List Entry)} {p_2:Player} {wv_3:Window} {r:(List Int)} (hF:lQ l_1 p_2 wv_3=some r) :
  FnM Tryz.prog 173 [(vL Entry.enc l_1),(.d (.agg (Player.enc p_2))),(.d (.agg (Window.enc wv_3)))] [] (vL eI r) []:=by
 refine FnM.of_wH ⟨Tryz.prog,41,[15],[]⟩ rfl Tryz.func173 rfl rfl (Nat.le_of_ble_eq_true rfl) (by kernel_rfl) ?_
 unfold lQ at hF
 refine af (aa (ek 0 (.inl rfl) [(vS p_2.Key),(vS p_2.Screen),(vI p_2.Zone),(vL eS p_2.Tags)] rfl rfl wz (fun n_4=>ek 0 (.inl rfl) [(vI wv_3.From),(vI wv_3.To)] rfl rfl wz (fun n_5=>ae .nil wz rfl (aj (af (aa (aI iH rfl 0 rfl wz (aD 0 1 il ft sz3 ag3 rfl rfl (vI wv_3.From) rfl wz (aI jF rfl 1 rfl wz (aD 0 1 il ft sz3 ag3 rfl rfl (vI wv_3.To) rfl wz (h_litv 0 (.inl rfl) (([wv_3.From,wv_3.To]:List Int).map eI) kw wQ rfl rfl rfl rfl rfl wz (fun n_6=>ae (vV n_6 1 ([wv_3.From,wv_3.To]:List Int)) wz rfl (aj (af (af (aa (ae (vL Entry.enc l_1) wz rfl (aD 0 0 il ft uJ wO rfl rfl (.d (.agg (Player.enc p_2))) rfl wz (aD 0 1 il ft mE sw rfl rfl (.d (.agg (Window.enc wv_3))) rfl wz ?_))))))))))))))))))))
 obtain ⟨r_7,hr_8,hF⟩:=bind_some hF
 refine aG (zt hr_8) rfl MV rfl rfl rfl rfl wz (cO sV rfl wz (ae (vI 0) wz rfl (aj ?_)))
 obtain ⟨o_19,hj_20,hF⟩:=bind_some hF
 obtain ⟨hn_13,hj_20⟩:=bv hj_20
 refine aH (β:=((List Int))×Nm) (fun p=>(fun (s_14:(List Int)) (n_16:Nm)=>([(7,(vV n_16 1 s_14))]:List (Nat×V))) p.1 p.2) (fun p=>(fun (s_14:(List Int)) (n_16:Nm)=>([(n_4,some (.cells 4 [(vS p_2.Key),(vS p_2.Screen),(vI p_2.Zone),(vL eS p_2.Tags)])),(n_5,some (.cells 2 [(vI wv_3.From),(vI wv_3.To)])),(n_16,some (bV 1 eI s_14))]:Hp)) p.1 p.2) (fun p=>o_19 = .go p.1) ?_ ?_
 ·refine aC (aV (β:=Nat×(List Span)×((List Int))×Nm) (fun p=>(fun (k_9:Nat) (l_10:List Span) (s_14:(List Int)) (n_16:Nm)=>([(5,(.ref n_5 0 0)),(7,(vV n_16 1 s_14)),(19,(vL Span.enc r_7)),(20,(vI (r_7.length:Int))),(21,(vI (k_9:Int)))]:List (Nat×V))) p.1 p.2.1 p.2.2.1 p.2.2.2) (fun p=>(fun (k_9:Nat) (l_10:List Span) (s_14:(List Int)) (n_16:Nm)=>([(n_4,some (.cells 4 [(vS p_2.Key),(vS p_2.Screen),(vI p_2.Zone),(vL eS p_2.Tags)])),(n_5,some (.cells 2 [(vI wv_3.From),(vI wv_3.To)])),(n_16,some (bV 1 eI s_14))]:Hp)) p.1 p.2.1 p.2.2.1 p.2.2.2) (fun p=>forR (fun k x s=>jw wv_3 k x s) p.2.1 p.1 p.2.2.1=some o_19∧(r_7).drop p.1=p.2.1) (fun p=>p.2.1.length) (0,r_7,([wv_3.From,wv_3.To]:List Int),n_6) ⟨hj_20,rfl⟩ rfl (aJ rfl) ?_)
  rintro ⟨k_9,l_10,s_14,n_16⟩ ⟨hL_18,hD_12⟩
  dsimp only at hL_18 hD_12
  cases l_10 with
  | nil =>
   obtain rfl:=ah hL_18
   refine af (aa (ae (vB (decide ((k_9:Int) < (r_7.length:Int)))) wz rfl (aj ?_)))
   refine af (ay rfl (drop_nil hD_12) (aQ ?_))
   exact aR (s_14,n_16) rfl rfl (aJ rfl)
  | cons x_11 l_10 =>
   obtain ⟨c_,hc_17,hL_18⟩:=bind_some hL_18
   refine af (aa (ae (vB (decide ((k_9:Int) < (r_7.length:Int)))) wz rfl (aj ?_)))
   refine af (aA rfl (bL hD_12) (av ?_))
   unfold jw at hc_17
   refine af (aC (af (aa (dU ny rfl rfl (bT hD_12) rfl wz (bN iX o6 rfl (.d (.agg (Span.enc x_11))) rfl wz (dB 0 (.inl rfl) Ho rfl wz (fun n_21=>fH 0 il ft 3 iX rfl rfl [(.d (dP Entry.enc x_11.f_e)),(vI x_11.f_time.From),(vI x_11.f_time.To)] (ze rfl (bI (kU _ _) (bI rfl (bI rfl rfl))) rfl rfl) wz (aj (af (aa (aI uX rfl 1 rfl wz (aD 0 3 il ft mE sw rfl rfl (.d (.agg (Window.enc x_11.f_time))) rfl wz (aD 0 1 il ft mE sw rfl rfl (.d (.agg (Window.enc wv_3))) rfl wz ?_)))))))))))))
   obtain ⟨r_22,hr_23,hc_17⟩:=bind_some hc_17
   refine aG (vF hr_23) rfl hb155 rfl rfl rfl rfl wz (dB 0 (.inl rfl) z60 rfl wz (fun n_24=>fH 0 il ft 4 mE rfl rfl [(vI r_22.From),(vI r_22.To)] rfl wz (aj (aa (ae (vV n_16 1 s_14) wz rfl (aI iH rfl 0 rfl wz (aD 0 4 il ft sz3 ag3 rfl rfl (vI r_22.From) rfl wz (aI jF rfl 1 rfl wz (aD 0 4 il ft sz3 ag3 rfl rfl (vI r_22.To) rfl wz (eU (([r_22.From,r_22.To]:List Int).map eI) kw wQ rfl rfl rfl rfl rfl wz ?_))))))))))
   obtain ⟨a_25,hz_26,hc_17⟩:=bind_some hc_17
   refine Lt 0 il ft (i:=2) Jb Jb sz3 z3 rfl (by decide) by3 (by decide) (fun _=>rfl) rfl rfl rfl hz_26 wz (fun n_27=>ae (vV n_27 1 a_25) wz rfl (aj (aa (fJ (bO hD_12 hn_13) wz rfl (ae (vI ((k_9 + 1:Nat):Int)) wz rfl (aj ?_))))))
   obtain rfl:=ah hc_17
   exact aP (k_9 + 1,l_10,a_25,n_27) ⟨hL_18,aW hD_12⟩ (Nat.lt_succ_self _) rfl (aJ rfl)
 ·rintro ⟨s_14,n_16⟩ ho_ sl_ H_ hp_ hq_
  subst ho_
  refine aL _ hp_ hq_ (af (aa (ae (vV n_16 1 s_14) wz rfl ?_)))
  obtain ⟨_,hn_28,hF⟩:=bind_some hF
  replace hn_28:=Jh hn_28
  refine Hz 2 rfl (BX hn_28).symm (dN (v':=(gV n_16 1 s_14)) 37 rfl (vV_gV hn_28) (dN (v':=(gV n_16 1 s_14)) 7 rfl (vV_gV hn_28) ?_))
  obtain ⟨r_29,hr_30,hF⟩:=bind_some hF
  obtain ⟨_,hs_31,hF⟩:=bind_some hF
  replace hs_31:=nH hs_31
  refine mP 0 [] 2 0 il ft (l8 hr_30) rfl hb90 rfl rfl rfl (by kernel_rfl) rfl (.inl rfl) rfl (by kernel_rfl) (by kernel_rfl) (by kernel_rfl) (by kernel_rfl) rfl (by decide) (by kernel_rfl) nT (yh hs_31) wz ([(n_4,some (.cells 4 [(vS p_2.Key),(vS p_2.Screen),(vI p_2.Zone),(vL eS p_2.Tags)])),(n_5,some (.cells 2 [(vI wv_3.From),(vI wv_3.To)])),(n_16,gB 1 eI r_29)]:Hp) (by kernel_rfl) (dN (v':=(gV n_16 1 r_29)) 37 rfl (jQ hs_31.symm) (dN (v':=(gV n_16 1 r_29)) 7 rfl (jQ hs_31.symm) (aj (af (aa (ae (gV n_16 1 r_29) wz rfl ?_))))))
  obtain ⟨r_32,hr_33,hF⟩:=bind_some hF
  refine mP 0 [] 2 0 il ft (kE hr_33) rfl hb91 rfl rfl rfl (by kernel_rfl) rfl (.inl rfl) rfl (by kernel_rfl) (by kernel_rfl) (by kernel_rfl) (by kernel_rfl) rfl (by decide) (by kernel_rfl) zw (fun _=>rfl) wz ([(n_4,some (.cells 4 [(vS p_2.Key),(vS p_2.Screen),(vI p_2.Zone),(vL eS p_2.Tags)])),(n_5,some (.cells 2 [(vI wv_3.From),(vI wv_3.To)])),(n_16,none)]:Hp) (by kernel_rfl) (ae (vL eI r_32) wz rfl (aj ?_))
  obtain rfl:=ah hF
  exact aB (aO (.inr rfl) [(vL eI r_32)] ⟨rfl,trivial⟩ rfl rfl rfl)
theorem kL {s_1:Span} {p_2:(List Int)} {p_3:Int} {r:Bool} (hF:eT s_1 p_2 p_3=some r) :
  FnM Tryz.prog 175 [(.d (.agg (Span.enc s_1))),(.ref (ax 0) 0 0),(.ref (ax 1) 0 0)] [(.cells 1 [(vL eI p_2)]),(.cells 1 [(vI p_3)])] (vB r) [some (.cells 1 [(vL eI p_2)]),some (.cells 1 [(vI p_3)])]:=by
 refine FnM.of_wH ⟨Tryz.prog,13,[],[]⟩ rfl Tryz.func175 rfl rfl (Nat.le_of_ble_eq_true rfl) (by kernel_rfl) ?_
 unfold eT at hF
 refine af (aa (ek 0 (.inl rfl) [(.d (dP Entry.enc s_1.f_e)),(vI s_1.f_time.From),(vI s_1.f_time.To)] rfl (bI (kU _ _) (bI rfl (bI rfl rfl))) wz (fun n_4=>ae (vB false) wz rfl (aj (af (bC (aI uX rfl 1 rfl wz (aI jF rfl 2 rfl wz (aD 2 2 (.inr (by kernel_rfl)) (fun _ _ ag=>trivial) sz3 ag3 rfl rfl (vI s_1.f_time.To) rfl wz (aD 3 0 (.inr (by kernel_rfl)) (fun _ _ ag=>⟨.inl ⟨rfl,rfl⟩,trivial⟩) yI Ac rfl rfl (vL eI p_2) rfl wz (aD 4 1 (.inr (by kernel_rfl)) (fun _ _ ag=>⟨.inl ⟨rfl,rfl⟩,⟨.inl ⟨rfl,rfl⟩,trivial⟩⟩) sz3 ag3 rfl rfl (vI p_3) rfl wz ?_)))))))))))
 obtain ⟨y_5,hy_6,hF⟩:=bind_some hF
 refine dU kw rfl rfl hy_6 rfl wz (bN sz3 ag3 rfl (vI y_5) rfl wz (ae (vB (decide (s_1.f_time.To≤y_5))) wz rfl (ae (vB (decide (s_1.f_time.To≤y_5))) wz rfl (aj ?_))))
 obtain rfl:=ah hF
 exact aB (xK (.inr rfl) [(vB (decide (s_1.f_time.To≤y_5)))] _ [0,1] [ax 0,ax 1] ⟨rfl,trivial⟩ (.cons (jK rfl rfl) (.nil)) (by kernel_rfl) ⟨(by kernel_rfl),⟨(by kernel_rfl),trivial⟩⟩ (by decide) (by kernel_rfl))
theorem jc {s_1:(List Span)} {f2_3:(List Int)} {f2_4:Int} {r:Int} (hF:dF s_1 f2_3 f2_4=some r) :
  FnM Tryz.prog 230 [(vV (ax 2) 3 s_1),(.fn 175 [(.ref (ax 0) 0 0),(.ref (ax 1) 0 0)])] (([(.cells 1 [(vL eI f2_3)]),(.cells 1 [(vI f2_4)])]:List Box) ++ [(bV 3 Span.enc s_1)]) (vI r) ((([(.cells 1 [(vL eI f2_3)]),(.cells 1 [(vI f2_4)])]:List Box)).map some ++ [some (bV 3 Span.enc s_1)]):=by
 refine FnM.of_wH ⟨Tryz.prog,19,[],[]⟩ rfl Tryz.func230 rfl rfl (Nat.le_of_ble_eq_true rfl) (by kernel_rfl) ?_
 unfold dF at hF
 refine af (aa (ae (vI 0) wz rfl (aj (af (af (aa (ae (vV (ax 2) 3 s_1) wz rfl (F4 sV rfl wz (ae (vI 0) wz rfl (aj ?_))))))))))
 obtain ⟨o_13,hj_14,hF⟩:=bind_some hF
 obtain ⟨hn_9,hj_14⟩:=bv hj_14
 refine aH (β:=(Unit)) (fun (s_10:Unit)=>([]:List (Nat×V))) (fun (s_10:Unit)=>([((ax 0),some (.cells 1 [(vL eI f2_3)])),((ax 1),some (.cells 1 [(vI f2_4)])),((ax 2),some (bV 3 Span.enc s_1))]:Hp)) (fun p=>o_13 = .go p) ?_ ?_
 ·refine aC (aV (β:=Nat×(List Nat)×(Unit)) (fun p=>(fun (k_5:Nat) (l_6:List Nat) (s_10:Unit)=>([(0,(vV (ax 2) 3 s_1)),(1,(.fn 175 [(.ref (ax 0) 0 0),(.ref (ax 1) 0 0)])),(7,(vI (s_1.length:Int))),(8,(vI (k_5:Int)))]:List (Nat×V))) p.1 p.2.1 p.2.2) (fun p=>(fun (k_5:Nat) (l_6:List Nat) (s_10:Unit)=>([((ax 0),some (.cells 1 [(vL eI f2_3)])),((ax 1),some (.cells 1 [(vI f2_4)])),((ax 2),some (bV 3 Span.enc s_1))]:Hp)) p.1 p.2.1 p.2.2) (fun p=>forR (fun k x s=>dz s_1 f2_3 f2_4 k x s) p.2.1 p.1 p.2.2=some o_13∧((List.range ((s_1.length:Int)).toNat)).drop p.1=p.2.1) (fun p=>p.2.1.length) (0,(List.range ((s_1.length:Int)).toNat),()) ⟨hj_14,rfl⟩ rfl (aJ rfl) ?_)
  rintro ⟨k_5,l_6,s_10⟩ ⟨hL_12,hD_8⟩
  dsimp only at hL_12 hD_8
  cases l_6 with
  | nil =>
   obtain rfl:=ah hL_12
   refine af (aa (ae (vB (decide ((k_5:Int) < (s_1.length:Int)))) wz rfl (aj ?_)))
   refine af (ay rfl (xh hD_8) (aQ ?_))
   exact aR (s_10) rfl rfl (aJ rfl)
  | cons x_7 l_6 =>
   obtain ⟨c_,hc_11,hL_12⟩:=bind_some hL_12
   refine af (aa (ae (vB (decide ((k_5:Int) < (s_1.length:Int)))) wz rfl (aj ?_)))
   refine af (aA rfl (uz hD_8) (av ?_))
   unfold dz at hc_11
   refine af (aC (af (aa (ae (vI (k_5:Int)) wz rfl (ae (vI (k_5:Int)) wz rfl (aj (af (aa (ae (.fn 175 [(.ref (ax 0) 0 0),(.ref (ax 1) 0 0)]) wz rfl (ae (vV (ax 2) 3 s_1) wz rfl (ae (vI (k_5:Int)) wz rfl ?_)))))))))))
   obtain ⟨_,hi_15,hc_11⟩:=bind_some hc_11
   refine zH ny rfl rfl (jf hi_15) (gm hi_15) wz ?_
   obtain ⟨e_16,hy_17,hc_11⟩:=bind_some hc_11
   refine EU 0 2 il ft iX o6 rfl rfl hy_17 (.d (.agg (Span.enc e_16))) rfl wz ?_
   obtain ⟨r_18,hr_19,hc_11⟩:=bind_some hc_11
   refine eD 0 [0,1] il ft (kL hr_19) rfl Ls rfl (by kernel_rfl) (by kernel_rfl) (by kernel_rfl) (by kernel_rfl) (by kernel_rfl) (by kernel_rfl) (by kernel_rfl) (by decide) (by kernel_rfl) wz (vB r_18) (by kernel_rfl) ([((ax 0),some (.cells 1 [(vL eI f2_3)])),((ax 1),some (.cells 1 [(vI f2_4)])),((ax 2),some (bV 3 Span.enc s_1))]:Hp) (by kernel_rfl) (aj ?_)
   rcases au hc_11 with⟨hc_21,hc_11⟩ | ⟨hc_21,hc_11⟩
   ·refine aA rfl hc_21 (af (aa (ae (vI (k_5:Int)) wz rfl (ae (vI (k_5:Int)) wz rfl (aj ?_)))))
    obtain rfl:=ah hc_11
    obtain rfl:=ah hL_12
    obtain rfl:=ah hF
    exact aB (xK (.inr rfl) [(vI (k_5:Int))] _ [0,1,2] [ax 0,ax 1,ax 2] ⟨rfl,trivial⟩ (.cons (jK rfl rfl) (.nil)) (by kernel_rfl) ⟨(by kernel_rfl),⟨(by kernel_rfl),⟨(by kernel_rfl),trivial⟩⟩⟩ (by decide) (by kernel_rfl))
   ·refine ay rfl hc_21 (av (aa (fJ (xn hD_8 hn_9) wz rfl (ae (vI ((k_5 + 1:Nat):Int)) wz rfl (aj ?_)))))
    obtain rfl:=ah hc_11
    exact aP (k_5 + 1,l_6,()) ⟨hL_12,aW hD_8⟩ (Nat.lt_succ_self _) rfl (aJ rfl)
 ·rintro s_10 ho_ sl_ H_ hp_ hq_
  subst ho_
  refine aL _ hp_ hq_ (af (aa (ae (vI (-1)) wz rfl (aj ?_))))
  obtain rfl:=ah hF
  exact aB (xK (.inr rfl) [(vI (-1))] _ [0,1,2] [ax 0,ax 1,ax 2] ⟨rfl,trivial⟩ (.cons (jK rfl rfl) (.nil)) (by kernel_rfl) ⟨(by kernel_rfl),⟨(by kernel_rfl),⟨(by kernel_rfl),trivial⟩⟩⟩ (by decide) (by kernel_rfl))
end Go.Proofs.YtjhcehhmdmbleaaGreatDoor.Law

