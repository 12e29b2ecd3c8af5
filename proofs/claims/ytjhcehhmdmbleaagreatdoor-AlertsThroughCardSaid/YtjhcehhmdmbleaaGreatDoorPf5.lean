/-
 The machine computes these plain functions (written by a program of ours).
-/
import Derived.Test.YtjhcehhmdmbleaaGreatDoorFacts
import Derived.Test.YtjhcehhmdmbleaaGreatDoorDefs
import Derived.Test.YtjhcehhmdmbleaaGreatDoorPf4
open Go Go.Eng Go.Proofs
namespace Go.Proofs.YtjhcehhmdmbleaaGreatDoor.Law
set_option maxRecDepth 100000
set_option linter.unusedVariables false
set_option maxHeartbeats 1000000
theorem pO {a_1:Alert} {b_2:Alert} {r:Int} (hF:iG a_1 b_2=some r) :
  FnM Tryz.prog 87 [(.d (.agg (Alert.enc a_1))),(.d (.agg (Alert.enc b_2)))] [] (vI r) []:=by
 refine FnM.of_wH ⟨Tryz.prog,21,[],[]⟩ rfl Tryz.func87 rfl rfl (Nat.le_of_ble_eq_true rfl) (by kernel_rfl) ?_
 unfold iG at hF
 refine af (aa (eD 0 (.inl rfl) [(vS a_1.Id),(vS a_1.Sender),(vI a_1.Kind),(vL eS a_1.Refs),(vI a_1.At),(vI a_1.Until),(vI a_1.Weight),(vL Rect.enc a_1.Areas),(vS a_1.Text)] rfl rfl wz (fun n_3=>eD 0 (.inl rfl) [(vS b_2.Id),(vS b_2.Sender),(vI b_2.Kind),(vL eS b_2.Refs),(vI b_2.At),(vI b_2.Until),(vI b_2.Weight),(vL Rect.enc b_2.Areas),(vS b_2.Text)] rfl rfl wz (fun n_4=>ae (vI 0) wz rfl (ai (af (af (aa (aG dZ rfl 4 rfl wz (aF 0 0 il ft sz3 ag3 rfl rfl (vI a_1.At) rfl wz (aG dZ rfl 4 rfl wz (aF 0 1 il ft sz3 ag3 rfl rfl (vI b_2.At) rfl wz (ae (vB (a_1.At != b_2.At)) wz rfl (ai ?_))))))))))))))
 rcases ak hF with⟨hc_5,hF⟩ | ⟨hc_5,hF⟩
 ·refine aB rfl hc_5 (af (aa (aG dZ rfl 4 rfl wz (aF 0 0 il ft sz3 ag3 rfl rfl (vI a_1.At) rfl wz (aG dZ rfl 4 rfl wz (aF 0 1 il ft sz3 ag3 rfl rfl (vI b_2.At) rfl wz (ae (vI (w64 (a_1.At - b_2.At))) wz rfl ?_)))))))
  obtain ⟨r_6,hr_7,hF⟩:=bind_some hF
  refine aH (Eb hr_7) rfl hb129 rfl rfl rfl rfl wz (ae (vI r_6) wz rfl (ai ?_))
  obtain rfl:=ah hF
  exact ay (aO (.inr rfl) [(vI r_6)] ⟨rfl,trivial⟩ rfl rfl rfl)
 ·refine ax rfl hc_5 (av (af (aa (aG eT rfl 0 rfl wz (aF 0 0 il ft sz9 ag9 rfl rfl (vS a_1.Id) rfl wz (aG eT rfl 0 rfl wz (aF 0 1 il ft sz9 ag9 rfl rfl (vS b_2.Id) rfl wz ?_)))))))
  obtain ⟨r_8,hr_9,hF⟩:=bind_some hF
  refine aH (jG hr_9) rfl G7 rfl rfl rfl rfl wz (ae (vI r_8) wz rfl (ai ?_))
  obtain rfl:=ah hF
  exact ay (aO (.inr rfl) [(vI r_8)] ⟨rfl,trivial⟩ rfl rfl rfl)
theorem uV {l_1:(List Alert)} {r:Int} (hF:jM l_1=some r) :
  FnM Tryz.prog 25 [(vL Alert.enc l_1)] [] (vI r) []:=by
 refine FnM.of_wH ⟨Tryz.prog,53,[],[]⟩ rfl Tryz.func25 rfl rfl (Nat.le_of_ble_eq_true rfl) (by kernel_rfl) ?_
 unfold jM at hF
 refine af (aa (ae (vI 0) wz rfl (ai (af (af (aa (ae (vL Alert.enc l_1) wz rfl (bZ pG rfl wz (ae (vB (decide ((l_1.length:Int) > 300))) wz rfl (ai ?_))))))))))
 rcases ak hF with⟨hc_2,hF⟩ | ⟨hc_2,hF⟩
 ·refine aB rfl hc_2 (af (aa (ae (vI 2) wz rfl (ai ?_))))
  obtain rfl:=ah hF
  exact ay (aO (.inr rfl) [(vI 2)] ⟨rfl,trivial⟩ rfl rfl rfl)
 ·refine ax rfl hc_2 (av (af (af (aa (ae (vL Alert.enc l_1) wz rfl (bZ pG rfl wz (ae (vI 0) wz rfl (ai ?_))))))))
  obtain ⟨o_11,hj_12,hF⟩:=bind_some hF
  obtain ⟨hn_7,hj_12⟩:=aZ hj_12
  refine aC (β:=(Unit)) (fun (s_8:Unit)=>([(0,(vL Alert.enc l_1))]:List (Nat×V))) (fun (s_8:Unit)=>([]:Hp)) (fun p=>o_11 = .go p) ?_ ?_
  ·refine aA (aV (β:=Nat×(List Alert)×(Unit)) (fun p=>(fun (k_3:Nat) (l_4:List Alert) (s_8:Unit)=>([(0,(vL Alert.enc l_1)),(12,(vL Alert.enc l_1)),(13,(vI (l_1.length:Int))),(14,(vI (k_3:Int)))]:List (Nat×V))) p.1 p.2.1 p.2.2) (fun p=>(fun (k_3:Nat) (l_4:List Alert) (s_8:Unit)=>([]:Hp)) p.1 p.2.1 p.2.2) (fun p=>forR (fun k x s=>gG l_1 k x s) p.2.1 p.1 p.2.2=some o_11∧(l_1).drop p.1=p.2.1) (fun p=>p.2.1.length) (0,l_1,()) ⟨hj_12,rfl⟩ rfl (aJ rfl) ?_)
   rintro ⟨k_3,l_4,s_8⟩ ⟨hL_10,hD_6⟩
   dsimp only at hL_10 hD_6
   cases l_4 with
   | nil =>
    obtain rfl:=ah hL_10
    refine af (aa (ae (vB (decide ((k_3:Int) < (l_1.length:Int)))) wz rfl (ai ?_)))
    refine af (ax rfl (drop_nil hD_6) (aX ?_))
    exact aU (s_8) rfl rfl (aJ rfl)
   | cons x_5 l_4 =>
    obtain ⟨c_,hc_9,hL_10⟩:=bind_some hL_10
    refine af (aa (ae (vB (decide ((k_3:Int) < (l_1.length:Int)))) wz rfl (ai ?_)))
    refine af (aB rfl (bv hD_6) (av ?_))
    unfold gG at hc_9
    refine af (aA (af (aa (ae (vI (k_3:Int)) wz rfl (gL jD rfl rfl (bN hD_6) rfl wz (dn bB dS rfl (.d (.agg (Alert.enc x_5))) rfl wz (fH 0 (.inl rfl) sQ rfl wz (fun n_13=>ae (vI (k_3:Int)) wz rfl (gu 0 il ft 0 bB rfl rfl [(vS x_5.Id),(vS x_5.Sender),(vI x_5.Kind),(vL eS x_5.Refs),(vI x_5.At),(vI x_5.Until),(vI x_5.Weight),(vL Rect.enc x_5.Areas),(vS x_5.Text)] rfl wz (ai (af (af (aa (aF 0 0 il ft bB dS rfl rfl (.d (.agg (Alert.enc x_5))) rfl wz ?_))))))))))))))
    obtain ⟨r_14,hr_15,hc_9⟩:=bind_some hc_9
    refine aH (wG hr_15) rfl hb86 rfl rfl rfl rfl wz (ae (vI r_14) wz rfl (ai (af (aa (ae (vI r_14) wz rfl (ae (vB (r_14 != 0)) wz rfl (ai ?_)))))))
    rcases ak hc_9 with⟨hc_16,hc_9⟩ | ⟨hc_16,hc_9⟩
    ·refine aB rfl hc_16 (af (aa (ae (vI r_14) wz rfl (ae (vI r_14) wz rfl (ai ?_)))))
     obtain rfl:=ah hc_9
     obtain rfl:=ah hL_10
     obtain rfl:=ah hF
     exact ay (aO (.inr rfl) [(vI r_14)] ⟨rfl,trivial⟩ rfl rfl rfl)
    ·refine ax rfl hc_16 (av (af ?_))
     obtain ⟨v_17,h_18,hc_9⟩:=bind_some hc_9
     refine aC (β:=Unit) (fun _=>([(0,(vL Alert.enc l_1)),(12,(vL Alert.enc l_1)),(13,(vI (l_1.length:Int))),(14,(vI (k_3:Int))),(35,(vB v_17))]:List (Nat×V))) (fun _=>([(n_13,some (.cells 9 [(vS x_5.Id),(vS x_5.Sender),(vI x_5.Kind),(vL eS x_5.Refs),(vI x_5.At),(vI x_5.Until),(vI x_5.Weight),(vL Rect.enc x_5.Areas),(vS x_5.Text)]))]:Hp)) (fun _=>True) ?_ ?_
     ·refine cK (ae (vI (k_3:Int)) wz rfl (ae (vB (decide ((k_3:Int) > 0))) wz rfl ?_))
      rcases ak h_18 with⟨hc_19,h_18⟩ | ⟨hc_19,h_18⟩
      ·refine aD rfl hc_19 wz (ae (vL Alert.enc l_1) wa rfl (ae (vI (k_3:Int)) wa rfl (ae (vI (w64 ((k_3:Int) - 1))) wa rfl ?_)))
       obtain ⟨y_20,hy_21,h_18⟩:=bind_some h_18
       refine gL jD rfl rfl hy_21 rfl wa (dn bB dS rfl (.d (.agg (Alert.enc y_20))) rfl wa (aF 8 0 (.inr (by kernel_rfl)) (fun _ _ ag=>trivial) bB dS rfl rfl (.d (.agg (Alert.enc x_5))) rfl wa ?_))
       obtain ⟨r_22,hr_23,h_18⟩:=bind_some h_18
       refine aH (pO hr_23) rfl hb87 rfl rfl rfl rfl wa (ae (vB (decide (r_22≥0))) wa rfl (ae (vB (decide (r_22≥0))) wz rfl (ai ?_)))
       obtain rfl:=ah h_18
       exact cu
      ·refine aD rfl hc_19 wz (aj wa (aj wa (aj wa (aj wa (aj wa (aj wa (aj wa (aj wa (ae (vB false) wz rfl (ai ?_))))))))))
       obtain rfl:=ah h_18
       exact cu
     ·rintro ⟨⟩ _ sl_ H_ hp_ hq_
      refine aL _ hp_ hq_ ?_
      rcases ak hc_9 with⟨hc_24,hc_9⟩ | ⟨hc_24,hc_9⟩
      ·refine aB rfl hc_24 (af (aa (ae (vI 7) wz rfl (ai ?_))))
       obtain rfl:=ah hc_9
       obtain rfl:=ah hL_10
       obtain rfl:=ah hF
       exact ay (aO (.inr rfl) [(vI 7)] ⟨rfl,trivial⟩ rfl rfl rfl)
      ·refine ax rfl hc_24 (av (aa (gQ (bJ hD_6 hn_7) wz rfl (ae (vI ((k_3 + 1:Nat):Int)) wz rfl (ai ?_)))))
       obtain rfl:=ah hc_9
       exact aY (k_3 + 1,l_4,()) ⟨hL_10,aR hD_6⟩ (Nat.lt_succ_self _) rfl (aJ rfl)
  ·rintro s_8 ho_ sl_ H_ hp_ hq_
   subst ho_
   refine aL _ hp_ hq_ (af (aa (H5 0 (.inl rfl) wz (fun n_25=>D7 (b':=some (bM D.str D.bool ([]:List (ByteArray×Bool)))) 0 rfl rfl (ae (.map n_25) wz rfl (ai (af (af (aa (ae (vL Alert.enc l_1) wz rfl (bZ pG rfl wz (ae (vI 0) wz rfl (ai ?_)))))))))))))
   obtain ⟨o_34,hj_35,hF⟩:=bind_some hF
   obtain ⟨hn_30,hj_35⟩:=aZ hj_35
   refine aC (β:=((List (ByteArray×Bool)))) (fun (s_31:(List (ByteArray×Bool)))=>([(0,(vL Alert.enc l_1)),(6,(.map n_25))]:List (Nat×V))) (fun (s_31:(List (ByteArray×Bool)))=>([(n_25,some (bM D.str D.bool s_31))]:Hp)) (fun p=>o_34 = .go p) ?_ ?_
   ·refine aA (aV (β:=Nat×(List Alert)×((List (ByteArray×Bool)))) (fun p=>(fun (k_26:Nat) (l_27:List Alert) (s_31:(List (ByteArray×Bool)))=>([(0,(vL Alert.enc l_1)),(6,(.map n_25)),(38,(vL Alert.enc l_1)),(39,(vI (l_1.length:Int))),(40,(vI (k_26:Int)))]:List (Nat×V))) p.1 p.2.1 p.2.2) (fun p=>(fun (k_26:Nat) (l_27:List Alert) (s_31:(List (ByteArray×Bool)))=>([(n_25,some (bM D.str D.bool s_31))]:Hp)) p.1 p.2.1 p.2.2) (fun p=>forR (fun k x s=>iE k x s) p.2.1 p.1 p.2.2=some o_34∧(l_1).drop p.1=p.2.1) (fun p=>p.2.1.length) (0,l_1,([]:List (ByteArray×Bool))) ⟨hj_35,rfl⟩ rfl (aJ rfl) ?_)
    rintro ⟨k_26,l_27,s_31⟩ ⟨hL_33,hD_29⟩
    dsimp only at hL_33 hD_29
    cases l_27 with
    | nil =>
     obtain rfl:=ah hL_33
     refine af (aa (ae (vB (decide ((k_26:Int) < (l_1.length:Int)))) wz rfl (ai ?_)))
     refine af (ax rfl (drop_nil hD_29) (aX ?_))
     exact aU (s_31) rfl rfl (aJ rfl)
    | cons x_28 l_27 =>
     obtain ⟨c_,hc_32,hL_33⟩:=bind_some hL_33
     refine af (aa (ae (vB (decide ((k_26:Int) < (l_1.length:Int)))) wz rfl (ai ?_)))
     refine af (aB rfl (bv hD_29) (av ?_))
     unfold iE at hc_32
     refine af (aA (af (aa (gL jD rfl rfl (bN hD_29) rfl wz (dn bB dS rfl (.d (.agg (Alert.enc x_28))) rfl wz (fH 0 (.inl rfl) sQ rfl wz (fun n_36=>gu 0 il ft 1 bB rfl rfl [(vS x_28.Id),(vS x_28.Sender),(vI x_28.Kind),(vL eS x_28.Refs),(vI x_28.At),(vI x_28.Until),(vI x_28.Weight),(vL Rect.enc x_28.Areas),(vS x_28.Text)] rfl wz (ai (aa (ae (.map n_25) wz rfl (aG eT rfl 0 rfl wz (aF 0 1 il ft sz9 ag9 rfl rfl (vS x_28.Id) rfl wz (DJ (eq:=eqS) (kD:=D.str) (vD:=D.bool) (es:=s_31) (k:=x_28.Id) (v:=true) 0 0 il ft (fun _ _=>rfl) Ht (by kernel_rfl) rfl rfl rfl rfl wz (ai (aa (gQ (bJ hD_29 hn_30) wz rfl (ae (vI ((k_26 + 1:Nat):Int)) wz rfl (ai ?_))))))))))))))))))
     obtain rfl:=ah hc_32
     exact aY (k_26 + 1,l_27,(rY eqS s_31 x_28.Id true)) ⟨hL_33,aR hD_29⟩ (Nat.lt_succ_self _) rfl (aJ rfl)
   ·rintro s_31 ho_ sl_ H_ hp_ hq_
    subst ho_
    refine aL _ hp_ hq_ (af (af (aa (ae (.map n_25) wz rfl (Kr (kD:=D.str) (vD:=D.bool) (es:=s_31) 0 0 il ft Ht rfl rfl wz (ae (vL Alert.enc l_1) wz rfl (bZ pG rfl wz (ae (vB (decide ((s_31.length:Int) < (l_1.length:Int)))) wz rfl (ai ?_)))))))))
    rcases ak hF with⟨hc_37,hF⟩ | ⟨hc_37,hF⟩
    ·refine aB rfl hc_37 (af (aa (ae (vI 6) wz rfl (ai ?_))))
     obtain rfl:=ah hF
     exact ay (aO (.inr rfl) [(vI 6)] ⟨rfl,trivial⟩ rfl rfl rfl)
    ·refine ax rfl hc_37 (av (af (aa (ae (vI 0) wz rfl (ai ?_)))))
     obtain rfl:=ah hF
     exact ay (aO (.inr rfl) [(vI 0)] ⟨rfl,trivial⟩ rfl rfl rfl)
theorem wF {l_1:(List Post)} {r:Int} (hF:kz l_1=some r) :
  FnM Tryz.prog 26 [(vL Post.enc l_1)] [] (vI r) []:=by
 refine FnM.of_wH ⟨Tryz.prog,39,[],[]⟩ rfl Tryz.func26 rfl rfl (Nat.le_of_ble_eq_true rfl) (by kernel_rfl) ?_
 unfold kz at hF
 refine af (aa (ae (vI 0) wz rfl (ai (af (af (aa (ae (vL Post.enc l_1) wz rfl (bZ FJ rfl wz (ae (vB (decide ((l_1.length:Int) > 500))) wz rfl (ai ?_))))))))))
 rcases ak hF with⟨hc_2,hF⟩ | ⟨hc_2,hF⟩
 ·refine aB rfl hc_2 (af (aa (ae (vI 2) wz rfl (ai ?_))))
  obtain rfl:=ah hF
  exact ay (aO (.inr rfl) [(vI 2)] ⟨rfl,trivial⟩ rfl rfl rfl)
 ·refine ax rfl hc_2 (av (af (aa (ae (vS (⟨#[]⟩:ByteArray)) wz rfl (ai (af (af (aa (ae (vL Post.enc l_1) wz rfl (bZ FJ rfl wz (ae (vI 0) wz rfl (ai ?_))))))))))))
  obtain ⟨o_11,hj_12,hF⟩:=bind_some hF
  obtain ⟨hn_7,hj_12⟩:=aZ hj_12
  refine aC (β:=(ByteArray)) (fun (s_8:ByteArray)=>([]:List (Nat×V))) (fun (s_8:ByteArray)=>([]:Hp)) (fun p=>o_11 = .go p) ?_ ?_
  ·refine aA (aV (β:=Nat×(List Post)×(ByteArray)) (fun p=>(fun (k_3:Nat) (l_4:List Post) (s_8:ByteArray)=>([(3,(vS s_8)),(9,(vL Post.enc l_1)),(10,(vI (l_1.length:Int))),(11,(vI (k_3:Int)))]:List (Nat×V))) p.1 p.2.1 p.2.2) (fun p=>(fun (k_3:Nat) (l_4:List Post) (s_8:ByteArray)=>([]:Hp)) p.1 p.2.1 p.2.2) (fun p=>forR (fun k x s=>fT k x s) p.2.1 p.1 p.2.2=some o_11∧(l_1).drop p.1=p.2.1) (fun p=>p.2.1.length) (0,l_1,(⟨#[]⟩:ByteArray)) ⟨hj_12,rfl⟩ rfl (aJ rfl) ?_)
   rintro ⟨k_3,l_4,s_8⟩ ⟨hL_10,hD_6⟩
   dsimp only at hL_10 hD_6
   cases l_4 with
   | nil =>
    obtain rfl:=ah hL_10
    refine af (aa (ae (vB (decide ((k_3:Int) < (l_1.length:Int)))) wz rfl (ai ?_)))
    refine af (ax rfl (drop_nil hD_6) (aX ?_))
    exact aU (s_8) rfl rfl (aJ rfl)
   | cons x_5 l_4 =>
    obtain ⟨c_,hc_9,hL_10⟩:=bind_some hL_10
    refine af (aa (ae (vB (decide ((k_3:Int) < (l_1.length:Int)))) wz rfl (ai ?_)))
    refine af (aB rfl (bv hD_6) (av ?_))
    unfold fT at hc_9
    refine af (aA (af (aa (gL CF rfl rfl (bN hD_6) rfl wz (dn qP vX rfl (.d (.agg (Post.enc x_5))) rfl wz (fH 0 (.inl rfl) z66 rfl wz (fun n_13=>gu 0 il ft 0 qP rfl rfl [(vS x_5.Player),(vI x_5.X),(vI x_5.Y)] rfl wz (ai (af (aA (af (aa (aG tZ rfl 0 rfl wz (aF 0 0 il ft sz9 ag9 rfl rfl (vS x_5.Player) rfl wz ?_))))))))))))))
    obtain ⟨r_14,hr_15,hc_9⟩:=bind_some hc_9
    refine aH (rG hr_15) rfl hb88 rfl rfl rfl rfl wz (ae (vB (!r_14)) wz rfl (ae (vB (!r_14)) wz rfl (ai ?_)))
    rcases ak hc_9 with⟨hc_16,hc_9⟩ | ⟨hc_16,hc_9⟩
    ·refine aB rfl hc_16 (af (aa (ae (vI 5) wz rfl (ai ?_))))
     obtain rfl:=ah hc_9
     obtain rfl:=ah hL_10
     obtain rfl:=ah hF
     exact ay (aO (.inr rfl) [(vI 5)] ⟨rfl,trivial⟩ rfl rfl rfl)
    ·refine ax rfl hc_16 (af ?_)
     obtain ⟨v_17,h_18,hc_9⟩:=bind_some hc_9
     refine aC (β:=Unit) (fun _=>([(3,(vS s_8)),(5,(.ref n_13 0 0)),(9,(vL Post.enc l_1)),(10,(vI (l_1.length:Int))),(11,(vI (k_3:Int))),(20,(vB v_17))]:List (Nat×V))) (fun _=>([(n_13,some (.cells 3 [(vS x_5.Player),(vI x_5.X),(vI x_5.Y)]))]:Hp)) (fun _=>True) ?_ ?_
     ·refine aa (aG xG rfl 1 rfl wz (aF 0 0 il ft sz3 ag3 rfl rfl (vI x_5.X) rfl wz ?_))
      obtain ⟨r_19,hr_20,h_18⟩:=bind_some h_18
      refine aH (gY hr_20) rfl wB rfl rfl rfl rfl wz (ae (vB (!r_19)) wz rfl ?_)
      rcases ak h_18 with⟨hc_21,h_18⟩ | ⟨hc_21,h_18⟩
      ·refine aD rfl hc_21 wz (aj wa (aj wa (aj wa (aj wa (ae (vB true) wz rfl (ae (vB true) wz rfl (ai ?_)))))))
       obtain rfl:=ah h_18
       exact cu
      ·refine aD rfl hc_21 wz (aG zn rfl 2 rfl wa (aF 0 0 il ft sz3 ag3 rfl rfl (vI x_5.Y) rfl wa ?_))
       obtain ⟨r_22,hr_23,h_18⟩:=bind_some h_18
       refine aH (gY hr_23) rfl wB rfl rfl rfl rfl wa (ae (vB (!r_22)) wa rfl (ae (vB (!r_22)) wz rfl (ae (vB (!r_22)) wz rfl (ai ?_))))
       obtain rfl:=ah h_18
       exact cu
     ·rintro ⟨⟩ _ sl_ H_ hp_ hq_
      refine aL _ hp_ hq_ ?_
      rcases ak hc_9 with⟨hc_24,hc_9⟩ | ⟨hc_24,hc_9⟩
      ·refine aB rfl hc_24 (af (aa (ae (vI 1) wz rfl (ai ?_))))
       obtain rfl:=ah hc_9
       obtain rfl:=ah hL_10
       obtain rfl:=ah hF
       exact ay (aO (.inr rfl) [(vI 1)] ⟨rfl,trivial⟩ rfl rfl rfl)
      ·refine ax rfl hc_24 (af (aa (aG tZ rfl 0 rfl wz (aF 0 0 il ft sz9 ag9 rfl rfl (vS x_5.Player) rfl wz (ae (vS s_8) wz rfl (ae (vB (sLe x_5.Player s_8)) wz rfl (ae (vB (sLe x_5.Player s_8)) wz rfl (ai ?_))))))))
       rcases ak hc_9 with⟨hc_25,hc_9⟩ | ⟨hc_25,hc_9⟩
       ·refine aB rfl hc_25 (af (aa (ae (vI 7) wz rfl (ai ?_))))
        obtain rfl:=ah hc_9
        obtain rfl:=ah hL_10
        obtain rfl:=ah hF
        exact ay (aO (.inr rfl) [(vI 7)] ⟨rfl,trivial⟩ rfl rfl rfl)
       ·refine ax rfl hc_25 (av (aa (aG tZ rfl 0 rfl wz (aF 0 0 il ft sz9 ag9 rfl rfl (vS x_5.Player) rfl wz (ae (vS x_5.Player) wz rfl (ai (aa (gQ (bJ hD_6 hn_7) wz rfl (ae (vI ((k_3 + 1:Nat):Int)) wz rfl (ai ?_))))))))))
        obtain rfl:=ah hc_9
        exact aY (k_3 + 1,l_4,x_5.Player) ⟨hL_10,aR hD_6⟩ (Nat.lt_succ_self _) rfl (aJ rfl)
  ·rintro s_8 ho_ sl_ H_ hp_ hq_
   subst ho_
   refine aL _ hp_ hq_ (af (aa (ae (vI 0) wz rfl (ai ?_))))
   obtain rfl:=ah hF
   exact ay (aO (.inr rfl) [(vI 0)] ⟨rfl,trivial⟩ rfl rfl rfl)
theorem vg {wv_1:Window} {r:Int} (hF:jR wv_1=some r) :
  FnM Tryz.prog 27 [(.d (.agg (Window.enc wv_1)))] [] (vI r) []:=by
 refine FnM.of_wH ⟨Tryz.prog,14,[],[]⟩ rfl Tryz.func27 rfl rfl (Nat.le_of_ble_eq_true rfl) (by kernel_rfl) ?_
 unfold jR at hF
 refine af (aa (eD 0 (.inl rfl) [(vI wv_1.From),(vI wv_1.To)] rfl rfl wz (fun n_2=>ae (vI 0) wz rfl (ai (af (af ?_))))))
 obtain ⟨v_3,h_4,hF⟩:=bind_some hF
 refine aC (β:=Unit) (fun _=>([(13,(vB v_3))]:List (Nat×V))) (fun _=>([(n_2,some (.cells 2 [(vI wv_1.From),(vI wv_1.To)]))]:Hp)) (fun _=>True) ?_ ?_
 ·refine aa (aG xn rfl 0 rfl wz (aF 0 0 il ft sz3 ag3 rfl rfl (vI wv_1.From) rfl wz (aG pV rfl 1 rfl wz (aF 0 0 il ft sz3 ag3 rfl rfl (vI wv_1.To) rfl wz ?_))))
  obtain ⟨r_5,hr_6,h_4⟩:=bind_some h_4
  refine aH (gY hr_6) rfl wB rfl rfl rfl rfl wz (ae (vB (!r_5)) wz rfl ?_)
  rcases ak h_4 with⟨hc_7,h_4⟩ | ⟨hc_7,h_4⟩
  ·refine aD rfl hc_7 wz (aj wa (aj wa (aj wa (ae (vB true) wz rfl (ai ?_)))))
   obtain rfl:=ah h_4
   exact cu
  ·refine aD rfl hc_7 wz (aG pV rfl 1 rfl wa (aF 0 0 il ft sz3 ag3 rfl rfl (vI wv_1.To) rfl wa (ae (vB (decide (wv_1.To > 345686400000))) wa rfl (ae (vB (decide (wv_1.To > 345686400000))) wz rfl (ai ?_)))))
   obtain rfl:=ah h_4
   exact cu
 ·rintro ⟨⟩ _ sl_ H_ hp_ hq_
  refine aL _ hp_ hq_ ?_
  rcases ak hF with⟨hc_8,hF⟩ | ⟨hc_8,hF⟩
  ·refine aB rfl hc_8 (af (aa (ae (vI 1) wz rfl (ai ?_))))
   obtain rfl:=ah hF
   exact ay (aO (.inr rfl) [(vI 1)] ⟨rfl,trivial⟩ rfl rfl rfl)
  ·refine ax rfl hc_8 (av (af (aa (ae (vI 0) wz rfl (ai ?_)))))
   obtain rfl:=ah hF
   exact ay (aO (.inr rfl) [(vI 0)] ⟨rfl,trivial⟩ rfl rfl rfl)
theorem Eu {l_1:(List Int)} {r:Int} (hF:tO l_1=some r) :
  FnM Tryz.prog 24 [(vL eI l_1)] [] (vI r) []:=by
 refine FnM.of_wH ⟨Tryz.prog,15,[],[]⟩ rfl Tryz.func24 rfl rfl (Nat.le_of_ble_eq_true rfl) (by kernel_rfl) ?_
 unfold tO at hF
 refine af (aa (ae (vI 0) wz rfl (ai (af (af (aa (ae (vL eI l_1) wz rfl (bZ un140 rfl wz (ae (vI 0) wz rfl (ai ?_))))))))))
 obtain ⟨o_10,hj_11,hF⟩:=bind_some hF
 obtain ⟨hn_6,hj_11⟩:=aZ hj_11
 refine aC (β:=(Unit)) (fun (s_7:Unit)=>([]:List (Nat×V))) (fun (s_7:Unit)=>([]:Hp)) (fun p=>o_10 = .go p) ?_ ?_
 ·refine aA (aV (β:=Nat×(List Int)×(Unit)) (fun p=>(fun (k_2:Nat) (l_3:List Int) (s_7:Unit)=>([(5,(vL eI l_1)),(6,(vI (l_1.length:Int))),(7,(vI (k_2:Int)))]:List (Nat×V))) p.1 p.2.1 p.2.2) (fun p=>(fun (k_2:Nat) (l_3:List Int) (s_7:Unit)=>([]:Hp)) p.1 p.2.1 p.2.2) (fun p=>forR (fun k x s=>pQ k x s) p.2.1 p.1 p.2.2=some o_10∧(l_1).drop p.1=p.2.1) (fun p=>p.2.1.length) (0,l_1,()) ⟨hj_11,rfl⟩ rfl (aJ rfl) ?_)
  rintro ⟨k_2,l_3,s_7⟩ ⟨hL_9,hD_5⟩
  dsimp only at hL_9 hD_5
  cases l_3 with
  | nil =>
   obtain rfl:=ah hL_9
   refine af (aa (ae (vB (decide ((k_2:Int) < (l_1.length:Int)))) wz rfl (ai ?_)))
   refine af (ax rfl (drop_nil hD_5) (aX ?_))
   exact aU (s_7) rfl rfl (aJ rfl)
  | cons x_4 l_3 =>
   obtain ⟨c_,hc_8,hL_9⟩:=bind_some hL_9
   refine af (aa (ae (vB (decide ((k_2:Int) < (l_1.length:Int)))) wz rfl (ai ?_)))
   refine af (aB rfl (bv hD_5) (av ?_))
   unfold pQ at hc_8
   refine af (aA (af (aa (gL es140 rfl rfl (bN hD_5) rfl wz (dn sz35 ag35 rfl (vI x_4) rfl wz (ae (vI x_4) wz rfl (ai (af (aa (ae (vI x_4) wz rfl (ae (vB (x_4 != 0)) wz rfl (ai ?_))))))))))))
   rcases ak hc_8 with⟨hc_12,hc_8⟩ | ⟨hc_12,hc_8⟩
   ·refine aB rfl hc_12 (af (aa (ae (vI x_4) wz rfl (ae (vI x_4) wz rfl (ai ?_)))))
    obtain rfl:=ah hc_8
    obtain rfl:=ah hL_9
    obtain rfl:=ah hF
    exact ay (aO (.inr rfl) [(vI x_4)] ⟨rfl,trivial⟩ rfl rfl rfl)
   ·refine ax rfl hc_12 (av (aa (gQ (bJ hD_5 hn_6) wz rfl (ae (vI ((k_2 + 1:Nat):Int)) wz rfl (ai ?_)))))
    obtain rfl:=ah hc_8
    exact aY (k_2 + 1,l_3,()) ⟨hL_9,aR hD_5⟩ (Nat.lt_succ_self _) rfl (aJ rfl)
 ·rintro s_7 ho_ sl_ H_ hp_ hq_
  subst ho_
  refine aL _ hp_ hq_ (af (aa (ae (vI 0) wz rfl (ai ?_))))
  obtain rfl:=ah hF
  exact ay (aO (.inr rfl) [(vI 0)] ⟨rfl,trivial⟩ rfl rfl rfl)
theorem nH {s_1:(List ByteArray)} {v_2:ByteArray} {r:Int} (hF:fJ s_1 v_2=some r) :
  FnM Tryz.prog 259 [(vL eS s_1),(vS v_2)] [] (vI r) []:=by
 refine FnM.of_wH ⟨Tryz.prog,19,[],[]⟩ rfl Tryz.func259 rfl rfl (Nat.le_of_ble_eq_true rfl) (by kernel_rfl) ?_
 unfold fJ at hF
 refine af (aa (ae (vI 0) wz rfl (ai (af (af (aa (ae (vL eS s_1) wz rfl (bZ vv rfl wz (ae (vI 0) wz rfl (ai ?_))))))))))
 obtain ⟨o_11,hj_12,hF⟩:=bind_some hF
 obtain ⟨hn_7,hj_12⟩:=aZ hj_12
 refine aC (β:=(Unit)) (fun (s_8:Unit)=>([]:List (Nat×V))) (fun (s_8:Unit)=>([]:Hp)) (fun p=>o_11 = .go p) ?_ ?_
 ·refine aA (aV (β:=Nat×(List ByteArray)×(Unit)) (fun p=>(fun (k_3:Nat) (l_4:List ByteArray) (s_8:Unit)=>([(0,(vL eS s_1)),(1,(vS v_2)),(7,(vI (s_1.length:Int))),(8,(vI (k_3:Int)))]:List (Nat×V))) p.1 p.2.1 p.2.2) (fun p=>(fun (k_3:Nat) (l_4:List ByteArray) (s_8:Unit)=>([]:Hp)) p.1 p.2.1 p.2.2) (fun p=>forR (fun k x s=>eU v_2 k x s) p.2.1 p.1 p.2.2=some o_11∧(s_1).drop p.1=p.2.1) (fun p=>p.2.1.length) (0,s_1,()) ⟨hj_12,rfl⟩ rfl (aJ rfl) ?_)
  rintro ⟨k_3,l_4,s_8⟩ ⟨hL_10,hD_6⟩
  dsimp only at hL_10 hD_6
  cases l_4 with
  | nil =>
   obtain rfl:=ah hL_10
   refine af (aa (ae (vB (decide ((k_3:Int) < (s_1.length:Int)))) wz rfl (ai ?_)))
   refine af (ax rfl (drop_nil hD_6) (aX ?_))
   exact aU (s_8) rfl rfl (aJ rfl)
  | cons x_5 l_4 =>
   obtain ⟨c_,hc_9,hL_10⟩:=bind_some hL_10
   refine af (aa (ae (vB (decide ((k_3:Int) < (s_1.length:Int)))) wz rfl (ai ?_)))
   refine af (aB rfl (bv hD_6) (av ?_))
   unfold eU at hc_9
   refine af (aA (af (aa (ae (vI (k_3:Int)) wz rfl (ae (vI (k_3:Int)) wz rfl (ai (af (aa (ae (vS v_2) wz rfl (ae (vL eS s_1) wz rfl (ae (vI (k_3:Int)) wz rfl (gL mM rfl rfl (bN hD_6) rfl wz (dn sz9 ag9 rfl (vS x_5) rfl wz (ae (vB (sEq v_2 x_5)) wz rfl (ai ?_)))))))))))))))
   rcases ak hc_9 with⟨hc_13,hc_9⟩ | ⟨hc_13,hc_9⟩
   ·refine aB rfl hc_13 (af (aa (ae (vI (k_3:Int)) wz rfl (ae (vI (k_3:Int)) wz rfl (ai ?_)))))
    obtain rfl:=ah hc_9
    obtain rfl:=ah hL_10
    obtain rfl:=ah hF
    exact ay (aO (.inr rfl) [(vI (k_3:Int))] ⟨rfl,trivial⟩ rfl rfl rfl)
   ·refine ax rfl hc_13 (av (aa (gQ (bJ hD_6 hn_7) wz rfl (ae (vI ((k_3 + 1:Nat):Int)) wz rfl (ai ?_)))))
    obtain rfl:=ah hc_9
    exact aY (k_3 + 1,l_4,()) ⟨hL_10,aR hD_6⟩ (Nat.lt_succ_self _) rfl (aJ rfl)
 ·rintro s_8 ho_ sl_ H_ hp_ hq_
  subst ho_
  refine aL _ hp_ hq_ (af (aa (ae (vI (-1)) wz rfl (ai ?_))))
  obtain rfl:=ah hF
  exact ay (aO (.inr rfl) [(vI (-1))] ⟨rfl,trivial⟩ rfl rfl rfl)
theorem mq {s_1:(List ByteArray)} {v_2:ByteArray} {r:Bool} (hF:dE s_1 v_2=some r) :
  FnM Tryz.prog 189 [(vL eS s_1),(vS v_2)] [] (vB r) []:=by
 refine FnM.of_wH ⟨Tryz.prog,9,[],[]⟩ rfl Tryz.func189 rfl rfl (Nat.le_of_ble_eq_true rfl) (by kernel_rfl) ?_
 unfold dE at hF
 refine af (aa (ae (vB false) wz rfl (ai (af (aa (ae (vL eS s_1) wz rfl (ae (vS v_2) wz rfl ?_)))))))
 obtain ⟨r_3,hr_4,hF⟩:=bind_some hF
 refine aH (nH hr_4) rfl hb259 rfl rfl rfl rfl wz (ae (vB (decide (r_3≥0))) wz rfl (ae (vB (decide (r_3≥0))) wz rfl (ai ?_)))
 obtain rfl:=ah hF
 exact ay (aO (.inr rfl) [(vB (decide (r_3≥0)))] ⟨rfl,trivial⟩ rfl rfl rfl)
theorem zT {o_1:Alert} {p_2:ByteArray} {p_3:Alert} {r:Bool} (hF:kN o_1 p_2 p_3=some r) :
  FnM Tryz.prog 260 [(.d (.agg (Alert.enc o_1))),(.ref (au 0) 0 0),(.ref (au 1) 0 0)] [(.cells 1 [(vS p_2)]),(.cells 9 [(vS p_3.Id),(vS p_3.Sender),(vI p_3.Kind),(vL eS p_3.Refs),(vI p_3.At),(vI p_3.Until),(vI p_3.Weight),(vL Rect.enc p_3.Areas),(vS p_3.Text)])] (vB r) [some (.cells 1 [(vS p_2)]),some (.cells 9 [(vS p_3.Id),(vS p_3.Sender),(vI p_3.Kind),(vL eS p_3.Refs),(vI p_3.At),(vI p_3.Until),(vI p_3.Weight),(vL Rect.enc p_3.Areas),(vS p_3.Text)])]:=by
 refine FnM.of_wH ⟨Tryz.prog,22,[],[]⟩ rfl Tryz.func260 rfl rfl (Nat.le_of_ble_eq_true rfl) (by kernel_rfl) ?_
 unfold kN at hF
 refine af (aa (eD 0 (.inl rfl) [(vS o_1.Id),(vS o_1.Sender),(vI o_1.Kind),(vL eS o_1.Refs),(vI o_1.At),(vI o_1.Until),(vI o_1.Weight),(vL Rect.enc o_1.Areas),(vS o_1.Text)] rfl rfl wz (fun n_4=>ae (vB false) wz rfl (ai (af ?_)))))
 obtain ⟨v_5,h_6,hF⟩:=bind_some hF
 refine aC (β:=Unit) (fun _=>([(4,(vB v_5))]:List (Nat×V))) (fun _=>([((au 0),some (.cells 1 [(vS p_2)])),((au 1),some (.cells 9 [(vS p_3.Id),(vS p_3.Sender),(vI p_3.Kind),(vL eS p_3.Refs),(vI p_3.At),(vI p_3.Until),(vI p_3.Weight),(vL Rect.enc p_3.Areas),(vS p_3.Text)])),(n_4,some (.cells 9 [(vS o_1.Id),(vS o_1.Sender),(vI o_1.Kind),(vL eS o_1.Refs),(vI o_1.At),(vI o_1.Until),(vI o_1.Weight),(vL Rect.enc o_1.Areas),(vS o_1.Text)]))]:Hp)) (fun _=>True) ?_ ?_
 ·refine aa (aG eT rfl 0 rfl wz (aF 0 2 il ft sz9 ag9 rfl rfl (vS o_1.Id) rfl wz (aF 0 0 il ft sz9 ag9 rfl rfl (vS p_2) rfl wz (ae (vB (sEq o_1.Id p_2)) wz rfl ?_))))
  rcases ak h_6 with⟨hc_7,h_6⟩ | ⟨hc_7,h_6⟩
  ·refine aD rfl hc_7 wz (aG rF rfl 1 rfl wa (aF 0 2 il ft sz9 ag9 rfl rfl (vS o_1.Sender) rfl wa (aG rF rfl 1 rfl wa (aF 0 1 il ft sz9 ag9 rfl rfl (vS p_3.Sender) rfl wa (ae (vB (sEq o_1.Sender p_3.Sender)) wa rfl (ae (vB (sEq o_1.Sender p_3.Sender)) wz rfl ?_))))))
   rcases ak h_6 with⟨hc_8,h_6⟩ | ⟨hc_8,h_6⟩
   ·refine aD rfl hc_8 wz (aF 0 2 il ft bB dS rfl rfl (.d (.agg (Alert.enc o_1))) rfl wa (aF 0 1 il ft bB dS rfl rfl (.d (.agg (Alert.enc p_3))) rfl wa ?_))
    obtain ⟨r_9,hr_10,h_6⟩:=bind_some h_6
    refine aH (pO hr_10) rfl hb87 rfl rfl rfl rfl wa (ae (vB (decide (r_9 < 0))) wa rfl (ae (vB (decide (r_9 < 0))) wz rfl (ae (vB (decide (r_9 < 0))) wz rfl (ai ?_))))
    obtain rfl:=ah h_6
    exact cu
   ·refine aD rfl hc_8 wz (aj wa (aj wa (aj wa (aj wa (ae (vB false) wz rfl (ae (vB false) wz rfl (ai ?_)))))))
    obtain rfl:=ah h_6
    exact cu
  ·refine aD rfl hc_7 wz (aj wa (aj wa (aj wa (aj wa (aj wa (ae (vB false) wz rfl (ae (vB false) wz rfl (aj wa (aj wa (aj wa (aj wa (ae (vB false) wz rfl (ae (vB false) wz rfl (ai ?_))))))))))))))
   obtain rfl:=ah h_6
   exact cu
 ·rintro ⟨⟩ _ sl_ H_ hp_ hq_
  refine aL _ hp_ hq_ ?_
  obtain rfl:=ah hF
  exact ay (rX (.inr rfl) [(vB v_5)] _ [0,1] [au 0,au 1] ⟨rfl,trivial⟩ (.cons (gN rfl rfl) (.nil)) (by kernel_rfl) ⟨(by kernel_rfl),⟨(by kernel_rfl),trivial⟩⟩ (by decide) (by kernel_rfl))
theorem jB {s_1:(List Alert)} {f_2:Alert→Option Bool} {r:Bool} {gid:FuncId} {caps:List V} {Sin:List Box} (hfn:∀ x0 r,f_2 x0=some r→FnM Tryz.prog gid ([(.d (.agg (Alert.enc x0)))]++caps) Sin (vB r) (Sin.map some)) (hbF:aI Tryz.prog gid=true) (hcapF:caps.flatMap frz = []∧caps.map co0=caps) (hokF:okL Sin.length caps=true) (hsF:∀ b∈Sin,b.ok Sin.length=true) (hmF:∀ b∈Sin,b.mut=true) (hF:bR s_1 f_2=some r) :
  FnM Tryz.prog 126 [(vL Alert.enc s_1),(.fn gid caps)] Sin (vB r) (Sin.map some):=by
 refine FnM.of_wH ⟨Tryz.prog,9,[],[]⟩ rfl Tryz.func126 rfl rfl (Nat.le_of_ble_eq_true rfl) (by kernel_rfl) ?_
 unfold bR at hF
 refine af (aa (ae (vB false) wz rfl (ai (af (aa (ae (vL Alert.enc s_1) wz rfl (ae (.fn gid caps) wz rfl ?_)))))))
 obtain ⟨r_3,hr_4,hF⟩:=bind_some hF
 refine yY (gK (gid:=gid) (caps:=caps) (Sin:=Sin) hfn hbF hcapF hokF hsF hmF hr_4) rfl hb41 rfl rfl ⟨rfl,rfl⟩ (by simp [okL,okV,hokF]) hsF hmF rfl wz rfl (ae (vB (decide (r_3≥0))) wz rfl (ae (vB (decide (r_3≥0))) wz rfl (ai ?_)))
 obtain rfl:=ah hF
 exact ay (IK hsF (.inr rfl) [(vB (decide (r_3≥0)))] ⟨rfl,trivial⟩ rfl rfl rfl)
theorem Cw {l_1:(List Alert)} {a_2:Alert} {ref_3:ByteArray} {r:Bool} (hF:qH l_1 a_2 ref_3=some r) :
  FnM Tryz.prog 190 [(vL Alert.enc l_1),(.d (.agg (Alert.enc a_2))),(vS ref_3)] [] (vB r) []:=by
 refine FnM.of_wH ⟨Tryz.prog,10,[],[]⟩ rfl Tryz.func190 rfl rfl (Nat.le_of_ble_eq_true rfl) (by kernel_rfl) ?_
 unfold qH at hF
 refine af (aa (eD 0 (.inl rfl) [(vS a_2.Id),(vS a_2.Sender),(vI a_2.Kind),(vL eS a_2.Refs),(vI a_2.At),(vI a_2.Until),(vI a_2.Weight),(vL Rect.enc a_2.Areas),(vS a_2.Text)] rfl rfl wz (fun n_4=>eD 0 (.inl rfl) [(vS ref_3)] rfl rfl wz (fun n_5=>ae (vB false) wz rfl (ai (af (aa (ae (vL Alert.enc l_1) wz rfl (ae (.fn 260 [(.ref n_5 0 0),(.ref n_4 0 0)]) wz rfl ?_)))))))))
 obtain ⟨r_6,hr_7,hF⟩:=bind_some hF
 refine aM 0 [1,0] il ft (jB (gid:=260) (caps := [.ref (au 0) 0 0,.ref (au 1) 0 0]) (Sin := [(.cells 1 [(vS ref_3)]),(.cells 9 [(vS a_2.Id),(vS a_2.Sender),(vI a_2.Kind),(vL eS a_2.Refs),(vI a_2.At),(vI a_2.Until),(vI a_2.Weight),(vL Rect.enc a_2.Areas),(vS a_2.Text)])]) (fun _ _ h_=>zT h_) hb260 ⟨rfl,rfl⟩ (by kernel_rfl) (Ce (by kernel_rfl)) (yO (by kernel_rfl)) hr_7) rfl hb126 rfl (by kernel_rfl) (by kernel_rfl) (by kernel_rfl) (by kernel_rfl) (by kernel_rfl) (by kernel_rfl) (by kernel_rfl) (by decide) (by kernel_rfl) wz (vB r_6) (by kernel_rfl) ([(n_4,some (.cells 9 [(vS a_2.Id),(vS a_2.Sender),(vI a_2.Kind),(vL eS a_2.Refs),(vI a_2.At),(vI a_2.Until),(vI a_2.Weight),(vL Rect.enc a_2.Areas),(vS a_2.Text)])),(n_5,some (.cells 1 [(vS ref_3)]))]:Hp) (by kernel_rfl) (ae (vB r_6) wz rfl (ai ?_))
 obtain rfl:=ah hF
 exact ay (aO (.inr rfl) [(vB r_6)] ⟨rfl,trivial⟩ rfl rfl rfl)
theorem Df {l_1:(List Alert)} {a_2:Alert} {r:Int} (hF:qK l_1 a_2=some r) :
  FnM Tryz.prog 133 [(vL Alert.enc l_1),(.d (.agg (Alert.enc a_2)))] [] (vI r) []:=by
 refine FnM.of_wH ⟨Tryz.prog,34,[],[]⟩ rfl Tryz.func133 rfl rfl (Nat.le_of_ble_eq_true rfl) (by kernel_rfl) ?_
 unfold qK at hF
 refine af (aa (eD 0 (.inl rfl) [(vS a_2.Id),(vS a_2.Sender),(vI a_2.Kind),(vL eS a_2.Refs),(vI a_2.At),(vI a_2.Until),(vI a_2.Weight),(vL Rect.enc a_2.Areas),(vS a_2.Text)] rfl rfl wz (fun n_3=>ae (vI 0) wz rfl (ai (af (aa (aG rJ rfl 5 rfl wz (aF 0 0 il ft sz3 ag3 rfl rfl (vI a_2.Until) rfl wz (ae (vI a_2.Until) wz rfl (ai (af (af (aa (ae (vL Alert.enc l_1) wz rfl (bZ pG rfl wz (ae (vI 0) wz rfl (ai ?_)))))))))))))))))
 obtain ⟨o_12,hj_13,hF⟩:=bind_some hF
 obtain ⟨hn_8,hj_13⟩:=aZ hj_13
 refine aC (β:=(Int)) (fun (s_9:Int)=>([(5,(vI s_9))]:List (Nat×V))) (fun (s_9:Int)=>([(n_3,some (.cells 9 [(vS a_2.Id),(vS a_2.Sender),(vI a_2.Kind),(vL eS a_2.Refs),(vI a_2.At),(vI a_2.Until),(vI a_2.Weight),(vL Rect.enc a_2.Areas),(vS a_2.Text)]))]:Hp)) (fun p=>o_12 = .go p) ?_ ?_
 ·refine aA (aV (β:=Nat×(List Alert)×(Int)) (fun p=>(fun (k_4:Nat) (l_5:List Alert) (s_9:Int)=>([(0,(vL Alert.enc l_1)),(3,(.ref n_3 0 0)),(5,(vI s_9)),(10,(vL Alert.enc l_1)),(11,(vI (l_1.length:Int))),(12,(vI (k_4:Int)))]:List (Nat×V))) p.1 p.2.1 p.2.2) (fun p=>(fun (k_4:Nat) (l_5:List Alert) (s_9:Int)=>([(n_3,some (.cells 9 [(vS a_2.Id),(vS a_2.Sender),(vI a_2.Kind),(vL eS a_2.Refs),(vI a_2.At),(vI a_2.Until),(vI a_2.Weight),(vL Rect.enc a_2.Areas),(vS a_2.Text)]))]:Hp)) p.1 p.2.1 p.2.2) (fun p=>forR (fun k x s=>mJ a_2 l_1 k x s) p.2.1 p.1 p.2.2=some o_12∧(l_1).drop p.1=p.2.1) (fun p=>p.2.1.length) (0,l_1,a_2.Until) ⟨hj_13,rfl⟩ rfl (aJ rfl) ?_)
  rintro ⟨k_4,l_5,s_9⟩ ⟨hL_11,hD_7⟩
  dsimp only at hL_11 hD_7
  cases l_5 with
  | nil =>
   obtain rfl:=ah hL_11
   refine af (aa (ae (vB (decide ((k_4:Int) < (l_1.length:Int)))) wz rfl (ai ?_)))
   refine af (ax rfl (drop_nil hD_7) (aX ?_))
   exact aU (s_9) rfl rfl (aJ rfl)
  | cons x_6 l_5 =>
   obtain ⟨c_,hc_10,hL_11⟩:=bind_some hL_11
   refine af (aa (ae (vB (decide ((k_4:Int) < (l_1.length:Int)))) wz rfl (ai ?_)))
   refine af (aB rfl (bv hD_7) (av ?_))
   unfold mJ at hc_10
   refine af (aA (af (aa (gL jD rfl rfl (bN hD_7) rfl wz (dn bB dS rfl (.d (.agg (Alert.enc x_6))) rfl wz (fH 0 (.inl rfl) sQ rfl wz (fun n_14=>gu 0 il ft 1 bB rfl rfl [(vS x_6.Id),(vS x_6.Sender),(vI x_6.Kind),(vL eS x_6.Refs),(vI x_6.At),(vI x_6.Until),(vI x_6.Weight),(vL Rect.enc x_6.Areas),(vS x_6.Text)] rfl wz (ai (af ?_)))))))))
   obtain ⟨v_15,h_16,hc_10⟩:=bind_some hc_10
   refine aC (β:=Unit) (fun _=>([(0,(vL Alert.enc l_1)),(3,(.ref n_3 0 0)),(5,(vI s_9)),(7,(.ref n_14 0 0)),(10,(vL Alert.enc l_1)),(11,(vI (l_1.length:Int))),(12,(vI (k_4:Int))),(27,(vB v_15))]:List (Nat×V))) (fun _=>([(n_3,some (.cells 9 [(vS a_2.Id),(vS a_2.Sender),(vI a_2.Kind),(vL eS a_2.Refs),(vI a_2.At),(vI a_2.Until),(vI a_2.Weight),(vL Rect.enc a_2.Areas),(vS a_2.Text)])),(n_14,some (.cells 9 [(vS x_6.Id),(vS x_6.Sender),(vI x_6.Kind),(vL eS x_6.Refs),(vI x_6.At),(vI x_6.Until),(vI x_6.Weight),(vL Rect.enc x_6.Areas),(vS x_6.Text)]))]:Hp)) (fun _=>True) ?_ ?_
   ·refine aa (aG jI rfl 3 rfl wz (aF 0 1 il ft uM xk rfl rfl (vL eS x_6.Refs) rfl wz (aG eT rfl 0 rfl wz (aF 0 0 il ft sz9 ag9 rfl rfl (vS a_2.Id) rfl wz ?_))))
    obtain ⟨r_17,hr_18,h_16⟩:=bind_some h_16
    refine aH (mq hr_18) rfl hb189 rfl rfl rfl rfl wz ?_
    rcases ak h_16 with⟨hc_19,h_16⟩ | ⟨hc_19,h_16⟩
    ·refine aD rfl hc_19 wz (ae (vL Alert.enc l_1) wa rfl (aF 0 1 il ft bB dS rfl rfl (.d (.agg (Alert.enc x_6))) rfl wa (aG eT rfl 0 rfl wa (aF 0 0 il ft sz9 ag9 rfl rfl (vS a_2.Id) rfl wa ?_))))
     obtain ⟨r_20,hr_21,h_16⟩:=bind_some h_16
     refine aH (Cw hr_21) rfl hb190 rfl rfl rfl rfl wa (ae (vB r_20) wz rfl (ai ?_))
     obtain rfl:=ah h_16
     exact cu
    ·refine aD rfl hc_19 wz (aj wa (aj wa (aj wa (aj wa (aj wa (ae (vB false) wz rfl (ai ?_)))))))
     obtain rfl:=ah h_16
     exact cu
   ·rintro ⟨⟩ _ sl_ H_ hp_ hq_
    refine aL _ hp_ hq_ ?_
    obtain ⟨v_22,h_23,hc_10⟩:=bind_some hc_10
    refine aC (β:=Unit) (fun _=>([(0,(vL Alert.enc l_1)),(3,(.ref n_3 0 0)),(5,(vI v_22)),(10,(vL Alert.enc l_1)),(11,(vI (l_1.length:Int))),(12,(vI (k_4:Int)))]:List (Nat×V))) (fun _=>([(n_3,some (.cells 9 [(vS a_2.Id),(vS a_2.Sender),(vI a_2.Kind),(vL eS a_2.Refs),(vI a_2.At),(vI a_2.Until),(vI a_2.Weight),(vL Rect.enc a_2.Areas),(vS a_2.Text)])),(n_14,some (.cells 9 [(vS x_6.Id),(vS x_6.Sender),(vI x_6.Kind),(vL eS x_6.Refs),(vI x_6.At),(vI x_6.Until),(vI x_6.Weight),(vL Rect.enc x_6.Areas),(vS x_6.Text)]))]:Hp)) (fun _=>True) ?_ ?_
    ·rcases ak h_23 with⟨hc_24,h_23⟩ | ⟨hc_24,h_23⟩
     ·refine aB rfl hc_24 (aa (ae (vI s_9) wz rfl (aG dZ rfl 4 rfl wz (aF 0 1 il ft sz3 ag3 rfl rfl (vI x_6.At) rfl wz (DY (vI (zl s_9 x_6.At)) rfl (.inl rfl) wz (ae (vI (zl s_9 x_6.At)) wz rfl (ai ?_)))))))
      obtain rfl:=ah h_23
      exact cu
     ·refine ax rfl hc_24 (av ?_)
      obtain rfl:=ah h_23
      exact cu
    ·rintro ⟨⟩ _ sl_ H_ hp_ hq_
     refine aL _ hp_ hq_ (aa (gQ (bJ hD_7 hn_8) wz rfl (ae (vI ((k_4 + 1:Nat):Int)) wz rfl (ai ?_))))
     obtain rfl:=ah hc_10
     exact aY (k_4 + 1,l_5,v_22) ⟨hL_11,aR hD_7⟩ (Nat.lt_succ_self _) rfl (aJ rfl)
 ·rintro s_9 ho_ sl_ H_ hp_ hq_
  subst ho_
  refine aL _ hp_ hq_ (af (aa (ae (vI s_9) wz rfl (ae (vI s_9) wz rfl (ai ?_)))))
  obtain rfl:=ah hF
  exact ay (aO (.inr rfl) [(vI s_9)] ⟨rfl,trivial⟩ rfl rfl rfl)
theorem AJ {l_1:(List Alert)} {a_2:Alert} {atv_3:Int} {r:Bool} (hF:oZ l_1 a_2 atv_3=some r) :
  FnM Tryz.prog 138 [(vL Alert.enc l_1),(.d (.agg (Alert.enc a_2))),(vI atv_3)] [] (vB r) []:=by
 refine FnM.of_wH ⟨Tryz.prog,23,[],[]⟩ rfl Tryz.func138 rfl rfl (Nat.le_of_ble_eq_true rfl) (by kernel_rfl) ?_
 unfold oZ at hF
 refine af (aa (eD 0 (.inl rfl) [(vS a_2.Id),(vS a_2.Sender),(vI a_2.Kind),(vL eS a_2.Refs),(vI a_2.At),(vI a_2.Until),(vI a_2.Weight),(vL Rect.enc a_2.Areas),(vS a_2.Text)] rfl rfl wz (fun n_4=>ae (vB false) wz rfl (ai (af ?_)))))
 obtain ⟨v_5,h_6,hF⟩:=bind_some hF
 refine aC (β:=Unit) (fun _=>([(6,(vB v_5))]:List (Nat×V))) (fun _=>([(n_4,some (.cells 9 [(vS a_2.Id),(vS a_2.Sender),(vI a_2.Kind),(vL eS a_2.Refs),(vI a_2.At),(vI a_2.Until),(vI a_2.Weight),(vL Rect.enc a_2.Areas),(vS a_2.Text)]))]:Hp)) (fun _=>True) ?_ ?_
 ·refine aa (aG lL rfl 2 rfl wz (aF 0 0 il ft sz3 ag3 rfl rfl (vI a_2.Kind) rfl wz (ae (vB (a_2.Kind != 3)) wz rfl ?_)))
  rcases ak h_6 with⟨hc_7,h_6⟩ | ⟨hc_7,h_6⟩
  ·refine aD rfl hc_7 wz (aG dZ rfl 4 rfl wa (aF 0 0 il ft sz3 ag3 rfl rfl (vI a_2.At) rfl wa (ae (vI atv_3) wa rfl (ae (vB (decide (a_2.At≤atv_3))) wa rfl (ae (vB (decide (a_2.At≤atv_3))) wz rfl ?_)))))
   rcases ak h_6 with⟨hc_8,h_6⟩ | ⟨hc_8,h_6⟩
   ·refine aD rfl hc_8 wz (ae (vI atv_3) wa rfl (ae (vL Alert.enc l_1) wa rfl (aF 0 0 il ft bB dS rfl rfl (.d (.agg (Alert.enc a_2))) rfl wa ?_)))
    obtain ⟨r_9,hr_10,h_6⟩:=bind_some h_6
    refine aH (Df hr_10) rfl hb133 rfl rfl rfl rfl wa (ae (vB (decide (atv_3 < r_9))) wa rfl (ae (vB (decide (atv_3 < r_9))) wz rfl (ae (vB (decide (atv_3 < r_9))) wz rfl (ai ?_))))
    obtain rfl:=ah h_6
    exact cu
   ·refine aD rfl hc_8 wz (aj wa (aj wa (aj wa (aj wa (aj wa (ae (vB false) wz rfl (ae (vB false) wz rfl (ai ?_))))))))
    obtain rfl:=ah h_6
    exact cu
  ·refine aD rfl hc_7 wz (aj wa (aj wa (aj wa (aj wa (ae (vB false) wz rfl (ae (vB false) wz rfl (aj wa (aj wa (aj wa (aj wa (aj wa (ae (vB false) wz rfl (ae (vB false) wz rfl (ai ?_))))))))))))))
   obtain rfl:=ah h_6
   exact cu
 ·rintro ⟨⟩ _ sl_ H_ hp_ hq_
  refine aL _ hp_ hq_ ?_
  obtain rfl:=ah hF
  exact ay (aO (.inr rfl) [(vB v_5)] ⟨rfl,trivial⟩ rfl rfl rfl)
theorem Gx {r_1:Rect} {x_2:Int} {y_3:Int} {r:Bool} (hF:wM r_1 x_2 y_3=some r) :
  FnM Tryz.prog 262 [(.d (.agg (Rect.enc r_1))),(vI x_2),(vI y_3)] [] (vB r) []:=by
 refine FnM.of_wH ⟨Tryz.prog,29,[],[]⟩ rfl Tryz.func262 rfl rfl (Nat.le_of_ble_eq_true rfl) (by kernel_rfl) ?_
 unfold wM at hF
 refine af (aa (eD 0 (.inl rfl) [(vI r_1.X),(vI r_1.Y),(vI r_1.W),(vI r_1.H)] rfl rfl wz (fun n_4=>ae (vB false) wz rfl (ai (af ?_)))))
 obtain ⟨v_5,h_6,hF⟩:=bind_some hF
 refine aC (β:=Unit) (fun _=>([(6,(vB v_5))]:List (Nat×V))) (fun _=>([(n_4,some (.cells 4 [(vI r_1.X),(vI r_1.Y),(vI r_1.W),(vI r_1.H)]))]:Hp)) (fun _=>True) ?_ ?_
 ·refine aa (ae (vI x_2) wz rfl (aG qW rfl 0 rfl wz (aF 0 0 il ft sz3 ag3 rfl rfl (vI r_1.X) rfl wz (aG qW rfl 0 rfl wz (aF 0 0 il ft sz3 ag3 rfl rfl (vI r_1.X) rfl wz (aG Ap rfl 2 rfl wz (aF 0 0 il ft sz3 ag3 rfl rfl (vI r_1.W) rfl wz (ae (vI (w64 (r_1.X + r_1.W))) wz rfl (ae (vI (w64 ((w64 (r_1.X + r_1.W)) - 1))) wz rfl ?_)))))))))
  obtain ⟨r_7,hr_8,h_6⟩:=bind_some h_6
  refine aH (gY hr_8) rfl wB rfl rfl rfl rfl wz ?_
  rcases ak h_6 with⟨hc_9,h_6⟩ | ⟨hc_9,h_6⟩
  ·refine aD rfl hc_9 wz (ae (vI y_3) wa rfl (aG rE rfl 1 rfl wa (aF 0 0 il ft sz3 ag3 rfl rfl (vI r_1.Y) rfl wa (aG rE rfl 1 rfl wa (aF 0 0 il ft sz3 ag3 rfl rfl (vI r_1.Y) rfl wa (aG xA rfl 3 rfl wa (aF 0 0 il ft sz3 ag3 rfl rfl (vI r_1.H) rfl wa (ae (vI (w64 (r_1.Y + r_1.H))) wa rfl (ae (vI (w64 ((w64 (r_1.Y + r_1.H)) - 1))) wa rfl ?_)))))))))
   obtain ⟨r_10,hr_11,h_6⟩:=bind_some h_6
   refine aH (gY hr_11) rfl wB rfl rfl rfl rfl wa (ae (vB r_10) wz rfl (ae (vB r_10) wz rfl (ai ?_)))
   obtain rfl:=ah h_6
   exact cu
  ·refine aD rfl hc_9 wz (aj wa (aj wa (aj wa (aj wa (aj wa (aj wa (aj wa (aj wa (aj wa (aj wa (ae (vB false) wz rfl (ae (vB false) wz rfl (ai ?_)))))))))))))
   obtain rfl:=ah h_6
   exact cu
 ·rintro ⟨⟩ _ sl_ H_ hp_ hq_
  refine aL _ hp_ hq_ ?_
  obtain rfl:=ah hF
  exact ay (aO (.inr rfl) [(vB v_5)] ⟨rfl,trivial⟩ rfl rfl rfl)
theorem A8 {r_1:Rect} {p_2:Int} {p_3:Int} {r:Bool} (hF:oI r_1 p_2 p_3=some r) :
  FnM Tryz.prog 261 [(.d (.agg (Rect.enc r_1))),(.ref (au 0) 0 0),(.ref (au 1) 0 0)] [(.cells 1 [(vI p_2)]),(.cells 1 [(vI p_3)])] (vB r) [some (.cells 1 [(vI p_2)]),some (.cells 1 [(vI p_3)])]:=by
 refine FnM.of_wH ⟨Tryz.prog,9,[],[]⟩ rfl Tryz.func261 rfl rfl (Nat.le_of_ble_eq_true rfl) (by kernel_rfl) ?_
 unfold oI at hF
 refine af (aa (eD 0 (.inl rfl) [(vI r_1.X),(vI r_1.Y),(vI r_1.W),(vI r_1.H)] rfl rfl wz (fun n_4=>ae (vB false) wz rfl (ai (af (aa (aF 0 2 il ft rz AC rfl rfl (.d (.agg (Rect.enc r_1))) rfl wz (aF 0 0 il ft sz3 ag3 rfl rfl (vI p_2) rfl wz (aF 0 1 il ft sz3 ag3 rfl rfl (vI p_3) rfl wz ?_)))))))))
 obtain ⟨r_5,hr_6,hF⟩:=bind_some hF
 refine aH (Gx hr_6) rfl hb262 rfl rfl rfl rfl wz (ae (vB r_5) wz rfl (ai ?_))
 obtain rfl:=ah hF
 exact ay (rX (.inr rfl) [(vB r_5)] _ [0,1] [au 0,au 1] ⟨rfl,trivial⟩ (.cons (gN rfl rfl) (.nil)) (by kernel_rfl) ⟨(by kernel_rfl),⟨(by kernel_rfl),trivial⟩⟩ (by decide) (by kernel_rfl))
theorem Dw {l_1:(List Rect)} {x_2:Int} {y_3:Int} {r:Bool} (hF:wy l_1 x_2 y_3=some r) :
  FnM Tryz.prog 191 [(vL Rect.enc l_1),(vI x_2),(vI y_3)] [] (vB r) []:=by
 refine FnM.of_wH ⟨Tryz.prog,10,[],[]⟩ rfl Tryz.func191 rfl rfl (Nat.le_of_ble_eq_true rfl) (by kernel_rfl) ?_
 unfold wy at hF
 refine af (aa (eD 0 (.inl rfl) [(vI x_2)] rfl rfl wz (fun n_4=>eD 0 (.inl rfl) [(vI y_3)] rfl rfl wz (fun n_5=>ae (vB false) wz rfl (ai (af (aa (ae (vL Rect.enc l_1) wz rfl (ae (.fn 261 [(.ref n_4 0 0),(.ref n_5 0 0)]) wz rfl ?_)))))))))
 obtain ⟨r_6,hr_7,hF⟩:=bind_some hF
 refine aM 0 [0,1] il ft (gy (gid:=261) (caps := [.ref (au 0) 0 0,.ref (au 1) 0 0]) (Sin := [(.cells 1 [(vI x_2)]),(.cells 1 [(vI y_3)])]) (fun _ _ h_=>A8 h_) hb261 ⟨rfl,rfl⟩ (by kernel_rfl) (Ce (by kernel_rfl)) (yO (by kernel_rfl)) hr_7) rfl hb182 rfl (by kernel_rfl) (by kernel_rfl) (by kernel_rfl) (by kernel_rfl) (by kernel_rfl) (by kernel_rfl) (by kernel_rfl) (by decide) (by kernel_rfl) wz (vB r_6) (by kernel_rfl) ([(n_4,some (.cells 1 [(vI x_2)])),(n_5,some (.cells 1 [(vI y_3)]))]:Hp) (by kernel_rfl) (ae (vB r_6) wz rfl (ai ?_))
 obtain rfl:=ah hF
 exact ay (aO (.inr rfl) [(vB r_6)] ⟨rfl,trivial⟩ rfl rfl rfl)
theorem xH {a_1:Alert} {p_2:Post} {r:Bool} (hF:lI a_1 p_2=some r) :
  FnM Tryz.prog 135 [(.d (.agg (Alert.enc a_1))),(.d (.agg (Post.enc p_2)))] [] (vB r) []:=by
 refine FnM.of_wH ⟨Tryz.prog,12,[],[]⟩ rfl Tryz.func135 rfl rfl (Nat.le_of_ble_eq_true rfl) (by kernel_rfl) ?_
 unfold lI at hF
 refine af (aa (eD 0 (.inl rfl) [(vS a_1.Id),(vS a_1.Sender),(vI a_1.Kind),(vL eS a_1.Refs),(vI a_1.At),(vI a_1.Until),(vI a_1.Weight),(vL Rect.enc a_1.Areas),(vS a_1.Text)] rfl rfl wz (fun n_3=>eD 0 (.inl rfl) [(vS p_2.Player),(vI p_2.X),(vI p_2.Y)] rfl rfl wz (fun n_4=>ae (vB false) wz rfl (ai (af (aa (aG mg rfl 7 rfl wz (aF 0 0 il ft zh Ct rfl rfl (vL Rect.enc a_1.Areas) rfl wz (aG xG rfl 1 rfl wz (aF 0 1 il ft sz3 ag3 rfl rfl (vI p_2.X) rfl wz (aG zn rfl 2 rfl wz (aF 0 1 il ft sz3 ag3 rfl rfl (vI p_2.Y) rfl wz ?_)))))))))))))
 obtain ⟨r_5,hr_6,hF⟩:=bind_some hF
 refine aH (Dw hr_6) rfl hb191 rfl rfl rfl rfl wz (ae (vB r_5) wz rfl (ai ?_))
 obtain rfl:=ah hF
 exact ay (aO (.inr rfl) [(vB r_5)] ⟨rfl,trivial⟩ rfl rfl rfl)
theorem pF {s1_1:(List Int)} {s2_2:(List Int)} {r:Int} (hF:fI s1_1 s2_2=some r) :
  FnM Tryz.prog 226 [(vL eI s1_1),(vL eI s2_2)] [] (vI r) []:=by
 refine FnM.of_wH ⟨Tryz.prog,36,[],[]⟩ rfl Tryz.func226 rfl rfl (Nat.le_of_ble_eq_true rfl) (by kernel_rfl) ?_
 unfold fI at hF
 refine af (aa (ae (vI 0) wz rfl (ai (af (af (aa (ae (vL eI s1_1) wz rfl (bZ rZ rfl wz (ae (vI 0) wz rfl (ai ?_))))))))))
 obtain ⟨o_11,hj_12,hF⟩:=bind_some hF
 obtain ⟨hn_7,hj_12⟩:=aZ hj_12
 refine aC (β:=(Unit)) (fun (s_8:Unit)=>([(0,(vL eI s1_1)),(1,(vL eI s2_2))]:List (Nat×V))) (fun (s_8:Unit)=>([]:Hp)) (fun p=>o_11 = .go p) ?_ ?_
 ·refine aA (aV (β:=Nat×(List Int)×(Unit)) (fun p=>(fun (k_3:Nat) (l_4:List Int) (s_8:Unit)=>([(0,(vL eI s1_1)),(1,(vL eI s2_2)),(9,(vL eI s1_1)),(10,(vI (s1_1.length:Int))),(11,(vI (k_3:Int)))]:List (Nat×V))) p.1 p.2.1 p.2.2) (fun p=>(fun (k_3:Nat) (l_4:List Int) (s_8:Unit)=>([]:Hp)) p.1 p.2.1 p.2.2) (fun p=>forR (fun k x s=>bT s2_2 k x s) p.2.1 p.1 p.2.2=some o_11∧(s1_1).drop p.1=p.2.1) (fun p=>p.2.1.length) (0,s1_1,()) ⟨hj_12,rfl⟩ rfl (aJ rfl) ?_)
  rintro ⟨k_3,l_4,s_8⟩ ⟨hL_10,hD_6⟩
  dsimp only at hL_10 hD_6
  cases l_4 with
  | nil =>
   obtain rfl:=ah hL_10
   refine af (aa (ae (vB (decide ((k_3:Int) < (s1_1.length:Int)))) wz rfl (ai ?_)))
   refine af (ax rfl (drop_nil hD_6) (aX ?_))
   exact aU (s_8) rfl rfl (aJ rfl)
  | cons x_5 l_4 =>
   obtain ⟨c_,hc_9,hL_10⟩:=bind_some hL_10
   refine af (aa (ae (vB (decide ((k_3:Int) < (s1_1.length:Int)))) wz rfl (ai ?_)))
   refine af (aB rfl (bv hD_6) (av ?_))
   unfold bT at hc_9
   refine af (aA (af (aa (ae (vI (k_3:Int)) wz rfl (gL iW rfl rfl (bN hD_6) rfl wz (dn sz3 ag3 rfl (vI x_5) rfl wz (ae (vI (k_3:Int)) wz rfl (ae (vI x_5) wz rfl (ai (af (af (aa (ae (vI (k_3:Int)) wz rfl (ae (vL eI s2_2) wz rfl (bZ rZ rfl wz (ae (vB (decide ((k_3:Int)≥(s2_2.length:Int)))) wz rfl (ai ?_)))))))))))))))))
   rcases ak hc_9 with⟨hc_13,hc_9⟩ | ⟨hc_13,hc_9⟩
   ·refine aB rfl hc_13 (af (aa (ae (vI 1) wz rfl (ai ?_))))
    obtain rfl:=ah hc_9
    obtain rfl:=ah hL_10
    obtain rfl:=ah hF
    exact ay (aO (.inr rfl) [(vI 1)] ⟨rfl,trivial⟩ rfl rfl rfl)
   ·refine ax rfl hc_13 (av (af (aa (ae (vL eI s2_2) wz rfl (ae (vI (k_3:Int)) wz rfl ?_)))))
    obtain ⟨y_14,hy_15,hc_9⟩:=bind_some hc_9
    refine gL iW rfl rfl hy_15 rfl wz (dn sz3 ag3 rfl (vI y_14) rfl wz (ae (vI y_14) wz rfl (ai (af (aa (ae (vI x_5) wz rfl (ae (vI y_14) wz rfl ?_)))))))
    obtain ⟨r_16,hr_17,hc_9⟩:=bind_some hc_9
    refine aH (jF hr_17) rfl H7 rfl rfl rfl rfl wz (ae (vI r_16) wz rfl (ai (af (aa (ae (vI r_16) wz rfl (ae (vB (r_16 != 0)) wz rfl (ai ?_)))))))
    rcases ak hc_9 with⟨hc_18,hc_9⟩ | ⟨hc_18,hc_9⟩
    ·refine aB rfl hc_18 (af (aa (ae (vI r_16) wz rfl (ae (vI r_16) wz rfl (ai ?_)))))
     obtain rfl:=ah hc_9
     obtain rfl:=ah hL_10
     obtain rfl:=ah hF
     exact ay (aO (.inr rfl) [(vI r_16)] ⟨rfl,trivial⟩ rfl rfl rfl)
    ·refine ax rfl hc_18 (av (aa (gQ (bJ hD_6 hn_7) wz rfl (ae (vI ((k_3 + 1:Nat):Int)) wz rfl (ai ?_)))))
     obtain rfl:=ah hc_9
     exact aY (k_3 + 1,l_4,()) ⟨hL_10,aR hD_6⟩ (Nat.lt_succ_self _) rfl (aJ rfl)
 ·rintro s_8 ho_ sl_ H_ hp_ hq_
  subst ho_
  refine aL _ hp_ hq_ (af (af (aa (ae (vL eI s1_1) wz rfl (bZ rZ rfl wz (ae (vL eI s2_2) wz rfl (bZ rZ rfl wz (ae (vB (decide ((s1_1.length:Int) < (s2_2.length:Int)))) wz rfl (ai ?_)))))))))
  rcases ak hF with⟨hc_19,hF⟩ | ⟨hc_19,hF⟩
  ·refine aB rfl hc_19 (af (aa (ae (vI (-1)) wz rfl (ai ?_))))
   obtain rfl:=ah hF
   exact ay (aO (.inr rfl) [(vI (-1))] ⟨rfl,trivial⟩ rfl rfl rfl)
  ·refine ax rfl hc_19 (av (af (aa (ae (vI 0) wz rfl (ai ?_)))))
   obtain rfl:=ah hF
   exact ay (aO (.inr rfl) [(vI 0)] ⟨rfl,trivial⟩ rfl rfl rfl)
theorem wK {a_1:Alert} {b_2:Alert} {r:Int} (hF:ji a_1 b_2=some r) :
  FnM Tryz.prog 225 [(.d (.agg (Alert.enc a_1))),(.d (.agg (Alert.enc b_2)))] [] (vI r) []:=by
 refine FnM.of_wH ⟨Tryz.prog,25,[],[]⟩ rfl Tryz.func225 rfl rfl (Nat.le_of_ble_eq_true rfl) (by kernel_rfl) ?_
 unfold ji at hF
 refine af (aa (eD 0 (.inl rfl) [(vS a_1.Id),(vS a_1.Sender),(vI a_1.Kind),(vL eS a_1.Refs),(vI a_1.At),(vI a_1.Until),(vI a_1.Weight),(vL Rect.enc a_1.Areas),(vS a_1.Text)] rfl rfl wz (fun n_3=>eD 0 (.inl rfl) [(vS b_2.Id),(vS b_2.Sender),(vI b_2.Kind),(vL eS b_2.Refs),(vI b_2.At),(vI b_2.Until),(vI b_2.Weight),(vL Rect.enc b_2.Areas),(vS b_2.Text)] rfl rfl wz (fun n_4=>ae (vI 0) wz rfl (ai (af (af (aa (aG rC rfl 6 rfl wz (aF 0 1 il ft sz3 ag3 rfl rfl (vI b_2.Weight) rfl wz (aG dZ rfl 4 rfl wz (aF 0 1 il ft sz3 ag3 rfl rfl (vI b_2.At) rfl wz (dY (([b_2.Weight,b_2.At]:List Int).map eI) iW si rfl rfl rfl rfl rfl wz (aG rC rfl 6 rfl wz (aF 0 0 il ft sz3 ag3 rfl rfl (vI a_1.Weight) rfl wz (aG dZ rfl 4 rfl wz (aF 0 0 il ft sz3 ag3 rfl rfl (vI a_1.At) rfl wz (dY (([a_1.Weight,a_1.At]:List Int).map eI) iW si rfl rfl rfl rfl rfl wz ?_))))))))))))))))))
 obtain ⟨r_5,hr_6,hF⟩:=bind_some hF
 refine aH (pF hr_6) rfl hb226 rfl rfl rfl rfl wz (ae (vI r_5) wz rfl (ai (af (aa (ae (vI r_5) wz rfl (ae (vB (r_5 != 0)) wz rfl (ai ?_)))))))
 rcases ak hF with⟨hc_7,hF⟩ | ⟨hc_7,hF⟩
 ·refine aB rfl hc_7 (af (aa (ae (vI r_5) wz rfl (ae (vI r_5) wz rfl (ai ?_)))))
  obtain rfl:=ah hF
  exact ay (aO (.inr rfl) [(vI r_5)] ⟨rfl,trivial⟩ rfl rfl rfl)
 ·refine ax rfl hc_7 (av (af (aa (aG eT rfl 0 rfl wz (aF 0 0 il ft sz9 ag9 rfl rfl (vS a_1.Id) rfl wz (aG eT rfl 0 rfl wz (aF 0 1 il ft sz9 ag9 rfl rfl (vS b_2.Id) rfl wz ?_)))))))
  obtain ⟨r_8,hr_9,hF⟩:=bind_some hF
  refine aH (jG hr_9) rfl G7 rfl rfl rfl rfl wz (ae (vI r_8) wz rfl (ai ?_))
  obtain rfl:=ah hF
  exact ay (aO (.inr rfl) [(vI r_8)] ⟨rfl,trivial⟩ rfl rfl rfl)
theorem jw {data_1:(List Alert)} {a_2:Int} {b_3:Int} {r:(List Alert)} (hF:dP data_1 a_2 b_3=some r) :
  FnM Tryz.prog 231 [(dV (au 0) 9 data_1),(vI a_2),(vI b_3),(.fn 225 [])] (([]:List Box)++gI 9 Alert.enc data_1) (.tup []) (([]:List Box).map some++gT data_1 (gB 9 Alert.enc r)):=by
 refine FnM.of_wHv ⟨Tryz.prog,53,[],[]⟩ rfl Tryz.func231 rfl rfl (Nat.le_of_ble_eq_true rfl) (by kernel_rfl) ?_
 unfold dP at hF
 refine af (aa (ae (vI a_2) wz rfl (ae (vI (w64 (a_2 + 1))) wz rfl (ae (vI (w64 (a_2 + 1))) wz rfl (ai ?_)))))
 obtain ⟨o_13,hj_14,hF⟩:=bind_some hF
 obtain ⟨nq_51,hj_14⟩:=eu hj_14
 refine aC (β:=((List Alert)×Int)) (fun (s_10:(List Alert)×Int)=>([]:List (Nat×V))) (fun (s_10:(List Alert)×Int)=>([((au 0),gB 9 Alert.enc s_10.1)]:Hp)) (fun p=>o_13 = .go p) ?_ ?_
 ·refine aA (aV (β:=Nat×((List Alert)×Int)) (fun p=>(fun (k_5:Nat) (s_10:(List Alert)×Int)=>([(0,(dV (au 0) 9 s_10.1)),(1,(vI a_2)),(2,(vI b_3)),(3,(.fn 225 [])),(8,(vI s_10.2))]:List (Nat×V))) p.1 p.2) (fun p=>(fun (k_5:Nat) (s_10:(List Alert)×Int)=>([((au 0),gB 9 Alert.enc s_10.1)]:Hp)) p.1 p.2) (fun p=>iterN (fun s=>dz b_3 a_2 s) p.1 p.2=some o_13) (fun p=>p.1) (nq_51,(data_1,(w64 (a_2 + 1)))) hj_14 rfl (aJ rfl) ?_)
  rintro ⟨k_5,s_10⟩ hL_12
  dsimp only at hL_12
  cases k_5 with
  | zero=>cases hL_12
  | succ k_5 =>
   obtain ⟨c_,hc_11,hL_12⟩:=bind_some hL_12
   unfold dz at hc_11
   refine af (af (aa (ae (vI s_10.2) wz rfl (ae (vI b_3) wz rfl (ae (vB (decide (s_10.2 < b_3))) wz rfl (ai ?_))))))
   rcases ak hc_11 with⟨hc_15,hc_11⟩ | ⟨hc_15,hc_11⟩
   ·refine aB rfl hc_15 (av (af (aA (af (aa (ae (vI s_10.2) wz rfl (ae (vI s_10.2) wz rfl (ai ?_))))))))
    obtain ⟨o_24,hj_25,hc_11⟩:=bind_some hc_11
    obtain ⟨nq_50,hj_25⟩:=eu hj_25
    refine aC (β:=((List Alert)×Int)) (fun (s_21:(List Alert)×Int)=>([(0,(dV (au 0) 9 s_21.1)),(1,(vI a_2)),(2,(vI b_3)),(3,(.fn 225 [])),(8,(vI s_10.2))]:List (Nat×V))) (fun (s_21:(List Alert)×Int)=>([((au 0),gB 9 Alert.enc s_21.1)]:Hp)) (fun p=>o_24 = .go p) ?_ ?_
    ·refine aA (aV (β:=Nat×((List Alert)×Int)) (fun p=>(fun (k_16:Nat) (s_21:(List Alert)×Int)=>([(0,(dV (au 0) 9 s_21.1)),(1,(vI a_2)),(2,(vI b_3)),(3,(.fn 225 [])),(8,(vI s_10.2)),(9,(vI s_21.2))]:List (Nat×V))) p.1 p.2) (fun p=>(fun (k_16:Nat) (s_21:(List Alert)×Int)=>([((au 0),gB 9 Alert.enc s_21.1)]:Hp)) p.1 p.2) (fun p=>iterN (fun s=>dA a_2 s) p.1 p.2=some o_24) (fun p=>p.1) (nq_50,(s_10.1,s_10.2)) hj_25 rfl (aJ rfl) ?_)
     rintro ⟨k_16,s_21⟩ hL_23
     dsimp only at hL_23
     cases k_16 with
     | zero=>cases hL_23
     | succ k_16 =>
      obtain ⟨c_,hc_22,hL_23⟩:=bind_some hL_23
      unfold dA at hc_22
      refine af (af ?_)
      obtain ⟨v_26,h_27,hc_22⟩:=bind_some hc_22
      refine aC (β:=Unit) (fun _=>([(0,(dV (au 0) 9 s_21.1)),(1,(vI a_2)),(2,(vI b_3)),(3,(.fn 225 [])),(8,(vI s_10.2)),(9,(vI s_21.2)),(34,(vB v_26))]:List (Nat×V))) (fun _=>([((au 0),gB 9 Alert.enc s_21.1)]:Hp)) (fun _=>True) ?_ ?_
      ·refine cK (ae (vI s_21.2) wz rfl (ae (vI a_2) wz rfl (ae (vB (decide (s_21.2 > a_2))) wz rfl ?_)))
       rcases ak h_27 with⟨hc_28,h_27⟩ | ⟨hc_28,h_27⟩
       ·refine aD rfl hc_28 wz (ae (.fn 225 []) wa rfl (ae (dV (au 0) 9 s_21.1) wa rfl (ae (vI s_21.2) wa rfl ?_)))
        obtain ⟨_,hi_29,h_27⟩:=bind_some h_27
        refine jm jD rfl rfl (iP hi_29) (fO hi_29) wa ?_
        obtain ⟨e_30,hy_31,h_27⟩:=bind_some h_27
        refine jh 8 0 (.inr (by kernel_rfl)) (fun _ _ ag=>trivial) bB dS rfl rfl hy_31 (.d (.agg (Alert.enc e_30))) rfl wa (ae (dV (au 0) 9 s_21.1) wa rfl (ae (vI s_21.2) wa rfl (ae (vI (w64 (s_21.2 - 1))) wa rfl ?_)))
        obtain ⟨_,hi_32,h_27⟩:=bind_some h_27
        refine jm jD rfl rfl (iP hi_32) (fO hi_32) wa ?_
        obtain ⟨e_33,hy_34,h_27⟩:=bind_some h_27
        refine jh 13 0 (.inr (by kernel_rfl)) (fun _ _ ag=>⟨.inl ⟨rfl,rfl⟩,trivial⟩) bB dS rfl rfl hy_34 (.d (.agg (Alert.enc e_33))) rfl wa ?_
        obtain ⟨r_35,hr_36,h_27⟩:=bind_some h_27
        refine aH (wK hr_36) rfl hb225 rfl rfl rfl rfl wa (ae (vB (decide (r_35 < 0))) wa rfl (ae (vB (decide (r_35 < 0))) wz rfl (ai ?_)))
        obtain rfl:=ah h_27
        exact cu
       ·refine aD rfl hc_28 wz (aj wa (aj wa (aj wa (aj wa (aj wa (aj wa (aj wa (aj wa (aj wa (aj wa (aj wa (aj wa (ae (vB false) wz rfl (ai ?_))))))))))))))
        obtain rfl:=ah h_27
        exact cu
      ·rintro ⟨⟩ _ sl_ H_ hp_ hq_
       refine aL _ hp_ hq_ ?_
       rcases ak hc_22 with⟨hc_37,hc_22⟩ | ⟨hc_37,hc_22⟩
       ·refine aB rfl hc_37 (av (af (aA (cK (ae (dV (au 0) 9 s_21.1) wz rfl (ae (vI s_21.2) wz rfl (ae (dV (au 0) 9 s_21.1) wz rfl (ae (vI s_21.2) wz rfl (ae (vI (w64 (s_21.2 - 1))) wz rfl (ae (dV (au 0) 9 s_21.1) wz rfl (ae (vI s_21.2) wz rfl (ae (vI (w64 (s_21.2 - 1))) wz rfl ?_))))))))))))
        obtain ⟨_,hi_38,hc_22⟩:=bind_some hc_22
        refine jm jD rfl rfl (iP hi_38) (fO hi_38) wz ?_
        obtain ⟨e_39,hy_40,hc_22⟩:=bind_some hc_22
        refine jh 9 0 (.inr (by kernel_rfl)) (fun _ _ ag=>trivial) bB dS rfl rfl hy_40 (.d (.agg (Alert.enc e_39))) rfl wz (ae (dV (au 0) 9 s_21.1) wz rfl (ae (vI s_21.2) wz rfl ?_))
        obtain ⟨_,hi_41,hc_22⟩:=bind_some hc_22
        refine jm jD rfl rfl (iP hi_41) (fO hi_41) wz ?_
        obtain ⟨e_42,hy_43,hc_22⟩:=bind_some hc_22
        refine jh 13 0 (.inr (by kernel_rfl)) (fun _ _ ag=>⟨.inl ⟨rfl,rfl⟩,trivial⟩) bB dS rfl rfl hy_43 (.d (.agg (Alert.enc e_42))) rfl wz ?_
        obtain ⟨_,hi_44,hc_22⟩:=bind_some hc_22
        refine jm jD rfl rfl (iP hi_44) (fO hi_44) wz ?_
        obtain ⟨e_45,hy_46,hc_22⟩:=bind_some hc_22
        refine jl 15 (.inr (by kernel_rfl)) (fun _ _ ag=>⟨.inr (.inr (by kernel_rfl)),⟨.inr (.inr (by kernel_rfl)),trivial⟩⟩) 0 bB rfl rfl hy_46 e_39 rfl wz (bC (v':=(dV (au 0) 9 (s_21.1.set (0 + (s_21.2).toNat) e_39))) 0 rfl (bU (by simp)) (bC (v':=(dV (au 0) 9 (s_21.1.set (0 + (s_21.2).toNat) e_39))) 37 rfl (bU (by simp)) (bC (v':=(dV (au 0) 9 (s_21.1.set (0 + (s_21.2).toNat) e_39))) 39 rfl (bU (by simp)) (bC (v':=(dV (au 0) 9 (s_21.1.set (0 + (s_21.2).toNat) e_39))) 42 rfl (bU (by simp)) (bC (v':=(dV (au 0) 9 (s_21.1.set (0 + (s_21.2).toNat) e_39))) 47 rfl (bU (by simp)) ?_)))))
        obtain ⟨_,hi_47,hc_22⟩:=bind_some hc_22
        refine jm jD rfl rfl (iP hi_47) (fO hi_47) wz ?_
        obtain ⟨e_48,hy_49,hc_22⟩:=bind_some hc_22
        refine jl 17 (.inr (by kernel_rfl)) (fun _ _ ag=>⟨.inr (.inr (by kernel_rfl)),⟨.inr (.inr (by kernel_rfl)),⟨.inr (.inr (by kernel_rfl)),trivial⟩⟩⟩) 0 bB rfl rfl hy_49 e_42 rfl wz (bC (v':=(dV (au 0) 9 ((s_21.1.set (0 + (s_21.2).toNat) e_39).set (0 + ((w64 (s_21.2 - 1))).toNat) e_42))) 0 rfl (bU (by simp)) (bC (v':=(dV (au 0) 9 ((s_21.1.set (0 + (s_21.2).toNat) e_39).set (0 + ((w64 (s_21.2 - 1))).toNat) e_42))) 37 rfl (bU (by simp)) (bC (v':=(dV (au 0) 9 ((s_21.1.set (0 + (s_21.2).toNat) e_39).set (0 + ((w64 (s_21.2 - 1))).toNat) e_42))) 39 rfl (bU (by simp)) (bC (v':=(dV (au 0) 9 ((s_21.1.set (0 + (s_21.2).toNat) e_39).set (0 + ((w64 (s_21.2 - 1))).toNat) e_42))) 42 rfl (bU (by simp)) (bC (v':=(dV (au 0) 9 ((s_21.1.set (0 + (s_21.2).toNat) e_39).set (0 + ((w64 (s_21.2 - 1))).toNat) e_42))) 47 rfl (bU (by simp)) (ai (aa (ae (vI s_21.2) wz rfl (ae (vI (w64 (s_21.2 - 1))) wz rfl (ae (vI (w64 (s_21.2 - 1))) wz rfl (ai ?_)))))))))))
        obtain rfl:=ah hc_22
        exact aY (k_16,(((s_21.1.set (0 + (s_21.2).toNat) e_39).set (0 + ((w64 (s_21.2 - 1))).toNat) e_42),(w64 (s_21.2 - 1)))) hL_23 (Nat.lt_succ_self _) rfl (aJ rfl)
       ·refine ax rfl hc_37 (aX ?_)
        obtain rfl:=ah hc_22
        obtain rfl:=ah hL_23
        exact aU ((s_21.1,s_21.2)) rfl rfl (aJ rfl)
    ·rintro s_21 ho_ sl_ H_ hp_ hq_
     subst ho_
     refine aL _ hp_ hq_ (aa (ae (vI s_10.2) wz rfl (ae (vI (w64 (s_10.2 + 1))) wz rfl (ae (vI (w64 (s_10.2 + 1))) wz rfl (ai ?_)))))
     obtain rfl:=ah hc_11
     exact aY (k_5,(s_21.1,(w64 (s_10.2 + 1)))) hL_12 (Nat.lt_succ_self _) rfl (aJ rfl)
   ·refine ax rfl hc_15 (aX ?_)
    obtain rfl:=ah hc_11
    obtain rfl:=ah hL_12
    exact aU ((s_10.1,s_10.2)) rfl rfl (aJ rfl)
 ·rintro s_10 ho_ sl_ H_ hp_ hq_
  subst ho_
  show qX _ _ _ _ _ _ _ _
  obtain rfl:=ah hF
  exact uo (H0:=([((au 0),gB 9 Alert.enc s_10.1)]:Hp)) (sl':=envS []) hq_ (vZ (bs:=([]:List Box)) (os:=([]:List Box)) (xs:=data_1) (o:=gB 9 Alert.enc s_10.1) (.inl rfl) [] trivial rfl rfl rfl rfl rfl (by kernel_rfl) kF rfl)
theorem kY {data_1:(List Alert)} {a_2:Int} {b_3:Int} {limit_4:Int} {r:(List Alert)} (hF:fB data_1 a_2 b_3 limit_4=some r) :
  FnM Tryz.prog 178 [(dV (au 0) 9 data_1),(vI a_2),(vI b_3),(vI limit_4),(.fn 225 [])] (([]:List Box)++gI 9 Alert.enc data_1) (.tup []) (([]:List Box).map some++gT data_1 (gB 9 Alert.enc r)):=by
 refine FnM.of_wHv ⟨Tryz.prog,148,[],[]⟩ rfl Tryz.func178 rfl rfl (Nat.le_of_ble_eq_true rfl) (by kernel_rfl) ?_
 unfold fB at hF
 refine af (aa (ae (vB true) wz rfl (ai (af (aa (ae (vB true) wz rfl (ai ?_)))))))
 obtain ⟨o_14,hj_15,hF⟩:=bind_some hF
 obtain ⟨nq_21,hj_15⟩:=eu hj_15
 refine aC (β:=(Unit)) (fun (s_11:Unit)=>([]:List (Nat×V))) (fun (s_11:Unit)=>([((au 0),gB 9 Alert.enc data_1)]:Hp)) (fun p=>o_14 = .go p) ?_ ?_
 ·refine aA (aV (β:=Nat×(Unit)) (fun p=>(fun (k_6:Nat) (s_11:Unit)=>([(0,(dV (au 0) 9 data_1)),(1,(vI a_2)),(2,(vI b_3)),(3,(vI limit_4)),(4,(.fn 225 [])),(10,(vB true)),(11,(vB true))]:List (Nat×V))) p.1 p.2) (fun p=>(fun (k_6:Nat) (s_11:Unit)=>([((au 0),gB 9 Alert.enc data_1)]:Hp)) p.1 p.2) (fun p=>iterN (fun s=>eP b_3 a_2 data_1 limit_4 s) p.1 p.2=some o_14) (fun p=>p.1) (nq_21,()) hj_15 rfl (aJ rfl) ?_)
  rintro ⟨k_6,s_11⟩ hL_13
  dsimp only at hL_13
  cases k_6 with
  | zero=>cases hL_13
  | succ k_6 =>
   obtain ⟨c_,hc_12,hL_13⟩:=bind_some hL_13
   unfold eP at hc_12
   refine aA (af (aa (ae (vI b_3) wz rfl (ae (vI a_2) wz rfl (ae (vI (w64 (b_3 - a_2))) wz rfl (ae (vI (w64 (b_3 - a_2))) wz rfl (ai (af (af (aa (ae (vI (w64 (b_3 - a_2))) wz rfl (ae (vB (decide ((w64 (b_3 - a_2))≤12))) wz rfl (ai ?_)))))))))))))
   rcases ak hc_12 with⟨hc_16,hc_12⟩ | ⟨hc_16,hc_12⟩
   ·refine aB rfl hc_16 (af (aa (ae (dV (au 0) 9 data_1) wz rfl (ae (vI a_2) wz rfl (ae (vI b_3) wz rfl (ae (.fn 225 []) wz rfl ?_))))))
    obtain ⟨r_17,hr_18,hc_12⟩:=bind_some hc_12
    obtain ⟨_,hs_19,hc_12⟩:=bind_some hc_12
    replace hs_19:=kE hs_19
    refine kX 0 [] 0 0 il ft (jw hr_18) rfl Jl rfl rfl rfl (by kernel_rfl) rfl (.inr (.inl rfl)) rfl (by kernel_rfl) (by kernel_rfl) (by kernel_rfl) (by kernel_rfl) rfl (by decide) (by kernel_rfl) kF (tK hs_19) wz ([((au 0),gB 9 Alert.enc r_17)]:Hp) (by kernel_rfl) (bC (v':=(dV (au 0) 9 r_17)) 0 rfl (bU hs_19.symm) (bC (v':=(dV (au 0) 9 r_17)) 26 rfl (bU hs_19.symm) (ai ?_)))
    obtain rfl:=ah hc_12
    obtain rfl:=ah hL_13
    obtain rfl:=ah hF
    exact ay (vZ (bs:=([]:List Box)) (os:=([]:List Box)) (xs:=data_1) (o:=gB 9 Alert.enc r_17) (.inr rfl) [] trivial rfl rfl rfl rfl rfl (by kernel_rfl) kF rfl)
   ·refine ax rfl hc_16 (av (af (af (aa (ae (vI limit_4) wz rfl (ae (vB (limit_4 == 0)) wz rfl (ai ?_)))))))
    rcases ak hc_12 with⟨hc_20,hc_12⟩ | ⟨hc_20,hc_12⟩
    ·refine aB rfl hc_20 (af (aa (ae (dV (au 0) 9 data_1) wz rfl (ae (vI a_2) wz rfl (ae (vI b_3) wz rfl (ae (.fn 225 []) wz rfl ?_))))))
     cases hc_12
    ·refine ax rfl hc_20 (av (af (af (aa (ae (vB true) wz rfl (ae (vB false) wz rfl (ai (ax rfl rfl (av (af (aa (ae (dV (au 0) 9 data_1) wz rfl (ae (vI a_2) wz rfl (ae (vI b_3) wz rfl (ae (.fn 225 []) wz rfl ?_)))))))))))))))
     cases hc_12
 ·rintro s_11 ho_ sl_ H_ hp_ hq_
  subst ho_
  show qX _ _ _ _ _ _ _ _
  obtain rfl:=ah hF
  exact uo (H0:=([((au 0),gB 9 Alert.enc data_1)]:Hp)) (sl':=envS []) hq_ (vZ (bs:=([]:List Box)) (os:=([]:List Box)) (xs:=data_1) (o:=gB 9 Alert.enc data_1) (.inl rfl) [] trivial rfl rfl rfl rfl rfl (by kernel_rfl) kF rfl)
theorem jO {x_1:(List Alert)} {r:(List Alert)} (hF:bX x_1=some r) :
  FnM Tryz.prog 98 [(dV (au 0) 9 x_1),(.fn 225 [])] (([]:List Box)++gI 9 Alert.enc x_1) (.tup []) (([]:List Box).map some++gT x_1 (gB 9 Alert.enc r)):=by
 refine FnM.of_wHv ⟨Tryz.prog,14,[],[]⟩ rfl Tryz.func98 rfl rfl (Nat.le_of_ble_eq_true rfl) (by kernel_rfl) ?_
 unfold bX at hF
 refine af (aa (ae (dV (au 0) 9 x_1) wz rfl (Ai pG rfl wz (ae (vI (x_1.length:Int)) wz rfl (ai (aa (ae (dV (au 0) 9 x_1) wz rfl (ae (vI (x_1.length:Int)) wz rfl (ae (vI (x_1.length:Int)) wz rfl (zx un3 KJ rfl wz ?_))))))))))
 obtain ⟨r_3,hr_4,hF⟩:=bind_some hF
 refine aH (mQ hr_4) rfl Ky rfl rfl rfl rfl wz (ae (.fn 225 []) wz rfl ?_)
 obtain ⟨r_5,hr_6,hF⟩:=bind_some hF
 obtain ⟨_,hs_7,hF⟩:=bind_some hF
 replace hs_7:=kE hs_7
 refine kX 0 [] 0 0 il ft (kY hr_6) rfl KI rfl rfl rfl (by kernel_rfl) rfl (.inr (.inl rfl)) rfl (by kernel_rfl) (by kernel_rfl) (by kernel_rfl) (by kernel_rfl) rfl (by decide) (by kernel_rfl) kF (tK hs_7) wz ([((au 0),gB 9 Alert.enc r_5)]:Hp) (by kernel_rfl) (bC (v':=(dV (au 0) 9 r_5)) 0 rfl (bU hs_7.symm) (bC (v':=(dV (au 0) 9 r_5)) 5 rfl (bU hs_7.symm) (bC (v':=(dV (au 0) 9 r_5)) 7 rfl (bU hs_7.symm) (ai ?_))))
 show qX _ _ _ _ _ _ _ _
 obtain rfl:=ah hF
 exact vZ (bs:=([]:List Box)) (os:=([]:List Box)) (xs:=x_1) (o:=gB 9 Alert.enc r_5) (.inl rfl) [] trivial rfl rfl rfl rfl rfl (by kernel_rfl) kF rfl
theorem yE {l_1:(List Alert)} {p_2:Post} {atv_3:Int} {r:(List ByteArray)} (hF:mH l_1 p_2 atv_3=some r) :
  FnM Tryz.prog 168 [(vL Alert.enc l_1),(.d (.agg (Post.enc p_2))),(vI atv_3)] [] (vL eS r) []:=by
 refine FnM.of_wH ⟨Tryz.prog,48,[],[]⟩ rfl Tryz.func168 rfl rfl (Nat.le_of_ble_eq_true rfl) (by kernel_rfl) ?_
 unfold mH at hF
 refine af (aa (eD 0 (.inl rfl) [(vS p_2.Player),(vI p_2.X),(vI p_2.Y)] rfl rfl wz (fun n_4=>ae .nil wz rfl (ai (af (aa (ae .nil wz rfl (ai (af (af (aa (ae (vL Alert.enc l_1) wz rfl (bZ pG rfl wz (ae (vI 0) wz rfl (ai (oG (fun n_11 => ?_)))))))))))))))))
 obtain ⟨o_16,hj_17,hF⟩:=bind_some hF
 obtain ⟨hn_9,hj_17⟩:=aZ hj_17
 refine aC (β:=((List Alert))×Nm) (fun p=>(fun (s_10:(List Alert)) (n_13:Nm)=>([(7,(gV n_13 9 s_10))]:List (Nat×V))) p.1 p.2) (fun p=>(fun (s_10:(List Alert)) (n_13:Nm)=>([(n_4,some (.cells 3 [(vS p_2.Player),(vI p_2.X),(vI p_2.Y)])),(n_13,gB 9 Alert.enc s_10)]:Hp)) p.1 p.2) (fun p=>o_16 = .go p.1) ?_ ?_
 ·refine aA (aV (β:=Nat×(List Alert)×((List Alert))×Nm) (fun p=>(fun (k_5:Nat) (l_6:List Alert) (s_10:(List Alert)) (n_13:Nm)=>([(0,(vL Alert.enc l_1)),(2,(vI atv_3)),(4,(.ref n_4 0 0)),(7,(gV n_13 9 s_10)),(13,(vL Alert.enc l_1)),(14,(vI (l_1.length:Int))),(15,(vI (k_5:Int)))]:List (Nat×V))) p.1 p.2.1 p.2.2.1 p.2.2.2) (fun p=>(fun (k_5:Nat) (l_6:List Alert) (s_10:(List Alert)) (n_13:Nm)=>([(n_4,some (.cells 3 [(vS p_2.Player),(vI p_2.X),(vI p_2.Y)])),(n_13,gB 9 Alert.enc s_10)]:Hp)) p.1 p.2.1 p.2.2.1 p.2.2.2) (fun p=>forR (fun k x s=>jP l_1 atv_3 p_2 k x s) p.2.1 p.1 p.2.2.1=some o_16∧(l_1).drop p.1=p.2.1) (fun p=>p.2.1.length) (0,l_1,([]:List Alert),n_11) ⟨hj_17,rfl⟩ rfl (aJ rfl) ?_)
  rintro ⟨k_5,l_6,s_10,n_13⟩ ⟨hL_15,hD_8⟩
  dsimp only at hL_15 hD_8
  cases l_6 with
  | nil =>
   obtain rfl:=ah hL_15
   refine af (aa (ae (vB (decide ((k_5:Int) < (l_1.length:Int)))) wz rfl (ai ?_)))
   refine af (ax rfl (drop_nil hD_8) (aX ?_))
   exact aU (s_10,n_13) rfl rfl (aJ rfl)
  | cons x_7 l_6 =>
   obtain ⟨c_,hc_14,hL_15⟩:=bind_some hL_15
   refine af (aa (ae (vB (decide ((k_5:Int) < (l_1.length:Int)))) wz rfl (ai ?_)))
   refine af (aB rfl (bv hD_8) (av ?_))
   unfold jP at hc_14
   refine af (aA (af (aa (gL jD rfl rfl (bN hD_8) rfl wz (dn bB dS rfl (.d (.agg (Alert.enc x_7))) rfl wz (fH 0 (.inl rfl) sQ rfl wz (fun n_18=>gu 0 il ft 2 bB rfl rfl [(vS x_7.Id),(vS x_7.Sender),(vI x_7.Kind),(vL eS x_7.Refs),(vI x_7.At),(vI x_7.Until),(vI x_7.Weight),(vL Rect.enc x_7.Areas),(vS x_7.Text)] rfl wz (ai (af ?_)))))))))
   obtain ⟨v_19,h_20,hc_14⟩:=bind_some hc_14
   refine aC (β:=Unit) (fun _=>([(0,(vL Alert.enc l_1)),(2,(vI atv_3)),(4,(.ref n_4 0 0)),(7,(gV n_13 9 s_10)),(9,(.ref n_18 0 0)),(13,(vL Alert.enc l_1)),(14,(vI (l_1.length:Int))),(15,(vI (k_5:Int))),(27,(vB v_19))]:List (Nat×V))) (fun _=>([(n_4,some (.cells 3 [(vS p_2.Player),(vI p_2.X),(vI p_2.Y)])),(n_13,gB 9 Alert.enc s_10),(n_18,some (.cells 9 [(vS x_7.Id),(vS x_7.Sender),(vI x_7.Kind),(vL eS x_7.Refs),(vI x_7.At),(vI x_7.Until),(vI x_7.Weight),(vL Rect.enc x_7.Areas),(vS x_7.Text)]))]:Hp)) (fun _=>True) ?_ ?_
   ·refine aa (ae (vL Alert.enc l_1) wz rfl (aF 0 2 il ft bB dS rfl rfl (.d (.agg (Alert.enc x_7))) rfl wz (ae (vI atv_3) wz rfl ?_)))
    obtain ⟨r_21,hr_22,h_20⟩:=bind_some h_20
    refine aH (AJ hr_22) rfl hb138 rfl rfl rfl rfl wz ?_
    rcases ak h_20 with⟨hc_23,h_20⟩ | ⟨hc_23,h_20⟩
    ·refine aD rfl hc_23 wz (aF 0 2 il ft bB dS rfl rfl (.d (.agg (Alert.enc x_7))) rfl wa (aF 0 0 il ft qP vX rfl rfl (.d (.agg (Post.enc p_2))) rfl wa ?_))
     obtain ⟨r_24,hr_25,h_20⟩:=bind_some h_20
     refine aH (xH hr_25) rfl hb135 rfl rfl rfl rfl wa (ae (vB r_24) wz rfl (ai ?_))
     obtain rfl:=ah h_20
     exact cu
    ·refine aD rfl hc_23 wz (aj wa (aj wa (aj wa (ae (vB false) wz rfl (ai ?_)))))
     obtain rfl:=ah h_20
     exact cu
   ·rintro ⟨⟩ _ sl_ H_ hp_ hq_
    refine aL _ hp_ hq_ ?_
    obtain ⟨v_26,h_27,hc_14⟩:=bind_some hc_14
    refine aC (β:=Nm) (fun (n_28:Nm)=>([(0,(vL Alert.enc l_1)),(2,(vI atv_3)),(4,(.ref n_4 0 0)),(7,(gV n_28 9 v_26)),(13,(vL Alert.enc l_1)),(14,(vI (l_1.length:Int))),(15,(vI (k_5:Int)))]:List (Nat×V))) (fun (n_28:Nm)=>([(n_4,some (.cells 3 [(vS p_2.Player),(vI p_2.X),(vI p_2.Y)])),(n_28,gB 9 Alert.enc v_26),(n_18,some (.cells 9 [(vS x_7.Id),(vS x_7.Sender),(vI x_7.Kind),(vL eS x_7.Refs),(vI x_7.At),(vI x_7.Until),(vI x_7.Weight),(vL Rect.enc x_7.Areas),(vS x_7.Text)]))]:Hp)) (fun _=>True) ?_ ?_
    ·rcases ak h_27 with⟨hc_29,h_27⟩ | ⟨hc_29,h_27⟩
     ·refine aB rfl hc_29 (aa (ae (gV n_13 9 s_10) wz rfl (aF 0 2 il ft bB dS rfl rfl (.d (.agg (Alert.enc x_7))) rfl wz (dY (([x_7]:List Alert).map Alert.enc) jD ez56 rfl rfl rfl rfl rfl wz ?_))))
      obtain ⟨a_30,hz_31,h_27⟩:=bind_some h_27
      refine oL 0 il ft (i:=1) Ij Ij bB sQ rfl (by decide) KQ (by decide) (fun _=>rfl) rfl rfl rfl hz_31 wz (fun n_32=>ae (gV n_32 9 a_30) wz rfl (ai ?_))
      obtain rfl:=ah h_27
      exact aU n_32 trivial rfl (aJ rfl)
     ·refine ax rfl hc_29 (av ?_)
      obtain rfl:=ah h_27
      exact aU n_13 trivial rfl (aJ rfl)
    ·rintro n_28 _ sl_ H_ hp_ hq_
     refine aL _ hp_ hq_ (aa (gQ (bJ hD_8 hn_9) wz rfl (ae (vI ((k_5 + 1:Nat):Int)) wz rfl (ai ?_))))
     obtain rfl:=ah hc_14
     exact aY (k_5 + 1,l_6,v_26,n_28) ⟨hL_15,aR hD_8⟩ (Nat.lt_succ_self _) rfl (aJ rfl)
 ·rintro ⟨s_10,n_13⟩ ho_ sl_ H_ hp_ hq_
  subst ho_
  refine aL _ hp_ hq_ (af (aa (ae (gV n_13 9 s_10) wz rfl ?_)))
  obtain ⟨r_33,hr_34,hF⟩:=bind_some hF
  obtain ⟨_,hs_35,hF⟩:=bind_some hF
  replace hs_35:=kE hs_35
  refine kX 0 [] 1 0 il ft (jO hr_34) rfl hb98 rfl rfl rfl (by kernel_rfl) rfl (.inl rfl) rfl (by kernel_rfl) (by kernel_rfl) (by kernel_rfl) (by kernel_rfl) rfl (by decide) (by kernel_rfl) kF (tK hs_35) wz ([(n_4,some (.cells 3 [(vS p_2.Player),(vI p_2.X),(vI p_2.Y)])),(n_13,gB 9 Alert.enc r_33)]:Hp) (by kernel_rfl) (bC (v':=(gV n_13 9 r_33)) 33 rfl (bI hs_35.symm) (bC (v':=(gV n_13 9 r_33)) 7 rfl (bI hs_35.symm) (ai (af (aa (ae .nil wz rfl (ai (af (af (aa (ae (gV n_13 9 r_33) wz rfl (tH pG rfl wz (ae (vI 0) wz rfl (ai (jq 1 rfl (fQ 7 1 rfl rfl (fQ 33 1 rfl rfl (fQ 35 1 rfl rfl (oG (fun n_42 => ?_))))))))))))))))))))
  obtain ⟨o_47,hj_48,hF⟩:=bind_some hF
  obtain ⟨hn_40,hj_48⟩:=aZ hj_48
  refine aC (β:=((List ByteArray))×Nm) (fun p=>(fun (s_41:(List ByteArray)) (n_44:Nm)=>([(10,(gV n_44 1 s_41))]:List (Nat×V))) p.1 p.2) (fun p=>(fun (s_41:(List ByteArray)) (n_44:Nm)=>([(n_4,some (.cells 3 [(vS p_2.Player),(vI p_2.X),(vI p_2.Y)])),(n_13,gF 9 Alert.enc r_33),(n_44,gB 1 eS s_41)]:Hp)) p.1 p.2) (fun p=>o_47 = .go p.1) ?_ ?_
  ·refine aA (aV (β:=Nat×(List Alert)×((List ByteArray))×Nm) (fun p=>(fun (k_36:Nat) (l_37:List Alert) (s_41:(List ByteArray)) (n_44:Nm)=>([(10,(gV n_44 1 s_41)),(35,(vL Alert.enc r_33)),(36,(vI (r_33.length:Int))),(37,(vI (k_36:Int)))]:List (Nat×V))) p.1 p.2.1 p.2.2.1 p.2.2.2) (fun p=>(fun (k_36:Nat) (l_37:List Alert) (s_41:(List ByteArray)) (n_44:Nm)=>([(n_4,some (.cells 3 [(vS p_2.Player),(vI p_2.X),(vI p_2.Y)])),(n_13,gF 9 Alert.enc r_33),(n_44,gB 1 eS s_41)]:Hp)) p.1 p.2.1 p.2.2.1 p.2.2.2) (fun p=>forR (fun k x s=>jN k x s) p.2.1 p.1 p.2.2.1=some o_47∧(r_33).drop p.1=p.2.1) (fun p=>p.2.1.length) (0,r_33,([]:List ByteArray),n_42) ⟨hj_48,rfl⟩ rfl (aJ rfl) ?_)
   rintro ⟨k_36,l_37,s_41,n_44⟩ ⟨hL_46,hD_39⟩
   dsimp only at hL_46 hD_39
   cases l_37 with
   | nil =>
    obtain rfl:=ah hL_46
    refine af (aa (ae (vB (decide ((k_36:Int) < (r_33.length:Int)))) wz rfl (ai ?_)))
    refine af (ax rfl (drop_nil hD_39) (aX ?_))
    exact aU (s_41,n_44) rfl rfl (aJ rfl)
   | cons x_38 l_37 =>
    obtain ⟨c_,hc_45,hL_46⟩:=bind_some hL_46
    refine af (aa (ae (vB (decide ((k_36:Int) < (r_33.length:Int)))) wz rfl (ai ?_)))
    refine af (aB rfl (bv hD_39) (av ?_))
    unfold jN at hc_45
    refine af (aA (af (aa (gL jD rfl rfl (bN hD_39) rfl wz (dn bB dS rfl (.d (.agg (Alert.enc x_38))) rfl wz (fH 0 (.inl rfl) sQ rfl wz (fun n_49=>gu 0 il ft 3 bB rfl rfl [(vS x_38.Id),(vS x_38.Sender),(vI x_38.Kind),(vL eS x_38.Refs),(vI x_38.At),(vI x_38.Until),(vI x_38.Weight),(vL Rect.enc x_38.Areas),(vS x_38.Text)] rfl wz (ai (aa (ae (gV n_44 1 s_41) wz rfl (aG eT rfl 0 rfl wz (aF 0 3 il ft sz9 ag9 rfl rfl (vS x_38.Id) rfl wz (dY (([x_38.Id]:List ByteArray).map eS) mM sS rfl rfl rfl rfl rfl wz ?_)))))))))))))
    obtain ⟨a_50,hz_51,hc_45⟩:=bind_some hc_45
    refine oL 0 il ft (i:=2) el79 el79 sz9 z9 rfl (by decide) by9 (by decide) (fun _=>rfl) rfl rfl rfl hz_51 wz (fun n_52=>ae (gV n_52 1 a_50) wz rfl (ai (aa (gQ (bJ hD_39 hn_40) wz rfl (ae (vI ((k_36 + 1:Nat):Int)) wz rfl (ai ?_))))))
    obtain rfl:=ah hc_45
    exact aY (k_36 + 1,l_37,a_50,n_52) ⟨hL_46,aR hD_39⟩ (Nat.lt_succ_self _) rfl (aJ rfl)
  ·rintro ⟨s_41,n_44⟩ ho_ sl_ H_ hp_ hq_
   subst ho_
   refine aL _ hp_ hq_ (af (aa (ae (gV n_44 1 s_41) wz rfl (ae (gV n_44 1 s_41) wz rfl (ai (jq 2 rfl (fQ 6 2 rfl rfl (fQ 10 2 rfl rfl (fQ 47 2 rfl rfl ?_)))))))))
   obtain rfl:=ah hF
   exact ay (aO (.inr rfl) [(vL eS s_41)] ⟨rfl,trivial⟩ rfl rfl rfl)
theorem ww {l_1:(List Alert)} {p_2:Post} {atv_3:Int} {r:ByteArray×Bool} (hF:kJ l_1 p_2 atv_3=some r) :
  FnM Tryz.prog 92 [(vL Alert.enc l_1),(.d (.agg (Post.enc p_2))),(vI atv_3)] [] (.tup [(vS r.1),(vB r.2)]) []:=by
 refine FnM.of_wH ⟨Tryz.prog,19,[],[]⟩ rfl Tryz.func92 rfl rfl (Nat.le_of_ble_eq_true rfl) (by kernel_rfl) ?_
 unfold kJ at hF
 refine af (aa (eD 0 (.inl rfl) [(vS p_2.Player),(vI p_2.X),(vI p_2.Y)] rfl rfl wz (fun n_4=>ae (vS (⟨#[]⟩:ByteArray)) wz rfl (ae (vB false) wz rfl (ai (af (aa (ae (vL Alert.enc l_1) wz rfl (aF 0 0 il ft qP vX rfl rfl (.d (.agg (Post.enc p_2))) rfl wz (ae (vI atv_3) wz rfl ?_))))))))))
 obtain ⟨r_5,hr_6,hF⟩:=bind_some hF
 refine aH (yE hr_6) rfl hb168 rfl rfl rfl rfl wz (ae (vL eS r_5) wz rfl (ai (af (af (aa (ae (vL eS r_5) wz rfl (bZ vv rfl wz (ae (vB ((r_5.length:Int) == 0)) wz rfl (ai ?_)))))))))
 rcases ak hF with⟨hc_7,hF⟩ | ⟨hc_7,hF⟩
 ·refine aB rfl hc_7 (af (aa (ae (vS (⟨#[]⟩:ByteArray)) wz rfl (ae (vB false) wz rfl (ai ?_)))))
  obtain rfl:=ah hF
  exact ay (aO (.inr rfl) [(vS (⟨#[]⟩:ByteArray)),(vB false)] ⟨rfl,⟨rfl,trivial⟩⟩ rfl rfl rfl)
 ·refine ax rfl hc_7 (av (af (aa (ae (vL eS r_5) wz rfl ?_))))
  obtain ⟨y_8,hy_9,hF⟩:=bind_some hF
  refine gL mM rfl rfl hy_9 rfl wz (dn sz9 ag9 rfl (vS y_8) rfl wz (ae (vS y_8) wz rfl (ae (vB true) wz rfl (ai ?_))))
  obtain rfl:=ah hF
  exact ay (aO (.inr rfl) [(vS y_8),(vB true)] ⟨rfl,⟨rfl,trivial⟩⟩ rfl rfl rfl)
end Go.Proofs.YtjhcehhmdmbleaaGreatDoor.Law

