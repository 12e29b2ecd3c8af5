/-
 The machine computes these plain functions (written by a program of ours).
-/
import Derived.Test.YtjhcehhmdmbleaaGreatDoorFacts
import Derived.Test.YtjhcehhmdmbleaaGreatDoorDefs
import Derived.Test.YtjhcehhmdmbleaaGreatDoorPf5
import Derived.Test.YtjhcehhmdmbleaaGreatDoorShelf
open Go Go.Eng Go.Proofs
namespace Go.Proofs.YtjhcehhmdmbleaaGreatDoor.Law
set_option maxRecDepth 100000
set_option linter.unusedVariables false
set_option maxHeartbeats 1000000
theorem tu {s_1:ByteArray} {c_2:Int} {r:ByteArray} (hF:strings_trimRightByte s_1 c_2=some r) :
  FnM Tryz.prog 273 [(vS s_1),(.d (.int .u8 c_2))] [] (vS r) []:=by
 refine FnM.of_wH ⟨Tryz.prog,23,[],[]⟩ rfl Tryz.func273 rfl rfl (Nat.le_of_ble_eq_true rfl) (by kernel_rfl) ?_
 unfold strings_trimRightByte at hF
 refine af (aa (ae (vS (⟨#[]⟩:ByteArray)) wz rfl (ak (af ?_))))
 obtain ⟨o_11,hj_12,hF⟩:=bind_some hF
 obtain ⟨nq_21,hj_12⟩:=cK hj_12
 refine aH (β:=(ByteArray)) (fun (s_8:ByteArray)=>([(0,(vS s_8))]:List (Nat×V))) (fun (s_8:ByteArray)=>([]:Hp)) (fun p=>o_11 = .go p) ?_ ?_
 ·refine aF (aV (β:=Nat×(ByteArray)) (fun p=>(fun (k_3:Nat) (s_8:ByteArray)=>([(0,(vS s_8)),(1,(.d (.int .u8 c_2)))]:List (Nat×V))) p.1 p.2) (fun p=>(fun (k_3:Nat) (s_8:ByteArray)=>([]:Hp)) p.1 p.2) (fun p=>iterN (fun s=>iw c_2 s) p.1 p.2=some o_11) (fun p=>p.1) (nq_21,s_1) hj_12 rfl (aJ rfl) ?_)
  rintro ⟨k_3,s_8⟩ hL_10
  dsimp only at hL_10
  cases k_3 with
  | zero=>cases hL_10
  | succ k_3 =>
   obtain ⟨c_,hc_9,hL_10⟩:=bind_some hL_10
   unfold iw at hc_9
   refine af (af ?_)
   obtain ⟨v_13,h_14,hc_9⟩:=bind_some hc_9
   refine aH (β:=Unit) (fun _=>([(0,(vS s_8)),(1,(.d (.int .u8 c_2))),(16,(vB v_13))]:List (Nat×V))) (fun _=>([]:Hp)) (fun _=>True) ?_ ?_
   ·refine aa (ae (vS s_8) wz rfl (oP un9 rfl wz (ae (vB (decide ((s_8.size:Int) > 0))) wz rfl ?_)))
    rcases au h_14 with⟨hc_15,h_14⟩ | ⟨hc_15,h_14⟩
    ·refine aD rfl hc_15 wz (ae (vS s_8) wa rfl (ae (vS s_8) wa rfl (oP un9 rfl wa (ae (vI (w64 ((s_8.size:Int) - 1))) wa rfl ?_))))
     obtain ⟨b_16,hy_17,h_14⟩:=bind_some h_14
     refine kU un9 rfl rfl hy_17 wa (ae (.d (.int .u8 c_2)) wa rfl (ae (vB ((b_16.toNat:Int) == c_2)) wa rfl (ae (vB ((b_16.toNat:Int) == c_2)) wz rfl (ak ?_))))
     obtain rfl:=ah h_14
     exact cu
    ·refine aD rfl hc_15 wz (aj wa (aj wa (aj wa (aj wa (aj wa (aj wa (aj wa (ae (vB false) wz rfl (ak ?_)))))))))
     obtain rfl:=ah h_14
     exact cu
   ·rintro ⟨⟩ _ sl_ H_ hp_ hq_
    refine aL _ hp_ hq_ ?_
    rcases au hc_9 with⟨hc_18,hc_9⟩ | ⟨hc_18,hc_9⟩
    ·refine aB rfl hc_18 (av (aF (aa (ae (vS s_8) wz rfl (ae (vS s_8) wz rfl (oP un9 rfl wz (ae (vI (w64 ((s_8.size:Int) - 1))) wz rfl ?_)))))))
     obtain ⟨y_19,hy_20,hc_9⟩:=bind_some hc_9
     refine CQ un9 rfl rfl hy_20 wz (ae (vS y_19) wz rfl (ak ?_))
     obtain rfl:=ah hc_9
     exact aP (k_3,y_19) hL_10 (Nat.lt_succ_self _) rfl (aJ rfl)
    ·refine ay rfl hc_18 (aQ ?_)
     obtain rfl:=ah hc_9
     obtain rfl:=ah hL_10
     exact aR (s_8) rfl rfl (aJ rfl)
 ·rintro s_8 ho_ sl_ H_ hp_ hq_
  subst ho_
  refine aL _ hp_ hq_ (af (aa (ae (vS s_8) wz rfl (ae (vS s_8) wz rfl (ak ?_)))))
  obtain rfl:=ah hF
  exact aC (aO (.inr rfl) [(vS s_8)] ⟨rfl,trivial⟩ rfl rfl rfl)
theorem uw {s_1:ByteArray} {c_2:Int} {r:ByteArray} (hF:strings_trimLeftByte s_1 c_2=some r) :
  FnM Tryz.prog 272 [(vS s_1),(.d (.int .u8 c_2))] [] (vS r) []:=by
 refine FnM.of_wH ⟨Tryz.prog,17,[],[]⟩ rfl Tryz.func272 rfl rfl (Nat.le_of_ble_eq_true rfl) (by kernel_rfl) ?_
 unfold strings_trimLeftByte at hF
 refine af (aa (ae (vS (⟨#[]⟩:ByteArray)) wz rfl (ak (af ?_))))
 obtain ⟨o_11,hj_12,hF⟩:=bind_some hF
 obtain ⟨nq_21,hj_12⟩:=cK hj_12
 refine aH (β:=(ByteArray)) (fun (s_8:ByteArray)=>([(0,(vS s_8))]:List (Nat×V))) (fun (s_8:ByteArray)=>([]:Hp)) (fun p=>o_11 = .go p) ?_ ?_
 ·refine aF (aV (β:=Nat×(ByteArray)) (fun p=>(fun (k_3:Nat) (s_8:ByteArray)=>([(0,(vS s_8)),(1,(.d (.int .u8 c_2)))]:List (Nat×V))) p.1 p.2) (fun p=>(fun (k_3:Nat) (s_8:ByteArray)=>([]:Hp)) p.1 p.2) (fun p=>iterN (fun s=>iG c_2 s) p.1 p.2=some o_11) (fun p=>p.1) (nq_21,s_1) hj_12 rfl (aJ rfl) ?_)
  rintro ⟨k_3,s_8⟩ hL_10
  dsimp only at hL_10
  cases k_3 with
  | zero=>cases hL_10
  | succ k_3 =>
   obtain ⟨c_,hc_9,hL_10⟩:=bind_some hL_10
   unfold iG at hc_9
   refine af (af ?_)
   obtain ⟨v_13,h_14,hc_9⟩:=bind_some hc_9
   refine aH (β:=Unit) (fun _=>([(0,(vS s_8)),(1,(.d (.int .u8 c_2))),(13,(vB v_13))]:List (Nat×V))) (fun _=>([]:Hp)) (fun _=>True) ?_ ?_
   ·refine aa (ae (vS s_8) wz rfl (oP un9 rfl wz (ae (vB (decide ((s_8.size:Int) > 0))) wz rfl ?_)))
    rcases au h_14 with⟨hc_15,h_14⟩ | ⟨hc_15,h_14⟩
    ·refine aD rfl hc_15 wz (ae (vS s_8) wa rfl ?_)
     obtain ⟨b_16,hy_17,h_14⟩:=bind_some h_14
     refine kU un9 rfl rfl hy_17 wa (ae (.d (.int .u8 c_2)) wa rfl (ae (vB ((b_16.toNat:Int) == c_2)) wa rfl (ae (vB ((b_16.toNat:Int) == c_2)) wz rfl (ak ?_))))
     obtain rfl:=ah h_14
     exact cu
    ·refine aD rfl hc_15 wz (aj wa (aj wa (aj wa (aj wa (ae (vB false) wz rfl (ak ?_))))))
     obtain rfl:=ah h_14
     exact cu
   ·rintro ⟨⟩ _ sl_ H_ hp_ hq_
    refine aL _ hp_ hq_ ?_
    rcases au hc_9 with⟨hc_18,hc_9⟩ | ⟨hc_18,hc_9⟩
    ·refine aB rfl hc_18 (av (aF (aa (ae (vS s_8) wz rfl ?_))))
     obtain ⟨y_19,hy_20,hc_9⟩:=bind_some hc_9
     refine gz un9 rfl rfl hy_20 wz (ae (vS y_19) wz rfl (ak ?_))
     obtain rfl:=ah hc_9
     exact aP (k_3,y_19) hL_10 (Nat.lt_succ_self _) rfl (aJ rfl)
    ·refine ay rfl hc_18 (aQ ?_)
     obtain rfl:=ah hc_9
     obtain rfl:=ah hL_10
     exact aR (s_8) rfl rfl (aJ rfl)
 ·rintro s_8 ho_ sl_ H_ hp_ hq_
  subst ho_
  refine aL _ hp_ hq_ (af (aa (ae (vS s_8) wz rfl (ae (vS s_8) wz rfl (ak ?_)))))
  obtain rfl:=ah hF
  exact aC (aO (.inr rfl) [(vS s_8)] ⟨rfl,trivial⟩ rfl rfl rfl)
theorem BH {s_1:ByteArray} {cutset_2:ByteArray} {r:ByteArray} (hF:nP s_1 cutset_2=some r) :
  FnM Tryz.prog 211 [(vS s_1),(vS cutset_2)] [] (vS r) []:=by
 refine FnM.of_wH ⟨Tryz.prog,43,[],[]⟩ rfl Tryz.func211 rfl rfl (Nat.le_of_ble_eq_true rfl) (by kernel_rfl) ?_
 unfold nP at hF
 refine af (aa (ae (vS (⟨#[]⟩:ByteArray)) wz rfl (ak (af (af ?_)))))
 obtain ⟨v_3,h_4,hF⟩:=bind_some hF
 refine aH (β:=Unit) (fun _=>([(0,(vS s_1)),(1,(vS cutset_2)),(12,(vB v_3))]:List (Nat×V))) (fun _=>([]:Hp)) (fun _=>True) ?_ ?_
 ·refine aa (ae (vS s_1) wz rfl (ae (vB (sEq s_1 (⟨#[]⟩:ByteArray))) wz rfl ?_))
  rcases au h_4 with⟨hc_5,h_4⟩ | ⟨hc_5,h_4⟩
  ·refine aD rfl hc_5 wz (aj wa (aj wa (ae (vB true) wz rfl (ak ?_))))
   obtain rfl:=ah h_4
   exact cu
  ·refine aD rfl hc_5 wz (ae (vS cutset_2) wa rfl (ae (vB (sEq cutset_2 (⟨#[]⟩:ByteArray))) wa rfl (ae (vB (sEq cutset_2 (⟨#[]⟩:ByteArray))) wz rfl (ak ?_))))
   obtain rfl:=ah h_4
   exact cu
 ·rintro ⟨⟩ _ sl_ H_ hp_ hq_
  refine aL _ hp_ hq_ ?_
  rcases au hF with⟨hc_6,hF⟩ | ⟨hc_6,hF⟩
  ·refine aB rfl hc_6 (af (aa (ae (vS s_1) wz rfl (ae (vS s_1) wz rfl (ak ?_)))))
   obtain rfl:=ah hF
   exact aC (aO (.inr rfl) [(vS s_1)] ⟨rfl,trivial⟩ rfl rfl rfl)
  ·refine ay rfl hc_6 (av (af (af ?_)))
   obtain ⟨v_7,h_8,hF⟩:=bind_some hF
   refine aH (β:=Unit) (fun _=>([(0,(vS s_1)),(1,(vS cutset_2)),(21,(vB v_7))]:List (Nat×V))) (fun _=>([]:Hp)) (fun _=>True) ?_ ?_
   ·refine aa (ae (vS cutset_2) wz rfl (oP un9 rfl wz (ae (vB ((cutset_2.size:Int) == 1)) wz rfl ?_)))
    rcases au h_8 with⟨hc_9,h_8⟩ | ⟨hc_9,h_8⟩
    ·refine aD rfl hc_9 wz (ae (vS cutset_2) wa rfl ?_)
     obtain ⟨b_10,hy_11,h_8⟩:=bind_some h_8
     refine kU un9 rfl rfl hy_11 wa (ae (vB (decide ((b_10.toNat:Int) < 128))) wa rfl (ae (vB (decide ((b_10.toNat:Int) < 128))) wz rfl (ak ?_)))
     obtain rfl:=ah h_8
     exact cu
    ·refine aD rfl hc_9 wz (aj wa (aj wa (aj wa (ae (vB false) wz rfl (ak ?_)))))
     obtain rfl:=ah h_8
     exact cu
   ·rintro ⟨⟩ _ sl_ H_ hp_ hq_
    refine aL _ hp_ hq_ ?_
    rcases au hF with⟨hc_12,hF⟩ | ⟨hc_12,hF⟩
    ·refine aB rfl hc_12 (af (bn (ae (vS s_1) wz rfl (ae (vS cutset_2) wz rfl ?_))))
     obtain ⟨b_13,hy_14,hF⟩:=bind_some hF
     refine kU un9 rfl rfl hy_14 wz ?_
     obtain ⟨r_15,hr_16,hF⟩:=bind_some hF
     refine aG (tu hr_16) rfl hb273 rfl rfl rfl rfl wz (ae (vS cutset_2) wz rfl ?_)
     obtain ⟨b_17,hy_18,hF⟩:=bind_some hF
     refine kU un9 rfl rfl hy_18 wz ?_
     obtain ⟨r_19,hr_20,hF⟩:=bind_some hF
     refine aG (uw hr_20) rfl hb272 rfl rfl rfl rfl wz (ae (vS r_19) wz rfl (ak ?_))
     obtain rfl:=ah hF
     exact aC (aO (.inr rfl) [(vS r_19)] ⟨rfl,trivial⟩ rfl rfl rfl)
    ·refine ay rfl hc_12 (av (af (af (aa (ae (vS cutset_2) wz rfl ?_)))))
     cases hF
theorem yf {x0:ByteArray} {x1:ByteArray} {r:Bool} (hF:strings_Contains x0 x1=some r) :
  FnM Tryz.prog 212 [(vS x0),(vS x1)] [] (vB r) [] :=
 Hm Tryz.strings_Contains Ie hF
theorem DL {s_1:ByteArray} {r:Bool} (hF:pE s_1=some r) :
  FnM Tryz.prog 269 [(vS s_1)] [] (vB r) []:=by
 refine FnM.of_wH ⟨Tryz.prog,33,[],[]⟩ rfl Tryz.func269 rfl rfl (Nat.le_of_ble_eq_true rfl) (by kernel_rfl) ?_
 unfold pE at hF
 refine af (aa (ae (vB false) wz rfl (ak (af (af (aa (ae (vI 0) wz rfl (ak ?_))))))))
 obtain ⟨o_10,hj_11,hF⟩:=bind_some hF
 obtain ⟨nq_31,hj_11⟩:=cK hj_11
 refine aH (β:=(Int)) (fun (s_7:Int)=>([(0,(vS s_1))]:List (Nat×V))) (fun (s_7:Int)=>([]:Hp)) (fun p=>o_10 = .go p) ?_ ?_
 ·refine aF (aV (β:=Nat×(Int)) (fun p=>(fun (k_2:Nat) (s_7:Int)=>([(0,(vS s_1)),(3,(vI s_7))]:List (Nat×V))) p.1 p.2) (fun p=>(fun (k_2:Nat) (s_7:Int)=>([]:Hp)) p.1 p.2) (fun p=>iterN (fun s=>nY s_1 s) p.1 p.2=some o_10) (fun p=>p.1) (nq_31,0) hj_11 rfl (aJ rfl) ?_)
  rintro ⟨k_2,s_7⟩ hL_9
  dsimp only at hL_9
  cases k_2 with
  | zero=>cases hL_9
  | succ k_2 =>
   obtain ⟨c_,hc_8,hL_9⟩:=bind_some hL_9
   unfold nY at hc_8
   refine af (af (aa (ae (vI s_7) wz rfl (ae (vS s_1) wz rfl (oP un9 rfl wz (ae (vB (decide (s_7 < (s_1.size:Int)))) wz rfl (ak ?_)))))))
   rcases au hc_8 with⟨hc_12,hc_8⟩ | ⟨hc_12,hc_8⟩
   ·refine aB rfl hc_12 (av (af (aF (af ?_))))
    obtain ⟨v_13,h_14,hc_8⟩:=bind_some hc_8
    refine aH (β:=Unit) (fun _=>([(0,(vS s_1)),(3,(vI s_7)),(19,(vB v_13))]:List (Nat×V))) (fun _=>([]:Hp)) (fun _=>True) ?_ ?_
    ·refine aa (ae (vS s_1) wz rfl (ae (vI s_7) wz rfl ?_))
     obtain ⟨b_15,hy_16,h_14⟩:=bind_some h_14
     refine kU un9 rfl rfl hy_16 wz (ae (vB (decide ((b_15.toNat:Int) < 32))) wz rfl ?_)
     rcases au h_14 with⟨hc_17,h_14⟩ | ⟨hc_17,h_14⟩
     ·refine aD rfl hc_17 wz (aj wa (aj wa (aj wa (aj wa (ae (vB true) wz rfl (ak ?_))))))
      obtain rfl:=ah h_14
      exact cu
     ·refine aD rfl hc_17 wz (ae (vS s_1) wa rfl (ae (vI s_7) wa rfl ?_))
      obtain ⟨b_18,hy_19,h_14⟩:=bind_some h_14
      refine kU un9 rfl rfl hy_19 wa (ae (vB ((b_18.toNat:Int) == 127)) wa rfl (ae (vB ((b_18.toNat:Int) == 127)) wz rfl (ak ?_)))
      obtain rfl:=ah h_14
      exact cu
    ·rintro ⟨⟩ _ sl_ H_ hp_ hq_
     refine aL _ hp_ hq_ ?_
     rcases au hc_8 with⟨hc_20,hc_8⟩ | ⟨hc_20,hc_8⟩
     ·refine aB rfl hc_20 (af (aa (ae (vB false) wz rfl (ak ?_))))
      obtain rfl:=ah hc_8
      obtain rfl:=ah hL_9
      obtain rfl:=ah hF
      exact aC (aO (.inr rfl) [(vB false)] ⟨rfl,trivial⟩ rfl rfl rfl)
     ·refine ay rfl hc_20 (av (aa (ae (vI s_7) wz rfl (ae (vI (w64 (s_7 + 1))) wz rfl (ae (vI (w64 (s_7 + 1))) wz rfl (ak ?_))))))
      obtain rfl:=ah hc_8
      exact aP (k_2,(w64 (s_7 + 1))) hL_9 (Nat.lt_succ_self _) rfl (aJ rfl)
   ·refine ay rfl hc_12 (aQ ?_)
    obtain rfl:=ah hc_8
    obtain rfl:=ah hL_9
    exact aR (s_7) rfl rfl (aJ rfl)
 ·rintro s_7 ho_ sl_ H_ hp_ hq_
  subst ho_
  refine aL _ hp_ hq_ (af ?_)
  obtain ⟨v_21,h_22,hF⟩:=bind_some hF
  refine aH (β:=Unit) (fun _=>([(2,(vB v_21))]:List (Nat×V))) (fun _=>([]:Hp)) (fun _=>True) ?_ ?_
  ·refine aa (ae (vS s_1) wz rfl ?_)
   obtain ⟨r_23,hr_24,h_22⟩:=bind_some h_22
   refine aG (qF hr_24) rfl hb208 rfl rfl rfl rfl wz ?_
   rcases au h_22 with⟨hc_25,h_22⟩ | ⟨hc_25,h_22⟩
   ·refine aD rfl hc_25 wz (ae (vS s_1) wa rfl ?_)
    obtain ⟨r_26,hr_27,h_22⟩:=bind_some h_22
    refine aG (BH hr_27) rfl hb211 rfl rfl rfl rfl wa (ae (vS s_1) wa rfl (ae (vB (sEq r_26 s_1)) wa rfl (ae (vB (sEq r_26 s_1)) wz rfl ?_)))
    rcases au h_22 with⟨hc_28,h_22⟩ | ⟨hc_28,h_22⟩
    ·refine aD rfl hc_28 wz (ae (vS s_1) wa rfl ?_)
     obtain ⟨r_29,hr_30,h_22⟩:=bind_some h_22
     refine aG (yf hr_30) rfl hb212 rfl rfl rfl rfl wa (ae (vB (!r_29)) wa rfl (ae (vB (!r_29)) wz rfl (ae (vB (!r_29)) wz rfl (ak ?_))))
     obtain rfl:=ah h_22
     exact cu
    ·refine aD rfl hc_28 wz (aj wa (aj wa (aj wa (ae (vB false) wz rfl (ae (vB false) wz rfl (ak ?_))))))
     obtain rfl:=ah h_22
     exact cu
   ·refine aD rfl hc_25 wz (aj wa (aj wa (aj wa (aj wa (ae (vB false) wz rfl (ae (vB false) wz rfl (aj wa (aj wa (aj wa (ae (vB false) wz rfl (ae (vB false) wz rfl (ak ?_))))))))))))
    obtain rfl:=ah h_22
    exact cu
  ·rintro ⟨⟩ _ sl_ H_ hp_ hq_
   refine aL _ hp_ hq_ ?_
   obtain rfl:=ah hF
   exact aC (aO (.inr rfl) [(vB v_21)] ⟨rfl,trivial⟩ rfl rfl rfl)
theorem yc {a_1:Alert} {r:Int} (hF:jP a_1=some r) :
  FnM Tryz.prog 205 [(.d (.agg (Alert.enc a_1)))] [] (vI r) []:=by
 refine FnM.of_wH ⟨Tryz.prog,92,[],[]⟩ rfl Tryz.func205 rfl rfl (Nat.le_of_ble_eq_true rfl) (by kernel_rfl) ?_
 unfold jP at hF
 refine af (aa (dR 0 (.inl rfl) [(vS a_1.Id),(vS a_1.Sender),(vI a_1.Kind),(vL eS a_1.Refs),(vI a_1.At),(vI a_1.Until),(vI a_1.Weight),(vL Rect.enc a_1.Areas),(vS a_1.Text)] rfl rfl wz (fun n_2=>ae (vI 0) wz rfl (ak (af (af ?_))))))
 obtain ⟨v_3,h_4,hF⟩:=bind_some hF
 refine aH (β:=Unit) (fun _=>([(1,(.ref n_2 0 0)),(17,(vB v_3))]:List (Nat×V))) (fun _=>([(n_2,some (.cells 9 [(vS a_1.Id),(vS a_1.Sender),(vI a_1.Kind),(vL eS a_1.Refs),(vI a_1.At),(vI a_1.Until),(vI a_1.Weight),(vL Rect.enc a_1.Areas),(vS a_1.Text)]))]:Hp)) (fun _=>True) ?_ ?_
 ·refine aa (aI xP rfl 0 rfl wz (aA 0 0 il ft sz9 ag9 rfl rfl (vS a_1.Id) rfl wz ?_))
  obtain ⟨r_5,hr_6,h_4⟩:=bind_some h_4
  refine aG (fo hr_6) rfl uA rfl rfl rfl rfl wz (ae (vB (!r_5)) wz rfl ?_)
  rcases au h_4 with⟨hc_7,h_4⟩ | ⟨hc_7,h_4⟩
  ·refine aD rfl hc_7 wz (aj wa (aj wa (aj wa (aj wa (ae (vB true) wz rfl (ak ?_))))))
   obtain rfl:=ah h_4
   exact cu
  ·refine aD rfl hc_7 wz (aI pl100_1 rfl 1 rfl wa (aA 0 0 il ft sz9 ag9 rfl rfl (vS a_1.Sender) rfl wa ?_))
   obtain ⟨r_8,hr_9,h_4⟩:=bind_some h_4
   refine aG (fo hr_9) rfl uA rfl rfl rfl rfl wa (ae (vB (!r_8)) wa rfl (ae (vB (!r_8)) wz rfl (ak ?_)))
   obtain rfl:=ah h_4
   exact cu
 ·rintro ⟨⟩ _ sl_ H_ hp_ hq_
  refine aL _ hp_ hq_ ?_
  rcases au hF with⟨hc_10,hF⟩ | ⟨hc_10,hF⟩
  ·refine aB rfl hc_10 (af (aa (ae (vI 5) wz rfl (ak ?_))))
   obtain rfl:=ah hF
   exact aC (aO (.inr rfl) [(vI 5)] ⟨rfl,trivial⟩ rfl rfl rfl)
  ·refine ay rfl hc_10 (av (af (af (aa (aI FY rfl 2 rfl wz (aA 0 0 il ft sz3 ag3 rfl rfl (vI a_1.Kind) rfl wz ?_))))))
   obtain ⟨r_11,hr_12,hF⟩:=bind_some hF
   refine aG (bg hr_12) rfl qM rfl rfl rfl rfl wz (ak ?_)
   rcases au hF with⟨hc_13,hF⟩ | ⟨hc_13,hF⟩
   ·refine aB rfl hc_13 (af (aa (ae (vI 4) wz rfl (ak ?_))))
    obtain rfl:=ah hF
    exact aC (aO (.inr rfl) [(vI 4)] ⟨rfl,trivial⟩ rfl rfl rfl)
   ·refine ay rfl hc_13 (av (af (af (aa (aA 0 0 il ft vT zL rfl rfl (.d (.agg (Alert.enc a_1))) rfl wz ?_)))))
    obtain ⟨r_14,hr_15,hF⟩:=bind_some hF
    refine aG (yO hr_15) rfl hb268 rfl rfl rfl rfl wz (ae (vI r_14) wz rfl (ak (af (aa (ae (vI r_14) wz rfl (ae (vB (r_14 != 0)) wz rfl (ak ?_)))))))
    rcases au hF with⟨hc_16,hF⟩ | ⟨hc_16,hF⟩
    ·refine aB rfl hc_16 (af (aa (ae (vI r_14) wz rfl (ae (vI r_14) wz rfl (ak ?_)))))
     obtain rfl:=ah hF
     exact aC (aO (.inr rfl) [(vI r_14)] ⟨rfl,trivial⟩ rfl rfl rfl)
    ·refine ay rfl hc_16 (av (af (af ?_)))
     obtain ⟨v_17,h_18,hF⟩:=bind_some hF
     refine aH (β:=Unit) (fun _=>([(1,(.ref n_2 0 0)),(45,(vB v_17))]:List (Nat×V))) (fun _=>([(n_2,some (.cells 9 [(vS a_1.Id),(vS a_1.Sender),(vI a_1.Kind),(vL eS a_1.Refs),(vI a_1.At),(vI a_1.Until),(vI a_1.Weight),(vL Rect.enc a_1.Areas),(vS a_1.Text)]))]:Hp)) (fun _=>True) ?_ ?_
     ·refine aa (aI zq rfl 4 rfl wz (aA 0 0 il ft sz3 ag3 rfl rfl (vI a_1.At) rfl wz ?_))
      obtain ⟨r_19,hr_20,h_18⟩:=bind_some h_18
      refine aG (gU hr_20) rfl Bd rfl rfl rfl rfl wz (ae (vB (!r_19)) wz rfl ?_)
      rcases au h_18 with⟨hc_21,h_18⟩ | ⟨hc_21,h_18⟩
      ·refine aD rfl hc_21 wz (aj wa (aj wa (aj wa (aj wa (aj wa (aj wa (aj wa (aj wa (aj wa (ae (vB true) wz rfl (ae (vB true) wz rfl (aj wa (aj wa (aj wa (ae (vB true) wz rfl (ak ?_))))))))))))))))
       obtain rfl:=ah h_18
       exact cu
      ·refine aD rfl hc_21 wz (aI pl100_5 rfl 5 rfl wa (aA 0 0 il ft sz3 ag3 rfl rfl (vI a_1.Until) rfl wa (aI zq rfl 4 rfl wa (aA 0 0 il ft sz3 ag3 rfl rfl (vI a_1.At) rfl wa (ae (vI (w64 (a_1.At + 1))) wa rfl (aI zq rfl 4 rfl wa (aA 0 0 il ft sz3 ag3 rfl rfl (vI a_1.At) rfl wa (ae (vI (w64 (a_1.At + 2592000000))) wa rfl ?_))))))))
       obtain ⟨r_22,hr_23,h_18⟩:=bind_some h_18
       refine aG (bg hr_23) rfl qM rfl rfl rfl rfl wa (ae (vB r_22) wz rfl ?_)
       rcases au h_18 with⟨hc_24,h_18⟩ | ⟨hc_24,h_18⟩
       ·refine aD rfl hc_24 wz (aj wa (aj wa (aj wa (ae (vB true) wz rfl (ak ?_)))))
        obtain rfl:=ah h_18
        exact cu
       ·refine aD rfl hc_24 wz (aI pl100_6 rfl 6 rfl wa (aA 0 0 il ft sz3 ag3 rfl rfl (vI a_1.Weight) rfl wa ?_))
        obtain ⟨r_25,hr_26,h_18⟩:=bind_some h_18
        refine aG (bg hr_26) rfl qM rfl rfl rfl rfl wa (ae (vB r_25) wz rfl (ak ?_))
        obtain rfl:=ah h_18
        exact cu
     ·rintro ⟨⟩ _ sl_ H_ hp_ hq_
      refine aL _ hp_ hq_ ?_
      rcases au hF with⟨hc_27,hF⟩ | ⟨hc_27,hF⟩
      ·refine aB rfl hc_27 (af (aa (ae (vI 1) wz rfl (ak ?_))))
       obtain rfl:=ah hF
       exact aC (aO (.inr rfl) [(vI 1)] ⟨rfl,trivial⟩ rfl rfl rfl)
      ·refine ay rfl hc_27 (av (af (af (aa (aI Cb rfl 7 rfl wz (aA 0 0 il ft K8 Lc rfl rfl (vL Rect.enc a_1.Areas) rfl wz (cz Aq rfl wz (ae (vB (decide ((a_1.Areas.length:Int) > 20))) wz rfl (ak ?_)))))))))
       rcases au hF with⟨hc_28,hF⟩ | ⟨hc_28,hF⟩
       ·refine aB rfl hc_28 (af (aa (ae (vI 2) wz rfl (ak ?_))))
        obtain rfl:=ah hF
        exact aC (aO (.inr rfl) [(vI 2)] ⟨rfl,trivial⟩ rfl rfl rfl)
       ·refine ay rfl hc_28 (av (af (af (aa (aI Cb rfl 7 rfl wz (aA 0 0 il ft K8 Lc rfl rfl (vL Rect.enc a_1.Areas) rfl wz (cz Aq rfl wz (ae (vI 0) wz rfl (ak ?_)))))))))
        obtain ⟨o_37,hj_38,hF⟩:=bind_some hF
        obtain ⟨hn_33,hj_38⟩:=bA hj_38
        refine aH (β:=(Unit)) (fun (s_34:Unit)=>([(1,(.ref n_2 0 0))]:List (Nat×V))) (fun (s_34:Unit)=>([(n_2,some (.cells 9 [(vS a_1.Id),(vS a_1.Sender),(vI a_1.Kind),(vL eS a_1.Refs),(vI a_1.At),(vI a_1.Until),(vI a_1.Weight),(vL Rect.enc a_1.Areas),(vS a_1.Text)]))]:Hp)) (fun p=>o_37 = .go p) ?_ ?_
        ·refine aF (aV (β:=Nat×(List Rect)×(Unit)) (fun p=>(fun (k_29:Nat) (l_30:List Rect) (s_34:Unit)=>([(1,(.ref n_2 0 0)),(51,(vL Rect.enc a_1.Areas)),(52,(vI (a_1.Areas.length:Int))),(53,(vI (k_29:Int)))]:List (Nat×V))) p.1 p.2.1 p.2.2) (fun p=>(fun (k_29:Nat) (l_30:List Rect) (s_34:Unit)=>([(n_2,some (.cells 9 [(vS a_1.Id),(vS a_1.Sender),(vI a_1.Kind),(vL eS a_1.Refs),(vI a_1.At),(vI a_1.Until),(vI a_1.Weight),(vL Rect.enc a_1.Areas),(vS a_1.Text)]))]:Hp)) p.1 p.2.1 p.2.2) (fun p=>forR (fun k x s=>jK k x s) p.2.1 p.1 p.2.2=some o_37∧(a_1.Areas).drop p.1=p.2.1) (fun p=>p.2.1.length) (0,a_1.Areas,()) ⟨hj_38,rfl⟩ rfl (aJ rfl) ?_)
         rintro ⟨k_29,l_30,s_34⟩ ⟨hL_36,hD_32⟩
         dsimp only at hL_36 hD_32
         cases l_30 with
         | nil =>
          obtain rfl:=ah hL_36
          refine af (aa (ae (vB (decide ((k_29:Int) < (a_1.Areas.length:Int)))) wz rfl (ak ?_)))
          refine af (ay rfl (drop_nil hD_32) (aQ ?_))
          exact aR (s_34) rfl rfl (aJ rfl)
         | cons x_31 l_30 =>
          obtain ⟨c_,hc_35,hL_36⟩:=bind_some hL_36
          refine af (aa (ae (vB (decide ((k_29:Int) < (a_1.Areas.length:Int)))) wz rfl (ak ?_)))
          refine af (aB rfl (bI hD_32) (av ?_))
          unfold jK at hc_35
          refine af (aF (af (aa (dL Gz rfl rfl (bP hD_32) rfl wz (bG wI Hr rfl (.d (.agg (Rect.enc x_31))) rfl wz (dm 0 (.inl rfl) z45 rfl wz (fun n_39=>eY 0 il ft 1 wI rfl rfl [(vI x_31.X),(vI x_31.Y),(vI x_31.W),(vI x_31.H)] rfl wz (ak (af (aa (aA 0 1 il ft wI Hr rfl rfl (.d (.agg (Rect.enc x_31))) rfl wz ?_)))))))))))
          obtain ⟨r_40,hr_41,hc_35⟩:=bind_some hc_35
          refine aG (qw hr_41) rfl hb73 rfl rfl rfl rfl wz (ae (vI r_40) wz rfl (ak (af (aa (ae (vI r_40) wz rfl (ae (vB (r_40 != 0)) wz rfl (ak ?_)))))))
          rcases au hc_35 with⟨hc_42,hc_35⟩ | ⟨hc_42,hc_35⟩
          ·refine aB rfl hc_42 (af (aa (ae (vI r_40) wz rfl (ae (vI r_40) wz rfl (ak ?_)))))
           obtain rfl:=ah hc_35
           obtain rfl:=ah hL_36
           obtain rfl:=ah hF
           exact aC (aO (.inr rfl) [(vI r_40)] ⟨rfl,trivial⟩ rfl rfl rfl)
          ·refine ay rfl hc_42 (av (aa (fJ (bK hD_32 hn_33) wz rfl (ae (vI ((k_29 + 1:Nat):Int)) wz rfl (ak ?_)))))
           obtain rfl:=ah hc_35
           exact aP (k_29 + 1,l_30,()) ⟨hL_36,aW hD_32⟩ (Nat.lt_succ_self _) rfl (aJ rfl)
        ·rintro s_34 ho_ sl_ H_ hp_ hq_
         subst ho_
         refine aL _ hp_ hq_ (af (aa (aI FY rfl 2 rfl wz (aA 0 0 il ft sz3 ag3 rfl rfl (vI a_1.Kind) rfl wz (ae (vB (a_1.Kind == 3)) wz rfl (ae (vB (a_1.Kind == 3)) wz rfl (ak (af (aF (af (aa (ae (vB (a_1.Kind == 3)) wz rfl (aI Cb rfl 7 rfl wz (aA 0 0 il ft K8 Lc rfl rfl (vL Rect.enc a_1.Areas) rfl wz (cz Aq rfl wz (ae (vB ((a_1.Areas.length:Int) == 0)) wz rfl (GM un4 rfl rfl wz (ae (vB (!((a_1.Kind == 3) == ((a_1.Areas.length:Int) == 0)))) wz rfl (ak ?_)))))))))))))))))))
         rcases au hF with⟨hc_43,hF⟩ | ⟨hc_43,hF⟩
         ·refine aB rfl hc_43 (af (aa (ae (vI 3) wz rfl (ak ?_))))
          obtain rfl:=ah hF
          exact aC (aO (.inr rfl) [(vI 3)] ⟨rfl,trivial⟩ rfl rfl rfl)
         ·refine ay rfl hc_43 (af (aa (aI Gy rfl 8 rfl wz (aA 0 0 il ft sz9 ag9 rfl rfl (vS a_1.Text) rfl wz (oP un9 rfl wz (ae (vB (decide ((a_1.Text.size:Int) > 500))) wz rfl (ae (vB (decide ((a_1.Text.size:Int) > 500))) wz rfl (ak ?_))))))))
          rcases au hF with⟨hc_44,hF⟩ | ⟨hc_44,hF⟩
          ·refine aB rfl hc_44 (af (aa (ae (vI 2) wz rfl (ak ?_))))
           obtain rfl:=ah hF
           exact aC (aO (.inr rfl) [(vI 2)] ⟨rfl,trivial⟩ rfl rfl rfl)
          ·refine ay rfl hc_44 (af ?_)
           obtain ⟨v_45,h_46,hF⟩:=bind_some hF
           refine aH (β:=Unit) (fun _=>([(78,(vB v_45))]:List (Nat×V))) (fun _=>([(n_2,some (.cells 9 [(vS a_1.Id),(vS a_1.Sender),(vI a_1.Kind),(vL eS a_1.Refs),(vI a_1.At),(vI a_1.Until),(vI a_1.Weight),(vL Rect.enc a_1.Areas),(vS a_1.Text)]))]:Hp)) (fun _=>True) ?_ ?_
           ·refine aa (aI Gy rfl 8 rfl wz (aA 0 0 il ft sz9 ag9 rfl rfl (vS a_1.Text) rfl wz ?_))
            obtain ⟨r_47,hr_48,h_46⟩:=bind_some h_46
            refine aG (DL hr_48) rfl hb269 rfl rfl rfl rfl wz (ae (vB (!r_47)) wz rfl ?_)
            rcases au h_46 with⟨hc_49,h_46⟩ | ⟨hc_49,h_46⟩
            ·refine aD rfl hc_49 wz (aj wa (aj wa (aj wa (aj wa (aj (wn rfl rfl) (aj (wn rfl rfl) (aj wa (ae (vB true) wz rfl (ae (vB true) wz rfl (ak ?_))))))))))
             obtain rfl:=ah h_46
             exact cu
            ·refine aD rfl hc_49 wz (aI Gy rfl 8 rfl wa (aA 0 0 il ft sz9 ag9 rfl rfl (vS a_1.Text) rfl wa (ae (vB (sEq a_1.Text (⟨#[]⟩:ByteArray))) wa rfl ?_)))
             rcases au h_46 with⟨hc_50,h_46⟩ | ⟨hc_50,h_46⟩
             ·refine aD rfl hc_50 wa (ae (vB (a_1.Kind == 3)) wa rfl (ae (vB (!(a_1.Kind == 3))) wa rfl (ae (vB (!(a_1.Kind == 3))) wa rfl (ae (vB (!(a_1.Kind == 3))) wz rfl (ae (vB (!(a_1.Kind == 3))) wz rfl (ak ?_))))))
              obtain rfl:=ah h_46
              exact cu
             ·refine aD rfl hc_50 wa (aj wa (aj wa (ae (vB false) wa rfl (ae (vB false) wz rfl (ae (vB false) wz rfl (ak ?_))))))
              obtain rfl:=ah h_46
              exact cu
           ·rintro ⟨⟩ _ sl_ H_ hp_ hq_
            refine aL _ hp_ hq_ ?_
            rcases au hF with⟨hc_51,hF⟩ | ⟨hc_51,hF⟩
            ·refine aB rfl hc_51 (af (aa (ae (vI 3) wz rfl (ak ?_))))
             obtain rfl:=ah hF
             exact aC (aO (.inr rfl) [(vI 3)] ⟨rfl,trivial⟩ rfl rfl rfl)
            ·refine ay rfl hc_51 (av (af (aa (ae (vI 0) wz rfl (ak ?_)))))
             obtain rfl:=ah hF
             exact aC (aO (.inr rfl) [(vI 0)] ⟨rfl,trivial⟩ rfl rfl rfl)
theorem A7 {a_1:Alert} {b_2:Alert} {r:Int} (hF:oZ a_1 b_2=some r) :
  FnM Tryz.prog 206 [(.d (.agg (Alert.enc a_1))),(.d (.agg (Alert.enc b_2)))] [] (vI r) []:=by
 refine FnM.of_wH ⟨Tryz.prog,17,[],[]⟩ rfl Tryz.func206 rfl rfl (Nat.le_of_ble_eq_true rfl) (by kernel_rfl) ?_
 unfold oZ at hF
 refine af (aa (dR 0 (.inl rfl) [(vS a_1.Id),(vS a_1.Sender),(vI a_1.Kind),(vL eS a_1.Refs),(vI a_1.At),(vI a_1.Until),(vI a_1.Weight),(vL Rect.enc a_1.Areas),(vS a_1.Text)] rfl rfl wz (fun n_3=>dR 0 (.inl rfl) [(vS b_2.Id),(vS b_2.Sender),(vI b_2.Kind),(vL eS b_2.Refs),(vI b_2.At),(vI b_2.Until),(vI b_2.Weight),(vL Rect.enc b_2.Areas),(vS b_2.Text)] rfl rfl wz (fun n_4=>ae (vI 0) wz rfl (ak (af (bn (aI zq rfl 4 rfl wz (aA 1 0 (.inr (by kernel_rfl)) (fun _ _ ag=>trivial) sz3 ag3 rfl rfl (vI a_1.At) rfl wz (aI zq rfl 4 rfl wz (aA 3 1 (.inr (by kernel_rfl)) (fun _ _ ag=>⟨.inl ⟨rfl,rfl⟩,trivial⟩) sz3 ag3 rfl rfl (vI b_2.At) rfl wz ?_)))))))))))
 obtain ⟨r_5,hr_6,hF⟩:=bind_some hF
 refine aG (iX hr_6) rfl G8 rfl rfl rfl rfl wz (aI xP rfl 0 rfl wz (aA 6 0 (.inr (by kernel_rfl)) (fun _ _ ag=>⟨.inl ⟨rfl,rfl⟩,⟨.inl ⟨rfl,rfl⟩,trivial⟩⟩) sz9 ag9 rfl rfl (vS a_1.Id) rfl wz (aI xP rfl 0 rfl wz (aA 8 1 (.inr (by kernel_rfl)) (fun _ _ ag=>⟨.inl ⟨rfl,rfl⟩,⟨.inl ⟨rfl,rfl⟩,⟨.inl ⟨rfl,rfl⟩,trivial⟩⟩⟩) sz9 ag9 rfl rfl (vS b_2.Id) rfl wz ?_))))
 obtain ⟨r_7,hr_8,hF⟩:=bind_some hF
 refine aG (nu hr_8) rfl Mw rfl rfl rfl rfl wz (eG (([r_5,r_7]:List Int).map eI) kE wo rfl rfl rfl rfl rfl wz ?_)
 obtain ⟨r_9,hr_10,hF⟩:=bind_some hF
 refine aG (sV hr_10) rfl L8 rfl rfl rfl rfl wz (ae (vI r_9) wz rfl (ak ?_))
 obtain rfl:=ah hF
 exact aC (aO (.inr rfl) [(vI r_9)] ⟨rfl,trivial⟩ rfl rfl rfl)
theorem wW {l_1:(List Alert)} {r:Int} (hF:jr l_1=some r) :
  FnM Tryz.prog 161 [(vL Alert.enc l_1)] [] (vI r) []:=by
 refine FnM.of_wH ⟨Tryz.prog,52,[],[]⟩ rfl Tryz.func161 rfl rfl (Nat.le_of_ble_eq_true rfl) (by kernel_rfl) ?_
 unfold jr at hF
 refine af (aa (ae (vI 0) wz rfl (ak (af (af (aa (ae (vL Alert.enc l_1) wz rfl (cz un56 rfl wz (ae (vB (decide ((l_1.length:Int) > 300))) wz rfl (ak ?_))))))))))
 rcases au hF with⟨hc_2,hF⟩ | ⟨hc_2,hF⟩
 ·refine aB rfl hc_2 (af (aa (ae (vI 2) wz rfl (ak ?_))))
  obtain rfl:=ah hF
  exact aC (aO (.inr rfl) [(vI 2)] ⟨rfl,trivial⟩ rfl rfl rfl)
 ·refine ay rfl hc_2 (av (af (af (aa (ae (vL Alert.enc l_1) wz rfl (cz un56 rfl wz (ae (vI 0) wz rfl (ak ?_))))))))
  obtain ⟨o_11,hj_12,hF⟩:=bind_some hF
  obtain ⟨hn_7,hj_12⟩:=bA hj_12
  refine aH (β:=(Unit)) (fun (s_8:Unit)=>([(0,(vL Alert.enc l_1))]:List (Nat×V))) (fun (s_8:Unit)=>([]:Hp)) (fun p=>o_11 = .go p) ?_ ?_
  ·refine aF (aV (β:=Nat×(List Alert)×(Unit)) (fun p=>(fun (k_3:Nat) (l_4:List Alert) (s_8:Unit)=>([(0,(vL Alert.enc l_1)),(12,(vL Alert.enc l_1)),(13,(vI (l_1.length:Int))),(14,(vI (k_3:Int)))]:List (Nat×V))) p.1 p.2.1 p.2.2) (fun p=>(fun (k_3:Nat) (l_4:List Alert) (s_8:Unit)=>([]:Hp)) p.1 p.2.1 p.2.2) (fun p=>forR (fun k x s=>iE l_1 k x s) p.2.1 p.1 p.2.2=some o_11∧(l_1).drop p.1=p.2.1) (fun p=>p.2.1.length) (0,l_1,()) ⟨hj_12,rfl⟩ rfl (aJ rfl) ?_)
   rintro ⟨k_3,l_4,s_8⟩ ⟨hL_10,hD_6⟩
   dsimp only at hL_10 hD_6
   cases l_4 with
   | nil =>
    obtain rfl:=ah hL_10
    refine af (aa (ae (vB (decide ((k_3:Int) < (l_1.length:Int)))) wz rfl (ak ?_)))
    refine af (ay rfl (drop_nil hD_6) (aQ ?_))
    exact aR (s_8) rfl rfl (aJ rfl)
   | cons x_5 l_4 =>
    obtain ⟨c_,hc_9,hL_10⟩:=bind_some hL_10
    refine af (aa (ae (vB (decide ((k_3:Int) < (l_1.length:Int)))) wz rfl (ak ?_)))
    refine af (aB rfl (bI hD_6) (av ?_))
    unfold iE at hc_9
    refine af (aF (af (aa (ae (vI (k_3:Int)) wz rfl (dL es56 rfl rfl (bP hD_6) rfl wz (bG vT zL rfl (.d (.agg (Alert.enc x_5))) rfl wz (dm 0 (.inl rfl) z100 rfl wz (fun n_13=>ae (vI (k_3:Int)) wz rfl (eY 0 il ft 0 vT rfl rfl [(vS x_5.Id),(vS x_5.Sender),(vI x_5.Kind),(vL eS x_5.Refs),(vI x_5.At),(vI x_5.Until),(vI x_5.Weight),(vL Rect.enc x_5.Areas),(vS x_5.Text)] rfl wz (ak (af (af (aa (aA 0 0 il ft vT zL rfl rfl (.d (.agg (Alert.enc x_5))) rfl wz ?_))))))))))))))
    obtain ⟨r_14,hr_15,hc_9⟩:=bind_some hc_9
    refine aG (yc hr_15) rfl hb205 rfl rfl rfl rfl wz (ae (vI r_14) wz rfl (ak (af (aa (ae (vI r_14) wz rfl (ae (vB (r_14 != 0)) wz rfl (ak ?_)))))))
    rcases au hc_9 with⟨hc_16,hc_9⟩ | ⟨hc_16,hc_9⟩
    ·refine aB rfl hc_16 (af (aa (ae (vI r_14) wz rfl (ae (vI r_14) wz rfl (ak ?_)))))
     obtain rfl:=ah hc_9
     obtain rfl:=ah hL_10
     obtain rfl:=ah hF
     exact aC (aO (.inr rfl) [(vI r_14)] ⟨rfl,trivial⟩ rfl rfl rfl)
    ·refine ay rfl hc_16 (av (af ?_))
     obtain ⟨v_17,h_18,hc_9⟩:=bind_some hc_9
     refine aH (β:=Unit) (fun _=>([(0,(vL Alert.enc l_1)),(12,(vL Alert.enc l_1)),(13,(vI (l_1.length:Int))),(14,(vI (k_3:Int))),(35,(vB v_17))]:List (Nat×V))) (fun _=>([(n_13,some (.cells 9 [(vS x_5.Id),(vS x_5.Sender),(vI x_5.Kind),(vL eS x_5.Refs),(vI x_5.At),(vI x_5.Until),(vI x_5.Weight),(vL Rect.enc x_5.Areas),(vS x_5.Text)]))]:Hp)) (fun _=>True) ?_ ?_
     ·refine bn (ae (vI (k_3:Int)) wz rfl (ae (vB (decide ((k_3:Int) > 0))) wz rfl ?_))
      rcases au h_18 with⟨hc_19,h_18⟩ | ⟨hc_19,h_18⟩
      ·refine aD rfl hc_19 wz (ae (vL Alert.enc l_1) wa rfl (ae (vI (k_3:Int)) wa rfl (ae (vI (w64 ((k_3:Int) - 1))) wa rfl ?_)))
       obtain ⟨y_20,hy_21,h_18⟩:=bind_some h_18
       refine dL es56 rfl rfl hy_21 rfl wa (bG vT zL rfl (.d (.agg (Alert.enc y_20))) rfl wa (aA 8 0 (.inr (by kernel_rfl)) (fun _ _ ag=>trivial) vT zL rfl rfl (.d (.agg (Alert.enc x_5))) rfl wa ?_))
       obtain ⟨r_22,hr_23,h_18⟩:=bind_some h_18
       refine aG (A7 hr_23) rfl hb206 rfl rfl rfl rfl wa (ae (vB (decide (r_22≥0))) wa rfl (ae (vB (decide (r_22≥0))) wz rfl (ak ?_)))
       obtain rfl:=ah h_18
       exact cu
      ·refine aD rfl hc_19 wz (aj wa (aj wa (aj wa (aj wa (aj wa (aj wa (aj wa (aj wa (ae (vB false) wz rfl (ak ?_))))))))))
       obtain rfl:=ah h_18
       exact cu
     ·rintro ⟨⟩ _ sl_ H_ hp_ hq_
      refine aL _ hp_ hq_ ?_
      rcases au hc_9 with⟨hc_24,hc_9⟩ | ⟨hc_24,hc_9⟩
      ·refine aB rfl hc_24 (af (aa (ae (vI 7) wz rfl (ak ?_))))
       obtain rfl:=ah hc_9
       obtain rfl:=ah hL_10
       obtain rfl:=ah hF
       exact aC (aO (.inr rfl) [(vI 7)] ⟨rfl,trivial⟩ rfl rfl rfl)
      ·refine ay rfl hc_24 (av (aa (fJ (bK hD_6 hn_7) wz rfl (ae (vI ((k_3 + 1:Nat):Int)) wz rfl (ak ?_)))))
       obtain rfl:=ah hc_9
       exact aP (k_3 + 1,l_4,()) ⟨hL_10,aW hD_6⟩ (Nat.lt_succ_self _) rfl (aJ rfl)
  ·rintro s_8 ho_ sl_ H_ hp_ hq_
   subst ho_
   refine aL _ hp_ hq_ (af (aa (h_mkmap 0 (.inl rfl) wz (fun n_25=>G5 (b':=some (bM D.str D.bool ([]:List (ByteArray×Bool)))) 0 rfl rfl (ae (.map n_25) wz rfl (ak (af (af (aa (ae (vL Alert.enc l_1) wz rfl (cz un56 rfl wz (ae (vI 0) wz rfl (ak ?_)))))))))))))
   obtain ⟨o_34,hj_35,hF⟩:=bind_some hF
   obtain ⟨hn_30,hj_35⟩:=bA hj_35
   refine aH (β:=((List (ByteArray×Bool)))) (fun (s_31:(List (ByteArray×Bool)))=>([]:List (Nat×V))) (fun (s_31:(List (ByteArray×Bool)))=>([(n_25,some (bM D.str D.bool s_31))]:Hp)) (fun p=>o_34 = .go p) ?_ ?_
   ·refine aF (aV (β:=Nat×(List Alert)×((List (ByteArray×Bool)))) (fun p=>(fun (k_26:Nat) (l_27:List Alert) (s_31:(List (ByteArray×Bool)))=>([(6,(.map n_25)),(38,(vL Alert.enc l_1)),(39,(vI (l_1.length:Int))),(40,(vI (k_26:Int)))]:List (Nat×V))) p.1 p.2.1 p.2.2) (fun p=>(fun (k_26:Nat) (l_27:List Alert) (s_31:(List (ByteArray×Bool)))=>([(n_25,some (bM D.str D.bool s_31))]:Hp)) p.1 p.2.1 p.2.2) (fun p=>forR (fun k x s=>jE k x s) p.2.1 p.1 p.2.2=some o_34∧(l_1).drop p.1=p.2.1) (fun p=>p.2.1.length) (0,l_1,([]:List (ByteArray×Bool))) ⟨hj_35,rfl⟩ rfl (aJ rfl) ?_)
    rintro ⟨k_26,l_27,s_31⟩ ⟨hL_33,hD_29⟩
    dsimp only at hL_33 hD_29
    cases l_27 with
    | nil =>
     obtain rfl:=ah hL_33
     refine af (aa (ae (vB (decide ((k_26:Int) < (l_1.length:Int)))) wz rfl (ak ?_)))
     refine af (ay rfl (drop_nil hD_29) (aQ ?_))
     exact aR (s_31) rfl rfl (aJ rfl)
    | cons x_28 l_27 =>
     obtain ⟨c_,hc_32,hL_33⟩:=bind_some hL_33
     refine af (aa (ae (vB (decide ((k_26:Int) < (l_1.length:Int)))) wz rfl (ak ?_)))
     refine af (aB rfl (bI hD_29) (av ?_))
     unfold jE at hc_32
     refine af (aF (af (aa (dL es56 rfl rfl (bP hD_29) rfl wz (bG vT zL rfl (.d (.agg (Alert.enc x_28))) rfl wz (dm 0 (.inl rfl) z100 rfl wz (fun n_36=>eY 0 il ft 1 vT rfl rfl [(vS x_28.Id),(vS x_28.Sender),(vI x_28.Kind),(vL eS x_28.Refs),(vI x_28.At),(vI x_28.Until),(vI x_28.Weight),(vL Rect.enc x_28.Areas),(vS x_28.Text)] rfl wz (ak (af (af (aa (ae (.map n_25) wz rfl (aI xP rfl 0 rfl wz (aA 0 1 il ft sz9 ag9 rfl rfl (vS x_28.Id) rfl wz (Nb (eq:=eqS) (kD:=D.str) (vD:=D.bool) (es:=s_31) (k:=x_28.Id) (z:=false) 0 0 il ft (fun _ _=>rfl) mt168 (by kernel_rfl) (by kernel_rfl) rfl rfl rfl (vB ((I9 eqS s_31 x_28.Id).getD false)) rfl wz (ak ?_))))))))))))))))
     rcases au hc_32 with⟨hc_37,hc_32⟩ | ⟨hc_37,hc_32⟩
     ·refine aB rfl hc_37 (af (aa (ae (vI 6) wz rfl (ak ?_))))
      obtain rfl:=ah hc_32
      obtain rfl:=ah hL_33
      obtain rfl:=ah hF
      exact aC (aO (.inr rfl) [(vI 6)] ⟨rfl,trivial⟩ rfl rfl rfl)
     ·refine ay rfl hc_37 (av (aa (ae (.map n_25) wz rfl (aI xP rfl 0 rfl wz (aA 0 1 il ft sz9 ag9 rfl rfl (vS x_28.Id) rfl wz (Mt (eq:=eqS) (kD:=D.str) (vD:=D.bool) (es:=s_31) (k:=x_28.Id) (v:=true) 0 0 il ft (fun _ _=>rfl) mt168 (by kernel_rfl) rfl rfl rfl rfl wz (ak (aa (fJ (bK hD_29 hn_30) wz rfl (ae (vI ((k_26 + 1:Nat):Int)) wz rfl (ak ?_)))))))))))
      obtain rfl:=ah hc_32
      exact aP (k_26 + 1,l_27,(Mf eqS s_31 x_28.Id true)) ⟨hL_33,aW hD_29⟩ (Nat.lt_succ_self _) rfl (aJ rfl)
   ·rintro s_31 ho_ sl_ H_ hp_ hq_
    subst ho_
    refine aL _ hp_ hq_ (af (aa (ae (vI 0) wz rfl (ak ?_))))
    obtain rfl:=ah hF
    exact aC (aO (.inr rfl) [(vI 0)] ⟨rfl,trivial⟩ rfl rfl rfl)
theorem xS {l_1:(List Post)} {r:Int} (hF:j3 l_1=some r) :
  FnM Tryz.prog 162 [(vL Post.enc l_1)] [] (vI r) []:=by
 refine FnM.of_wH ⟨Tryz.prog,44,[],[]⟩ rfl Tryz.func162 rfl rfl (Nat.le_of_ble_eq_true rfl) (by kernel_rfl) ?_
 unfold j3 at hF
 refine af (aa (ae (vI 0) wz rfl (ak (af (af (aa (ae (vL Post.enc l_1) wz rfl (cz un63 rfl wz (ae (vB (decide ((l_1.length:Int) > 500))) wz rfl (ak ?_))))))))))
 rcases au hF with⟨hc_2,hF⟩ | ⟨hc_2,hF⟩
 ·refine aB rfl hc_2 (af (aa (ae (vI 2) wz rfl (ak ?_))))
  obtain rfl:=ah hF
  exact aC (aO (.inr rfl) [(vI 2)] ⟨rfl,trivial⟩ rfl rfl rfl)
 ·refine ay rfl hc_2 (av (af (af (aa (ae (vL Post.enc l_1) wz rfl (cz un63 rfl wz (ae (vI 0) wz rfl (ak ?_))))))))
  obtain ⟨o_11,hj_12,hF⟩:=bind_some hF
  obtain ⟨hn_7,hj_12⟩:=bA hj_12
  refine aH (β:=(Unit)) (fun (s_8:Unit)=>([]:List (Nat×V))) (fun (s_8:Unit)=>([]:Hp)) (fun p=>o_11 = .go p) ?_ ?_
  ·refine aF (aV (β:=Nat×(List Post)×(Unit)) (fun p=>(fun (k_3:Nat) (l_4:List Post) (s_8:Unit)=>([(0,(vL Post.enc l_1)),(8,(vL Post.enc l_1)),(9,(vI (l_1.length:Int))),(10,(vI (k_3:Int)))]:List (Nat×V))) p.1 p.2.1 p.2.2) (fun p=>(fun (k_3:Nat) (l_4:List Post) (s_8:Unit)=>([]:Hp)) p.1 p.2.1 p.2.2) (fun p=>forR (fun k x s=>iM l_1 k x s) p.2.1 p.1 p.2.2=some o_11∧(l_1).drop p.1=p.2.1) (fun p=>p.2.1.length) (0,l_1,()) ⟨hj_12,rfl⟩ rfl (aJ rfl) ?_)
   rintro ⟨k_3,l_4,s_8⟩ ⟨hL_10,hD_6⟩
   dsimp only at hL_10 hD_6
   cases l_4 with
   | nil =>
    obtain rfl:=ah hL_10
    refine af (aa (ae (vB (decide ((k_3:Int) < (l_1.length:Int)))) wz rfl (ak ?_)))
    refine af (ay rfl (drop_nil hD_6) (aQ ?_))
    exact aR (s_8) rfl rfl (aJ rfl)
   | cons x_5 l_4 =>
    obtain ⟨c_,hc_9,hL_10⟩:=bind_some hL_10
    refine af (aa (ae (vB (decide ((k_3:Int) < (l_1.length:Int)))) wz rfl (ak ?_)))
    refine af (aB rfl (bI hD_6) (av ?_))
    unfold iM at hc_9
    refine af (aF (af (aa (ae (vI (k_3:Int)) wz rfl (dL es63 rfl rfl (bP hD_6) rfl wz (bG sz66 ag66 rfl (.d (.agg (Post.enc x_5))) rfl wz (dm 0 (.inl rfl) z66 rfl wz (fun n_13=>ae (vI (k_3:Int)) wz rfl (eY 0 il ft 0 sz66 rfl rfl [(vS x_5.Player),(vI x_5.X),(vI x_5.Y)] rfl wz (ak (aF (af (aa (aI Jv rfl 0 rfl wz (aA 0 0 il ft sz9 ag9 rfl rfl (vS x_5.Player) rfl wz ?_)))))))))))))))
    obtain ⟨r_14,hr_15,hc_9⟩:=bind_some hc_9
    refine aG (fo hr_15) rfl uA rfl rfl rfl rfl wz (ae (vB (!r_14)) wz rfl (ae (vB (!r_14)) wz rfl (ak ?_)))
    rcases au hc_9 with⟨hc_16,hc_9⟩ | ⟨hc_16,hc_9⟩
    ·refine aB rfl hc_16 (af (aa (ae (vI 5) wz rfl (ak ?_))))
     obtain rfl:=ah hc_9
     obtain rfl:=ah hL_10
     obtain rfl:=ah hF
     exact aC (aO (.inr rfl) [(vI 5)] ⟨rfl,trivial⟩ rfl rfl rfl)
    ·refine ay rfl hc_16 (af ?_)
     obtain ⟨v_17,h_18,hc_9⟩:=bind_some hc_9
     refine aH (β:=Unit) (fun _=>([(0,(vL Post.enc l_1)),(3,(vI (k_3:Int))),(4,(.ref n_13 0 0)),(8,(vL Post.enc l_1)),(9,(vI (l_1.length:Int))),(10,(vI (k_3:Int))),(20,(vB v_17))]:List (Nat×V))) (fun _=>([(n_13,some (.cells 3 [(vS x_5.Player),(vI x_5.X),(vI x_5.Y)]))]:Hp)) (fun _=>True) ?_ ?_
     ·refine aa (aI Jw rfl 1 rfl wz (aA 0 0 il ft sz3 ag3 rfl rfl (vI x_5.X) rfl wz ?_))
      obtain ⟨r_19,hr_20,h_18⟩:=bind_some h_18
      refine aG (bg hr_20) rfl qM rfl rfl rfl rfl wz ?_
      rcases au h_18 with⟨hc_21,h_18⟩ | ⟨hc_21,h_18⟩
      ·refine aD rfl hc_21 wz (aj wa (aj wa (aj wa (ae (vB true) wz rfl (ae (vB true) wz rfl (ak ?_))))))
       obtain rfl:=ah h_18
       exact cu
      ·refine aD rfl hc_21 wz (aI Js rfl 2 rfl wa (aA 0 0 il ft sz3 ag3 rfl rfl (vI x_5.Y) rfl wa ?_))
       obtain ⟨r_22,hr_23,h_18⟩:=bind_some h_18
       refine aG (bg hr_23) rfl qM rfl rfl rfl rfl wa (ae (vB r_22) wz rfl (ae (vB r_22) wz rfl (ak ?_)))
       obtain rfl:=ah h_18
       exact cu
     ·rintro ⟨⟩ _ sl_ H_ hp_ hq_
      refine aL _ hp_ hq_ ?_
      rcases au hc_9 with⟨hc_24,hc_9⟩ | ⟨hc_24,hc_9⟩
      ·refine aB rfl hc_24 (af (aa (ae (vI 1) wz rfl (ak ?_))))
       obtain rfl:=ah hc_9
       obtain rfl:=ah hL_10
       obtain rfl:=ah hF
       exact aC (aO (.inr rfl) [(vI 1)] ⟨rfl,trivial⟩ rfl rfl rfl)
      ·refine ay rfl hc_24 (af ?_)
       obtain ⟨v_25,h_26,hc_9⟩:=bind_some hc_9
       refine aH (β:=Unit) (fun _=>([(0,(vL Post.enc l_1)),(8,(vL Post.enc l_1)),(9,(vI (l_1.length:Int))),(10,(vI (k_3:Int))),(29,(vB v_25))]:List (Nat×V))) (fun _=>([(n_13,some (.cells 3 [(vS x_5.Player),(vI x_5.X),(vI x_5.Y)]))]:Hp)) (fun _=>True) ?_ ?_
       ·refine bn (ae (vI (k_3:Int)) wz rfl (ae (vB (decide ((k_3:Int) > 0))) wz rfl ?_))
        rcases au h_26 with⟨hc_27,h_26⟩ | ⟨hc_27,h_26⟩
        ·refine aD rfl hc_27 wz (aI Jv rfl 0 rfl wa (aA 4 0 (.inr (by kernel_rfl)) (fun _ _ ag=>trivial) sz9 ag9 rfl rfl (vS x_5.Player) rfl wa (ae (vL Post.enc l_1) wa rfl (ae (vI (k_3:Int)) wa rfl (ae (vI (w64 ((k_3:Int) - 1))) wa rfl ?_)))))
         obtain ⟨y_28,hy_29,h_26⟩:=bind_some h_26
         refine dL es63 rfl rfl hy_29 rfl wa (jg Jv rfl [.str y_28.Player,.int .i64 y_28.X,.int .i64 y_28.Y] rfl rfl wa (bG sz9 ag9 rfl (vS y_28.Player) rfl wa (ae (vB (sLe x_5.Player y_28.Player)) wa rfl (ae (vB (sLe x_5.Player y_28.Player)) wz rfl (ae (vB (sLe x_5.Player y_28.Player)) wz rfl (ak ?_))))))
         obtain rfl:=ah h_26
         exact cu
        ·refine aD rfl hc_27 wz (aj wa (aj wa (aj wa (aj wa (aj wa (aj wa (aj wa (aj wa (aj wa (ae (vB false) wz rfl (ae (vB false) wz rfl (ak ?_))))))))))))
         obtain rfl:=ah h_26
         exact cu
       ·rintro ⟨⟩ _ sl_ H_ hp_ hq_
        refine aL _ hp_ hq_ ?_
        rcases au hc_9 with⟨hc_30,hc_9⟩ | ⟨hc_30,hc_9⟩
        ·refine aB rfl hc_30 (af (aa (ae (vI 7) wz rfl (ak ?_))))
         obtain rfl:=ah hc_9
         obtain rfl:=ah hL_10
         obtain rfl:=ah hF
         exact aC (aO (.inr rfl) [(vI 7)] ⟨rfl,trivial⟩ rfl rfl rfl)
        ·refine ay rfl hc_30 (av (aa (fJ (bK hD_6 hn_7) wz rfl (ae (vI ((k_3 + 1:Nat):Int)) wz rfl (ak ?_)))))
         obtain rfl:=ah hc_9
         exact aP (k_3 + 1,l_4,()) ⟨hL_10,aW hD_6⟩ (Nat.lt_succ_self _) rfl (aJ rfl)
  ·rintro s_8 ho_ sl_ H_ hp_ hq_
   subst ho_
   refine aL _ hp_ hq_ (af (aa (ae (vI 0) wz rfl (ak ?_))))
   obtain rfl:=ah hF
   exact aC (aO (.inr rfl) [(vI 0)] ⟨rfl,trivial⟩ rfl rfl rfl)
theorem yG {l_1:(List Alert)} {posts_2:(List Post)} {r:Int} (hF:kI l_1 posts_2=some r) :
  FnM Tryz.prog 83 [(vL Alert.enc l_1),(vL Post.enc posts_2)] [] (vI r) []:=by
 refine FnM.of_wH ⟨Tryz.prog,13,[],[]⟩ rfl Tryz.func83 rfl rfl (Nat.le_of_ble_eq_true rfl) (by kernel_rfl) ?_
 unfold kI at hF
 refine af (aa (ae (vI 0) wz rfl (ak (af (af (aa (ae (vL Alert.enc l_1) wz rfl ?_)))))))
 obtain ⟨r_3,hr_4,hF⟩:=bind_some hF
 refine aG (wW hr_4) rfl hb161 rfl rfl rfl rfl wz (ae (vI r_3) wz rfl (ak (af (aa (ae (vI r_3) wz rfl (ae (vB (r_3 != 0)) wz rfl (ak ?_)))))))
 rcases au hF with⟨hc_5,hF⟩ | ⟨hc_5,hF⟩
 ·refine aB rfl hc_5 (af (aa (ae (vI r_3) wz rfl (ae (vI r_3) wz rfl (ak ?_)))))
  obtain rfl:=ah hF
  exact aC (aO (.inr rfl) [(vI r_3)] ⟨rfl,trivial⟩ rfl rfl rfl)
 ·refine ay rfl hc_5 (av (af (aa (ae (vL Post.enc posts_2) wz rfl ?_))))
  obtain ⟨r_6,hr_7,hF⟩:=bind_some hF
  refine aG (xS hr_7) rfl hb162 rfl rfl rfl rfl wz (ae (vI r_6) wz rfl (ak ?_))
  obtain rfl:=ah hF
  exact aC (aO (.inr rfl) [(vI r_6)] ⟨rfl,trivial⟩ rfl rfl rfl)
theorem y5 {r_1:Rect} {p_2:Post} {r:Bool} (hF:qg r_1 p_2=some r) :
  FnM Tryz.prog 183 [(.d (.agg (Rect.enc r_1))),(.ref (ax 0) 0 0)] [(.cells 3 [(vS p_2.Player),(vI p_2.X),(vI p_2.Y)])] (vB r) [some (.cells 3 [(vS p_2.Player),(vI p_2.X),(vI p_2.Y)])]:=by
 refine FnM.of_wH ⟨Tryz.prog,36,[],[]⟩ rfl Tryz.func183 rfl rfl (Nat.le_of_ble_eq_true rfl) (by kernel_rfl) ?_
 unfold qg at hF
 refine af (aa (dR 0 (.inl rfl) [(vI r_1.X),(vI r_1.Y),(vI r_1.W),(vI r_1.H)] rfl rfl wz (fun n_3=>ae (vB false) wz rfl (ak (af ?_)))))
 obtain ⟨v_4,h_5,hF⟩:=bind_some hF
 refine aH (β:=Unit) (fun _=>([(3,(vB v_4))]:List (Nat×V))) (fun _=>([((ax 0),some (.cells 3 [(vS p_2.Player),(vI p_2.X),(vI p_2.Y)])),(n_3,some (.cells 4 [(vI r_1.X),(vI r_1.Y),(vI r_1.W),(vI r_1.H)]))]:Hp)) (fun _=>True) ?_ ?_
 ·refine aa (aI Ak rfl 0 rfl wz (aA 0 1 il ft sz3 ag3 rfl rfl (vI r_1.X) rfl wz (aI Jw rfl 1 rfl wz (aA 0 0 il ft sz3 ag3 rfl rfl (vI p_2.X) rfl wz (ae (vB (decide (r_1.X≤p_2.X))) wz rfl ?_)))))
  rcases au h_5 with⟨hc_6,h_5⟩ | ⟨hc_6,h_5⟩
  ·refine aD rfl hc_6 wz (aI Jw rfl 1 rfl wa (aA 0 0 il ft sz3 ag3 rfl rfl (vI p_2.X) rfl wa (aI Ak rfl 0 rfl wa (aA 0 1 il ft sz3 ag3 rfl rfl (vI r_1.X) rfl wa (aI GJ rfl 2 rfl wa (aA 0 1 il ft sz3 ag3 rfl rfl (vI r_1.W) rfl wa (ae (vI (w64 (r_1.X + r_1.W))) wa rfl (ae (vB (decide (p_2.X < (w64 (r_1.X + r_1.W))))) wa rfl (ae (vB (decide (p_2.X < (w64 (r_1.X + r_1.W))))) wz rfl ?_)))))))))
   rcases au h_5 with⟨hc_7,h_5⟩ | ⟨hc_7,h_5⟩
   ·refine aD rfl hc_7 wz (aI wQ rfl 1 rfl wa (aA 0 1 il ft sz3 ag3 rfl rfl (vI r_1.Y) rfl wa (aI Js rfl 2 rfl wa (aA 0 0 il ft sz3 ag3 rfl rfl (vI p_2.Y) rfl wa (ae (vB (decide (r_1.Y≤p_2.Y))) wa rfl (ae (vB (decide (r_1.Y≤p_2.Y))) wz rfl ?_))))))
    rcases au h_5 with⟨hc_8,h_5⟩ | ⟨hc_8,h_5⟩
    ·refine aD rfl hc_8 wz (aI Js rfl 2 rfl wa (aA 0 0 il ft sz3 ag3 rfl rfl (vI p_2.Y) rfl wa (aI wQ rfl 1 rfl wa (aA 0 1 il ft sz3 ag3 rfl rfl (vI r_1.Y) rfl wa (aI Ed rfl 3 rfl wa (aA 0 1 il ft sz3 ag3 rfl rfl (vI r_1.H) rfl wa (ae (vI (w64 (r_1.Y + r_1.H))) wa rfl (ae (vB (decide (p_2.Y < (w64 (r_1.Y + r_1.H))))) wa rfl (ae (vB (decide (p_2.Y < (w64 (r_1.Y + r_1.H))))) wz rfl (ae (vB (decide (p_2.Y < (w64 (r_1.Y + r_1.H))))) wz rfl (ak ?_)))))))))))
     obtain rfl:=ah h_5
     exact cu
    ·refine aD rfl hc_8 wz (aj wa (aj wa (aj wa (aj wa (aj wa (aj wa (aj wa (aj wa (ae (vB false) wz rfl (ae (vB false) wz rfl (ak ?_)))))))))))
     obtain rfl:=ah h_5
     exact cu
   ·refine aD rfl hc_7 wz (aj wa (aj wa (aj wa (aj wa (aj wa (ae (vB false) wz rfl (ae (vB false) wz rfl (aj wa (aj wa (aj wa (aj wa (aj wa (aj wa (aj wa (aj wa (ae (vB false) wz rfl (ae (vB false) wz rfl (ak ?_))))))))))))))))))
    obtain rfl:=ah h_5
    exact cu
  ·refine aD rfl hc_6 wz (aj wa (aj wa (aj wa (aj wa (aj wa (aj wa (aj wa (aj wa (ae (vB false) wz rfl (ae (vB false) wz rfl (aj wa (aj wa (aj wa (aj wa (aj wa (ae (vB false) wz rfl (ae (vB false) wz rfl (aj wa (aj wa (aj wa (aj wa (aj wa (aj wa ?_)))))))))))))))))))))))
   refine aj wa (aj wa (ae (vB false) wz rfl (ae (vB false) wz rfl (ak ?_))))
   obtain rfl:=ah h_5
   exact cu
 ·rintro ⟨⟩ _ sl_ H_ hp_ hq_
  refine aL _ hp_ hq_ ?_
  obtain rfl:=ah hF
  exact aC (x8 (.inr rfl) [(vB v_4)] _ [0] [ax 0] ⟨rfl,trivial⟩ (.cons (jI rfl rfl) (.nil)) (by kernel_rfl) ⟨(by kernel_rfl),trivial⟩ (by decide) (by kernel_rfl))
theorem lZ {s_1:(List Rect)} {f_2:Rect→Option Bool} {r:Int} {gid:FuncId} {caps:List V} {Sin:List Box} (hfn:∀ x0 r,f_2 x0=some r→FnM Tryz.prog gid ([(.d (.agg (Rect.enc x0)))]++caps) Sin (vB r) (Sin.map some)) (hbF:aK Tryz.prog gid=true) (hcapF:caps.flatMap frz = []∧caps.map co0=caps) (hokF:okL Sin.length caps=true) (hsF:∀ b∈Sin,b.ok Sin.length=true) (hmF:∀ b∈Sin,b.mut=true) (hF:fP s_1 f_2=some r) :
  FnM Tryz.prog 249 [(vL Rect.enc s_1),(.fn gid caps)] Sin (vI r) (Sin.map some):=by
 refine FnM.of_wH ⟨Tryz.prog,19,[],[]⟩ rfl Tryz.func249 rfl rfl (Nat.le_of_ble_eq_true rfl) (by kernel_rfl) ?_
 unfold fP at hF
 refine af (aa (ae (vI 0) wz rfl (ak (af (af (aa (ae (vL Rect.enc s_1) wz rfl (cz Aq rfl wz (ae (vI 0) wz rfl (ak ?_))))))))))
 obtain ⟨o_11,hj_12,hF⟩:=bind_some hF
 obtain ⟨hn_7,hj_12⟩:=bA hj_12
 refine aH (β:=(Unit)) (fun (s_8:Unit)=>([]:List (Nat×V))) (fun (s_8:Unit)=>(nC 0 Sin)) (fun p=>o_11 = .go p) ?_ ?_
 ·refine aF (aV (β:=Nat×(List Rect)×(Unit)) (fun p=>(fun (k_3:Nat) (l_4:List Rect) (s_8:Unit)=>([(0,(vL Rect.enc s_1)),(1,(.fn gid caps)),(7,(vI (s_1.length:Int))),(8,(vI (k_3:Int)))]:List (Nat×V))) p.1 p.2.1 p.2.2) (fun p=>(fun (k_3:Nat) (l_4:List Rect) (s_8:Unit)=>(nC 0 Sin)) p.1 p.2.1 p.2.2) (fun p=>forR (fun k x s=>fe f_2 k x s) p.2.1 p.1 p.2.2=some o_11∧(s_1).drop p.1=p.2.1) (fun p=>p.2.1.length) (0,s_1,()) ⟨hj_12,rfl⟩ rfl (uh _) ?_)
  rintro ⟨k_3,l_4,s_8⟩ ⟨hL_10,hD_6⟩
  dsimp only at hL_10 hD_6
  cases l_4 with
  | nil =>
   obtain rfl:=ah hL_10
   refine af (aa (ae (vB (decide ((k_3:Int) < (s_1.length:Int)))) wz rfl (ak ?_)))
   refine af (ay rfl (drop_nil hD_6) (aQ ?_))
   exact aR (s_8) rfl rfl (uh _)
  | cons x_5 l_4 =>
   obtain ⟨c_,hc_9,hL_10⟩:=bind_some hL_10
   refine af (aa (ae (vB (decide ((k_3:Int) < (s_1.length:Int)))) wz rfl (ak ?_)))
   refine af (aB rfl (bI hD_6) (av ?_))
   unfold fe at hc_9
   refine af (aF (af (aa (ae (vI (k_3:Int)) wz rfl (ae (vI (k_3:Int)) wz rfl (ak (af (aa (ae (.fn gid caps) wz rfl (ae (vL Rect.enc s_1) wz rfl (ae (vI (k_3:Int)) wz rfl (dL Gz rfl rfl (bP hD_6) rfl wz (bG wI Hr rfl (.d (.agg (Rect.enc x_5))) rfl wz ?_)))))))))))))
   obtain ⟨r_13,hr_14,hc_9⟩:=bind_some hc_9
   refine F6 (hfn _ _ hr_14) rfl hbF rfl rfl hcapF hokF hsF hmF rfl wz rfl (ak ?_)
   rcases au hc_9 with⟨hc_15,hc_9⟩ | ⟨hc_15,hc_9⟩
   ·refine aB rfl hc_15 (af (aa (ae (vI (k_3:Int)) wz rfl (ae (vI (k_3:Int)) wz rfl (ak ?_)))))
    obtain rfl:=ah hc_9
    obtain rfl:=ah hL_10
    obtain rfl:=ah hF
    exact aC (Ls hsF (.inr rfl) [(vI (k_3:Int))] ⟨rfl,trivial⟩ rfl rfl rfl)
   ·refine ay rfl hc_15 (av (aa (fJ (bK hD_6 hn_7) wz rfl (ae (vI ((k_3 + 1:Nat):Int)) wz rfl (ak ?_)))))
    obtain rfl:=ah hc_9
    exact aP (k_3 + 1,l_4,()) ⟨hL_10,aW hD_6⟩ (Nat.lt_succ_self _) rfl (uh _)
 ·rintro s_8 ho_ sl_ H_ hp_ hq_
  subst ho_
  refine aL _ hp_ hq_ (af (aa (ae (vI (-1)) wz rfl (ak ?_))))
  obtain rfl:=ah hF
  exact aC (Ls hsF (.inr rfl) [(vI (-1))] ⟨rfl,trivial⟩ rfl rfl rfl)
theorem kQ {s_1:(List Rect)} {f_2:Rect→Option Bool} {r:Bool} {gid:FuncId} {caps:List V} {Sin:List Box} (hfn:∀ x0 r,f_2 x0=some r→FnM Tryz.prog gid ([(.d (.agg (Rect.enc x0)))]++caps) Sin (vB r) (Sin.map some)) (hbF:aK Tryz.prog gid=true) (hcapF:caps.flatMap frz = []∧caps.map co0=caps) (hokF:okL Sin.length caps=true) (hsF:∀ b∈Sin,b.ok Sin.length=true) (hmF:∀ b∈Sin,b.mut=true) (hF:fq s_1 f_2=some r) :
  FnM Tryz.prog 182 [(vL Rect.enc s_1),(.fn gid caps)] Sin (vB r) (Sin.map some):=by
 refine FnM.of_wH ⟨Tryz.prog,9,[],[]⟩ rfl Tryz.func182 rfl rfl (Nat.le_of_ble_eq_true rfl) (by kernel_rfl) ?_
 unfold fq at hF
 refine af (aa (ae (vB false) wz rfl (ak (af (aa (ae (vL Rect.enc s_1) wz rfl (ae (.fn gid caps) wz rfl ?_)))))))
 obtain ⟨r_3,hr_4,hF⟩:=bind_some hF
 refine F6 (lZ (gid:=gid) (caps:=caps) (Sin:=Sin) hfn hbF hcapF hokF hsF hmF hr_4) rfl hb249 rfl rfl ⟨rfl,rfl⟩ (by simp [okL,okV,hokF]) hsF hmF rfl wz rfl (ae (vB (decide (r_3≥0))) wz rfl (ae (vB (decide (r_3≥0))) wz rfl (ak ?_)))
 obtain rfl:=ah hF
 exact aC (Ls hsF (.inr rfl) [(vB (decide (r_3≥0)))] ⟨rfl,trivial⟩ rfl rfl rfl)
theorem Ba {a_1:Alert} {p_2:Post} {r:Bool} (hF:o7 a_1 p_2=some r) :
  FnM Tryz.prog 109 [(.d (.agg (Alert.enc a_1))),(.d (.agg (Post.enc p_2)))] [] (vB r) []:=by
 refine FnM.of_wH ⟨Tryz.prog,9,[],[]⟩ rfl Tryz.func109 rfl rfl (Nat.le_of_ble_eq_true rfl) (by kernel_rfl) ?_
 unfold o7 at hF
 refine af (aa (dR 0 (.inl rfl) [(vS a_1.Id),(vS a_1.Sender),(vI a_1.Kind),(vL eS a_1.Refs),(vI a_1.At),(vI a_1.Until),(vI a_1.Weight),(vL Rect.enc a_1.Areas),(vS a_1.Text)] rfl rfl wz (fun n_3=>dR 0 (.inl rfl) [(vS p_2.Player),(vI p_2.X),(vI p_2.Y)] rfl rfl wz (fun n_4=>ae (vB false) wz rfl (ak (af (aa (aI Cb rfl 7 rfl wz (aA 0 0 il ft K8 Lc rfl rfl (vL Rect.enc a_1.Areas) rfl wz (ae (.fn 183 [(.ref n_4 0 0)]) wz rfl ?_))))))))))
 obtain ⟨r_5,hr_6,hF⟩:=bind_some hF
 refine eO 0 [1] il ft (kQ (gid:=183) (caps := [.ref (ax 0) 0 0]) (Sin := [(.cells 3 [(vS p_2.Player),(vI p_2.X),(vI p_2.Y)])]) (fun _ _ h_=>y5 h_) hb183 ⟨rfl,rfl⟩ (by kernel_rfl) (MO (by kernel_rfl)) (JY (by kernel_rfl)) hr_6) rfl hb182 rfl (by kernel_rfl) (by kernel_rfl) (by kernel_rfl) (by kernel_rfl) (by kernel_rfl) (by kernel_rfl) (by kernel_rfl) (by decide) (by kernel_rfl) wz (vB r_5) (by kernel_rfl) ([(n_3,some (.cells 9 [(vS a_1.Id),(vS a_1.Sender),(vI a_1.Kind),(vL eS a_1.Refs),(vI a_1.At),(vI a_1.Until),(vI a_1.Weight),(vL Rect.enc a_1.Areas),(vS a_1.Text)])),(n_4,some (.cells 3 [(vS p_2.Player),(vI p_2.X),(vI p_2.Y)]))]:Hp) (by kernel_rfl) (ae (vB r_5) wz rfl (ak ?_))
 obtain rfl:=ah hF
 exact aC (aO (.inr rfl) [(vB r_5)] ⟨rfl,trivial⟩ rfl rfl rfl)
theorem Am {a_1:Alert} {p_2:Post} {r:Bool×Int} (hF:mK a_1 p_2=some r) :
  FnM Tryz.prog 45 [(.d (.agg (Alert.enc a_1))),(.d (.agg (Post.enc p_2)))] [] (.tup [(vB r.1),(vI r.2)]) []:=by
 refine FnM.of_wH ⟨Tryz.prog,18,[],[]⟩ rfl Tryz.func45 rfl rfl (Nat.le_of_ble_eq_true rfl) (by kernel_rfl) ?_
 unfold mK at hF
 refine af (aa (dR 0 (.inl rfl) [(vS a_1.Id),(vS a_1.Sender),(vI a_1.Kind),(vL eS a_1.Refs),(vI a_1.At),(vI a_1.Until),(vI a_1.Weight),(vL Rect.enc a_1.Areas),(vS a_1.Text)] rfl rfl wz (fun n_3=>dR 0 (.inl rfl) [(vS p_2.Player),(vI p_2.X),(vI p_2.Y)] rfl rfl wz (fun n_4=>ae (vB false) wz rfl (ae (vI 0) wz rfl (ak (af (af (aa (aA 0 0 il ft vT zL rfl rfl (.d (.agg (Alert.enc a_1))) rfl wz (eG (([a_1]:List Alert).map Alert.enc) es56 ez56 rfl rfl rfl rfl rfl wz (aA 0 1 il ft sz66 ag66 rfl rfl (.d (.agg (Post.enc p_2))) rfl wz (eG (([p_2]:List Post).map Post.enc) es63 ez63 rfl rfl rfl rfl rfl wz ?_)))))))))))))
 obtain ⟨r_5,hr_6,hF⟩:=bind_some hF
 refine aG (yG hr_6) rfl hb83 rfl rfl rfl rfl wz (ae (vI r_5) wz rfl (ak (af (aa (ae (vI r_5) wz rfl (ae (vB (r_5 != 0)) wz rfl (ak ?_)))))))
 rcases au hF with⟨hc_7,hF⟩ | ⟨hc_7,hF⟩
 ·refine aB rfl hc_7 (af (aa (ae (vI r_5) wz rfl (ae (vB false) wz rfl (ae (vI r_5) wz rfl (ak ?_))))))
  obtain rfl:=ah hF
  exact aC (aO (.inr rfl) [(vB false),(vI r_5)] ⟨rfl,⟨rfl,trivial⟩⟩ rfl rfl rfl)
 ·refine ay rfl hc_7 (av (af (aa (aA 0 0 il ft vT zL rfl rfl (.d (.agg (Alert.enc a_1))) rfl wz (aA 0 1 il ft sz66 ag66 rfl rfl (.d (.agg (Post.enc p_2))) rfl wz ?_)))))
  obtain ⟨r_8,hr_9,hF⟩:=bind_some hF
  refine aG (Ba hr_9) rfl hb109 rfl rfl rfl rfl wz (ae (vB r_8) wz rfl (ae (vI 0) wz rfl (ak ?_)))
  obtain rfl:=ah hF
  exact aC (aO (.inr rfl) [(vB r_8),(vI 0)] ⟨rfl,⟨rfl,trivial⟩⟩ rfl rfl rfl)
theorem Ep {r:Bool} (hF:oF  = some r) :
  FnM Tryz.prog 17 [] [] (vB r) []:=by
 refine FnM.of_wH ⟨Tryz.prog,75,[],[]⟩ rfl Tryz.func17 rfl rfl (Nat.le_of_ble_eq_true rfl) (by kernel_rfl) ?_
 unfold oF at hF
 refine af (aa (ae (vB false) wz rfl (ak (af (aa (ae (.d (.agg (Rect.enc (⟨0,0,2,2⟩:Rect)))) wz (by kernel_rfl) (ae (.d (.agg (Rect.enc (⟨1,1,2,2⟩:Rect)))) wz (by kernel_rfl) (eG (([(⟨0,0,2,2⟩:Rect),(⟨1,1,2,2⟩:Rect)]:List Rect).map Rect.enc) Gz ez98 rfl rfl rfl rfl rfl wz ?_))))))))
 obtain ⟨r_1,hr_2,hF⟩:=bind_some hF
 refine aG (Co hr_2) rfl hb77 rfl rfl rfl rfl wz (ae (.tup [(vI r_1.1),(vI r_1.2)]) wz rfl (ae (vI r_1.1) wz rfl (ae (vI r_1.2) wz rfl (ae (vI r_1.1) wz rfl (ae (vI r_1.2) wz rfl (ak (af (aa (ae (.agg [(vS (⟨#[97]⟩:ByteArray)),(vS (⟨#[98]⟩:ByteArray)),(vI 0),(vI 0),(vI 0),(vI 1),(vI 127),.nil,(vI 1),(vI 2),(vI 0),.nil,(vB false)]) wz (by kernel_rfl) (ae (.d (.agg (Window.enc (⟨0,86400000⟩:Window)))) wz (by kernel_rfl) ?_))))))))))
 obtain ⟨r_3,hr_4,hF⟩:=bind_some hF
 refine aG (zQ hr_4) rfl hb78 rfl rfl rfl rfl wz (ae (.tup [(vL Window.enc r_3.1),(vI r_3.2)]) wz rfl (ae (vL Window.enc r_3.1) wz rfl (ae (vI r_3.2) wz rfl (ae (vL Window.enc r_3.1) wz rfl (ae (vI r_3.2) wz rfl (ak (af (aa (ae (.d (.agg (Window.enc (⟨0,100⟩:Window)))) wz (by kernel_rfl) (ae (.agg [(vS (⟨#[97]⟩:ByteArray)),(vS (⟨#[]⟩:ByteArray)),(vI 0),(vI 100),.nil,(vI 10),(vI 0),(vI 0)]) wz (by kernel_rfl) ?_))))))))))
 obtain ⟨r_5,hr_6,hF⟩:=bind_some hF
 refine aG (Cx hr_6) rfl hb79 rfl rfl rfl rfl wz (ae (.tup [(vI r_5.1),(vI r_5.2)]) wz rfl (ae (vI r_5.1) wz rfl (ae (vI r_5.2) wz rfl (ae (vI r_5.1) wz rfl (ae (vI r_5.2) wz rfl (ak (af (aa (ae (.d (.agg (Beat.enc (⟨(⟨#[112]⟩:ByteArray),0,100⟩:Beat)))) wz (by kernel_rfl) (ae (.d (.agg (Beat.enc (⟨(⟨#[112]⟩:ByteArray),1000,1300⟩:Beat)))) wz (by kernel_rfl) (eG (([(⟨(⟨#[112]⟩:ByteArray),0,100⟩:Beat),(⟨(⟨#[112]⟩:ByteArray),1000,1300⟩:Beat)]:List Beat).map Beat.enc) Fx ez158 rfl rfl rfl rfl rfl wz ?_)))))))))))
 obtain ⟨r_7,hr_8,hF⟩:=bind_some hF
 refine aG (Dk hr_8) rfl hb80 rfl rfl rfl rfl wz (ae (.tup [(vI r_7.1),(vI r_7.2)]) wz rfl (ae (vI r_7.1) wz rfl (ae (vI r_7.2) wz rfl (ae (vI r_7.1) wz rfl (ae (vI r_7.2) wz rfl (ak (aL (H0:=([]:Hp)) ([(1,(vI r_1.1)),(2,(vI r_1.2)),(3,(vL Window.enc r_3.1)),(4,(vI r_3.2)),(5,(vI r_5.1)),(6,(vI r_5.2)),(7,(vI r_7.1)),(8,(vI r_7.2))]:List (Nat×V)) (by kernel_rfl) (tq (by kernel_rfl)) (af (aa (ae (.d (.agg (Rect.enc (⟨0,0,2,2⟩:Rect)))) wz (by kernel_rfl) (eG (([(⟨0,0,2,2⟩:Rect)]:List Rect).map Rect.enc) Gz ez98 rfl rfl rfl rfl rfl wz (ae (.agg [(vS (⟨#[97]⟩:ByteArray)),(vS (⟨#[115]⟩:ByteArray)),(vI 1),.nil,(vI 0),(vI 5),(vI 1),(vL Rect.enc ([(⟨0,0,2,2⟩:Rect)]:List Rect)),(vS (⟨#[120]⟩:ByteArray))]) wz (by kernel_rfl) (dm 0 (.inl rfl) z100 rfl wz (fun n_9=>eY 0 il ft 0 vT rfl rfl [(vS (⟨#[97]⟩:ByteArray)),(vS (⟨#[115]⟩:ByteArray)),(vI 1),.nil,(vI 0),(vI 5),(vI 1),(vL Rect.enc ([(⟨0,0,2,2⟩:Rect)]:List Rect)),(vS (⟨#[120]⟩:ByteArray))] rfl wz (ak (af (aa (aA 0 0 il ft vT zL rfl rfl (.agg [(vS (⟨#[97]⟩:ByteArray)),(vS (⟨#[115]⟩:ByteArray)),(vI 1),.nil,(vI 0),(vI 5),(vI 1),(vL Rect.enc ([(⟨0,0,2,2⟩:Rect)]:List Rect)),(vS (⟨#[120]⟩:ByteArray))]) rfl wz (ae (.d (.agg (Post.enc (⟨(⟨#[112]⟩:ByteArray),1,1⟩:Post)))) wz (by kernel_rfl) ?_)))))))))))))))))))
 obtain ⟨r_10,hr_11,hF⟩:=bind_some hF
 refine aG (Am hr_11) rfl hb45 rfl rfl rfl rfl wz (ae (.tup [(vB r_10.1),(vI r_10.2)]) wz rfl (ae (vB r_10.1) wz rfl (ae (vI r_10.2) wz rfl (ae (vB r_10.1) wz rfl (ae (vI r_10.2) wz rfl (ak (af ?_)))))))
 obtain ⟨v_12,h_13,hF⟩:=bind_some hF
 refine aH (β:=Unit) (fun _=>([(0,(vB v_12))]:List (Nat×V))) (fun _=>([(n_9,some (.cells 9 [(vS (⟨#[97]⟩:ByteArray)),(vS (⟨#[115]⟩:ByteArray)),(vI 1),.nil,(vI 0),(vI 5),(vI 1),(vL Rect.enc ([(⟨0,0,2,2⟩:Rect)]:List Rect)),(vS (⟨#[120]⟩:ByteArray))]))]:Hp)) (fun _=>True) ?_ ?_
 ·refine aa (ae (vI r_1.2) wz rfl (ae (vI r_3.2) wz rfl (ae (vI r_5.2) wz rfl (ae (vI r_7.2) wz rfl (ae (vI r_10.2) wz rfl (eG (([r_1.2,r_3.2,r_5.2,r_7.2,r_10.2]:List Int).map eI) M0 ez140 rfl rfl rfl rfl rfl wz ?_))))))
  obtain ⟨r_14,hr_15,h_13⟩:=bind_some h_13
  refine aG (zk hr_15) rfl hb14 rfl rfl rfl rfl wz (ae (vB (r_14 == 0)) wz rfl ?_)
  rcases au h_13 with⟨hc_16,h_13⟩ | ⟨hc_16,h_13⟩
  ·refine aD rfl hc_16 wz (ae (vI r_1.1) wa rfl (ae (vB (r_1.1 == 7)) wa rfl (ae (vB (r_1.1 == 7)) wz rfl ?_)))
   rcases au h_13 with⟨hc_17,h_13⟩ | ⟨hc_17,h_13⟩
   ·refine aD rfl hc_17 wz (ae (vL Window.enc r_3.1) wa rfl (cz J4 rfl wa (ae (vB ((r_3.1.length:Int) == 1)) wa rfl (ae (vB ((r_3.1.length:Int) == 1)) wz rfl ?_))))
    rcases au h_13 with⟨hc_18,h_13⟩ | ⟨hc_18,h_13⟩
    ·refine aD rfl hc_18 wz (ae (vI r_5.1) wa rfl (ae (vB (r_5.1 == 5)) wa rfl (ae (vB (r_5.1 == 5)) wz rfl ?_)))
     rcases au h_13 with⟨hc_19,h_13⟩ | ⟨hc_19,h_13⟩
     ·refine aD rfl hc_19 wz (ae (vI r_7.1) wa rfl (ae (vB (r_7.1 == 500)) wa rfl (ae (vB (r_7.1 == 500)) wz rfl ?_)))
      rcases au h_13 with⟨hc_20,h_13⟩ | ⟨hc_20,h_13⟩
      ·refine aD rfl hc_20 wz (ae (vB r_10.1) wa rfl (ae (vB r_10.1) wz rfl (ae (vB r_10.1) wz rfl (ak ?_))))
       obtain rfl:=ah h_13
       exact cu
      ·refine aD rfl hc_20 wz (aj wa (ae (vB false) wz rfl (ae (vB false) wz rfl (ak ?_))))
       obtain rfl:=ah h_13
       exact cu
     ·refine aD rfl hc_19 wz (aj wa (aj wa (ae (vB false) wz rfl (ae (vB false) wz rfl (aj wa (ae (vB false) wz rfl (ae (vB false) wz rfl (ak ?_))))))))
      obtain rfl:=ah h_13
      exact cu
    ·refine aD rfl hc_18 wz (aj wa (aj wa (ae (vB false) wz rfl (ae (vB false) wz rfl (aj wa (aj wa (ae (vB false) wz rfl (ae (vB false) wz rfl (aj wa (ae (vB false) wz rfl (ae (vB false) wz rfl (ak ?_))))))))))))
     obtain rfl:=ah h_13
     exact cu
   ·refine aD rfl hc_17 wz (aj wa (aj wa (aj wa (ae (vB false) wz rfl (ae (vB false) wz rfl (aj wa (aj wa (ae (vB false) wz rfl (ae (vB false) wz rfl (aj wa (aj wa (ae (vB false) wz rfl (ae (vB false) wz rfl (aj wa (ae (vB false) wz rfl (ae (vB false) wz rfl (ak ?_)))))))))))))))))
    obtain rfl:=ah h_13
    exact cu
  ·refine aD rfl hc_16 wz (aj wa (aj wa (ae (vB false) wz rfl (ae (vB false) wz rfl (aj wa (aj wa (aj wa (ae (vB false) wz rfl (ae (vB false) wz rfl (aj wa (aj wa (ae (vB false) wz rfl (ae (vB false) wz rfl (aj wa (aj wa (ae (vB false) wz rfl (ae (vB false) wz rfl (aj wa (ae (vB false) wz rfl (ae (vB false) wz rfl (ak ?_)))))))))))))))))))))
   obtain rfl:=ah h_13
   exact cu
 ·rintro ⟨⟩ _ sl_ H_ hp_ hq_
  refine aL _ hp_ hq_ ?_
  obtain rfl:=ah hF
  exact aC (aO (.inr rfl) [(vB v_12)] ⟨rfl,trivial⟩ rfl rfl rfl)
end Go.Proofs.YtjhcehhmdmbleaaGreatDoor.Law

