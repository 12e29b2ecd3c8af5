/-
 The machine computes these plain functions (written by a program of ours).
-/
import Derived.Test.YtjhcehhmdmbleaaGreatDoorFacts
import Derived.Test.YtjhcehhmdmbleaaGreatDoorDefs
import Derived.Test.YtjhcehhmdmbleaaGreatDoorPf2
import Derived.Test.YtjhcehhmdmbleaaGreatDoorShelf
open Go Go.Eng Go.Proofs
namespace Go.Proofs.YtjhcehhmdmbleaaGreatDoor.Law
set_option maxRecDepth 100000
set_option linter.unusedVariables false
set_option maxHeartbeats 1000000
theorem zI {s_1:ByteArray} {r:Bool} (hF:kL s_1=some r) :
  FnM Tryz.prog 269 [(vS s_1)] [] (vB r) []:=by
 refine FnM.of_wH ⟨Tryz.prog,33,[],[]⟩ rfl Tryz.func269 rfl rfl (Nat.le_of_ble_eq_true rfl) (by kernel_rfl) ?_
 unfold kL at hF
 refine af (aa (ae (vB false) wz rfl (ai (af (af (aa (ae (vI 0) wz rfl (ai ?_))))))))
 obtain ⟨o_10,hj_11,hF⟩:=bind_some hF
 obtain ⟨nq_31,hj_11⟩:=eu hj_11
 refine aC (β:=(Int)) (fun (s_7:Int)=>([(0,(vS s_1))]:List (Nat×V))) (fun (s_7:Int)=>([]:Hp)) (fun p=>o_10 = .go p) ?_ ?_
 ·refine aA (aV (β:=Nat×(Int)) (fun p=>(fun (k_2:Nat) (s_7:Int)=>([(0,(vS s_1)),(3,(vI s_7))]:List (Nat×V))) p.1 p.2) (fun p=>(fun (k_2:Nat) (s_7:Int)=>([]:Hp)) p.1 p.2) (fun p=>iterN (fun s=>mh s_1 s) p.1 p.2=some o_10) (fun p=>p.1) (nq_31,0) hj_11 rfl (aJ rfl) ?_)
  rintro ⟨k_2,s_7⟩ hL_9
  dsimp only at hL_9
  cases k_2 with
  | zero=>cases hL_9
  | succ k_2 =>
   obtain ⟨c_,hc_8,hL_9⟩:=bind_some hL_9
   unfold mh at hc_8
   refine af (af (aa (ae (vI s_7) wz rfl (ae (vS s_1) wz rfl (nQ un9 rfl wz (ae (vB (decide (s_7 < (s_1.size:Int)))) wz rfl (ai ?_)))))))
   rcases ak hc_8 with⟨hc_12,hc_8⟩ | ⟨hc_12,hc_8⟩
   ·refine aB rfl hc_12 (av (af (aA (af ?_))))
    obtain ⟨v_13,h_14,hc_8⟩:=bind_some hc_8
    refine aC (β:=Unit) (fun _=>([(0,(vS s_1)),(3,(vI s_7)),(19,(vB v_13))]:List (Nat×V))) (fun _=>([]:Hp)) (fun _=>True) ?_ ?_
    ·refine aa (ae (vS s_1) wz rfl (ae (vI s_7) wz rfl ?_))
     obtain ⟨b_15,hy_16,h_14⟩:=bind_some h_14
     refine pY un9 rfl rfl hy_16 wz (ae (vB (decide ((b_15.toNat:Int) < 32))) wz rfl ?_)
     rcases ak h_14 with⟨hc_17,h_14⟩ | ⟨hc_17,h_14⟩
     ·refine aD rfl hc_17 wz (aj wa (aj wa (aj wa (aj wa (ae (vB true) wz rfl (ai ?_))))))
      obtain rfl:=ah h_14
      exact cu
     ·refine aD rfl hc_17 wz (ae (vS s_1) wa rfl (ae (vI s_7) wa rfl ?_))
      obtain ⟨b_18,hy_19,h_14⟩:=bind_some h_14
      refine pY un9 rfl rfl hy_19 wa (ae (vB ((b_18.toNat:Int) == 127)) wa rfl (ae (vB ((b_18.toNat:Int) == 127)) wz rfl (ai ?_)))
      obtain rfl:=ah h_14
      exact cu
    ·rintro ⟨⟩ _ sl_ H_ hp_ hq_
     refine aL _ hp_ hq_ ?_
     rcases ak hc_8 with⟨hc_20,hc_8⟩ | ⟨hc_20,hc_8⟩
     ·refine aB rfl hc_20 (af (aa (ae (vB false) wz rfl (ai ?_))))
      obtain rfl:=ah hc_8
      obtain rfl:=ah hL_9
      obtain rfl:=ah hF
      exact ay (aO (.inr rfl) [(vB false)] ⟨rfl,trivial⟩ rfl rfl rfl)
     ·refine ax rfl hc_20 (av (aa (ae (vI s_7) wz rfl (ae (vI (w64 (s_7 + 1))) wz rfl (ae (vI (w64 (s_7 + 1))) wz rfl (ai ?_))))))
      obtain rfl:=ah hc_8
      exact aY (k_2,(w64 (s_7 + 1))) hL_9 (Nat.lt_succ_self _) rfl (aJ rfl)
   ·refine ax rfl hc_12 (aX ?_)
    obtain rfl:=ah hc_8
    obtain rfl:=ah hL_9
    exact aU (s_7) rfl rfl (aJ rfl)
 ·rintro s_7 ho_ sl_ H_ hp_ hq_
  subst ho_
  refine aL _ hp_ hq_ (af ?_)
  obtain ⟨v_21,h_22,hF⟩:=bind_some hF
  refine aC (β:=Unit) (fun _=>([(2,(vB v_21))]:List (Nat×V))) (fun _=>([]:Hp)) (fun _=>True) ?_ ?_
  ·refine aa (ae (vS s_1) wz rfl ?_)
   obtain ⟨r_23,hr_24,h_22⟩:=bind_some h_22
   refine aH (ku hr_24) rfl hb208 rfl rfl rfl rfl wz ?_
   rcases ak h_22 with⟨hc_25,h_22⟩ | ⟨hc_25,h_22⟩
   ·refine aD rfl hc_25 wz (ae (vS s_1) wa rfl ?_)
    obtain ⟨r_26,hr_27,h_22⟩:=bind_some h_22
    refine aH (rV hr_27) rfl hb211 rfl rfl rfl rfl wa (ae (vS s_1) wa rfl (ae (vB (sEq r_26 s_1)) wa rfl (ae (vB (sEq r_26 s_1)) wz rfl ?_)))
    rcases ak h_22 with⟨hc_28,h_22⟩ | ⟨hc_28,h_22⟩
    ·refine aD rfl hc_28 wz (ae (vS s_1) wa rfl ?_)
     obtain ⟨r_29,hr_30,h_22⟩:=bind_some h_22
     refine aH (nZ hr_30) rfl hb212 rfl rfl rfl rfl wa (ae (vB (!r_29)) wa rfl (ae (vB (!r_29)) wz rfl (ae (vB (!r_29)) wz rfl (ai ?_))))
     obtain rfl:=ah h_22
     exact cu
    ·refine aD rfl hc_28 wz (aj wa (aj wa (aj wa (ae (vB false) wz rfl (ae (vB false) wz rfl (ai ?_))))))
     obtain rfl:=ah h_22
     exact cu
   ·refine aD rfl hc_25 wz (aj wa (aj wa (aj wa (aj wa (ae (vB false) wz rfl (ae (vB false) wz rfl (aj wa (aj wa (aj wa (ae (vB false) wz rfl (ae (vB false) wz rfl (ai ?_))))))))))))
    obtain rfl:=ah h_22
    exact cu
  ·rintro ⟨⟩ _ sl_ H_ hp_ hq_
   refine aL _ hp_ hq_ ?_
   obtain rfl:=ah hF
   exact ay (aO (.inr rfl) [(vB v_21)] ⟨rfl,trivial⟩ rfl rfl rfl)
theorem uF {a_1:Alert} {r:Int} (hF:gD a_1=some r) :
  FnM Tryz.prog 205 [(.d (.agg (Alert.enc a_1)))] [] (vI r) []:=by
 refine FnM.of_wH ⟨Tryz.prog,92,[],[]⟩ rfl Tryz.func205 rfl rfl (Nat.le_of_ble_eq_true rfl) (by kernel_rfl) ?_
 unfold gD at hF
 refine af (aa (eD 0 (.inl rfl) [(vS a_1.Id),(vS a_1.Sender),(vI a_1.Kind),(vL eS a_1.Refs),(vI a_1.At),(vI a_1.Until),(vI a_1.Weight),(vL Rect.enc a_1.Areas),(vS a_1.Text)] rfl rfl wz (fun n_2=>ae (vI 0) wz rfl (ai (af (af ?_))))))
 obtain ⟨v_3,h_4,hF⟩:=bind_some hF
 refine aC (β:=Unit) (fun _=>([(1,(.ref n_2 0 0)),(17,(vB v_3))]:List (Nat×V))) (fun _=>([(n_2,some (.cells 9 [(vS a_1.Id),(vS a_1.Sender),(vI a_1.Kind),(vL eS a_1.Refs),(vI a_1.At),(vI a_1.Until),(vI a_1.Weight),(vL Rect.enc a_1.Areas),(vS a_1.Text)]))]:Hp)) (fun _=>True) ?_ ?_
 ·refine aa (aG eT rfl 0 rfl wz (aF 0 0 il ft sz9 ag9 rfl rfl (vS a_1.Id) rfl wz ?_))
  obtain ⟨r_5,hr_6,h_4⟩:=bind_some h_4
  refine aH (oh hr_6) rfl GV rfl rfl rfl rfl wz (ae (vB (!r_5)) wz rfl ?_)
  rcases ak h_4 with⟨hc_7,h_4⟩ | ⟨hc_7,h_4⟩
  ·refine aD rfl hc_7 wz (aj wa (aj wa (aj wa (aj wa (ae (vB true) wz rfl (ai ?_))))))
   obtain rfl:=ah h_4
   exact cu
  ·refine aD rfl hc_7 wz (aG rF rfl 1 rfl wa (aF 0 0 il ft sz9 ag9 rfl rfl (vS a_1.Sender) rfl wa ?_))
   obtain ⟨r_8,hr_9,h_4⟩:=bind_some h_4
   refine aH (oh hr_9) rfl GV rfl rfl rfl rfl wa (ae (vB (!r_8)) wa rfl (ae (vB (!r_8)) wz rfl (ai ?_)))
   obtain rfl:=ah h_4
   exact cu
 ·rintro ⟨⟩ _ sl_ H_ hp_ hq_
  refine aL _ hp_ hq_ ?_
  rcases ak hF with⟨hc_10,hF⟩ | ⟨hc_10,hF⟩
  ·refine aB rfl hc_10 (af (aa (ae (vI 5) wz rfl (ai ?_))))
   obtain rfl:=ah hF
   exact ay (aO (.inr rfl) [(vI 5)] ⟨rfl,trivial⟩ rfl rfl rfl)
  ·refine ax rfl hc_10 (av (af (af (aa (aG lL rfl 2 rfl wz (aF 0 0 il ft sz3 ag3 rfl rfl (vI a_1.Kind) rfl wz ?_))))))
   obtain ⟨r_11,hr_12,hF⟩:=bind_some hF
   refine aH (fe hr_12) rfl A9 rfl rfl rfl rfl wz (ai ?_)
   rcases ak hF with⟨hc_13,hF⟩ | ⟨hc_13,hF⟩
   ·refine aB rfl hc_13 (af (aa (ae (vI 4) wz rfl (ai ?_))))
    obtain rfl:=ah hF
    exact ay (aO (.inr rfl) [(vI 4)] ⟨rfl,trivial⟩ rfl rfl rfl)
   ·refine ax rfl hc_13 (av (af (af (aa (aF 0 0 il ft bB dS rfl rfl (.d (.agg (Alert.enc a_1))) rfl wz ?_)))))
    obtain ⟨r_14,hr_15,hF⟩:=bind_some hF
    refine aH (uW hr_15) rfl hb268 rfl rfl rfl rfl wz (ae (vI r_14) wz rfl (ai (af (aa (ae (vI r_14) wz rfl (ae (vB (r_14 != 0)) wz rfl (ai ?_)))))))
    rcases ak hF with⟨hc_16,hF⟩ | ⟨hc_16,hF⟩
    ·refine aB rfl hc_16 (af (aa (ae (vI r_14) wz rfl (ae (vI r_14) wz rfl (ai ?_)))))
     obtain rfl:=ah hF
     exact ay (aO (.inr rfl) [(vI r_14)] ⟨rfl,trivial⟩ rfl rfl rfl)
    ·refine ax rfl hc_16 (av (af (af ?_)))
     obtain ⟨v_17,h_18,hF⟩:=bind_some hF
     refine aC (β:=Unit) (fun _=>([(1,(.ref n_2 0 0)),(45,(vB v_17))]:List (Nat×V))) (fun _=>([(n_2,some (.cells 9 [(vS a_1.Id),(vS a_1.Sender),(vI a_1.Kind),(vL eS a_1.Refs),(vI a_1.At),(vI a_1.Until),(vI a_1.Weight),(vL Rect.enc a_1.Areas),(vS a_1.Text)]))]:Hp)) (fun _=>True) ?_ ?_
     ·refine aa (aG dZ rfl 4 rfl wz (aF 0 0 il ft sz3 ag3 rfl rfl (vI a_1.At) rfl wz ?_))
      obtain ⟨r_19,hr_20,h_18⟩:=bind_some h_18
      refine aH (yB hr_20) rfl hb101 rfl rfl rfl rfl wz (ae (vB (!r_19)) wz rfl ?_)
      rcases ak h_18 with⟨hc_21,h_18⟩ | ⟨hc_21,h_18⟩
      ·refine aD rfl hc_21 wz (aj wa (aj wa (aj wa (aj wa (aj wa (aj wa (aj wa (aj wa (aj wa (ae (vB true) wz rfl (ae (vB true) wz rfl (aj wa (aj wa (aj wa (ae (vB true) wz rfl (ai ?_))))))))))))))))
       obtain rfl:=ah h_18
       exact cu
      ·refine aD rfl hc_21 wz (aG rJ rfl 5 rfl wa (aF 0 0 il ft sz3 ag3 rfl rfl (vI a_1.Until) rfl wa (aG dZ rfl 4 rfl wa (aF 0 0 il ft sz3 ag3 rfl rfl (vI a_1.At) rfl wa (ae (vI (w64 (a_1.At + 1))) wa rfl (aG dZ rfl 4 rfl wa (aF 0 0 il ft sz3 ag3 rfl rfl (vI a_1.At) rfl wa (ae (vI (w64 (a_1.At + 2592000000))) wa rfl ?_))))))))
       obtain ⟨r_22,hr_23,h_18⟩:=bind_some h_18
       refine aH (fe hr_23) rfl A9 rfl rfl rfl rfl wa (ae (vB r_22) wz rfl ?_)
       rcases ak h_18 with⟨hc_24,h_18⟩ | ⟨hc_24,h_18⟩
       ·refine aD rfl hc_24 wz (aj wa (aj wa (aj wa (ae (vB true) wz rfl (ai ?_)))))
        obtain rfl:=ah h_18
        exact cu
       ·refine aD rfl hc_24 wz (aG rC rfl 6 rfl wa (aF 0 0 il ft sz3 ag3 rfl rfl (vI a_1.Weight) rfl wa ?_))
        obtain ⟨r_25,hr_26,h_18⟩:=bind_some h_18
        refine aH (fe hr_26) rfl A9 rfl rfl rfl rfl wa (ae (vB r_25) wz rfl (ai ?_))
        obtain rfl:=ah h_18
        exact cu
     ·rintro ⟨⟩ _ sl_ H_ hp_ hq_
      refine aL _ hp_ hq_ ?_
      rcases ak hF with⟨hc_27,hF⟩ | ⟨hc_27,hF⟩
      ·refine aB rfl hc_27 (af (aa (ae (vI 1) wz rfl (ai ?_))))
       obtain rfl:=ah hF
       exact ay (aO (.inr rfl) [(vI 1)] ⟨rfl,trivial⟩ rfl rfl rfl)
      ·refine ax rfl hc_27 (av (af (af (aa (aG mg rfl 7 rfl wz (aF 0 0 il ft zh Ct rfl rfl (vL Rect.enc a_1.Areas) rfl wz (bZ FU rfl wz (ae (vB (decide ((a_1.Areas.length:Int) > 20))) wz rfl (ai ?_)))))))))
       rcases ak hF with⟨hc_28,hF⟩ | ⟨hc_28,hF⟩
       ·refine aB rfl hc_28 (af (aa (ae (vI 2) wz rfl (ai ?_))))
        obtain rfl:=ah hF
        exact ay (aO (.inr rfl) [(vI 2)] ⟨rfl,trivial⟩ rfl rfl rfl)
       ·refine ax rfl hc_28 (av (af (af (aa (aG mg rfl 7 rfl wz (aF 0 0 il ft zh Ct rfl rfl (vL Rect.enc a_1.Areas) rfl wz (bZ FU rfl wz (ae (vI 0) wz rfl (ai ?_)))))))))
        obtain ⟨o_37,hj_38,hF⟩:=bind_some hF
        obtain ⟨hn_33,hj_38⟩:=aZ hj_38
        refine aC (β:=(Unit)) (fun (s_34:Unit)=>([(1,(.ref n_2 0 0))]:List (Nat×V))) (fun (s_34:Unit)=>([(n_2,some (.cells 9 [(vS a_1.Id),(vS a_1.Sender),(vI a_1.Kind),(vL eS a_1.Refs),(vI a_1.At),(vI a_1.Until),(vI a_1.Weight),(vL Rect.enc a_1.Areas),(vS a_1.Text)]))]:Hp)) (fun p=>o_37 = .go p) ?_ ?_
        ·refine aA (aV (β:=Nat×(List Rect)×(Unit)) (fun p=>(fun (k_29:Nat) (l_30:List Rect) (s_34:Unit)=>([(1,(.ref n_2 0 0)),(51,(vL Rect.enc a_1.Areas)),(52,(vI (a_1.Areas.length:Int))),(53,(vI (k_29:Int)))]:List (Nat×V))) p.1 p.2.1 p.2.2) (fun p=>(fun (k_29:Nat) (l_30:List Rect) (s_34:Unit)=>([(n_2,some (.cells 9 [(vS a_1.Id),(vS a_1.Sender),(vI a_1.Kind),(vL eS a_1.Refs),(vI a_1.At),(vI a_1.Until),(vI a_1.Weight),(vL Rect.enc a_1.Areas),(vS a_1.Text)]))]:Hp)) p.1 p.2.1 p.2.2) (fun p=>forR (fun k x s=>eQ k x s) p.2.1 p.1 p.2.2=some o_37∧(a_1.Areas).drop p.1=p.2.1) (fun p=>p.2.1.length) (0,a_1.Areas,()) ⟨hj_38,rfl⟩ rfl (aJ rfl) ?_)
         rintro ⟨k_29,l_30,s_34⟩ ⟨hL_36,hD_32⟩
         dsimp only at hL_36 hD_32
         cases l_30 with
         | nil =>
          obtain rfl:=ah hL_36
          refine af (aa (ae (vB (decide ((k_29:Int) < (a_1.Areas.length:Int)))) wz rfl (ai ?_)))
          refine af (ax rfl (drop_nil hD_32) (aX ?_))
          exact aU (s_34) rfl rfl (aJ rfl)
         | cons x_31 l_30 =>
          obtain ⟨c_,hc_35,hL_36⟩:=bind_some hL_36
          refine af (aa (ae (vB (decide ((k_29:Int) < (a_1.Areas.length:Int)))) wz rfl (ai ?_)))
          refine af (aB rfl (bv hD_32) (av ?_))
          unfold eQ at hc_35
          refine af (aA (af (aa (gL Jd rfl rfl (bN hD_32) rfl wz (dn rz AC rfl (.d (.agg (Rect.enc x_31))) rfl wz (fH 0 (.inl rfl) z45 rfl wz (fun n_39=>gu 0 il ft 1 rz rfl rfl [(vI x_31.X),(vI x_31.Y),(vI x_31.W),(vI x_31.H)] rfl wz (ai (af (aa (aF 0 1 il ft rz AC rfl rfl (.d (.agg (Rect.enc x_31))) rfl wz ?_)))))))))))
          obtain ⟨r_40,hr_41,hc_35⟩:=bind_some hc_35
          refine aH (uL hr_41) rfl hb73 rfl rfl rfl rfl wz (ae (vI r_40) wz rfl (ai (af (aa (ae (vI r_40) wz rfl (ae (vB (r_40 != 0)) wz rfl (ai ?_)))))))
          rcases ak hc_35 with⟨hc_42,hc_35⟩ | ⟨hc_42,hc_35⟩
          ·refine aB rfl hc_42 (af (aa (ae (vI r_40) wz rfl (ae (vI r_40) wz rfl (ai ?_)))))
           obtain rfl:=ah hc_35
           obtain rfl:=ah hL_36
           obtain rfl:=ah hF
           exact ay (aO (.inr rfl) [(vI r_40)] ⟨rfl,trivial⟩ rfl rfl rfl)
          ·refine ax rfl hc_42 (av (aa (gQ (bJ hD_32 hn_33) wz rfl (ae (vI ((k_29 + 1:Nat):Int)) wz rfl (ai ?_)))))
           obtain rfl:=ah hc_35
           exact aY (k_29 + 1,l_30,()) ⟨hL_36,aR hD_32⟩ (Nat.lt_succ_self _) rfl (aJ rfl)
        ·rintro s_34 ho_ sl_ H_ hp_ hq_
         subst ho_
         refine aL _ hp_ hq_ (af (aa (aG lL rfl 2 rfl wz (aF 0 0 il ft sz3 ag3 rfl rfl (vI a_1.Kind) rfl wz (ae (vB (a_1.Kind == 3)) wz rfl (ae (vB (a_1.Kind == 3)) wz rfl (ai (af (aA (af (aa (ae (vB (a_1.Kind == 3)) wz rfl (aG mg rfl 7 rfl wz (aF 0 0 il ft zh Ct rfl rfl (vL Rect.enc a_1.Areas) rfl wz (bZ FU rfl wz (ae (vB ((a_1.Areas.length:Int) == 0)) wz rfl (Cm un4 rfl rfl wz (ae (vB (!((a_1.Kind == 3) == ((a_1.Areas.length:Int) == 0)))) wz rfl (ai ?_)))))))))))))))))))
         rcases ak hF with⟨hc_43,hF⟩ | ⟨hc_43,hF⟩
         ·refine aB rfl hc_43 (af (aa (ae (vI 3) wz rfl (ai ?_))))
          obtain rfl:=ah hF
          exact ay (aO (.inr rfl) [(vI 3)] ⟨rfl,trivial⟩ rfl rfl rfl)
         ·refine ax rfl hc_43 (af (aa (aG pM rfl 8 rfl wz (aF 0 0 il ft sz9 ag9 rfl rfl (vS a_1.Text) rfl wz (nQ un9 rfl wz (ae (vB (decide ((a_1.Text.size:Int) > 500))) wz rfl (ae (vB (decide ((a_1.Text.size:Int) > 500))) wz rfl (ai ?_))))))))
          rcases ak hF with⟨hc_44,hF⟩ | ⟨hc_44,hF⟩
          ·refine aB rfl hc_44 (af (aa (ae (vI 2) wz rfl (ai ?_))))
           obtain rfl:=ah hF
           exact ay (aO (.inr rfl) [(vI 2)] ⟨rfl,trivial⟩ rfl rfl rfl)
          ·refine ax rfl hc_44 (af ?_)
           obtain ⟨v_45,h_46,hF⟩:=bind_some hF
           refine aC (β:=Unit) (fun _=>([(78,(vB v_45))]:List (Nat×V))) (fun _=>([(n_2,some (.cells 9 [(vS a_1.Id),(vS a_1.Sender),(vI a_1.Kind),(vL eS a_1.Refs),(vI a_1.At),(vI a_1.Until),(vI a_1.Weight),(vL Rect.enc a_1.Areas),(vS a_1.Text)]))]:Hp)) (fun _=>True) ?_ ?_
           ·refine aa (aG pM rfl 8 rfl wz (aF 0 0 il ft sz9 ag9 rfl rfl (vS a_1.Text) rfl wz ?_))
            obtain ⟨r_47,hr_48,h_46⟩:=bind_some h_46
            refine aH (zI hr_48) rfl hb269 rfl rfl rfl rfl wz (ae (vB (!r_47)) wz rfl ?_)
            rcases ak h_46 with⟨hc_49,h_46⟩ | ⟨hc_49,h_46⟩
            ·refine aD rfl hc_49 wz (aj wa (aj wa (aj wa (aj wa (aj (wn rfl rfl) (aj (wn rfl rfl) (aj wa (ae (vB true) wz rfl (ae (vB true) wz rfl (ai ?_))))))))))
             obtain rfl:=ah h_46
             exact cu
            ·refine aD rfl hc_49 wz (aG pM rfl 8 rfl wa (aF 0 0 il ft sz9 ag9 rfl rfl (vS a_1.Text) rfl wa (ae (vB (sEq a_1.Text (⟨#[]⟩:ByteArray))) wa rfl ?_)))
             rcases ak h_46 with⟨hc_50,h_46⟩ | ⟨hc_50,h_46⟩
             ·refine aD rfl hc_50 wa (ae (vB (a_1.Kind == 3)) wa rfl (ae (vB (!(a_1.Kind == 3))) wa rfl (ae (vB (!(a_1.Kind == 3))) wa rfl (ae (vB (!(a_1.Kind == 3))) wz rfl (ae (vB (!(a_1.Kind == 3))) wz rfl (ai ?_))))))
              obtain rfl:=ah h_46
              exact cu
             ·refine aD rfl hc_50 wa (aj wa (aj wa (ae (vB false) wa rfl (ae (vB false) wz rfl (ae (vB false) wz rfl (ai ?_))))))
              obtain rfl:=ah h_46
              exact cu
           ·rintro ⟨⟩ _ sl_ H_ hp_ hq_
            refine aL _ hp_ hq_ ?_
            rcases ak hF with⟨hc_51,hF⟩ | ⟨hc_51,hF⟩
            ·refine aB rfl hc_51 (af (aa (ae (vI 3) wz rfl (ai ?_))))
             obtain rfl:=ah hF
             exact ay (aO (.inr rfl) [(vI 3)] ⟨rfl,trivial⟩ rfl rfl rfl)
            ·refine ax rfl hc_51 (av (af (aa (ae (vI 0) wz rfl (ai ?_)))))
             obtain rfl:=ah hF
             exact ay (aO (.inr rfl) [(vI 0)] ⟨rfl,trivial⟩ rfl rfl rfl)
theorem qo {x_1:Int} {r:Bool} (hF:cmp_isNaN_int x_1=some r) :
  FnM Tryz.prog 186 [(vI x_1)] [] (vB r) []:=by
 refine FnM.of_wH ⟨Tryz.prog,6,[],[]⟩ rfl Tryz.func186 rfl rfl (Nat.le_of_ble_eq_true rfl) (by kernel_rfl) ?_
 unfold cmp_isNaN_int at hF
 refine af (aa (ae (vB false) wz rfl (ai (af (aa (ae (vI x_1) wz rfl (ae (vI x_1) wz rfl (ae (vB (x_1 != x_1)) wz rfl (ae (vB (x_1 != x_1)) wz rfl (ai ?_))))))))))
 obtain rfl:=ah hF
 exact ay (aO (.inr rfl) [(vB (x_1 != x_1))] ⟨rfl,trivial⟩ rfl rfl rfl)
theorem jF {x_1:Int} {y_2:Int} {r:Int} (hF:cmp_Compare_int x_1 y_2=some r) :
  FnM Tryz.prog 114 [(vI x_1),(vI y_2)] [] (vI r) []:=by
 refine FnM.of_wH ⟨Tryz.prog,20,[],[]⟩ rfl Tryz.func114 rfl rfl (Nat.le_of_ble_eq_true rfl) (by kernel_rfl) ?_
 unfold cmp_Compare_int at hF
 refine af (aa (ae (vI 0) wz rfl (ai (af (aa (ae (vI x_1) wz rfl ?_))))))
 obtain ⟨r_3,hr_4,hF⟩:=bind_some hF
 refine aH (qo hr_4) rfl hb186 rfl rfl rfl rfl wz (ae (vB r_3) wz rfl (ai (af (aa (ae (vI y_2) wz rfl ?_)))))
 obtain ⟨r_5,hr_6,hF⟩:=bind_some hF
 refine aH (qo hr_6) rfl hb186 rfl rfl rfl rfl wz (ae (vB r_5) wz rfl (ai (af (af (aa (ae (vB r_3) wz rfl (ai ?_)))))))
 rcases ak hF with⟨hc_7,hF⟩ | ⟨hc_7,hF⟩
 ·refine aB rfl hc_7 (af (af (aa (ae (vB r_5) wz rfl (ai ?_)))))
  rcases ak hF with⟨hc_8,hF⟩ | ⟨hc_8,hF⟩
  ·refine aB rfl hc_8 (af (aa (ae (vI 0) wz rfl (ai ?_))))
   obtain rfl:=ah hF
   exact ay (aO (.inr rfl) [(vI 0)] ⟨rfl,trivial⟩ rfl rfl rfl)
  ·refine ax rfl hc_8 (av (af (aa (ae (vI (-1)) wz rfl (ai ?_)))))
   obtain rfl:=ah hF
   exact ay (aO (.inr rfl) [(vI (-1))] ⟨rfl,trivial⟩ rfl rfl rfl)
 ·refine ax rfl hc_7 (av (af (af (aa (ae (vB r_5) wz rfl (ai ?_))))))
  rcases ak hF with⟨hc_9,hF⟩ | ⟨hc_9,hF⟩
  ·refine aB rfl hc_9 (af (aa (ae (vI 1) wz rfl (ai ?_))))
   obtain rfl:=ah hF
   exact ay (aO (.inr rfl) [(vI 1)] ⟨rfl,trivial⟩ rfl rfl rfl)
  ·refine ax rfl hc_9 (av (af (af (aa (ae (vI x_1) wz rfl (ae (vI y_2) wz rfl (ae (vB (decide (x_1 < y_2))) wz rfl (ai ?_))))))))
   rcases ak hF with⟨hc_10,hF⟩ | ⟨hc_10,hF⟩
   ·refine aB rfl hc_10 (af (aa (ae (vI (-1)) wz rfl (ai ?_))))
    obtain rfl:=ah hF
    exact ay (aO (.inr rfl) [(vI (-1))] ⟨rfl,trivial⟩ rfl rfl rfl)
   ·refine ax rfl hc_10 (av (af (af (aa (ae (vI x_1) wz rfl (ae (vI y_2) wz rfl (ae (vB (decide (x_1 > y_2))) wz rfl (ai ?_))))))))
    rcases ak hF with⟨hc_11,hF⟩ | ⟨hc_11,hF⟩
    ·refine aB rfl hc_11 (af (aa (ae (vI 1) wz rfl (ai ?_))))
     obtain rfl:=ah hF
     exact ay (aO (.inr rfl) [(vI 1)] ⟨rfl,trivial⟩ rfl rfl rfl)
    ·refine ax rfl hc_11 (av (af (aa (ae (vI 0) wz rfl (ai ?_)))))
     obtain rfl:=ah hF
     exact ay (aO (.inr rfl) [(vI 0)] ⟨rfl,trivial⟩ rfl rfl rfl)
theorem l8 {a_1:ByteArray} {b_2:ByteArray} {r:Int} (hF:gH a_1 b_2=some r) :
  FnM Tryz.prog 181 [(vS a_1),(vS b_2)] [] (vI r) []:=by
 refine FnM.of_wH ⟨Tryz.prog,8,[],[]⟩ rfl Tryz.func181 rfl rfl (Nat.le_of_ble_eq_true rfl) (by kernel_rfl) ?_
 unfold gH at hF
 refine af (aa (ae (vI 0) wz rfl (ai (af (aa (ae (vS a_1) wz rfl (ae (vS b_2) wz rfl (h_ext (JX (f:=248) Tryz.func248 rfl rfl (by kernel_rfl) (by kernel_rfl) _ _) rfl nb248 rfl wz (ae (vI (xX a_1 b_2)) wz rfl (ai ?_))))))))))
 obtain rfl:=ah hF
 exact ay (aO (.inr rfl) [(vI (xX a_1 b_2))] ⟨rfl,trivial⟩ rfl rfl rfl)
theorem jG {a_1:ByteArray} {b_2:ByteArray} {r:Int} (hF:strings_Compare a_1 b_2=some r) :
  FnM Tryz.prog 108 [(vS a_1),(vS b_2)] [] (vI r) []:=by
 refine FnM.of_wH ⟨Tryz.prog,8,[],[]⟩ rfl Tryz.func108 rfl rfl (Nat.le_of_ble_eq_true rfl) (by kernel_rfl) ?_
 unfold strings_Compare at hF
 refine af (aa (ae (vI 0) wz rfl (ai (af (aa (ae (vS a_1) wz rfl (ae (vS b_2) wz rfl ?_)))))))
 obtain ⟨r_3,hr_4,hF⟩:=bind_some hF
 refine aH (l8 hr_4) rfl hb181 rfl rfl rfl rfl wz (ae (vI r_3) wz rfl (ai ?_))
 obtain rfl:=ah hF
 exact ay (aO (.inr rfl) [(vI r_3)] ⟨rfl,trivial⟩ rfl rfl rfl)
theorem uO {vals_1:(List Int)} {r:Int} (hF:kH vals_1=some r) :
  FnM Tryz.prog 107 [(vL eI vals_1)] [] (vI r) []:=by
 refine FnM.of_wH ⟨Tryz.prog,18,[],[]⟩ rfl Tryz.func107 rfl rfl (Nat.le_of_ble_eq_true rfl) (by kernel_rfl) ?_
 unfold kH at hF
 refine af (aa (ae (vI 0) wz rfl (ai (af (aa (ae (vI 0) wz rfl (ai (af (af (aa (ae (vL eI vals_1) wz rfl (bZ rZ rfl wz (ae (vI 0) wz rfl (ai ?_))))))))))))))
 obtain ⟨o_10,hj_11,hF⟩:=bind_some hF
 obtain ⟨hn_6,hj_11⟩:=aZ hj_11
 refine aC (β:=(Unit)) (fun (s_7:Unit)=>([(3,(vI 0))]:List (Nat×V))) (fun (s_7:Unit)=>([]:Hp)) (fun p=>o_10 = .go p) ?_ ?_
 ·refine aA (aV (β:=Nat×(List Int)×(Unit)) (fun p=>(fun (k_2:Nat) (l_3:List Int) (s_7:Unit)=>([(3,(vI 0)),(6,(vL eI vals_1)),(7,(vI (vals_1.length:Int))),(8,(vI (k_2:Int)))]:List (Nat×V))) p.1 p.2.1 p.2.2) (fun p=>(fun (k_2:Nat) (l_3:List Int) (s_7:Unit)=>([]:Hp)) p.1 p.2.1 p.2.2) (fun p=>forR (fun k x s=>lH k x s) p.2.1 p.1 p.2.2=some o_10∧(vals_1).drop p.1=p.2.1) (fun p=>p.2.1.length) (0,vals_1,()) ⟨hj_11,rfl⟩ rfl (aJ rfl) ?_)
  rintro ⟨k_2,l_3,s_7⟩ ⟨hL_9,hD_5⟩
  dsimp only at hL_9 hD_5
  cases l_3 with
  | nil =>
   obtain rfl:=ah hL_9
   refine af (aa (ae (vB (decide ((k_2:Int) < (vals_1.length:Int)))) wz rfl (ai ?_)))
   refine af (ax rfl (drop_nil hD_5) (aX ?_))
   exact aU (s_7) rfl rfl (aJ rfl)
  | cons x_4 l_3 =>
   obtain ⟨c_,hc_8,hL_9⟩:=bind_some hL_9
   refine af (aa (ae (vB (decide ((k_2:Int) < (vals_1.length:Int)))) wz rfl (ai ?_)))
   refine af (aB rfl (bv hD_5) (av ?_))
   unfold lH at hc_8
   refine af (aA (af (aa (gL iW rfl rfl (bN hD_5) rfl wz (dn sz3 ag3 rfl (vI x_4) rfl wz (ae (vI x_4) wz rfl (ai (af (aa (ae (vI x_4) wz rfl (ae (vI 0) wz rfl (ae (vB (x_4 != 0)) wz rfl (ai ?_)))))))))))))
   rcases ak hc_8 with⟨hc_12,hc_8⟩ | ⟨hc_12,hc_8⟩
   ·refine aB rfl hc_12 (af (aa (ae (vI x_4) wz rfl (ae (vI x_4) wz rfl (ai ?_)))))
    obtain rfl:=ah hc_8
    obtain rfl:=ah hL_9
    obtain rfl:=ah hF
    exact ay (aO (.inr rfl) [(vI x_4)] ⟨rfl,trivial⟩ rfl rfl rfl)
   ·refine ax rfl hc_12 (av (aa (gQ (bJ hD_5 hn_6) wz rfl (ae (vI ((k_2 + 1:Nat):Int)) wz rfl (ai ?_)))))
    obtain rfl:=ah hc_8
    exact aY (k_2 + 1,l_3,()) ⟨hL_9,aR hD_5⟩ (Nat.lt_succ_self _) rfl (aJ rfl)
 ·rintro s_7 ho_ sl_ H_ hp_ hq_
  subst ho_
  refine aL _ hp_ hq_ (af (aa (ae (vI 0) wz rfl (ae (vI 0) wz rfl (ai ?_)))))
  obtain rfl:=ah hF
  exact ay (aO (.inr rfl) [(vI 0)] ⟨rfl,trivial⟩ rfl rfl rfl)
theorem qh {a_1:Alert} {b_2:Alert} {r:Int} (hF:ik a_1 b_2=some r) :
  FnM Tryz.prog 206 [(.d (.agg (Alert.enc a_1))),(.d (.agg (Alert.enc b_2)))] [] (vI r) []:=by
 refine FnM.of_wH ⟨Tryz.prog,17,[],[]⟩ rfl Tryz.func206 rfl rfl (Nat.le_of_ble_eq_true rfl) (by kernel_rfl) ?_
 unfold ik at hF
 refine af (aa (eD 0 (.inl rfl) [(vS a_1.Id),(vS a_1.Sender),(vI a_1.Kind),(vL eS a_1.Refs),(vI a_1.At),(vI a_1.Until),(vI a_1.Weight),(vL Rect.enc a_1.Areas),(vS a_1.Text)] rfl rfl wz (fun n_3=>eD 0 (.inl rfl) [(vS b_2.Id),(vS b_2.Sender),(vI b_2.Kind),(vL eS b_2.Refs),(vI b_2.At),(vI b_2.Until),(vI b_2.Weight),(vL Rect.enc b_2.Areas),(vS b_2.Text)] rfl rfl wz (fun n_4=>ae (vI 0) wz rfl (ai (af (cK (aG dZ rfl 4 rfl wz (aF 1 0 (.inr (by kernel_rfl)) (fun _ _ ag=>trivial) sz3 ag3 rfl rfl (vI a_1.At) rfl wz (aG dZ rfl 4 rfl wz (aF 3 1 (.inr (by kernel_rfl)) (fun _ _ ag=>⟨.inl ⟨rfl,rfl⟩,trivial⟩) sz3 ag3 rfl rfl (vI b_2.At) rfl wz ?_)))))))))))
 obtain ⟨r_5,hr_6,hF⟩:=bind_some hF
 refine aH (jF hr_6) rfl H7 rfl rfl rfl rfl wz (aG eT rfl 0 rfl wz (aF 6 0 (.inr (by kernel_rfl)) (fun _ _ ag=>⟨.inl ⟨rfl,rfl⟩,⟨.inl ⟨rfl,rfl⟩,trivial⟩⟩) sz9 ag9 rfl rfl (vS a_1.Id) rfl wz (aG eT rfl 0 rfl wz (aF 8 1 (.inr (by kernel_rfl)) (fun _ _ ag=>⟨.inl ⟨rfl,rfl⟩,⟨.inl ⟨rfl,rfl⟩,⟨.inl ⟨rfl,rfl⟩,trivial⟩⟩⟩) sz9 ag9 rfl rfl (vS b_2.Id) rfl wz ?_))))
 obtain ⟨r_7,hr_8,hF⟩:=bind_some hF
 refine aH (jG hr_8) rfl G7 rfl rfl rfl rfl wz (dY (([r_5,r_7]:List Int).map eI) iW si rfl rfl rfl rfl rfl wz ?_)
 obtain ⟨r_9,hr_10,hF⟩:=bind_some hF
 refine aH (uO hr_10) rfl hb107 rfl rfl rfl rfl wz (ae (vI r_9) wz rfl (ai ?_))
 obtain rfl:=ah hF
 exact ay (aO (.inr rfl) [(vI r_9)] ⟨rfl,trivial⟩ rfl rfl rfl)
theorem tX {l_1:(List Alert)} {r:Int} (hF:fP l_1=some r) :
  FnM Tryz.prog 161 [(vL Alert.enc l_1)] [] (vI r) []:=by
 refine FnM.of_wH ⟨Tryz.prog,52,[],[]⟩ rfl Tryz.func161 rfl rfl (Nat.le_of_ble_eq_true rfl) (by kernel_rfl) ?_
 unfold fP at hF
 refine af (aa (ae (vI 0) wz rfl (ai (af (af (aa (ae (vL Alert.enc l_1) wz rfl (bZ pG rfl wz (ae (vB (decide ((l_1.length:Int) > 300))) wz rfl (ai ?_))))))))))
 rcases ak hF with⟨hc_2,hF⟩ | ⟨hc_2,hF⟩
 ·refine aB rfl hc_2 (af (aa (ae (vI 2) wz rfl (ai ?_))))
  obtain rfl:=ah hF
  exact ay (aO (.inr rfl) [(vI 2)] ⟨rfl,trivial⟩ rfl rfl rfl)
 ·refine ax rfl hc_2 (av (af (af (aa (ae (vL Alert.enc l_1) wz rfl (bZ pG rfl wz (ae (vI 0) wz rfl (ai ?_))))))))
  obtain ⟨o_11,hj_12,hF⟩:=bind_some hF
  obtain ⟨hn_7,hj_12⟩:=aZ hj_12
  refine aC (β:=(Unit)) (fun (s_8:Unit)=>([(0,(vL Alert.enc l_1))]:List (Nat×V))) (fun (s_8:Unit)=>([]:Hp)) (fun p=>o_11 = .go p) ?_ ?_
  ·refine aA (aV (β:=Nat×(List Alert)×(Unit)) (fun p=>(fun (k_3:Nat) (l_4:List Alert) (s_8:Unit)=>([(0,(vL Alert.enc l_1)),(12,(vL Alert.enc l_1)),(13,(vI (l_1.length:Int))),(14,(vI (k_3:Int)))]:List (Nat×V))) p.1 p.2.1 p.2.2) (fun p=>(fun (k_3:Nat) (l_4:List Alert) (s_8:Unit)=>([]:Hp)) p.1 p.2.1 p.2.2) (fun p=>forR (fun k x s=>dF l_1 k x s) p.2.1 p.1 p.2.2=some o_11∧(l_1).drop p.1=p.2.1) (fun p=>p.2.1.length) (0,l_1,()) ⟨hj_12,rfl⟩ rfl (aJ rfl) ?_)
   rintro ⟨k_3,l_4,s_8⟩ ⟨hL_10,hD_6⟩
   dsimp only at hL_10 hD_6
   cases l_4 with
   | nil =>
    obtain rfl:=ah hL_10
    refine af (aa (ae (vB (decide ((k_3:Int) < (l_1.length:Int)))) wz rfl (ai ?_)))
    refine af (ax rfl (drop_nil hD_6) (aX ?_))
    exact aU (s_8) rfl rfl (aJ rfl)
   | cons x_5 l_4 =>
    obtain ⟨c_,hc_9,hL_10⟩:=bind_some hL_10
    refine af (aa (ae (vB (decide ((k_3:Int) < (l_1.length:Int)))) wz rfl (ai ?_)))
    refine af (aB rfl (bv hD_6) (av ?_))
    unfold dF at hc_9
    refine af (aA (af (aa (ae (vI (k_3:Int)) wz rfl (gL jD rfl rfl (bN hD_6) rfl wz (dn bB dS rfl (.d (.agg (Alert.enc x_5))) rfl wz (fH 0 (.inl rfl) sQ rfl wz (fun n_13=>ae (vI (k_3:Int)) wz rfl (gu 0 il ft 0 bB rfl rfl [(vS x_5.Id),(vS x_5.Sender),(vI x_5.Kind),(vL eS x_5.Refs),(vI x_5.At),(vI x_5.Until),(vI x_5.Weight),(vL Rect.enc x_5.Areas),(vS x_5.Text)] rfl wz (ai (af (af (aa (aF 0 0 il ft bB dS rfl rfl (.d (.agg (Alert.enc x_5))) rfl wz ?_))))))))))))))
    obtain ⟨r_14,hr_15,hc_9⟩:=bind_some hc_9
    refine aH (uF hr_15) rfl hb205 rfl rfl rfl rfl wz (ae (vI r_14) wz rfl (ai (af (aa (ae (vI r_14) wz rfl (ae (vB (r_14 != 0)) wz rfl (ai ?_)))))))
    rcases ak hc_9 with⟨hc_16,hc_9⟩ | ⟨hc_16,hc_9⟩
    ·refine aB rfl hc_16 (af (aa (ae (vI r_14) wz rfl (ae (vI r_14) wz rfl (ai ?_)))))
     obtain rfl:=ah hc_9
     obtain rfl:=ah hL_10
     obtain rfl:=ah hF
     exact ay (aO (.inr rfl) [(vI r_14)] ⟨rfl,trivial⟩ rfl rfl rfl)
    ·refine ax rfl hc_16 (av (af ?_))
     obtain ⟨v_17,h_18,hc_9⟩:=bind_some hc_9
     refine aC (β:=Unit) (fun _=>([(0,(vL Alert.enc l_1)),(12,(vL Alert.enc l_1)),(13,(vI (l_1.length:Int))),(14,(vI (k_3:Int))),(35,(vB v_17))]:List (Nat×V))) (fun _=>([(n_13,some (.cells 9 [(vS x_5.Id),(vS x_5.Sender),(vI x_5.Kind),(vL eS x_5.Refs),(vI x_5.At),(vI x_5.Until),(vI x_5.Weight),(vL Rect.enc x_5.Areas),(vS x_5.Text)]))]:Hp)) (fun _=>True) ?_ ?_
     ·refine cK (ae (vI (k_3:Int)) wz rfl (ae (vB (decide ((k_3:Int) > 0))) wz rfl ?_))
      rcases ak h_18 with⟨hc_19,h_18⟩ | ⟨hc_19,h_18⟩
      ·refine aD rfl hc_19 wz (ae (vL Alert.enc l_1) wa rfl (ae (vI (k_3:Int)) wa rfl (ae (vI (w64 ((k_3:Int) - 1))) wa rfl ?_)))
       obtain ⟨y_20,hy_21,h_18⟩:=bind_some h_18
       refine gL jD rfl rfl hy_21 rfl wa (dn bB dS rfl (.d (.agg (Alert.enc y_20))) rfl wa (aF 8 0 (.inr (by kernel_rfl)) (fun _ _ ag=>trivial) bB dS rfl rfl (.d (.agg (Alert.enc x_5))) rfl wa ?_))
       obtain ⟨r_22,hr_23,h_18⟩:=bind_some h_18
       refine aH (qh hr_23) rfl hb206 rfl rfl rfl rfl wa (ae (vB (decide (r_22≥0))) wa rfl (ae (vB (decide (r_22≥0))) wz rfl (ai ?_)))
       obtain rfl:=ah h_18
       exact cu
      ·refine aD rfl hc_19 wz (aj wa (aj wa (aj wa (aj wa (aj wa (aj wa (aj wa (aj wa (ae (vB false) wz rfl (ai ?_))))))))))
       obtain rfl:=ah h_18
       exact cu
     ·rintro ⟨⟩ _ sl_ H_ hp_ hq_
      refine aL _ hp_ hq_ ?_
      rcases ak hc_9 with⟨hc_24,hc_9⟩ | ⟨hc_24,hc_9⟩
      ·refine aB rfl hc_24 (af (aa (ae (vI 7) wz rfl (ai ?_))))
       obtain rfl:=ah hc_9
       obtain rfl:=ah hL_10
       obtain rfl:=ah hF
       exact ay (aO (.inr rfl) [(vI 7)] ⟨rfl,trivial⟩ rfl rfl rfl)
      ·refine ax rfl hc_24 (av (aa (gQ (bJ hD_6 hn_7) wz rfl (ae (vI ((k_3 + 1:Nat):Int)) wz rfl (ai ?_)))))
       obtain rfl:=ah hc_9
       exact aY (k_3 + 1,l_4,()) ⟨hL_10,aR hD_6⟩ (Nat.lt_succ_self _) rfl (aJ rfl)
  ·rintro s_8 ho_ sl_ H_ hp_ hq_
   subst ho_
   refine aL _ hp_ hq_ (af (aa (H5 0 (.inl rfl) wz (fun n_25=>D7 (b':=some (bM D.str D.bool ([]:List (ByteArray×Bool)))) 0 rfl rfl (ae (.map n_25) wz rfl (ai (af (af (aa (ae (vL Alert.enc l_1) wz rfl (bZ pG rfl wz (ae (vI 0) wz rfl (ai ?_)))))))))))))
   obtain ⟨o_34,hj_35,hF⟩:=bind_some hF
   obtain ⟨hn_30,hj_35⟩:=aZ hj_35
   refine aC (β:=((List (ByteArray×Bool)))) (fun (s_31:(List (ByteArray×Bool)))=>([]:List (Nat×V))) (fun (s_31:(List (ByteArray×Bool)))=>([(n_25,some (bM D.str D.bool s_31))]:Hp)) (fun p=>o_34 = .go p) ?_ ?_
   ·refine aA (aV (β:=Nat×(List Alert)×((List (ByteArray×Bool)))) (fun p=>(fun (k_26:Nat) (l_27:List Alert) (s_31:(List (ByteArray×Bool)))=>([(6,(.map n_25)),(38,(vL Alert.enc l_1)),(39,(vI (l_1.length:Int))),(40,(vI (k_26:Int)))]:List (Nat×V))) p.1 p.2.1 p.2.2) (fun p=>(fun (k_26:Nat) (l_27:List Alert) (s_31:(List (ByteArray×Bool)))=>([(n_25,some (bM D.str D.bool s_31))]:Hp)) p.1 p.2.1 p.2.2) (fun p=>forR (fun k x s=>bK k x s) p.2.1 p.1 p.2.2=some o_34∧(l_1).drop p.1=p.2.1) (fun p=>p.2.1.length) (0,l_1,([]:List (ByteArray×Bool))) ⟨hj_35,rfl⟩ rfl (aJ rfl) ?_)
    rintro ⟨k_26,l_27,s_31⟩ ⟨hL_33,hD_29⟩
    dsimp only at hL_33 hD_29
    cases l_27 with
    | nil =>
     obtain rfl:=ah hL_33
     refine af (aa (ae (vB (decide ((k_26:Int) < (l_1.length:Int)))) wz rfl (ai ?_)))
     refine af (ax rfl (drop_nil hD_29) (aX ?_))
     exact aU (s_31) rfl rfl (aJ rfl)
    | cons x_28 l_27 =>
     obtain ⟨c_,hc_32,hL_33⟩:=bind_some hL_33
     refine af (aa (ae (vB (decide ((k_26:Int) < (l_1.length:Int)))) wz rfl (ai ?_)))
     refine af (aB rfl (bv hD_29) (av ?_))
     unfold bK at hc_32
     refine af (aA (af (aa (gL jD rfl rfl (bN hD_29) rfl wz (dn bB dS rfl (.d (.agg (Alert.enc x_28))) rfl wz (fH 0 (.inl rfl) sQ rfl wz (fun n_36=>gu 0 il ft 1 bB rfl rfl [(vS x_28.Id),(vS x_28.Sender),(vI x_28.Kind),(vL eS x_28.Refs),(vI x_28.At),(vI x_28.Until),(vI x_28.Weight),(vL Rect.enc x_28.Areas),(vS x_28.Text)] rfl wz (ai (af (af (aa (ae (.map n_25) wz rfl (aG eT rfl 0 rfl wz (aF 0 1 il ft sz9 ag9 rfl rfl (vS x_28.Id) rfl wz (JZ (eq:=eqS) (kD:=D.str) (vD:=D.bool) (es:=s_31) (k:=x_28.Id) (z:=false) 0 0 il ft (fun _ _=>rfl) Ht (by kernel_rfl) (by kernel_rfl) rfl rfl rfl (vB ((vk eqS s_31 x_28.Id).getD false)) rfl wz (ai ?_))))))))))))))))
     rcases ak hc_32 with⟨hc_37,hc_32⟩ | ⟨hc_37,hc_32⟩
     ·refine aB rfl hc_37 (af (aa (ae (vI 6) wz rfl (ai ?_))))
      obtain rfl:=ah hc_32
      obtain rfl:=ah hL_33
      obtain rfl:=ah hF
      exact ay (aO (.inr rfl) [(vI 6)] ⟨rfl,trivial⟩ rfl rfl rfl)
     ·refine ax rfl hc_37 (av (aa (ae (.map n_25) wz rfl (aG eT rfl 0 rfl wz (aF 0 1 il ft sz9 ag9 rfl rfl (vS x_28.Id) rfl wz (DJ (eq:=eqS) (kD:=D.str) (vD:=D.bool) (es:=s_31) (k:=x_28.Id) (v:=true) 0 0 il ft (fun _ _=>rfl) Ht (by kernel_rfl) rfl rfl rfl rfl wz (ai (aa (gQ (bJ hD_29 hn_30) wz rfl (ae (vI ((k_26 + 1:Nat):Int)) wz rfl (ai ?_)))))))))))
      obtain rfl:=ah hc_32
      exact aY (k_26 + 1,l_27,(rY eqS s_31 x_28.Id true)) ⟨hL_33,aR hD_29⟩ (Nat.lt_succ_self _) rfl (aJ rfl)
   ·rintro s_31 ho_ sl_ H_ hp_ hq_
    subst ho_
    refine aL _ hp_ hq_ (af (aa (ae (vI 0) wz rfl (ai ?_))))
    obtain rfl:=ah hF
    exact ay (aO (.inr rfl) [(vI 0)] ⟨rfl,trivial⟩ rfl rfl rfl)
theorem uJ {l_1:(List Post)} {r:Int} (hF:gJ l_1=some r) :
  FnM Tryz.prog 162 [(vL Post.enc l_1)] [] (vI r) []:=by
 refine FnM.of_wH ⟨Tryz.prog,44,[],[]⟩ rfl Tryz.func162 rfl rfl (Nat.le_of_ble_eq_true rfl) (by kernel_rfl) ?_
 unfold gJ at hF
 refine af (aa (ae (vI 0) wz rfl (ai (af (af (aa (ae (vL Post.enc l_1) wz rfl (bZ FJ rfl wz (ae (vB (decide ((l_1.length:Int) > 500))) wz rfl (ai ?_))))))))))
 rcases ak hF with⟨hc_2,hF⟩ | ⟨hc_2,hF⟩
 ·refine aB rfl hc_2 (af (aa (ae (vI 2) wz rfl (ai ?_))))
  obtain rfl:=ah hF
  exact ay (aO (.inr rfl) [(vI 2)] ⟨rfl,trivial⟩ rfl rfl rfl)
 ·refine ax rfl hc_2 (av (af (af (aa (ae (vL Post.enc l_1) wz rfl (bZ FJ rfl wz (ae (vI 0) wz rfl (ai ?_))))))))
  obtain ⟨o_11,hj_12,hF⟩:=bind_some hF
  obtain ⟨hn_7,hj_12⟩:=aZ hj_12
  refine aC (β:=(Unit)) (fun (s_8:Unit)=>([]:List (Nat×V))) (fun (s_8:Unit)=>([]:Hp)) (fun p=>o_11 = .go p) ?_ ?_
  ·refine aA (aV (β:=Nat×(List Post)×(Unit)) (fun p=>(fun (k_3:Nat) (l_4:List Post) (s_8:Unit)=>([(0,(vL Post.enc l_1)),(8,(vL Post.enc l_1)),(9,(vI (l_1.length:Int))),(10,(vI (k_3:Int)))]:List (Nat×V))) p.1 p.2.1 p.2.2) (fun p=>(fun (k_3:Nat) (l_4:List Post) (s_8:Unit)=>([]:Hp)) p.1 p.2.1 p.2.2) (fun p=>forR (fun k x s=>dN l_1 k x s) p.2.1 p.1 p.2.2=some o_11∧(l_1).drop p.1=p.2.1) (fun p=>p.2.1.length) (0,l_1,()) ⟨hj_12,rfl⟩ rfl (aJ rfl) ?_)
   rintro ⟨k_3,l_4,s_8⟩ ⟨hL_10,hD_6⟩
   dsimp only at hL_10 hD_6
   cases l_4 with
   | nil =>
    obtain rfl:=ah hL_10
    refine af (aa (ae (vB (decide ((k_3:Int) < (l_1.length:Int)))) wz rfl (ai ?_)))
    refine af (ax rfl (drop_nil hD_6) (aX ?_))
    exact aU (s_8) rfl rfl (aJ rfl)
   | cons x_5 l_4 =>
    obtain ⟨c_,hc_9,hL_10⟩:=bind_some hL_10
    refine af (aa (ae (vB (decide ((k_3:Int) < (l_1.length:Int)))) wz rfl (ai ?_)))
    refine af (aB rfl (bv hD_6) (av ?_))
    unfold dN at hc_9
    refine af (aA (af (aa (ae (vI (k_3:Int)) wz rfl (gL CF rfl rfl (bN hD_6) rfl wz (dn qP vX rfl (.d (.agg (Post.enc x_5))) rfl wz (fH 0 (.inl rfl) z66 rfl wz (fun n_13=>ae (vI (k_3:Int)) wz rfl (gu 0 il ft 0 qP rfl rfl [(vS x_5.Player),(vI x_5.X),(vI x_5.Y)] rfl wz (ai (aA (af (aa (aG tZ rfl 0 rfl wz (aF 0 0 il ft sz9 ag9 rfl rfl (vS x_5.Player) rfl wz ?_)))))))))))))))
    obtain ⟨r_14,hr_15,hc_9⟩:=bind_some hc_9
    refine aH (oh hr_15) rfl GV rfl rfl rfl rfl wz (ae (vB (!r_14)) wz rfl (ae (vB (!r_14)) wz rfl (ai ?_)))
    rcases ak hc_9 with⟨hc_16,hc_9⟩ | ⟨hc_16,hc_9⟩
    ·refine aB rfl hc_16 (af (aa (ae (vI 5) wz rfl (ai ?_))))
     obtain rfl:=ah hc_9
     obtain rfl:=ah hL_10
     obtain rfl:=ah hF
     exact ay (aO (.inr rfl) [(vI 5)] ⟨rfl,trivial⟩ rfl rfl rfl)
    ·refine ax rfl hc_16 (af ?_)
     obtain ⟨v_17,h_18,hc_9⟩:=bind_some hc_9
     refine aC (β:=Unit) (fun _=>([(0,(vL Post.enc l_1)),(3,(vI (k_3:Int))),(4,(.ref n_13 0 0)),(8,(vL Post.enc l_1)),(9,(vI (l_1.length:Int))),(10,(vI (k_3:Int))),(20,(vB v_17))]:List (Nat×V))) (fun _=>([(n_13,some (.cells 3 [(vS x_5.Player),(vI x_5.X),(vI x_5.Y)]))]:Hp)) (fun _=>True) ?_ ?_
     ·refine aa (aG xG rfl 1 rfl wz (aF 0 0 il ft sz3 ag3 rfl rfl (vI x_5.X) rfl wz ?_))
      obtain ⟨r_19,hr_20,h_18⟩:=bind_some h_18
      refine aH (fe hr_20) rfl A9 rfl rfl rfl rfl wz ?_
      rcases ak h_18 with⟨hc_21,h_18⟩ | ⟨hc_21,h_18⟩
      ·refine aD rfl hc_21 wz (aj wa (aj wa (aj wa (ae (vB true) wz rfl (ae (vB true) wz rfl (ai ?_))))))
       obtain rfl:=ah h_18
       exact cu
      ·refine aD rfl hc_21 wz (aG zn rfl 2 rfl wa (aF 0 0 il ft sz3 ag3 rfl rfl (vI x_5.Y) rfl wa ?_))
       obtain ⟨r_22,hr_23,h_18⟩:=bind_some h_18
       refine aH (fe hr_23) rfl A9 rfl rfl rfl rfl wa (ae (vB r_22) wz rfl (ae (vB r_22) wz rfl (ai ?_)))
       obtain rfl:=ah h_18
       exact cu
     ·rintro ⟨⟩ _ sl_ H_ hp_ hq_
      refine aL _ hp_ hq_ ?_
      rcases ak hc_9 with⟨hc_24,hc_9⟩ | ⟨hc_24,hc_9⟩
      ·refine aB rfl hc_24 (af (aa (ae (vI 1) wz rfl (ai ?_))))
       obtain rfl:=ah hc_9
       obtain rfl:=ah hL_10
       obtain rfl:=ah hF
       exact ay (aO (.inr rfl) [(vI 1)] ⟨rfl,trivial⟩ rfl rfl rfl)
      ·refine ax rfl hc_24 (af ?_)
       obtain ⟨v_25,h_26,hc_9⟩:=bind_some hc_9
       refine aC (β:=Unit) (fun _=>([(0,(vL Post.enc l_1)),(8,(vL Post.enc l_1)),(9,(vI (l_1.length:Int))),(10,(vI (k_3:Int))),(29,(vB v_25))]:List (Nat×V))) (fun _=>([(n_13,some (.cells 3 [(vS x_5.Player),(vI x_5.X),(vI x_5.Y)]))]:Hp)) (fun _=>True) ?_ ?_
       ·refine cK (ae (vI (k_3:Int)) wz rfl (ae (vB (decide ((k_3:Int) > 0))) wz rfl ?_))
        rcases ak h_26 with⟨hc_27,h_26⟩ | ⟨hc_27,h_26⟩
        ·refine aD rfl hc_27 wz (aG tZ rfl 0 rfl wa (aF 4 0 (.inr (by kernel_rfl)) (fun _ _ ag=>trivial) sz9 ag9 rfl rfl (vS x_5.Player) rfl wa (ae (vL Post.enc l_1) wa rfl (ae (vI (k_3:Int)) wa rfl (ae (vI (w64 ((k_3:Int) - 1))) wa rfl ?_)))))
         obtain ⟨y_28,hy_29,h_26⟩:=bind_some h_26
         refine gL CF rfl rfl hy_29 rfl wa (h_fac tZ rfl [.str y_28.Player,.int .i64 y_28.X,.int .i64 y_28.Y] rfl rfl wa (dn sz9 ag9 rfl (vS y_28.Player) rfl wa (ae (vB (sLe x_5.Player y_28.Player)) wa rfl (ae (vB (sLe x_5.Player y_28.Player)) wz rfl (ae (vB (sLe x_5.Player y_28.Player)) wz rfl (ai ?_))))))
         obtain rfl:=ah h_26
         exact cu
        ·refine aD rfl hc_27 wz (aj wa (aj wa (aj wa (aj wa (aj wa (aj wa (aj wa (aj wa (aj wa (ae (vB false) wz rfl (ae (vB false) wz rfl (ai ?_))))))))))))
         obtain rfl:=ah h_26
         exact cu
       ·rintro ⟨⟩ _ sl_ H_ hp_ hq_
        refine aL _ hp_ hq_ ?_
        rcases ak hc_9 with⟨hc_30,hc_9⟩ | ⟨hc_30,hc_9⟩
        ·refine aB rfl hc_30 (af (aa (ae (vI 7) wz rfl (ai ?_))))
         obtain rfl:=ah hc_9
         obtain rfl:=ah hL_10
         obtain rfl:=ah hF
         exact ay (aO (.inr rfl) [(vI 7)] ⟨rfl,trivial⟩ rfl rfl rfl)
        ·refine ax rfl hc_30 (av (aa (gQ (bJ hD_6 hn_7) wz rfl (ae (vI ((k_3 + 1:Nat):Int)) wz rfl (ai ?_)))))
         obtain rfl:=ah hc_9
         exact aY (k_3 + 1,l_4,()) ⟨hL_10,aR hD_6⟩ (Nat.lt_succ_self _) rfl (aJ rfl)
  ·rintro s_8 ho_ sl_ H_ hp_ hq_
   subst ho_
   refine aL _ hp_ hq_ (af (aa (ae (vI 0) wz rfl (ai ?_))))
   obtain rfl:=ah hF
   exact ay (aO (.inr rfl) [(vI 0)] ⟨rfl,trivial⟩ rfl rfl rfl)
theorem pq {l_1:(List Alert)} {posts_2:(List Post)} {r:Int} (hF:gm l_1 posts_2=some r) :
  FnM Tryz.prog 83 [(vL Alert.enc l_1),(vL Post.enc posts_2)] [] (vI r) []:=by
 refine FnM.of_wH ⟨Tryz.prog,13,[],[]⟩ rfl Tryz.func83 rfl rfl (Nat.le_of_ble_eq_true rfl) (by kernel_rfl) ?_
 unfold gm at hF
 refine af (aa (ae (vI 0) wz rfl (ai (af (af (aa (ae (vL Alert.enc l_1) wz rfl ?_)))))))
 obtain ⟨r_3,hr_4,hF⟩:=bind_some hF
 refine aH (tX hr_4) rfl hb161 rfl rfl rfl rfl wz (ae (vI r_3) wz rfl (ai (af (aa (ae (vI r_3) wz rfl (ae (vB (r_3 != 0)) wz rfl (ai ?_)))))))
 rcases ak hF with⟨hc_5,hF⟩ | ⟨hc_5,hF⟩
 ·refine aB rfl hc_5 (af (aa (ae (vI r_3) wz rfl (ae (vI r_3) wz rfl (ai ?_)))))
  obtain rfl:=ah hF
  exact ay (aO (.inr rfl) [(vI r_3)] ⟨rfl,trivial⟩ rfl rfl rfl)
 ·refine ax rfl hc_5 (av (af (aa (ae (vL Post.enc posts_2) wz rfl ?_))))
  obtain ⟨r_6,hr_7,hF⟩:=bind_some hF
  refine aH (uJ hr_7) rfl hb162 rfl rfl rfl rfl wz (ae (vI r_6) wz rfl (ai ?_))
  obtain rfl:=ah hF
  exact ay (aO (.inr rfl) [(vI r_6)] ⟨rfl,trivial⟩ rfl rfl rfl)
theorem yG {o_1:Alert} {p_2:ByteArray} {p_3:Alert} {r:Bool} (hF:jH o_1 p_2 p_3=some r) :
  FnM Tryz.prog 239 [(.d (.agg (Alert.enc o_1))),(.ref (au 0) 0 0),(.ref (au 1) 0 0)] [(.cells 1 [(vS p_2)]),(.cells 9 [(vS p_3.Id),(vS p_3.Sender),(vI p_3.Kind),(vL eS p_3.Refs),(vI p_3.At),(vI p_3.Until),(vI p_3.Weight),(vL Rect.enc p_3.Areas),(vS p_3.Text)])] (vB r) [some (.cells 1 [(vS p_2)]),some (.cells 9 [(vS p_3.Id),(vS p_3.Sender),(vI p_3.Kind),(vL eS p_3.Refs),(vI p_3.At),(vI p_3.Until),(vI p_3.Weight),(vL Rect.enc p_3.Areas),(vS p_3.Text)])]:=by
 refine FnM.of_wH ⟨Tryz.prog,22,[],[]⟩ rfl Tryz.func239 rfl rfl (Nat.le_of_ble_eq_true rfl) (by kernel_rfl) ?_
 unfold jH at hF
 refine af (aa (eD 0 (.inl rfl) [(vS o_1.Id),(vS o_1.Sender),(vI o_1.Kind),(vL eS o_1.Refs),(vI o_1.At),(vI o_1.Until),(vI o_1.Weight),(vL Rect.enc o_1.Areas),(vS o_1.Text)] rfl rfl wz (fun n_4=>ae (vB false) wz rfl (ai (af ?_)))))
 obtain ⟨v_5,h_6,hF⟩:=bind_some hF
 refine aC (β:=Unit) (fun _=>([(4,(vB v_5))]:List (Nat×V))) (fun _=>([((au 0),some (.cells 1 [(vS p_2)])),((au 1),some (.cells 9 [(vS p_3.Id),(vS p_3.Sender),(vI p_3.Kind),(vL eS p_3.Refs),(vI p_3.At),(vI p_3.Until),(vI p_3.Weight),(vL Rect.enc p_3.Areas),(vS p_3.Text)])),(n_4,some (.cells 9 [(vS o_1.Id),(vS o_1.Sender),(vI o_1.Kind),(vL eS o_1.Refs),(vI o_1.At),(vI o_1.Until),(vI o_1.Weight),(vL Rect.enc o_1.Areas),(vS o_1.Text)]))]:Hp)) (fun _=>True) ?_ ?_
 ·refine aa (aG eT rfl 0 rfl wz (aF 0 2 il ft sz9 ag9 rfl rfl (vS o_1.Id) rfl wz (aF 0 0 il ft sz9 ag9 rfl rfl (vS p_2) rfl wz (ae (vB (sEq o_1.Id p_2)) wz rfl ?_))))
  rcases ak h_6 with⟨hc_7,h_6⟩ | ⟨hc_7,h_6⟩
  ·refine aD rfl hc_7 wz (aG rF rfl 1 rfl wa (aF 0 2 il ft sz9 ag9 rfl rfl (vS o_1.Sender) rfl wa (aG rF rfl 1 rfl wa (aF 0 1 il ft sz9 ag9 rfl rfl (vS p_3.Sender) rfl wa (ae (vB (sEq o_1.Sender p_3.Sender)) wa rfl (ae (vB (sEq o_1.Sender p_3.Sender)) wz rfl ?_))))))
   rcases ak h_6 with⟨hc_8,h_6⟩ | ⟨hc_8,h_6⟩
   ·refine aD rfl hc_8 wz (aF 0 2 il ft bB dS rfl rfl (.d (.agg (Alert.enc o_1))) rfl wa (aF 0 1 il ft bB dS rfl rfl (.d (.agg (Alert.enc p_3))) rfl wa ?_))
    obtain ⟨r_9,hr_10,h_6⟩:=bind_some h_6
    refine aH (qh hr_10) rfl hb206 rfl rfl rfl rfl wa (ae (vB (decide (r_9 < 0))) wa rfl (ae (vB (decide (r_9 < 0))) wz rfl (ae (vB (decide (r_9 < 0))) wz rfl (ai ?_))))
    obtain rfl:=ah h_6
    exact cu
   ·refine aD rfl hc_8 wz (aj wa (aj wa (aj wa (aj wa (ae (vB false) wz rfl (ae (vB false) wz rfl (ai ?_)))))))
    obtain rfl:=ah h_6
    exact cu
  ·refine aD rfl hc_7 wz (aj wa (aj wa (aj wa (aj wa (aj wa (ae (vB false) wz rfl (ae (vB false) wz rfl (aj wa (aj wa (aj wa (aj wa (ae (vB false) wz rfl (ae (vB false) wz rfl (ai ?_))))))))))))))
   obtain rfl:=ah h_6
   exact cu
 ·rintro ⟨⟩ _ sl_ H_ hp_ hq_
  refine aL _ hp_ hq_ ?_
  obtain rfl:=ah hF
  exact ay (rX (.inr rfl) [(vB v_5)] _ [0,1] [au 0,au 1] ⟨rfl,trivial⟩ (.cons (gN rfl rfl) (.nil)) (by kernel_rfl) ⟨(by kernel_rfl),⟨(by kernel_rfl),trivial⟩⟩ (by decide) (by kernel_rfl))
theorem gK {s_1:(List Alert)} {f_2:Alert→Option Bool} {r:Int} {gid:FuncId} {caps:List V} {Sin:List Box} (hfn:∀ x0 r,f_2 x0=some r→FnM Tryz.prog gid ([(.d (.agg (Alert.enc x0)))]++caps) Sin (vB r) (Sin.map some)) (hbF:aI Tryz.prog gid=true) (hcapF:caps.flatMap frz = []∧caps.map co0=caps) (hokF:okL Sin.length caps=true) (hsF:∀ b∈Sin,b.ok Sin.length=true) (hmF:∀ b∈Sin,b.mut=true) (hF:bg s_1 f_2=some r) :
  FnM Tryz.prog 41 [(vL Alert.enc s_1),(.fn gid caps)] Sin (vI r) (Sin.map some):=by
 refine FnM.of_wH ⟨Tryz.prog,19,[],[]⟩ rfl Tryz.func41 rfl rfl (Nat.le_of_ble_eq_true rfl) (by kernel_rfl) ?_
 unfold bg at hF
 refine af (aa (ae (vI 0) wz rfl (ai (af (af (aa (ae (vL Alert.enc s_1) wz rfl (bZ pG rfl wz (ae (vI 0) wz rfl (ai ?_))))))))))
 obtain ⟨o_11,hj_12,hF⟩:=bind_some hF
 obtain ⟨hn_7,hj_12⟩:=aZ hj_12
 refine aC (β:=(Unit)) (fun (s_8:Unit)=>([]:List (Nat×V))) (fun (s_8:Unit)=>(l6 0 Sin)) (fun p=>o_11 = .go p) ?_ ?_
 ·refine aA (aV (β:=Nat×(List Alert)×(Unit)) (fun p=>(fun (k_3:Nat) (l_4:List Alert) (s_8:Unit)=>([(0,(vL Alert.enc s_1)),(1,(.fn gid caps)),(7,(vI (s_1.length:Int))),(8,(vI (k_3:Int)))]:List (Nat×V))) p.1 p.2.1 p.2.2) (fun p=>(fun (k_3:Nat) (l_4:List Alert) (s_8:Unit)=>(l6 0 Sin)) p.1 p.2.1 p.2.2) (fun p=>forR (fun k x s=>bz f_2 k x s) p.2.1 p.1 p.2.2=some o_11∧(s_1).drop p.1=p.2.1) (fun p=>p.2.1.length) (0,s_1,()) ⟨hj_12,rfl⟩ rfl (qm _) ?_)
  rintro ⟨k_3,l_4,s_8⟩ ⟨hL_10,hD_6⟩
  dsimp only at hL_10 hD_6
  cases l_4 with
  | nil =>
   obtain rfl:=ah hL_10
   refine af (aa (ae (vB (decide ((k_3:Int) < (s_1.length:Int)))) wz rfl (ai ?_)))
   refine af (ax rfl (drop_nil hD_6) (aX ?_))
   exact aU (s_8) rfl rfl (qm _)
  | cons x_5 l_4 =>
   obtain ⟨c_,hc_9,hL_10⟩:=bind_some hL_10
   refine af (aa (ae (vB (decide ((k_3:Int) < (s_1.length:Int)))) wz rfl (ai ?_)))
   refine af (aB rfl (bv hD_6) (av ?_))
   unfold bz at hc_9
   refine af (aA (af (aa (ae (vI (k_3:Int)) wz rfl (ae (vI (k_3:Int)) wz rfl (ai (af (aa (ae (.fn gid caps) wz rfl (ae (vL Alert.enc s_1) wz rfl (ae (vI (k_3:Int)) wz rfl (gL jD rfl rfl (bN hD_6) rfl wz (dn bB dS rfl (.d (.agg (Alert.enc x_5))) rfl wz ?_)))))))))))))
   obtain ⟨r_13,hr_14,hc_9⟩:=bind_some hc_9
   refine yY (hfn _ _ hr_14) rfl hbF rfl rfl hcapF hokF hsF hmF rfl wz rfl (ai ?_)
   rcases ak hc_9 with⟨hc_15,hc_9⟩ | ⟨hc_15,hc_9⟩
   ·refine aB rfl hc_15 (af (aa (ae (vI (k_3:Int)) wz rfl (ae (vI (k_3:Int)) wz rfl (ai ?_)))))
    obtain rfl:=ah hc_9
    obtain rfl:=ah hL_10
    obtain rfl:=ah hF
    exact ay (IK hsF (.inr rfl) [(vI (k_3:Int))] ⟨rfl,trivial⟩ rfl rfl rfl)
   ·refine ax rfl hc_15 (av (aa (gQ (bJ hD_6 hn_7) wz rfl (ae (vI ((k_3 + 1:Nat):Int)) wz rfl (ai ?_)))))
    obtain rfl:=ah hc_9
    exact aY (k_3 + 1,l_4,()) ⟨hL_10,aR hD_6⟩ (Nat.lt_succ_self _) rfl (qm _)
 ·rintro s_8 ho_ sl_ H_ hp_ hq_
  subst ho_
  refine aL _ hp_ hq_ (af (aa (ae (vI (-1)) wz rfl (ai ?_))))
  obtain rfl:=ah hF
  exact ay (IK hsF (.inr rfl) [(vI (-1))] ⟨rfl,trivial⟩ rfl rfl rfl)
theorem AR {l_1:(List Alert)} {a_2:Alert} {ref_3:ByteArray} {r:Int} (hF:mU l_1 a_2 ref_3=some r) :
  FnM Tryz.prog 179 [(vL Alert.enc l_1),(.d (.agg (Alert.enc a_2))),(vS ref_3)] [] (vI r) []:=by
 refine FnM.of_wH ⟨Tryz.prog,10,[],[]⟩ rfl Tryz.func179 rfl rfl (Nat.le_of_ble_eq_true rfl) (by kernel_rfl) ?_
 unfold mU at hF
 refine af (aa (eD 0 (.inl rfl) [(vS a_2.Id),(vS a_2.Sender),(vI a_2.Kind),(vL eS a_2.Refs),(vI a_2.At),(vI a_2.Until),(vI a_2.Weight),(vL Rect.enc a_2.Areas),(vS a_2.Text)] rfl rfl wz (fun n_4=>eD 0 (.inl rfl) [(vS ref_3)] rfl rfl wz (fun n_5=>ae (vI 0) wz rfl (ai (af (aa (ae (vL Alert.enc l_1) wz rfl (ae (.fn 239 [(.ref n_5 0 0),(.ref n_4 0 0)]) wz rfl ?_)))))))))
 obtain ⟨r_6,hr_7,hF⟩:=bind_some hF
 refine aM 0 [1,0] il ft (gK (gid:=239) (caps := [.ref (au 0) 0 0,.ref (au 1) 0 0]) (Sin := [(.cells 1 [(vS ref_3)]),(.cells 9 [(vS a_2.Id),(vS a_2.Sender),(vI a_2.Kind),(vL eS a_2.Refs),(vI a_2.At),(vI a_2.Until),(vI a_2.Weight),(vL Rect.enc a_2.Areas),(vS a_2.Text)])]) (fun _ _ h_=>yG h_) hb239 ⟨rfl,rfl⟩ (by kernel_rfl) (Ce (by kernel_rfl)) (yO (by kernel_rfl)) hr_7) rfl hb41 rfl (by kernel_rfl) (by kernel_rfl) (by kernel_rfl) (by kernel_rfl) (by kernel_rfl) (by kernel_rfl) (by kernel_rfl) (by decide) (by kernel_rfl) wz (vI r_6) (by kernel_rfl) ([(n_4,some (.cells 9 [(vS a_2.Id),(vS a_2.Sender),(vI a_2.Kind),(vL eS a_2.Refs),(vI a_2.At),(vI a_2.Until),(vI a_2.Weight),(vL Rect.enc a_2.Areas),(vS a_2.Text)])),(n_5,some (.cells 1 [(vS ref_3)]))]:Hp) (by kernel_rfl) (ae (vI r_6) wz rfl (ai ?_))
 obtain rfl:=ah hF
 exact ay (aO (.inr rfl) [(vI r_6)] ⟨rfl,trivial⟩ rfl rfl rfl)
theorem AZ {l_1:(List Alert)} {r:(List Int)} (hF:pg l_1=some r) :
  FnM Tryz.prog 103 [(vL Alert.enc l_1)] [] (vL eI r) []:=by
 refine FnM.of_wH ⟨Tryz.prog,55,[],[]⟩ rfl Tryz.func103 rfl rfl (Nat.le_of_ble_eq_true rfl) (by kernel_rfl) ?_
 unfold pg at hF
 refine af (aa (ae .nil wz rfl (ai (af (aa (ae .nil wz rfl (ai (af (af (aa (ae (vL Alert.enc l_1) wz rfl (bZ pG rfl wz (ae (vI 0) wz rfl (ai (oG (fun n_8 => ?_))))))))))))))))
 obtain ⟨o_13,hj_14,hF⟩:=bind_some hF
 obtain ⟨hn_6,hj_14⟩:=aZ hj_14
 refine aC (β:=((List Int))×Nm) (fun p=>(fun (s_7:(List Int)) (n_10:Nm)=>([(0,(vL Alert.enc l_1)),(3,(gV n_10 1 s_7))]:List (Nat×V))) p.1 p.2) (fun p=>(fun (s_7:(List Int)) (n_10:Nm)=>([(n_10,gB 1 eI s_7)]:Hp)) p.1 p.2) (fun p=>o_13 = .go p.1) ?_ ?_
 ·refine aA (aV (β:=Nat×(List Alert)×((List Int))×Nm) (fun p=>(fun (k_2:Nat) (l_3:List Alert) (s_7:(List Int)) (n_10:Nm)=>([(0,(vL Alert.enc l_1)),(3,(gV n_10 1 s_7)),(11,(vL Alert.enc l_1)),(12,(vI (l_1.length:Int))),(13,(vI (k_2:Int)))]:List (Nat×V))) p.1 p.2.1 p.2.2.1 p.2.2.2) (fun p=>(fun (k_2:Nat) (l_3:List Alert) (s_7:(List Int)) (n_10:Nm)=>([(n_10,gB 1 eI s_7)]:Hp)) p.1 p.2.1 p.2.2.1 p.2.2.2) (fun p=>forR (fun k x s=>lD k x s) p.2.1 p.1 p.2.2.1=some o_13∧(l_1).drop p.1=p.2.1) (fun p=>p.2.1.length) (0,l_1,([]:List Int),n_8) ⟨hj_14,rfl⟩ rfl (aJ rfl) ?_)
  rintro ⟨k_2,l_3,s_7,n_10⟩ ⟨hL_12,hD_5⟩
  dsimp only at hL_12 hD_5
  cases l_3 with
  | nil =>
   obtain rfl:=ah hL_12
   refine af (aa (ae (vB (decide ((k_2:Int) < (l_1.length:Int)))) wz rfl (ai ?_)))
   refine af (ax rfl (drop_nil hD_5) (aX ?_))
   exact aU (s_7,n_10) rfl rfl (aJ rfl)
  | cons x_4 l_3 =>
   obtain ⟨c_,hc_11,hL_12⟩:=bind_some hL_12
   refine af (aa (ae (vB (decide ((k_2:Int) < (l_1.length:Int)))) wz rfl (ai ?_)))
   refine af (aB rfl (bv hD_5) (av ?_))
   unfold lD at hc_11
   refine af (aA (af (aa (gL jD rfl rfl (bN hD_5) rfl wz (dn bB dS rfl (.d (.agg (Alert.enc x_4))) rfl wz (fH 0 (.inl rfl) sQ rfl wz (fun n_15=>gu 0 il ft 1 bB rfl rfl [(vS x_4.Id),(vS x_4.Sender),(vI x_4.Kind),(vL eS x_4.Refs),(vI x_4.At),(vI x_4.Until),(vI x_4.Weight),(vL Rect.enc x_4.Areas),(vS x_4.Text)] rfl wz (ai (aa (ae (gV n_10 1 s_7) wz rfl (aG rJ rfl 5 rfl wz (aF 0 1 il ft sz3 ag3 rfl rfl (vI x_4.Until) rfl wz (dY (([x_4.Until]:List Int).map eI) iW si rfl rfl rfl rfl rfl wz ?_)))))))))))))
   obtain ⟨a_16,hz_17,hc_11⟩:=bind_some hc_11
   refine oL 0 il ft (i:=0) Gs Gs sz3 z3 rfl (by decide) by3 (by decide) (fun _=>rfl) rfl rfl rfl hz_17 wz (fun n_18=>ae (gV n_18 1 a_16) wz rfl (ai (aa (gQ (bJ hD_5 hn_6) wz rfl (ae (vI ((k_2 + 1:Nat):Int)) wz rfl (ai ?_))))))
   obtain rfl:=ah hc_11
   exact aY (k_2 + 1,l_3,a_16,n_18) ⟨hL_12,aR hD_5⟩ (Nat.lt_succ_self _) rfl (aJ rfl)
 ·rintro ⟨s_7,n_10⟩ ho_ sl_ H_ hp_ hq_
  subst ho_
  refine aL _ hp_ hq_ (af (af (aa (ae (vL Alert.enc l_1) wz rfl (bZ pG rfl wz (ae (vI 0) wz rfl (ai ?_)))))))
  obtain ⟨o_27,hj_28,hF⟩:=bind_some hF
  obtain ⟨hn_23,hj_28⟩:=aZ hj_28
  refine aC (β:=((List Int))) (fun (s_24:(List Int))=>([(3,(gV n_10 1 s_24))]:List (Nat×V))) (fun (s_24:(List Int))=>([(n_10,gB 1 eI s_24)]:Hp)) (fun p=>o_27 = .go p) ?_ ?_
  ·refine aA (aV (β:=Nat×(List Alert)×((List Int))) (fun p=>(fun (k_19:Nat) (l_20:List Alert) (s_24:(List Int))=>([(0,(vL Alert.enc l_1)),(3,(gV n_10 1 s_24)),(23,(vL Alert.enc l_1)),(24,(vI (l_1.length:Int))),(25,(vI (k_19:Int)))]:List (Nat×V))) p.1 p.2.1 p.2.2) (fun p=>(fun (k_19:Nat) (l_20:List Alert) (s_24:(List Int))=>([(n_10,gB 1 eI s_24)]:Hp)) p.1 p.2.1 p.2.2) (fun p=>forR (fun k x s=>lu l_1 k x s) p.2.1 p.1 p.2.2=some o_27∧(l_1).drop p.1=p.2.1) (fun p=>p.2.1.length) (0,l_1,s_7) ⟨hj_28,rfl⟩ rfl (aJ rfl) ?_)
   rintro ⟨k_19,l_20,s_24⟩ ⟨hL_26,hD_22⟩
   dsimp only at hL_26 hD_22
   cases l_20 with
   | nil =>
    obtain rfl:=ah hL_26
    refine af (aa (ae (vB (decide ((k_19:Int) < (l_1.length:Int)))) wz rfl (ai ?_)))
    refine af (ax rfl (drop_nil hD_22) (aX ?_))
    exact aU (s_24) rfl rfl (aJ rfl)
   | cons x_21 l_20 =>
    obtain ⟨c_,hc_25,hL_26⟩:=bind_some hL_26
    refine af (aa (ae (vB (decide ((k_19:Int) < (l_1.length:Int)))) wz rfl (ai ?_)))
    refine af (aB rfl (bv hD_22) (av ?_))
    unfold lu at hc_25
    refine af (aA (af (aa (gL jD rfl rfl (bN hD_22) rfl wz (dn bB dS rfl (.d (.agg (Alert.enc x_21))) rfl wz (fH 0 (.inl rfl) sQ rfl wz (fun n_29=>gu 0 il ft 1 bB rfl rfl [(vS x_21.Id),(vS x_21.Sender),(vI x_21.Kind),(vL eS x_21.Refs),(vI x_21.At),(vI x_21.Until),(vI x_21.Weight),(vL Rect.enc x_21.Areas),(vS x_21.Text)] rfl wz (ai (af (aa (aG jI rfl 3 rfl wz (aF 0 1 il ft uM xk rfl rfl (vL eS x_21.Refs) rfl wz (bZ vv rfl wz (ae (vI 0) wz rfl (ai ?_)))))))))))))))
    obtain ⟨o_38,hj_39,hc_25⟩:=bind_some hc_25
    obtain ⟨hn_34,hj_39⟩:=aZ hj_39
    refine aC (β:=((List Int))) (fun (s_35:(List Int))=>([(0,(vL Alert.enc l_1)),(3,(gV n_10 1 s_35)),(23,(vL Alert.enc l_1)),(24,(vI (l_1.length:Int))),(25,(vI (k_19:Int)))]:List (Nat×V))) (fun (s_35:(List Int))=>([(n_10,gB 1 eI s_35),(n_29,some (.cells 9 [(vS x_21.Id),(vS x_21.Sender),(vI x_21.Kind),(vL eS x_21.Refs),(vI x_21.At),(vI x_21.Until),(vI x_21.Weight),(vL Rect.enc x_21.Areas),(vS x_21.Text)]))]:Hp)) (fun p=>o_38 = .go p) ?_ ?_
    ·refine aA (aV (β:=Nat×(List ByteArray)×((List Int))) (fun p=>(fun (k_30:Nat) (l_31:List ByteArray) (s_35:(List Int))=>([(0,(vL Alert.enc l_1)),(3,(gV n_10 1 s_35)),(7,(.ref n_29 0 0)),(23,(vL Alert.enc l_1)),(24,(vI (l_1.length:Int))),(25,(vI (k_19:Int))),(30,(vL eS x_21.Refs)),(31,(vI (x_21.Refs.length:Int))),(32,(vI (k_30:Int)))]:List (Nat×V))) p.1 p.2.1 p.2.2) (fun p=>(fun (k_30:Nat) (l_31:List ByteArray) (s_35:(List Int))=>([(n_10,gB 1 eI s_35),(n_29,some (.cells 9 [(vS x_21.Id),(vS x_21.Sender),(vI x_21.Kind),(vL eS x_21.Refs),(vI x_21.At),(vI x_21.Until),(vI x_21.Weight),(vL Rect.enc x_21.Areas),(vS x_21.Text)]))]:Hp)) p.1 p.2.1 p.2.2) (fun p=>forR (fun k x s=>jX l_1 x_21 k x s) p.2.1 p.1 p.2.2=some o_38∧(x_21.Refs).drop p.1=p.2.1) (fun p=>p.2.1.length) (0,x_21.Refs,s_24) ⟨hj_39,rfl⟩ rfl (aJ rfl) ?_)
     rintro ⟨k_30,l_31,s_35⟩ ⟨hL_37,hD_33⟩
     dsimp only at hL_37 hD_33
     cases l_31 with
     | nil =>
      obtain rfl:=ah hL_37
      refine af (aa (ae (vB (decide ((k_30:Int) < (x_21.Refs.length:Int)))) wz rfl (ai ?_)))
      refine af (ax rfl (drop_nil hD_33) (aX ?_))
      exact aU (s_35) rfl rfl (aJ rfl)
     | cons x_32 l_31 =>
      obtain ⟨c_,hc_36,hL_37⟩:=bind_some hL_37
      refine af (aa (ae (vB (decide ((k_30:Int) < (x_21.Refs.length:Int)))) wz rfl (ai ?_)))
      refine af (aB rfl (bv hD_33) (av ?_))
      unfold jX at hc_36
      refine af (aA (af (aa (gL mM rfl rfl (bN hD_33) rfl wz (dn sz9 ag9 rfl (vS x_32) rfl wz (ae (vS x_32) wz rfl (ai (af (aa (ae (vL Alert.enc l_1) wz rfl (aF 0 1 il ft bB dS rfl rfl (.d (.agg (Alert.enc x_21))) rfl wz (ae (vS x_32) wz rfl ?_))))))))))))
      obtain ⟨r_40,hr_41,hc_36⟩:=bind_some hc_36
      refine aH (AR hr_41) rfl hb179 rfl rfl rfl rfl wz (ae (vI r_40) wz rfl (ai (af (aa (ae (vI r_40) wz rfl (ae (vB (decide (r_40≥0))) wz rfl (ai ?_)))))))
      obtain ⟨v_42,h_43,hc_36⟩:=bind_some hc_36
      refine aC (β:=Unit) (fun _=>([(0,(vL Alert.enc l_1)),(3,(gV n_10 1 v_42)),(7,(.ref n_29 0 0)),(23,(vL Alert.enc l_1)),(24,(vI (l_1.length:Int))),(25,(vI (k_19:Int))),(30,(vL eS x_21.Refs)),(31,(vI (x_21.Refs.length:Int))),(32,(vI (k_30:Int)))]:List (Nat×V))) (fun _=>([(n_10,gB 1 eI v_42),(n_29,some (.cells 9 [(vS x_21.Id),(vS x_21.Sender),(vI x_21.Kind),(vL eS x_21.Refs),(vI x_21.At),(vI x_21.Until),(vI x_21.Weight),(vL Rect.enc x_21.Areas),(vS x_21.Text)]))]:Hp)) (fun _=>True) ?_ ?_
      ·rcases ak h_43 with⟨hc_44,h_43⟩ | ⟨hc_44,h_43⟩
       ·refine aB rfl hc_44 (cK (ae (gV n_10 1 s_35) wz rfl (ae (vI r_40) wz rfl (ae (gV n_10 1 s_35) wz rfl (ae (vI r_40) wz rfl ?_)))))
        obtain ⟨_,hi_45,h_43⟩:=bind_some h_43
        refine tJ iW rfl rfl (iP hi_45) (fO hi_45) wz ?_
        obtain ⟨e_46,hy_47,h_43⟩:=bind_some h_43
        refine jh 5 0 (.inr (by kernel_rfl)) (fun _ _ ag=>trivial) sz3 ag3 rfl rfl hy_47 (vI e_46) rfl wz (aG dZ rfl 4 rfl wz (aF 7 1 (.inr (by kernel_rfl)) (fun _ _ ag=>⟨.inl ⟨rfl,rfl⟩,trivial⟩) sz3 ag3 rfl rfl (vI x_21.At) rfl wz (DY (vI (zl e_46 x_21.At)) rfl (.inl rfl) wz ?_)))
        obtain ⟨_,hi_48,h_43⟩:=bind_some h_43
        refine tJ iW rfl rfl (iP hi_48) (fO hi_48) wz ?_
        obtain ⟨e_49,hy_50,h_43⟩:=bind_some h_43
        refine jl 10 (.inr (by kernel_rfl)) (fun _ _ ag=>⟨.inr (.inr (by kernel_rfl)),⟨.inr (.inr (by kernel_rfl)),trivial⟩⟩) 0 sz3 rfl rfl hy_50 (zl e_46 x_21.At) rfl wz (bC (v':=(gV n_10 1 (s_35.set (0 + (r_40).toNat) (zl e_46 x_21.At)))) 3 rfl (bI (by simp)) (bC (v':=(gV n_10 1 (s_35.set (0 + (r_40).toNat) (zl e_46 x_21.At)))) 42 rfl (bI (by simp)) (bC (v':=(gV n_10 1 (s_35.set (0 + (r_40).toNat) (zl e_46 x_21.At)))) 44 rfl (bI (by simp)) (ai ?_))))
        obtain rfl:=ah h_43
        exact cu
       ·refine ax rfl hc_44 (av ?_)
        obtain rfl:=ah h_43
        exact cu
      ·rintro ⟨⟩ _ sl_ H_ hp_ hq_
       refine aL _ hp_ hq_ (aa (gQ (bJ hD_33 hn_34) wz rfl (ae (vI ((k_30 + 1:Nat):Int)) wz rfl (ai ?_))))
       obtain rfl:=ah hc_36
       exact aY (k_30 + 1,l_31,v_42) ⟨hL_37,aR hD_33⟩ (Nat.lt_succ_self _) rfl (aJ rfl)
    ·rintro s_35 ho_ sl_ H_ hp_ hq_
     subst ho_
     refine aL _ hp_ hq_ (aa (gQ (bJ hD_22 hn_23) wz rfl (ae (vI ((k_19 + 1:Nat):Int)) wz rfl (ai ?_))))
     obtain rfl:=ah hc_25
     exact aY (k_19 + 1,l_20,s_35) ⟨hL_26,aR hD_22⟩ (Nat.lt_succ_self _) rfl (aJ rfl)
  ·rintro s_24 ho_ sl_ H_ hp_ hq_
   subst ho_
   refine aL _ hp_ hq_ (af (aa (ae (gV n_10 1 s_24) wz rfl (ae (gV n_10 1 s_24) wz rfl (ai (jq 0 rfl (fQ 2 0 rfl rfl (fQ 3 0 rfl rfl (fQ 54 0 rfl rfl ?_)))))))))
   obtain rfl:=ah hF
   exact ay (aO (.inr rfl) [(vL eI s_24)] ⟨rfl,trivial⟩ rfl rfl rfl)
theorem ll {x r:(List Int)} (hF:eO x=some r) :
  FnM Tryz.prog 90 [(dV (au 0) 1 x)] (([]:List Box)++gI 1 eI x) (.tup []) (([]:List Box).map some++gT x (gB 1 eI r)) :=
 Ka Tryz.slices_Sort_int Tryz.slices_Sort_int_none hF
theorem jS {s_1:(List Int)} {r:(List Int)} (hF:bS s_1=some r) :
  FnM Tryz.prog 91 [(dV (au 0) 1 s_1)] (([]:List Box)++gI 1 eI s_1) (vL eI r) (([]:List Box).map some++gT s_1 none):=by
 refine FnM.of_wHv ⟨Tryz.prog,61,[],[]⟩ rfl Tryz.func91 rfl rfl (Nat.le_of_ble_eq_true rfl) (by kernel_rfl) ?_
 unfold bS at hF
 refine af (aa (ae .nil wz rfl (ai (af (af (aa (ae (dV (au 0) 1 s_1) wz rfl (Ai rZ rfl wz (ae (vB (decide ((s_1.length:Int) < 2))) wz rfl (ai ?_))))))))))
 rcases ak hF with⟨hc_2,hF⟩ | ⟨hc_2,hF⟩
 ·refine aB rfl hc_2 (af (aa (ae (dV (au 0) 1 s_1) wz rfl (ae (dV (au 0) 1 s_1) wz rfl (ai (jq 0 rfl (uY 0 0 rfl rfl (uY 2 0 rfl rfl (uY 6 0 rfl rfl (uY 9 0 rfl rfl (Dq (i:=0) rfl ?_)))))))))))
  obtain rfl:=ah hF
  exact ay (vZ (bs:=([]:List Box)) (os:=([]:List Box)) (xs:=s_1) (o:=none) (.inr rfl) [(vL eI s_1)] ⟨rfl,trivial⟩ rfl rfl rfl rfl rfl (by kernel_rfl) wX rfl)
 ·refine ax rfl hc_2 (av (af (af (aa (ae (vI 1) wz rfl (ai ?_))))))
  obtain ⟨o_11,hj_12,hF⟩:=bind_some hF
  obtain ⟨nq_52,hj_12⟩:=eu hj_12
  refine aC (β:=(Int)) (fun (s_8:Int)=>([(0,(dV (au 0) 1 s_1))]:List (Nat×V))) (fun (s_8:Int)=>([((au 0),gB 1 eI s_1)]:Hp)) (fun p=>o_11 = .go p) ?_ ?_
  ·refine aA (aV (β:=Nat×(Int)) (fun p=>(fun (k_3:Nat) (s_8:Int)=>([(0,(dV (au 0) 1 s_1)),(3,(vI s_8))]:List (Nat×V))) p.1 p.2) (fun p=>(fun (k_3:Nat) (s_8:Int)=>([((au 0),gB 1 eI s_1)]:Hp)) p.1 p.2) (fun p=>iterN (fun s=>aN s_1 s) p.1 p.2=some o_11) (fun p=>p.1) (nq_52,1) hj_12 rfl (aJ rfl) ?_)
   rintro ⟨k_3,s_8⟩ hL_10
   dsimp only at hL_10
   cases k_3 with
   | zero=>cases hL_10
   | succ k_3 =>
    obtain ⟨c_,hc_9,hL_10⟩:=bind_some hL_10
    unfold aN at hc_9
    refine af (af (aa (ae (vI s_8) wz rfl (ae (dV (au 0) 1 s_1) wz rfl (Ai rZ rfl wz (ae (vB (decide (s_8 < (s_1.length:Int)))) wz rfl (ai ?_)))))))
    rcases ak hc_9 with⟨hc_13,hc_9⟩ | ⟨hc_13,hc_9⟩
    ·refine aB rfl hc_13 (av (af (aA (af (cK (ae (dV (au 0) 1 s_1) wz rfl (ae (vI s_8) wz rfl ?_)))))))
     obtain ⟨_,hi_14,hc_9⟩:=bind_some hc_9
     refine jm iW rfl rfl (iP hi_14) (fO hi_14) wz ?_
     obtain ⟨e_15,hy_16,hc_9⟩:=bind_some hc_9
     refine jh 3 0 (.inr (by kernel_rfl)) (fun _ _ ag=>trivial) sz3 ag3 rfl rfl hy_16 (vI e_15) rfl wz (ae (dV (au 0) 1 s_1) wz rfl (ae (vI s_8) wz rfl (ae (vI (w64 (s_8 - 1))) wz rfl ?_)))
     obtain ⟨_,hi_17,hc_9⟩:=bind_some hc_9
     refine jm iW rfl rfl (iP hi_17) (fO hi_17) wz ?_
     obtain ⟨e_18,hy_19,hc_9⟩:=bind_some hc_9
     refine jh 8 0 (.inr (by kernel_rfl)) (fun _ _ ag=>⟨.inl ⟨rfl,rfl⟩,trivial⟩) sz3 ag3 rfl rfl hy_19 (vI e_18) rfl wz (ae (vB (e_15 == e_18)) wz rfl (ai ?_))
     rcases ak hc_9 with⟨hc_20,hc_9⟩ | ⟨hc_20,hc_9⟩
     ·refine aB rfl hc_20 (af (aa (ae (dV (au 0) 1 s_1) wz rfl (ae (vI s_8) wz rfl ?_))))
      obtain ⟨_,hn_21,hc_9⟩:=bind_some hc_9
      replace hn_21:=Gf hn_21
      refine bC (v':=(vV (au 0) 1 s_1)) 0 rfl (wP hn_21) (bC (v':=(vV (au 0) 1 s_1)) 11 rfl (wP hn_21) (bC (v':=(vV (au 0) 1 s_1)) 16 rfl (wP hn_21) (bC (v':=(vV (au 0) 1 s_1)) 20 rfl (wP hn_21) (bC (v':=(vV (au 0) 1 s_1)) 26 rfl (wP hn_21) (D7 0 rfl (Cu hn_21) ?_)))))
      obtain ⟨_,hr_22,hc_9⟩:=bind_some hc_9
      refine ER rZ sz3 rfl rfl hr_22 wz (ae (.vs (au 0) 1 ((s_8).toNat) (((s_1.length:Int)).toNat - (s_8).toNat)) wz rfl (ai (af (af (aa (ae (vI 1) wz rfl (ai ?_)))))))
      obtain ⟨o_31,hj_32,hc_9⟩:=bind_some hc_9
      obtain ⟨nq_51,hj_32⟩:=eu hj_32
      refine aC (β:=((List Int)×Int×Int)) (fun (s_28:(List Int)×Int×Int)=>([(0,(vV (au 0) 1 s_28.1)),(3,(vI s_28.2.1))]:List (Nat×V))) (fun (s_28:(List Int)×Int×Int)=>([((au 0),some (bV 1 eI s_28.1))]:Hp)) (fun p=>o_31 = .go p) ?_ ?_
      ·refine aA (aV (β:=Nat×((List Int)×Int×Int)) (fun p=>(fun (k_23:Nat) (s_28:(List Int)×Int×Int)=>([(0,(vV (au 0) 1 s_28.1)),(3,(vI s_28.2.1)),(4,(.vs (au 0) 1 ((s_8).toNat) (((s_1.length:Int)).toNat - (s_8).toNat))),(5,(vI s_28.2.2))]:List (Nat×V))) p.1 p.2) (fun p=>(fun (k_23:Nat) (s_28:(List Int)×Int×Int)=>([((au 0),some (bV 1 eI s_28.1))]:Hp)) p.1 p.2) (fun p=>iterN (fun s=>bH s_1 s_8 s) p.1 p.2=some o_31) (fun p=>p.1) (nq_51,(s_1,s_8,1)) hj_32 rfl (aJ rfl) ?_)
       rintro ⟨k_23,s_28⟩ hL_30
       dsimp only at hL_30
       cases k_23 with
       | zero=>cases hL_30
       | succ k_23 =>
        obtain ⟨c_,hc_29,hL_30⟩:=bind_some hL_30
        unfold bH at hc_29
        refine af (af (aa (ae (vI s_28.2.2) wz rfl (ae (.vs (au 0) 1 ((s_8).toNat) (((s_1.length:Int)).toNat - (s_8).toNat)) wz rfl (h_lenp rZ rfl wz (ae (vB (decide (s_28.2.2 < (((((s_1.length:Int)).toNat - (s_8).toNat):Nat):Int)))) wz rfl (ai ?_)))))))
        rcases ak hc_29 with⟨hc_33,hc_29⟩ | ⟨hc_33,hc_29⟩
        ·refine aB rfl hc_33 (av (af (aA (af (cK (ae (.vs (au 0) 1 ((s_8).toNat) (((s_1.length:Int)).toNat - (s_8).toNat)) wz rfl (ae (vI s_28.2.2) wz rfl ?_)))))))
         obtain ⟨_,hi_34,hc_29⟩:=bind_some hc_29
         refine BC iW rfl rfl (KR hi_34) (Gg hi_34) wz ?_
         obtain ⟨e_35,hy_36,hc_29⟩:=bind_some hc_29
         refine GG 3 0 (.inr (by kernel_rfl)) (fun _ _ ag=>trivial) sz3 ag3 rfl rfl hy_36 (vI e_35) rfl wz (ae (.vs (au 0) 1 ((s_8).toNat) (((s_1.length:Int)).toNat - (s_8).toNat)) wz rfl (ae (vI s_28.2.2) wz rfl (ae (vI (w64 (s_28.2.2 - 1))) wz rfl ?_)))
         obtain ⟨_,hi_37,hc_29⟩:=bind_some hc_29
         refine BC iW rfl rfl (KR hi_37) (Gg hi_37) wz ?_
         obtain ⟨e_38,hy_39,hc_29⟩:=bind_some hc_29
         refine GG 8 0 (.inr (by kernel_rfl)) (fun _ _ ag=>⟨.inl ⟨rfl,rfl⟩,trivial⟩) sz3 ag3 rfl rfl hy_39 (vI e_38) rfl wz (ae (vB (e_35 != e_38)) wz rfl (ai ?_))
         obtain ⟨v_40,h_41,hc_29⟩:=bind_some hc_29
         refine aC (β:=Unit) (fun _=>([(0,(vV (au 0) 1 v_40.1)),(3,(vI v_40.2)),(4,(.vs (au 0) 1 ((s_8).toNat) (((s_1.length:Int)).toNat - (s_8).toNat))),(5,(vI s_28.2.2))]:List (Nat×V))) (fun _=>([((au 0),some (bV 1 eI v_40.1))]:Hp)) (fun _=>True) ?_ ?_
         ·rcases ak h_41 with⟨hc_42,h_41⟩ | ⟨hc_42,h_41⟩
          ·refine aB rfl hc_42 (af (aa (ae (vV (au 0) 1 s_28.1) wz rfl (ae (vI s_28.2.1) wz rfl (ae (.vs (au 0) 1 ((s_8).toNat) (((s_1.length:Int)).toNat - (s_8).toNat)) wz rfl (ae (vI s_28.2.2) wz rfl ?_))))))
           obtain ⟨_,hi_43,h_41⟩:=bind_some h_41
           refine BC iW rfl rfl (KR hi_43) (Gg hi_43) wz ?_
           obtain ⟨e_44,hy_45,h_41⟩:=bind_some h_41
           refine GG 0 0 il ft sz3 ag3 rfl rfl hy_45 (vI e_44) rfl wz ?_
           obtain ⟨_,hi_46,h_41⟩:=bind_some h_41
           refine BC iW rfl rfl (iP hi_46) (fO hi_46) wz ?_
           obtain ⟨e_47,hy_48,h_41⟩:=bind_some h_41
           refine h_stv 0 il ft 0 sz3 rfl rfl hy_48 e_44 rfl wz (bC (v':=(vV (au 0) 1 (s_28.1.set (0 + (s_28.2.1).toNat) e_44))) 0 rfl (Cy (by simp)) (bC (v':=(vV (au 0) 1 (s_28.1.set (0 + (s_28.2.1).toNat) e_44))) 45 rfl (Cy (by simp)) (ai (aa (ae (vI s_28.2.1) wz rfl (ae (vI (w64 (s_28.2.1 + 1))) wz rfl (ae (vI (w64 (s_28.2.1 + 1))) wz rfl (ai ?_))))))))
           obtain rfl:=ah h_41
           exact cu
          ·refine ax rfl hc_42 (av ?_)
           obtain rfl:=ah h_41
           exact cu
         ·rintro ⟨⟩ _ sl_ H_ hp_ hq_
          refine aL _ hp_ hq_ (aa (ae (vI s_28.2.2) wz rfl (ae (vI (w64 (s_28.2.2 + 1))) wz rfl (ae (vI (w64 (s_28.2.2 + 1))) wz rfl (ai ?_)))))
          obtain rfl:=ah hc_29
          exact aY (k_23,(v_40.1,v_40.2,(w64 (s_28.2.2 + 1)))) hL_30 (Nat.lt_succ_self _) rfl (aJ rfl)
        ·refine ax rfl hc_33 (aX ?_)
         obtain rfl:=ah hc_29
         obtain rfl:=ah hL_30
         exact aU ((s_28.1,s_28.2.1,s_28.2.2)) rfl rfl (aJ rfl)
      ·rintro s_28 ho_ sl_ H_ hp_ hq_
       subst ho_
       refine aL _ hp_ hq_ (af (aa (ae (vV (au 0) 1 s_28.1) wz rfl (ae (vI s_28.2.1) wz rfl ?_))))
       obtain ⟨_,hr_49,hc_9⟩:=bind_some hc_9
       refine ER rZ sz3 rfl rfl hr_49 wz (h_clear (i:=0) 0 il ft 0 Gs sz3 z3 rfl rfl rfl (by decide) rfl (wC hr_49) rfl wz (bC (v':=(vV (au 0) 1 (s_28.1.take ((s_28.2.1).toNat)++List.replicate (((s_28.1.length:Int)).toNat - (s_28.2.1).toNat) 0++s_28.1.drop (((s_28.2.1).toNat) + (((s_28.1.length:Int)).toNat - (s_28.2.1).toNat))))) 0 rfl (Cy (Bh (wC hr_49))) (bC (v':=(vV (au 0) 1 (s_28.1.take ((s_28.2.1).toNat)++List.replicate (((s_28.1.length:Int)).toNat - (s_28.2.1).toNat) 0++s_28.1.drop (((s_28.2.1).toNat) + (((s_28.1.length:Int)).toNat - (s_28.2.1).toNat))))) 54 rfl (Cy (Bh (wC hr_49))) (ai (af (aa (ae (vV (au 0) 1 (s_28.1.take ((s_28.2.1).toNat)++List.replicate (((s_28.1.length:Int)).toNat - (s_28.2.1).toNat) 0++s_28.1.drop (((s_28.2.1).toNat) + (((s_28.1.length:Int)).toNat - (s_28.2.1).toNat)))) wz rfl (ae (vI s_28.2.1) wz rfl ?_))))))))
       obtain ⟨_,hr_50,hc_9⟩:=bind_some hc_9
       refine J9 rZ sz3 rfl rfl hr_50 wz (ae (.vs (au 0) 1 0 ((s_28.2.1).toNat)) wz rfl (ai (G8 0 rfl (DL 0 0 rfl rfl (Jt 2 0 rfl rfl (wC hr_50) (DL 54 0 rfl rfl (DL 57 0 rfl rfl (Jt 59 0 rfl rfl (wC hr_50) (Dq (i:=0) rfl ?_)))))))))
       obtain rfl:=ah hc_9
       obtain rfl:=ah hL_10
       obtain rfl:=ah hF
       exact ay (vZ (bs:=([]:List Box)) (os:=([]:List Box)) (xs:=s_1) (o:=none) (.inr rfl) [(vL eI (cutL (s_28.1.take ((s_28.2.1).toNat)++List.replicate (((s_28.1.length:Int)).toNat - (s_28.2.1).toNat) 0++s_28.1.drop (((s_28.2.1).toNat) + (((s_28.1.length:Int)).toNat - (s_28.2.1).toNat))) 0 ((s_28.2.1).toNat)))] ⟨rfl,trivial⟩ rfl rfl rfl rfl rfl (by kernel_rfl) wX rfl)
     ·refine ax rfl hc_20 (av (aa (ae (vI s_8) wz rfl (ae (vI (w64 (s_8 + 1))) wz rfl (ae (vI (w64 (s_8 + 1))) wz rfl (ai ?_))))))
      obtain rfl:=ah hc_9
      exact aY (k_3,(w64 (s_8 + 1))) hL_10 (Nat.lt_succ_self _) rfl (aJ rfl)
    ·refine ax rfl hc_13 (aX ?_)
     obtain rfl:=ah hc_9
     obtain rfl:=ah hL_10
     exact aU (s_8) rfl rfl (aJ rfl)
  ·rintro s_8 ho_ sl_ H_ hp_ hq_
   subst ho_
   refine aL _ hp_ hq_ (af (aa (ae (dV (au 0) 1 s_1) wz rfl (ae (dV (au 0) 1 s_1) wz rfl (ai (jq 0 rfl (uY 0 0 rfl rfl (uY 2 0 rfl rfl (uY 60 0 rfl rfl (Dq (i:=0) rfl ?_))))))))))
   obtain rfl:=ah hF
   exact ay (vZ (bs:=([]:List Box)) (os:=([]:List Box)) (xs:=s_1) (o:=none) (.inr rfl) [(vL eI s_1)] ⟨rfl,trivial⟩ rfl rfl rfl rfl rfl (by kernel_rfl) wX rfl)
theorem AQ {a_1:Alert} {endv_2:Int} {atv_3:Int} {r:Bool} (hF:o7 a_1 endv_2 atv_3=some r) :
  FnM Tryz.prog 120 [(.d (.agg (Alert.enc a_1))),(vI endv_2),(vI atv_3)] [] (vB r) []:=by
 refine FnM.of_wH ⟨Tryz.prog,21,[],[]⟩ rfl Tryz.func120 rfl rfl (Nat.le_of_ble_eq_true rfl) (by kernel_rfl) ?_
 unfold o7 at hF
 refine af (aa (eD 0 (.inl rfl) [(vS a_1.Id),(vS a_1.Sender),(vI a_1.Kind),(vL eS a_1.Refs),(vI a_1.At),(vI a_1.Until),(vI a_1.Weight),(vL Rect.enc a_1.Areas),(vS a_1.Text)] rfl rfl wz (fun n_4=>ae (vB false) wz rfl (ai (af ?_)))))
 obtain ⟨v_5,h_6,hF⟩:=bind_some hF
 refine aC (β:=Unit) (fun _=>([(6,(vB v_5))]:List (Nat×V))) (fun _=>([(n_4,some (.cells 9 [(vS a_1.Id),(vS a_1.Sender),(vI a_1.Kind),(vL eS a_1.Refs),(vI a_1.At),(vI a_1.Until),(vI a_1.Weight),(vL Rect.enc a_1.Areas),(vS a_1.Text)]))]:Hp)) (fun _=>True) ?_ ?_
 ·refine aa (aG lL rfl 2 rfl wz (aF 0 0 il ft sz3 ag3 rfl rfl (vI a_1.Kind) rfl wz (ae (vB (a_1.Kind != 3)) wz rfl ?_)))
  rcases ak h_6 with⟨hc_7,h_6⟩ | ⟨hc_7,h_6⟩
  ·refine aD rfl hc_7 wz (aG dZ rfl 4 rfl wa (aF 0 0 il ft sz3 ag3 rfl rfl (vI a_1.At) rfl wa (ae (vI atv_3) wa rfl (ae (vB (decide (a_1.At≤atv_3))) wa rfl (ae (vB (decide (a_1.At≤atv_3))) wz rfl ?_)))))
   rcases ak h_6 with⟨hc_8,h_6⟩ | ⟨hc_8,h_6⟩
   ·refine aD rfl hc_8 wz (ae (vI atv_3) wa rfl (ae (vI endv_2) wa rfl (ae (vB (decide (atv_3 < endv_2))) wa rfl (ae (vB (decide (atv_3 < endv_2))) wz rfl (ae (vB (decide (atv_3 < endv_2))) wz rfl (ai ?_))))))
    obtain rfl:=ah h_6
    exact cu
   ·refine aD rfl hc_8 wz (aj wa (aj wa (aj wa (ae (vB false) wz rfl (ae (vB false) wz rfl (ai ?_))))))
    obtain rfl:=ah h_6
    exact cu
  ·refine aD rfl hc_7 wz (aj wa (aj wa (aj wa (aj wa (ae (vB false) wz rfl (ae (vB false) wz rfl (aj wa (aj wa (aj wa (ae (vB false) wz rfl (ae (vB false) wz rfl (ai ?_))))))))))))
   obtain rfl:=ah h_6
   exact cu
 ·rintro ⟨⟩ _ sl_ H_ hp_ hq_
  refine aL _ hp_ hq_ ?_
  obtain rfl:=ah hF
  exact ay (aO (.inr rfl) [(vB v_5)] ⟨rfl,trivial⟩ rfl rfl rfl)
theorem uZ {r_1:Rect} {p_2:Post} {r:Bool} (hF:jU r_1 p_2=some r) :
  FnM Tryz.prog 183 [(.d (.agg (Rect.enc r_1))),(.ref (au 0) 0 0)] [(.cells 3 [(vS p_2.Player),(vI p_2.X),(vI p_2.Y)])] (vB r) [some (.cells 3 [(vS p_2.Player),(vI p_2.X),(vI p_2.Y)])]:=by
 refine FnM.of_wH ⟨Tryz.prog,36,[],[]⟩ rfl Tryz.func183 rfl rfl (Nat.le_of_ble_eq_true rfl) (by kernel_rfl) ?_
 unfold jU at hF
 refine af (aa (eD 0 (.inl rfl) [(vI r_1.X),(vI r_1.Y),(vI r_1.W),(vI r_1.H)] rfl rfl wz (fun n_3=>ae (vB false) wz rfl (ai (af ?_)))))
 obtain ⟨v_4,h_5,hF⟩:=bind_some hF
 refine aC (β:=Unit) (fun _=>([(3,(vB v_4))]:List (Nat×V))) (fun _=>([((au 0),some (.cells 3 [(vS p_2.Player),(vI p_2.X),(vI p_2.Y)])),(n_3,some (.cells 4 [(vI r_1.X),(vI r_1.Y),(vI r_1.W),(vI r_1.H)]))]:Hp)) (fun _=>True) ?_ ?_
 ·refine aa (aG qW rfl 0 rfl wz (aF 0 1 il ft sz3 ag3 rfl rfl (vI r_1.X) rfl wz (aG xG rfl 1 rfl wz (aF 0 0 il ft sz3 ag3 rfl rfl (vI p_2.X) rfl wz (ae (vB (decide (r_1.X≤p_2.X))) wz rfl ?_)))))
  rcases ak h_5 with⟨hc_6,h_5⟩ | ⟨hc_6,h_5⟩
  ·refine aD rfl hc_6 wz (aG xG rfl 1 rfl wa (aF 0 0 il ft sz3 ag3 rfl rfl (vI p_2.X) rfl wa (aG qW rfl 0 rfl wa (aF 0 1 il ft sz3 ag3 rfl rfl (vI r_1.X) rfl wa (aG Ap rfl 2 rfl wa (aF 0 1 il ft sz3 ag3 rfl rfl (vI r_1.W) rfl wa (ae (vI (w64 (r_1.X + r_1.W))) wa rfl (ae (vB (decide (p_2.X < (w64 (r_1.X + r_1.W))))) wa rfl (ae (vB (decide (p_2.X < (w64 (r_1.X + r_1.W))))) wz rfl ?_)))))))))
   rcases ak h_5 with⟨hc_7,h_5⟩ | ⟨hc_7,h_5⟩
   ·refine aD rfl hc_7 wz (aG rE rfl 1 rfl wa (aF 0 1 il ft sz3 ag3 rfl rfl (vI r_1.Y) rfl wa (aG zn rfl 2 rfl wa (aF 0 0 il ft sz3 ag3 rfl rfl (vI p_2.Y) rfl wa (ae (vB (decide (r_1.Y≤p_2.Y))) wa rfl (ae (vB (decide (r_1.Y≤p_2.Y))) wz rfl ?_))))))
    rcases ak h_5 with⟨hc_8,h_5⟩ | ⟨hc_8,h_5⟩
    ·refine aD rfl hc_8 wz (aG zn rfl 2 rfl wa (aF 0 0 il ft sz3 ag3 rfl rfl (vI p_2.Y) rfl wa (aG rE rfl 1 rfl wa (aF 0 1 il ft sz3 ag3 rfl rfl (vI r_1.Y) rfl wa (aG xA rfl 3 rfl wa (aF 0 1 il ft sz3 ag3 rfl rfl (vI r_1.H) rfl wa (ae (vI (w64 (r_1.Y + r_1.H))) wa rfl (ae (vB (decide (p_2.Y < (w64 (r_1.Y + r_1.H))))) wa rfl (ae (vB (decide (p_2.Y < (w64 (r_1.Y + r_1.H))))) wz rfl (ae (vB (decide (p_2.Y < (w64 (r_1.Y + r_1.H))))) wz rfl (ai ?_)))))))))))
     obtain rfl:=ah h_5
     exact cu
    ·refine aD rfl hc_8 wz (aj wa (aj wa (aj wa (aj wa (aj wa (aj wa (aj wa (aj wa (ae (vB false) wz rfl (ae (vB false) wz rfl (ai ?_)))))))))))
     obtain rfl:=ah h_5
     exact cu
   ·refine aD rfl hc_7 wz (aj wa (aj wa (aj wa (aj wa (aj wa (ae (vB false) wz rfl (ae (vB false) wz rfl (aj wa (aj wa (aj wa (aj wa (aj wa (aj wa (aj wa (aj wa (ae (vB false) wz rfl (ae (vB false) wz rfl (ai ?_))))))))))))))))))
    obtain rfl:=ah h_5
    exact cu
  ·refine aD rfl hc_6 wz (aj wa (aj wa (aj wa (aj wa (aj wa (aj wa (aj wa (aj wa (ae (vB false) wz rfl (ae (vB false) wz rfl (aj wa (aj wa (aj wa (aj wa (aj wa (ae (vB false) wz rfl (ae (vB false) wz rfl (aj wa (aj wa (aj wa (aj wa (aj wa (aj wa ?_)))))))))))))))))))))))
   refine aj wa (aj wa (ae (vB false) wz rfl (ae (vB false) wz rfl (ai ?_))))
   obtain rfl:=ah h_5
   exact cu
 ·rintro ⟨⟩ _ sl_ H_ hp_ hq_
  refine aL _ hp_ hq_ ?_
  obtain rfl:=ah hF
  exact ay (rX (.inr rfl) [(vB v_4)] _ [0] [au 0] ⟨rfl,trivial⟩ (.cons (gN rfl rfl) (.nil)) (by kernel_rfl) ⟨(by kernel_rfl),trivial⟩ (by decide) (by kernel_rfl))
theorem kU {s_1:(List Rect)} {f_2:Rect→Option Bool} {r:Int} {gid:FuncId} {caps:List V} {Sin:List Box} (hfn:∀ x0 r,f_2 x0=some r→FnM Tryz.prog gid ([(.d (.agg (Rect.enc x0)))]++caps) Sin (vB r) (Sin.map some)) (hbF:aI Tryz.prog gid=true) (hcapF:caps.flatMap frz = []∧caps.map co0=caps) (hokF:okL Sin.length caps=true) (hsF:∀ b∈Sin,b.ok Sin.length=true) (hmF:∀ b∈Sin,b.mut=true) (hF:dG s_1 f_2=some r) :
  FnM Tryz.prog 249 [(vL Rect.enc s_1),(.fn gid caps)] Sin (vI r) (Sin.map some):=by
 refine FnM.of_wH ⟨Tryz.prog,19,[],[]⟩ rfl Tryz.func249 rfl rfl (Nat.le_of_ble_eq_true rfl) (by kernel_rfl) ?_
 unfold dG at hF
 refine af (aa (ae (vI 0) wz rfl (ai (af (af (aa (ae (vL Rect.enc s_1) wz rfl (bZ FU rfl wz (ae (vI 0) wz rfl (ai ?_))))))))))
 obtain ⟨o_11,hj_12,hF⟩:=bind_some hF
 obtain ⟨hn_7,hj_12⟩:=aZ hj_12
 refine aC (β:=(Unit)) (fun (s_8:Unit)=>([]:List (Nat×V))) (fun (s_8:Unit)=>(l6 0 Sin)) (fun p=>o_11 = .go p) ?_ ?_
 ·refine aA (aV (β:=Nat×(List Rect)×(Unit)) (fun p=>(fun (k_3:Nat) (l_4:List Rect) (s_8:Unit)=>([(0,(vL Rect.enc s_1)),(1,(.fn gid caps)),(7,(vI (s_1.length:Int))),(8,(vI (k_3:Int)))]:List (Nat×V))) p.1 p.2.1 p.2.2) (fun p=>(fun (k_3:Nat) (l_4:List Rect) (s_8:Unit)=>(l6 0 Sin)) p.1 p.2.1 p.2.2) (fun p=>forR (fun k x s=>aP f_2 k x s) p.2.1 p.1 p.2.2=some o_11∧(s_1).drop p.1=p.2.1) (fun p=>p.2.1.length) (0,s_1,()) ⟨hj_12,rfl⟩ rfl (qm _) ?_)
  rintro ⟨k_3,l_4,s_8⟩ ⟨hL_10,hD_6⟩
  dsimp only at hL_10 hD_6
  cases l_4 with
  | nil =>
   obtain rfl:=ah hL_10
   refine af (aa (ae (vB (decide ((k_3:Int) < (s_1.length:Int)))) wz rfl (ai ?_)))
   refine af (ax rfl (drop_nil hD_6) (aX ?_))
   exact aU (s_8) rfl rfl (qm _)
  | cons x_5 l_4 =>
   obtain ⟨c_,hc_9,hL_10⟩:=bind_some hL_10
   refine af (aa (ae (vB (decide ((k_3:Int) < (s_1.length:Int)))) wz rfl (ai ?_)))
   refine af (aB rfl (bv hD_6) (av ?_))
   unfold aP at hc_9
   refine af (aA (af (aa (ae (vI (k_3:Int)) wz rfl (ae (vI (k_3:Int)) wz rfl (ai (af (aa (ae (.fn gid caps) wz rfl (ae (vL Rect.enc s_1) wz rfl (ae (vI (k_3:Int)) wz rfl (gL Jd rfl rfl (bN hD_6) rfl wz (dn rz AC rfl (.d (.agg (Rect.enc x_5))) rfl wz ?_)))))))))))))
   obtain ⟨r_13,hr_14,hc_9⟩:=bind_some hc_9
   refine yY (hfn _ _ hr_14) rfl hbF rfl rfl hcapF hokF hsF hmF rfl wz rfl (ai ?_)
   rcases ak hc_9 with⟨hc_15,hc_9⟩ | ⟨hc_15,hc_9⟩
   ·refine aB rfl hc_15 (af (aa (ae (vI (k_3:Int)) wz rfl (ae (vI (k_3:Int)) wz rfl (ai ?_)))))
    obtain rfl:=ah hc_9
    obtain rfl:=ah hL_10
    obtain rfl:=ah hF
    exact ay (IK hsF (.inr rfl) [(vI (k_3:Int))] ⟨rfl,trivial⟩ rfl rfl rfl)
   ·refine ax rfl hc_15 (av (aa (gQ (bJ hD_6 hn_7) wz rfl (ae (vI ((k_3 + 1:Nat):Int)) wz rfl (ai ?_)))))
    obtain rfl:=ah hc_9
    exact aY (k_3 + 1,l_4,()) ⟨hL_10,aR hD_6⟩ (Nat.lt_succ_self _) rfl (qm _)
 ·rintro s_8 ho_ sl_ H_ hp_ hq_
  subst ho_
  refine aL _ hp_ hq_ (af (aa (ae (vI (-1)) wz rfl (ai ?_))))
  obtain rfl:=ah hF
  exact ay (IK hsF (.inr rfl) [(vI (-1))] ⟨rfl,trivial⟩ rfl rfl rfl)
theorem gy {s_1:(List Rect)} {f_2:Rect→Option Bool} {r:Bool} {gid:FuncId} {caps:List V} {Sin:List Box} (hfn:∀ x0 r,f_2 x0=some r→FnM Tryz.prog gid ([(.d (.agg (Rect.enc x0)))]++caps) Sin (vB r) (Sin.map some)) (hbF:aI Tryz.prog gid=true) (hcapF:caps.flatMap frz = []∧caps.map co0=caps) (hokF:okL Sin.length caps=true) (hsF:∀ b∈Sin,b.ok Sin.length=true) (hmF:∀ b∈Sin,b.mut=true) (hF:bf s_1 f_2=some r) :
  FnM Tryz.prog 182 [(vL Rect.enc s_1),(.fn gid caps)] Sin (vB r) (Sin.map some):=by
 refine FnM.of_wH ⟨Tryz.prog,9,[],[]⟩ rfl Tryz.func182 rfl rfl (Nat.le_of_ble_eq_true rfl) (by kernel_rfl) ?_
 unfold bf at hF
 refine af (aa (ae (vB false) wz rfl (ai (af (aa (ae (vL Rect.enc s_1) wz rfl (ae (.fn gid caps) wz rfl ?_)))))))
 obtain ⟨r_3,hr_4,hF⟩:=bind_some hF
 refine yY (kU (gid:=gid) (caps:=caps) (Sin:=Sin) hfn hbF hcapF hokF hsF hmF hr_4) rfl hb249 rfl rfl ⟨rfl,rfl⟩ (by simp [okL,okV,hokF]) hsF hmF rfl wz rfl (ae (vB (decide (r_3≥0))) wz rfl (ae (vB (decide (r_3≥0))) wz rfl (ai ?_)))
 obtain rfl:=ah hF
 exact ay (IK hsF (.inr rfl) [(vB (decide (r_3≥0)))] ⟨rfl,trivial⟩ rfl rfl rfl)
end Go.Proofs.YtjhcehhmdmbleaaGreatDoor.Law

