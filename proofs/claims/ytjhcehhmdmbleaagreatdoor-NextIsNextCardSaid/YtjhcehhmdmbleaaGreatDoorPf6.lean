/-
 The machine computes these plain functions (written by a program of ours).
-/
import Derived.Test.YtjhcehhmdmbleaaGreatDoorFacts
import Derived.Test.YtjhcehhmdmbleaaGreatDoorDefs
import Derived.Test.YtjhcehhmdmbleaaGreatDoorPf5
open Go Go.Eng Go.Proofs
namespace Go.Proofs.YtjhcehhmdmbleaaGreatDoor.Law
set_option maxRecDepth 100000
set_option linter.unusedVariables false
set_option maxHeartbeats 1000000
theorem Da {s_1:ByteArray} {r:Bool} (hF:o9 s_1=some r) :
  FnM Tryz.prog 269 [(vS s_1)] [] (vB r) []:=by
 refine FnM.of_wH ⟨Tryz.prog,33,[],[]⟩ rfl Tryz.func269 rfl rfl (Nat.le_of_ble_eq_true rfl) (by kernel_rfl) ?_
 unfold o9 at hF
 refine af (aa (ae (vB false) wz rfl (aj (af (af (aa (ae (vI 0) wz rfl (aj ?_))))))))
 obtain ⟨o_10,hj_11,hF⟩:=bind_some hF
 obtain ⟨nq_31,hj_11⟩:=cz hj_11
 refine aH (β:=(Int)) (fun (s_7:Int)=>([(0,(vS s_1))]:List (Nat×V))) (fun (s_7:Int)=>([]:Hp)) (fun p=>o_10 = .go p) ?_ ?_
 ·refine aC (aV (β:=Nat×(Int)) (fun p=>(fun (k_2:Nat) (s_7:Int)=>([(0,(vS s_1)),(3,(vI s_7))]:List (Nat×V))) p.1 p.2) (fun p=>(fun (k_2:Nat) (s_7:Int)=>([]:Hp)) p.1 p.2) (fun p=>iterN (fun s=>nQ s_1 s) p.1 p.2=some o_10) (fun p=>p.1) (nq_31,0) hj_11 rfl (aJ rfl) ?_)
  rintro ⟨k_2,s_7⟩ hL_9
  dsimp only at hL_9
  cases k_2 with
  | zero=>cases hL_9
  | succ k_2 =>
   obtain ⟨c_,hc_8,hL_9⟩:=bind_some hL_9
   unfold nQ at hc_8
   refine af (af (aa (ae (vI s_7) wz rfl (ae (vS s_1) wz rfl (oM un9 rfl wz (ae (vB (decide (s_7 < (s_1.size:Int)))) wz rfl (aj ?_)))))))
   rcases au hc_8 with⟨hc_12,hc_8⟩ | ⟨hc_12,hc_8⟩
   ·refine aA rfl hc_12 (av (af (aC (af ?_))))
    obtain ⟨v_13,h_14,hc_8⟩:=bind_some hc_8
    refine aH (β:=Unit) (fun _=>([(0,(vS s_1)),(3,(vI s_7)),(19,(vB v_13))]:List (Nat×V))) (fun _=>([]:Hp)) (fun _=>True) ?_ ?_
    ·refine aa (ae (vS s_1) wz rfl (ae (vI s_7) wz rfl ?_))
     obtain ⟨b_15,hy_16,h_14⟩:=bind_some h_14
     refine kP un9 rfl rfl hy_16 wz (ae (vB (decide ((b_15.toNat:Int) < 32))) wz rfl ?_)
     rcases au h_14 with⟨hc_17,h_14⟩ | ⟨hc_17,h_14⟩
     ·refine aF rfl hc_17 wz (ak wa (ak wa (ak wa (ak wa (ae (vB true) wz rfl (aj ?_))))))
      obtain rfl:=ah h_14
      exact cu
     ·refine aF rfl hc_17 wz (ae (vS s_1) wa rfl (ae (vI s_7) wa rfl ?_))
      obtain ⟨b_18,hy_19,h_14⟩:=bind_some h_14
      refine kP un9 rfl rfl hy_19 wa (ae (vB ((b_18.toNat:Int) == 127)) wa rfl (ae (vB ((b_18.toNat:Int) == 127)) wz rfl (aj ?_)))
      obtain rfl:=ah h_14
      exact cu
    ·rintro ⟨⟩ _ sl_ H_ hp_ hq_
     refine aL _ hp_ hq_ ?_
     rcases au hc_8 with⟨hc_20,hc_8⟩ | ⟨hc_20,hc_8⟩
     ·refine aA rfl hc_20 (af (aa (ae (vB false) wz rfl (aj ?_))))
      obtain rfl:=ah hc_8
      obtain rfl:=ah hL_9
      obtain rfl:=ah hF
      exact aB (aO (.inr rfl) [(vB false)] ⟨rfl,trivial⟩ rfl rfl rfl)
     ·refine ay rfl hc_20 (av (aa (ae (vI s_7) wz rfl (ae (vI (w64 (s_7 + 1))) wz rfl (ae (vI (w64 (s_7 + 1))) wz rfl (aj ?_))))))
      obtain rfl:=ah hc_8
      exact aP (k_2,(w64 (s_7 + 1))) hL_9 (Nat.lt_succ_self _) rfl (aJ rfl)
   ·refine ay rfl hc_12 (aQ ?_)
    obtain rfl:=ah hc_8
    obtain rfl:=ah hL_9
    exact aR (s_7) rfl rfl (aJ rfl)
 ·rintro s_7 ho_ sl_ H_ hp_ hq_
  subst ho_
  refine aL _ hp_ hq_ (af ?_)
  obtain ⟨v_21,h_22,hF⟩:=bind_some hF
  refine aH (β:=Unit) (fun _=>([(2,(vB v_21))]:List (Nat×V))) (fun _=>([]:Hp)) (fun _=>True) ?_ ?_
  ·refine aa (ae (vS s_1) wz rfl ?_)
   obtain ⟨r_23,hr_24,h_22⟩:=bind_some h_22
   refine aG (qx hr_24) rfl hb208 rfl rfl rfl rfl wz ?_
   rcases au h_22 with⟨hc_25,h_22⟩ | ⟨hc_25,h_22⟩
   ·refine aF rfl hc_25 wz (ae (vS s_1) wa rfl ?_)
    obtain ⟨r_26,hr_27,h_22⟩:=bind_some h_22
    refine aG (BF hr_27) rfl hb211 rfl rfl rfl rfl wa (ae (vS s_1) wa rfl (ae (vB (sEq r_26 s_1)) wa rfl (ae (vB (sEq r_26 s_1)) wz rfl ?_)))
    rcases au h_22 with⟨hc_28,h_22⟩ | ⟨hc_28,h_22⟩
    ·refine aF rfl hc_28 wz (ae (vS s_1) wa rfl ?_)
     obtain ⟨r_29,hr_30,h_22⟩:=bind_some h_22
     refine aG (xQ hr_30) rfl hb212 rfl rfl rfl rfl wa (ae (vB (!r_29)) wa rfl (ae (vB (!r_29)) wz rfl (ae (vB (!r_29)) wz rfl (aj ?_))))
     obtain rfl:=ah h_22
     exact cu
    ·refine aF rfl hc_28 wz (ak wa (ak wa (ak wa (ae (vB false) wz rfl (ae (vB false) wz rfl (aj ?_))))))
     obtain rfl:=ah h_22
     exact cu
   ·refine aF rfl hc_25 wz (ak wa (ak wa (ak wa (ak wa (ae (vB false) wz rfl (ae (vB false) wz rfl (ak wa (ak wa (ak wa (ae (vB false) wz rfl (ae (vB false) wz rfl (aj ?_))))))))))))
    obtain rfl:=ah h_22
    exact cu
  ·rintro ⟨⟩ _ sl_ H_ hp_ hq_
   refine aL _ hp_ hq_ ?_
   obtain rfl:=ah hF
   exact aB (aO (.inr rfl) [(vB v_21)] ⟨rfl,trivial⟩ rfl rfl rfl)
theorem xS {a_1:Alert} {r:Int} (hF:jP a_1=some r) :
  FnM Tryz.prog 205 [(.d (.agg (Alert.enc a_1)))] [] (vI r) []:=by
 refine FnM.of_wH ⟨Tryz.prog,92,[],[]⟩ rfl Tryz.func205 rfl rfl (Nat.le_of_ble_eq_true rfl) (by kernel_rfl) ?_
 unfold jP at hF
 refine af (aa (ek 0 (.inl rfl) [(vS a_1.Id),(vS a_1.Sender),(vI a_1.Kind),(vL eS a_1.Refs),(vI a_1.At),(vI a_1.Until),(vI a_1.Weight),(vL Rect.enc a_1.Areas),(vS a_1.Text)] rfl rfl wz (fun n_2=>ae (vI 0) wz rfl (aj (af (af ?_))))))
 obtain ⟨v_3,h_4,hF⟩:=bind_some hF
 refine aH (β:=Unit) (fun _=>([(1,(.ref n_2 0 0)),(17,(vB v_3))]:List (Nat×V))) (fun _=>([(n_2,some (.cells 9 [(vS a_1.Id),(vS a_1.Sender),(vI a_1.Kind),(vL eS a_1.Refs),(vI a_1.At),(vI a_1.Until),(vI a_1.Weight),(vL Rect.enc a_1.Areas),(vS a_1.Text)]))]:Hp)) (fun _=>True) ?_ ?_
 ·refine aa (aI xD rfl 0 rfl wz (aD 0 0 il ft sz9 ag9 rfl rfl (vS a_1.Id) rfl wz ?_))
  obtain ⟨r_5,hr_6,h_4⟩:=bind_some h_4
  refine aG (eY hr_6) rfl sU rfl rfl rfl rfl wz (ae (vB (!r_5)) wz rfl ?_)
  rcases au h_4 with⟨hc_7,h_4⟩ | ⟨hc_7,h_4⟩
  ·refine aF rfl hc_7 wz (ak wa (ak wa (ak wa (ak wa (ae (vB true) wz rfl (aj ?_))))))
   obtain rfl:=ah h_4
   exact cu
  ·refine aF rfl hc_7 wz (aI pl100_1 rfl 1 rfl wa (aD 0 0 il ft sz9 ag9 rfl rfl (vS a_1.Sender) rfl wa ?_))
   obtain ⟨r_8,hr_9,h_4⟩:=bind_some h_4
   refine aG (eY hr_9) rfl sU rfl rfl rfl rfl wa (ae (vB (!r_8)) wa rfl (ae (vB (!r_8)) wz rfl (aj ?_)))
   obtain rfl:=ah h_4
   exact cu
 ·rintro ⟨⟩ _ sl_ H_ hp_ hq_
  refine aL _ hp_ hq_ ?_
  rcases au hF with⟨hc_10,hF⟩ | ⟨hc_10,hF⟩
  ·refine aA rfl hc_10 (af (aa (ae (vI 5) wz rfl (aj ?_))))
   obtain rfl:=ah hF
   exact aB (aO (.inr rfl) [(vI 5)] ⟨rfl,trivial⟩ rfl rfl rfl)
  ·refine ay rfl hc_10 (av (af (af (aa (aI Fj rfl 2 rfl wz (aD 0 0 il ft sz3 ag3 rfl rfl (vI a_1.Kind) rfl wz ?_))))))
   obtain ⟨r_11,hr_12,hF⟩:=bind_some hF
   refine aG (bg hr_12) rfl qE rfl rfl rfl rfl wz (aj ?_)
   rcases au hF with⟨hc_13,hF⟩ | ⟨hc_13,hF⟩
   ·refine aA rfl hc_13 (af (aa (ae (vI 4) wz rfl (aj ?_))))
    obtain rfl:=ah hF
    exact aB (aO (.inr rfl) [(vI 4)] ⟨rfl,trivial⟩ rfl rfl rfl)
   ·refine ay rfl hc_13 (av (af (af (aa (aD 0 0 il ft vJ zR rfl rfl (.d (.agg (Alert.enc a_1))) rfl wz ?_)))))
    obtain ⟨r_14,hr_15,hF⟩:=bind_some hF
    refine aG (yG hr_15) rfl hb268 rfl rfl rfl rfl wz (ae (vI r_14) wz rfl (aj (af (aa (ae (vI r_14) wz rfl (ae (vB (r_14 != 0)) wz rfl (aj ?_)))))))
    rcases au hF with⟨hc_16,hF⟩ | ⟨hc_16,hF⟩
    ·refine aA rfl hc_16 (af (aa (ae (vI r_14) wz rfl (ae (vI r_14) wz rfl (aj ?_)))))
     obtain rfl:=ah hF
     exact aB (aO (.inr rfl) [(vI r_14)] ⟨rfl,trivial⟩ rfl rfl rfl)
    ·refine ay rfl hc_16 (av (af (af ?_)))
     obtain ⟨v_17,h_18,hF⟩:=bind_some hF
     refine aH (β:=Unit) (fun _=>([(1,(.ref n_2 0 0)),(45,(vB v_17))]:List (Nat×V))) (fun _=>([(n_2,some (.cells 9 [(vS a_1.Id),(vS a_1.Sender),(vI a_1.Kind),(vL eS a_1.Refs),(vI a_1.At),(vI a_1.Until),(vI a_1.Weight),(vL Rect.enc a_1.Areas),(vS a_1.Text)]))]:Hp)) (fun _=>True) ?_ ?_
     ·refine aa (aI zy rfl 4 rfl wz (aD 0 0 il ft sz3 ag3 rfl rfl (vI a_1.At) rfl wz ?_))
      obtain ⟨r_19,hr_20,h_18⟩:=bind_some h_18
      refine aG (gN hr_20) rfl Bw rfl rfl rfl rfl wz (ae (vB (!r_19)) wz rfl ?_)
      rcases au h_18 with⟨hc_21,h_18⟩ | ⟨hc_21,h_18⟩
      ·refine aF rfl hc_21 wz (ak wa (ak wa (ak wa (ak wa (ak wa (ak wa (ak wa (ak wa (ak wa (ae (vB true) wz rfl (ae (vB true) wz rfl (ak wa (ak wa (ak wa (ae (vB true) wz rfl (aj ?_))))))))))))))))
       obtain rfl:=ah h_18
       exact cu
      ·refine aF rfl hc_21 wz (aI pl100_5 rfl 5 rfl wa (aD 0 0 il ft sz3 ag3 rfl rfl (vI a_1.Until) rfl wa (aI zy rfl 4 rfl wa (aD 0 0 il ft sz3 ag3 rfl rfl (vI a_1.At) rfl wa (ae (vI (w64 (a_1.At + 1))) wa rfl (aI zy rfl 4 rfl wa (aD 0 0 il ft sz3 ag3 rfl rfl (vI a_1.At) rfl wa (ae (vI (w64 (a_1.At + 2592000000))) wa rfl ?_))))))))
       obtain ⟨r_22,hr_23,h_18⟩:=bind_some h_18
       refine aG (bg hr_23) rfl qE rfl rfl rfl rfl wa (ae (vB r_22) wz rfl ?_)
       rcases au h_18 with⟨hc_24,h_18⟩ | ⟨hc_24,h_18⟩
       ·refine aF rfl hc_24 wz (ak wa (ak wa (ak wa (ae (vB true) wz rfl (aj ?_)))))
        obtain rfl:=ah h_18
        exact cu
       ·refine aF rfl hc_24 wz (aI pl100_6 rfl 6 rfl wa (aD 0 0 il ft sz3 ag3 rfl rfl (vI a_1.Weight) rfl wa ?_))
        obtain ⟨r_25,hr_26,h_18⟩:=bind_some h_18
        refine aG (bg hr_26) rfl qE rfl rfl rfl rfl wa (ae (vB r_25) wz rfl (aj ?_))
        obtain rfl:=ah h_18
        exact cu
     ·rintro ⟨⟩ _ sl_ H_ hp_ hq_
      refine aL _ hp_ hq_ ?_
      rcases au hF with⟨hc_27,hF⟩ | ⟨hc_27,hF⟩
      ·refine aA rfl hc_27 (af (aa (ae (vI 1) wz rfl (aj ?_))))
       obtain rfl:=ah hF
       exact aB (aO (.inr rfl) [(vI 1)] ⟨rfl,trivial⟩ rfl rfl rfl)
      ·refine ay rfl hc_27 (av (af (af (aa (aI Cg rfl 7 rfl wz (aD 0 0 il ft KM KD rfl rfl (vL Rect.enc a_1.Areas) rfl wz (cO AA rfl wz (ae (vB (decide ((a_1.Areas.length:Int) > 20))) wz rfl (aj ?_)))))))))
       rcases au hF with⟨hc_28,hF⟩ | ⟨hc_28,hF⟩
       ·refine aA rfl hc_28 (af (aa (ae (vI 2) wz rfl (aj ?_))))
        obtain rfl:=ah hF
        exact aB (aO (.inr rfl) [(vI 2)] ⟨rfl,trivial⟩ rfl rfl rfl)
       ·refine ay rfl hc_28 (av (af (af (aa (aI Cg rfl 7 rfl wz (aD 0 0 il ft KM KD rfl rfl (vL Rect.enc a_1.Areas) rfl wz (cO AA rfl wz (ae (vI 0) wz rfl (aj ?_)))))))))
        obtain ⟨o_37,hj_38,hF⟩:=bind_some hF
        obtain ⟨hn_33,hj_38⟩:=bv hj_38
        refine aH (β:=(Unit)) (fun (s_34:Unit)=>([(1,(.ref n_2 0 0))]:List (Nat×V))) (fun (s_34:Unit)=>([(n_2,some (.cells 9 [(vS a_1.Id),(vS a_1.Sender),(vI a_1.Kind),(vL eS a_1.Refs),(vI a_1.At),(vI a_1.Until),(vI a_1.Weight),(vL Rect.enc a_1.Areas),(vS a_1.Text)]))]:Hp)) (fun p=>o_37 = .go p) ?_ ?_
        ·refine aC (aV (β:=Nat×(List Rect)×(Unit)) (fun p=>(fun (k_29:Nat) (l_30:List Rect) (s_34:Unit)=>([(1,(.ref n_2 0 0)),(51,(vL Rect.enc a_1.Areas)),(52,(vI (a_1.Areas.length:Int))),(53,(vI (k_29:Int)))]:List (Nat×V))) p.1 p.2.1 p.2.2) (fun p=>(fun (k_29:Nat) (l_30:List Rect) (s_34:Unit)=>([(n_2,some (.cells 9 [(vS a_1.Id),(vS a_1.Sender),(vI a_1.Kind),(vL eS a_1.Refs),(vI a_1.At),(vI a_1.Until),(vI a_1.Weight),(vL Rect.enc a_1.Areas),(vS a_1.Text)]))]:Hp)) p.1 p.2.1 p.2.2) (fun p=>forR (fun k x s=>jJ k x s) p.2.1 p.1 p.2.2=some o_37∧(a_1.Areas).drop p.1=p.2.1) (fun p=>p.2.1.length) (0,a_1.Areas,()) ⟨hj_38,rfl⟩ rfl (aJ rfl) ?_)
         rintro ⟨k_29,l_30,s_34⟩ ⟨hL_36,hD_32⟩
         dsimp only at hL_36 hD_32
         cases l_30 with
         | nil =>
          obtain rfl:=ah hL_36
          refine af (aa (ae (vB (decide ((k_29:Int) < (a_1.Areas.length:Int)))) wz rfl (aj ?_)))
          refine af (ay rfl (drop_nil hD_32) (aQ ?_))
          exact aR (s_34) rfl rfl (aJ rfl)
         | cons x_31 l_30 =>
          obtain ⟨c_,hc_35,hL_36⟩:=bind_some hL_36
          refine af (aa (ae (vB (decide ((k_29:Int) < (a_1.Areas.length:Int)))) wz rfl (aj ?_)))
          refine af (aA rfl (bL hD_32) (av ?_))
          unfold jJ at hc_35
          refine af (aC (af (aa (dU F3 rfl rfl (bT hD_32) rfl wz (bN wB GL rfl (.d (.agg (Rect.enc x_31))) rfl wz (dB 0 (.inl rfl) z45 rfl wz (fun n_39=>fH 0 il ft 1 wB rfl rfl [(vI x_31.X),(vI x_31.Y),(vI x_31.W),(vI x_31.H)] rfl wz (aj (af (aa (aD 0 1 il ft wB GL rfl rfl (.d (.agg (Rect.enc x_31))) rfl wz ?_)))))))))))
          obtain ⟨r_40,hr_41,hc_35⟩:=bind_some hc_35
          refine aG (ql hr_41) rfl hb73 rfl rfl rfl rfl wz (ae (vI r_40) wz rfl (aj (af (aa (ae (vI r_40) wz rfl (ae (vB (r_40 != 0)) wz rfl (aj ?_)))))))
          rcases au hc_35 with⟨hc_42,hc_35⟩ | ⟨hc_42,hc_35⟩
          ·refine aA rfl hc_42 (af (aa (ae (vI r_40) wz rfl (ae (vI r_40) wz rfl (aj ?_)))))
           obtain rfl:=ah hc_35
           obtain rfl:=ah hL_36
           obtain rfl:=ah hF
           exact aB (aO (.inr rfl) [(vI r_40)] ⟨rfl,trivial⟩ rfl rfl rfl)
          ·refine ay rfl hc_42 (av (aa (fJ (bO hD_32 hn_33) wz rfl (ae (vI ((k_29 + 1:Nat):Int)) wz rfl (aj ?_)))))
           obtain rfl:=ah hc_35
           exact aP (k_29 + 1,l_30,()) ⟨hL_36,aW hD_32⟩ (Nat.lt_succ_self _) rfl (aJ rfl)
        ·rintro s_34 ho_ sl_ H_ hp_ hq_
         subst ho_
         refine aL _ hp_ hq_ (af (aa (aI Fj rfl 2 rfl wz (aD 0 0 il ft sz3 ag3 rfl rfl (vI a_1.Kind) rfl wz (ae (vB (a_1.Kind == 3)) wz rfl (ae (vB (a_1.Kind == 3)) wz rfl (aj (af (aC (af (aa (ae (vB (a_1.Kind == 3)) wz rfl (aI Cg rfl 7 rfl wz (aD 0 0 il ft KM KD rfl rfl (vL Rect.enc a_1.Areas) rfl wz (cO AA rfl wz (ae (vB ((a_1.Areas.length:Int) == 0)) wz rfl (MI un4 rfl rfl wz (ae (vB (!((a_1.Kind == 3) == ((a_1.Areas.length:Int) == 0)))) wz rfl (aj ?_)))))))))))))))))))
         rcases au hF with⟨hc_43,hF⟩ | ⟨hc_43,hF⟩
         ·refine aA rfl hc_43 (af (aa (ae (vI 3) wz rfl (aj ?_))))
          obtain rfl:=ah hF
          exact aB (aO (.inr rfl) [(vI 3)] ⟨rfl,trivial⟩ rfl rfl rfl)
         ·refine ay rfl hc_43 (af (aa (aI Gl rfl 8 rfl wz (aD 0 0 il ft sz9 ag9 rfl rfl (vS a_1.Text) rfl wz (oM un9 rfl wz (ae (vB (decide ((a_1.Text.size:Int) > 500))) wz rfl (ae (vB (decide ((a_1.Text.size:Int) > 500))) wz rfl (aj ?_))))))))
          rcases au hF with⟨hc_44,hF⟩ | ⟨hc_44,hF⟩
          ·refine aA rfl hc_44 (af (aa (ae (vI 2) wz rfl (aj ?_))))
           obtain rfl:=ah hF
           exact aB (aO (.inr rfl) [(vI 2)] ⟨rfl,trivial⟩ rfl rfl rfl)
          ·refine ay rfl hc_44 (af ?_)
           obtain ⟨v_45,h_46,hF⟩:=bind_some hF
           refine aH (β:=Unit) (fun _=>([(78,(vB v_45))]:List (Nat×V))) (fun _=>([(n_2,some (.cells 9 [(vS a_1.Id),(vS a_1.Sender),(vI a_1.Kind),(vL eS a_1.Refs),(vI a_1.At),(vI a_1.Until),(vI a_1.Weight),(vL Rect.enc a_1.Areas),(vS a_1.Text)]))]:Hp)) (fun _=>True) ?_ ?_
           ·refine aa (aI Gl rfl 8 rfl wz (aD 0 0 il ft sz9 ag9 rfl rfl (vS a_1.Text) rfl wz ?_))
            obtain ⟨r_47,hr_48,h_46⟩:=bind_some h_46
            refine aG (Da hr_48) rfl hb269 rfl rfl rfl rfl wz (ae (vB (!r_47)) wz rfl ?_)
            rcases au h_46 with⟨hc_49,h_46⟩ | ⟨hc_49,h_46⟩
            ·refine aF rfl hc_49 wz (ak wa (ak wa (ak wa (ak wa (ak (wn rfl rfl) (ak (wn rfl rfl) (ak wa (ae (vB true) wz rfl (ae (vB true) wz rfl (aj ?_))))))))))
             obtain rfl:=ah h_46
             exact cu
            ·refine aF rfl hc_49 wz (aI Gl rfl 8 rfl wa (aD 0 0 il ft sz9 ag9 rfl rfl (vS a_1.Text) rfl wa (ae (vB (sEq a_1.Text (⟨#[]⟩:ByteArray))) wa rfl ?_)))
             rcases au h_46 with⟨hc_50,h_46⟩ | ⟨hc_50,h_46⟩
             ·refine aF rfl hc_50 wa (ae (vB (a_1.Kind == 3)) wa rfl (ae (vB (!(a_1.Kind == 3))) wa rfl (ae (vB (!(a_1.Kind == 3))) wa rfl (ae (vB (!(a_1.Kind == 3))) wz rfl (ae (vB (!(a_1.Kind == 3))) wz rfl (aj ?_))))))
              obtain rfl:=ah h_46
              exact cu
             ·refine aF rfl hc_50 wa (ak wa (ak wa (ae (vB false) wa rfl (ae (vB false) wz rfl (ae (vB false) wz rfl (aj ?_))))))
              obtain rfl:=ah h_46
              exact cu
           ·rintro ⟨⟩ _ sl_ H_ hp_ hq_
            refine aL _ hp_ hq_ ?_
            rcases au hF with⟨hc_51,hF⟩ | ⟨hc_51,hF⟩
            ·refine aA rfl hc_51 (af (aa (ae (vI 3) wz rfl (aj ?_))))
             obtain rfl:=ah hF
             exact aB (aO (.inr rfl) [(vI 3)] ⟨rfl,trivial⟩ rfl rfl rfl)
            ·refine ay rfl hc_51 (av (af (aa (ae (vI 0) wz rfl (aj ?_)))))
             obtain rfl:=ah hF
             exact aB (aO (.inr rfl) [(vI 0)] ⟨rfl,trivial⟩ rfl rfl rfl)
theorem Ak {a_1:Alert} {b_2:Alert} {r:Int} (hF:oP a_1 b_2=some r) :
  FnM Tryz.prog 206 [(.d (.agg (Alert.enc a_1))),(.d (.agg (Alert.enc b_2)))] [] (vI r) []:=by
 refine FnM.of_wH ⟨Tryz.prog,17,[],[]⟩ rfl Tryz.func206 rfl rfl (Nat.le_of_ble_eq_true rfl) (by kernel_rfl) ?_
 unfold oP at hF
 refine af (aa (ek 0 (.inl rfl) [(vS a_1.Id),(vS a_1.Sender),(vI a_1.Kind),(vL eS a_1.Refs),(vI a_1.At),(vI a_1.Until),(vI a_1.Weight),(vL Rect.enc a_1.Areas),(vS a_1.Text)] rfl rfl wz (fun n_3=>ek 0 (.inl rfl) [(vS b_2.Id),(vS b_2.Sender),(vI b_2.Kind),(vL eS b_2.Refs),(vI b_2.At),(vI b_2.Until),(vI b_2.Weight),(vL Rect.enc b_2.Areas),(vS b_2.Text)] rfl rfl wz (fun n_4=>ae (vI 0) wz rfl (aj (af (bC (aI zy rfl 4 rfl wz (aD 1 0 (.inr (by kernel_rfl)) (fun _ _ ag=>trivial) sz3 ag3 rfl rfl (vI a_1.At) rfl wz (aI zy rfl 4 rfl wz (aD 3 1 (.inr (by kernel_rfl)) (fun _ _ ag=>⟨.inl ⟨rfl,rfl⟩,trivial⟩) sz3 ag3 rfl rfl (vI b_2.At) rfl wz ?_)))))))))))
 obtain ⟨r_5,hr_6,hF⟩:=bind_some hF
 refine aG (iT hr_6) rfl GV rfl rfl rfl rfl wz (aI xD rfl 0 rfl wz (aD 6 0 (.inr (by kernel_rfl)) (fun _ _ ag=>⟨.inl ⟨rfl,rfl⟩,⟨.inl ⟨rfl,rfl⟩,trivial⟩⟩) sz9 ag9 rfl rfl (vS a_1.Id) rfl wz (aI xD rfl 0 rfl wz (aD 8 1 (.inr (by kernel_rfl)) (fun _ _ ag=>⟨.inl ⟨rfl,rfl⟩,⟨.inl ⟨rfl,rfl⟩,⟨.inl ⟨rfl,rfl⟩,trivial⟩⟩⟩) sz9 ag9 rfl rfl (vS b_2.Id) rfl wz ?_))))
 obtain ⟨r_7,hr_8,hF⟩:=bind_some hF
 refine aG (nu hr_8) rfl Lc rfl rfl rfl rfl wz (eU (([r_5,r_7]:List Int).map eI) kw wQ rfl rfl rfl rfl rfl wz ?_)
 obtain ⟨r_9,hr_10,hF⟩:=bind_some hF
 refine aG (si hr_10) rfl Lb rfl rfl rfl rfl wz (ae (vI r_9) wz rfl (aj ?_))
 obtain rfl:=ah hF
 exact aB (aO (.inr rfl) [(vI r_9)] ⟨rfl,trivial⟩ rfl rfl rfl)
theorem wC {l_1:(List Alert)} {r:Int} (hF:jv l_1=some r) :
  FnM Tryz.prog 161 [(vL Alert.enc l_1)] [] (vI r) []:=by
 refine FnM.of_wH ⟨Tryz.prog,52,[],[]⟩ rfl Tryz.func161 rfl rfl (Nat.le_of_ble_eq_true rfl) (by kernel_rfl) ?_
 unfold jv at hF
 refine af (aa (ae (vI 0) wz rfl (aj (af (af (aa (ae (vL Alert.enc l_1) wz rfl (cO un56 rfl wz (ae (vB (decide ((l_1.length:Int) > 300))) wz rfl (aj ?_))))))))))
 rcases au hF with⟨hc_2,hF⟩ | ⟨hc_2,hF⟩
 ·refine aA rfl hc_2 (af (aa (ae (vI 2) wz rfl (aj ?_))))
  obtain rfl:=ah hF
  exact aB (aO (.inr rfl) [(vI 2)] ⟨rfl,trivial⟩ rfl rfl rfl)
 ·refine ay rfl hc_2 (av (af (af (aa (ae (vL Alert.enc l_1) wz rfl (cO un56 rfl wz (ae (vI 0) wz rfl (aj ?_))))))))
  obtain ⟨o_11,hj_12,hF⟩:=bind_some hF
  obtain ⟨hn_7,hj_12⟩:=bv hj_12
  refine aH (β:=(Unit)) (fun (s_8:Unit)=>([(0,(vL Alert.enc l_1))]:List (Nat×V))) (fun (s_8:Unit)=>([]:Hp)) (fun p=>o_11 = .go p) ?_ ?_
  ·refine aC (aV (β:=Nat×(List Alert)×(Unit)) (fun p=>(fun (k_3:Nat) (l_4:List Alert) (s_8:Unit)=>([(0,(vL Alert.enc l_1)),(12,(vL Alert.enc l_1)),(13,(vI (l_1.length:Int))),(14,(vI (k_3:Int)))]:List (Nat×V))) p.1 p.2.1 p.2.2) (fun p=>(fun (k_3:Nat) (l_4:List Alert) (s_8:Unit)=>([]:Hp)) p.1 p.2.1 p.2.2) (fun p=>forR (fun k x s=>iq l_1 k x s) p.2.1 p.1 p.2.2=some o_11∧(l_1).drop p.1=p.2.1) (fun p=>p.2.1.length) (0,l_1,()) ⟨hj_12,rfl⟩ rfl (aJ rfl) ?_)
   rintro ⟨k_3,l_4,s_8⟩ ⟨hL_10,hD_6⟩
   dsimp only at hL_10 hD_6
   cases l_4 with
   | nil =>
    obtain rfl:=ah hL_10
    refine af (aa (ae (vB (decide ((k_3:Int) < (l_1.length:Int)))) wz rfl (aj ?_)))
    refine af (ay rfl (drop_nil hD_6) (aQ ?_))
    exact aR (s_8) rfl rfl (aJ rfl)
   | cons x_5 l_4 =>
    obtain ⟨c_,hc_9,hL_10⟩:=bind_some hL_10
    refine af (aa (ae (vB (decide ((k_3:Int) < (l_1.length:Int)))) wz rfl (aj ?_)))
    refine af (aA rfl (bL hD_6) (av ?_))
    unfold iq at hc_9
    refine af (aC (af (aa (ae (vI (k_3:Int)) wz rfl (dU es56 rfl rfl (bT hD_6) rfl wz (bN vJ zR rfl (.d (.agg (Alert.enc x_5))) rfl wz (dB 0 (.inl rfl) z100 rfl wz (fun n_13=>ae (vI (k_3:Int)) wz rfl (fH 0 il ft 0 vJ rfl rfl [(vS x_5.Id),(vS x_5.Sender),(vI x_5.Kind),(vL eS x_5.Refs),(vI x_5.At),(vI x_5.Until),(vI x_5.Weight),(vL Rect.enc x_5.Areas),(vS x_5.Text)] rfl wz (aj (af (af (aa (aD 0 0 il ft vJ zR rfl rfl (.d (.agg (Alert.enc x_5))) rfl wz ?_))))))))))))))
    obtain ⟨r_14,hr_15,hc_9⟩:=bind_some hc_9
    refine aG (xS hr_15) rfl hb205 rfl rfl rfl rfl wz (ae (vI r_14) wz rfl (aj (af (aa (ae (vI r_14) wz rfl (ae (vB (r_14 != 0)) wz rfl (aj ?_)))))))
    rcases au hc_9 with⟨hc_16,hc_9⟩ | ⟨hc_16,hc_9⟩
    ·refine aA rfl hc_16 (af (aa (ae (vI r_14) wz rfl (ae (vI r_14) wz rfl (aj ?_)))))
     obtain rfl:=ah hc_9
     obtain rfl:=ah hL_10
     obtain rfl:=ah hF
     exact aB (aO (.inr rfl) [(vI r_14)] ⟨rfl,trivial⟩ rfl rfl rfl)
    ·refine ay rfl hc_16 (av (af ?_))
     obtain ⟨v_17,h_18,hc_9⟩:=bind_some hc_9
     refine aH (β:=Unit) (fun _=>([(0,(vL Alert.enc l_1)),(12,(vL Alert.enc l_1)),(13,(vI (l_1.length:Int))),(14,(vI (k_3:Int))),(35,(vB v_17))]:List (Nat×V))) (fun _=>([(n_13,some (.cells 9 [(vS x_5.Id),(vS x_5.Sender),(vI x_5.Kind),(vL eS x_5.Refs),(vI x_5.At),(vI x_5.Until),(vI x_5.Weight),(vL Rect.enc x_5.Areas),(vS x_5.Text)]))]:Hp)) (fun _=>True) ?_ ?_
     ·refine bC (ae (vI (k_3:Int)) wz rfl (ae (vB (decide ((k_3:Int) > 0))) wz rfl ?_))
      rcases au h_18 with⟨hc_19,h_18⟩ | ⟨hc_19,h_18⟩
      ·refine aF rfl hc_19 wz (ae (vL Alert.enc l_1) wa rfl (ae (vI (k_3:Int)) wa rfl (ae (vI (w64 ((k_3:Int) - 1))) wa rfl ?_)))
       obtain ⟨y_20,hy_21,h_18⟩:=bind_some h_18
       refine dU es56 rfl rfl hy_21 rfl wa (bN vJ zR rfl (.d (.agg (Alert.enc y_20))) rfl wa (aD 8 0 (.inr (by kernel_rfl)) (fun _ _ ag=>trivial) vJ zR rfl rfl (.d (.agg (Alert.enc x_5))) rfl wa ?_))
       obtain ⟨r_22,hr_23,h_18⟩:=bind_some h_18
       refine aG (Ak hr_23) rfl hb206 rfl rfl rfl rfl wa (ae (vB (decide (r_22≥0))) wa rfl (ae (vB (decide (r_22≥0))) wz rfl (aj ?_)))
       obtain rfl:=ah h_18
       exact cu
      ·refine aF rfl hc_19 wz (ak wa (ak wa (ak wa (ak wa (ak wa (ak wa (ak wa (ak wa (ae (vB false) wz rfl (aj ?_))))))))))
       obtain rfl:=ah h_18
       exact cu
     ·rintro ⟨⟩ _ sl_ H_ hp_ hq_
      refine aL _ hp_ hq_ ?_
      rcases au hc_9 with⟨hc_24,hc_9⟩ | ⟨hc_24,hc_9⟩
      ·refine aA rfl hc_24 (af (aa (ae (vI 7) wz rfl (aj ?_))))
       obtain rfl:=ah hc_9
       obtain rfl:=ah hL_10
       obtain rfl:=ah hF
       exact aB (aO (.inr rfl) [(vI 7)] ⟨rfl,trivial⟩ rfl rfl rfl)
      ·refine ay rfl hc_24 (av (aa (fJ (bO hD_6 hn_7) wz rfl (ae (vI ((k_3 + 1:Nat):Int)) wz rfl (aj ?_)))))
       obtain rfl:=ah hc_9
       exact aP (k_3 + 1,l_4,()) ⟨hL_10,aW hD_6⟩ (Nat.lt_succ_self _) rfl (aJ rfl)
  ·rintro s_8 ho_ sl_ H_ hp_ hq_
   subst ho_
   refine aL _ hp_ hq_ (af (aa (h_mkmap 0 (.inl rfl) wz (fun n_25=>Hz (b':=some (bM D.str D.bool ([]:List (ByteArray×Bool)))) 0 rfl rfl (ae (.map n_25) wz rfl (aj (af (af (aa (ae (vL Alert.enc l_1) wz rfl (cO un56 rfl wz (ae (vI 0) wz rfl (aj ?_)))))))))))))
   obtain ⟨o_34,hj_35,hF⟩:=bind_some hF
   obtain ⟨hn_30,hj_35⟩:=bv hj_35
   refine aH (β:=((List (ByteArray×Bool)))) (fun (s_31:(List (ByteArray×Bool)))=>([]:List (Nat×V))) (fun (s_31:(List (ByteArray×Bool)))=>([(n_25,some (bM D.str D.bool s_31))]:Hp)) (fun p=>o_34 = .go p) ?_ ?_
   ·refine aC (aV (β:=Nat×(List Alert)×((List (ByteArray×Bool)))) (fun p=>(fun (k_26:Nat) (l_27:List Alert) (s_31:(List (ByteArray×Bool)))=>([(6,(.map n_25)),(38,(vL Alert.enc l_1)),(39,(vI (l_1.length:Int))),(40,(vI (k_26:Int)))]:List (Nat×V))) p.1 p.2.1 p.2.2) (fun p=>(fun (k_26:Nat) (l_27:List Alert) (s_31:(List (ByteArray×Bool)))=>([(n_25,some (bM D.str D.bool s_31))]:Hp)) p.1 p.2.1 p.2.2) (fun p=>forR (fun k x s=>jD k x s) p.2.1 p.1 p.2.2=some o_34∧(l_1).drop p.1=p.2.1) (fun p=>p.2.1.length) (0,l_1,([]:List (ByteArray×Bool))) ⟨hj_35,rfl⟩ rfl (aJ rfl) ?_)
    rintro ⟨k_26,l_27,s_31⟩ ⟨hL_33,hD_29⟩
    dsimp only at hL_33 hD_29
    cases l_27 with
    | nil =>
     obtain rfl:=ah hL_33
     refine af (aa (ae (vB (decide ((k_26:Int) < (l_1.length:Int)))) wz rfl (aj ?_)))
     refine af (ay rfl (drop_nil hD_29) (aQ ?_))
     exact aR (s_31) rfl rfl (aJ rfl)
    | cons x_28 l_27 =>
     obtain ⟨c_,hc_32,hL_33⟩:=bind_some hL_33
     refine af (aa (ae (vB (decide ((k_26:Int) < (l_1.length:Int)))) wz rfl (aj ?_)))
     refine af (aA rfl (bL hD_29) (av ?_))
     unfold jD at hc_32
     refine af (aC (af (aa (dU es56 rfl rfl (bT hD_29) rfl wz (bN vJ zR rfl (.d (.agg (Alert.enc x_28))) rfl wz (dB 0 (.inl rfl) z100 rfl wz (fun n_36=>fH 0 il ft 1 vJ rfl rfl [(vS x_28.Id),(vS x_28.Sender),(vI x_28.Kind),(vL eS x_28.Refs),(vI x_28.At),(vI x_28.Until),(vI x_28.Weight),(vL Rect.enc x_28.Areas),(vS x_28.Text)] rfl wz (aj (af (af (aa (ae (.map n_25) wz rfl (aI xD rfl 0 rfl wz (aD 0 1 il ft sz9 ag9 rfl rfl (vS x_28.Id) rfl wz (La (eq:=eqS) (kD:=D.str) (vD:=D.bool) (es:=s_31) (k:=x_28.Id) (z:=false) 0 0 il ft (fun _ _=>rfl) mt168 (by kernel_rfl) (by kernel_rfl) rfl rfl rfl (vB ((Ir eqS s_31 x_28.Id).getD false)) rfl wz (aj ?_))))))))))))))))
     rcases au hc_32 with⟨hc_37,hc_32⟩ | ⟨hc_37,hc_32⟩
     ·refine aA rfl hc_37 (af (aa (ae (vI 6) wz rfl (aj ?_))))
      obtain rfl:=ah hc_32
      obtain rfl:=ah hL_33
      obtain rfl:=ah hF
      exact aB (aO (.inr rfl) [(vI 6)] ⟨rfl,trivial⟩ rfl rfl rfl)
     ·refine ay rfl hc_37 (av (aa (ae (.map n_25) wz rfl (aI xD rfl 0 rfl wz (aD 0 1 il ft sz9 ag9 rfl rfl (vS x_28.Id) rfl wz (Lu (eq:=eqS) (kD:=D.str) (vD:=D.bool) (es:=s_31) (k:=x_28.Id) (v:=true) 0 0 il ft (fun _ _=>rfl) mt168 (by kernel_rfl) rfl rfl rfl rfl wz (aj (aa (fJ (bO hD_29 hn_30) wz rfl (ae (vI ((k_26 + 1:Nat):Int)) wz rfl (aj ?_)))))))))))
      obtain rfl:=ah hc_32
      exact aP (k_26 + 1,l_27,(Mh eqS s_31 x_28.Id true)) ⟨hL_33,aW hD_29⟩ (Nat.lt_succ_self _) rfl (aJ rfl)
   ·rintro s_31 ho_ sl_ H_ hp_ hq_
    subst ho_
    refine aL _ hp_ hq_ (af (aa (ae (vI 0) wz rfl (aj ?_))))
    obtain rfl:=ah hF
    exact aB (aO (.inr rfl) [(vI 0)] ⟨rfl,trivial⟩ rfl rfl rfl)
theorem xU {l_1:(List Post)} {r:Int} (hF:jV l_1=some r) :
  FnM Tryz.prog 162 [(vL Post.enc l_1)] [] (vI r) []:=by
 refine FnM.of_wH ⟨Tryz.prog,44,[],[]⟩ rfl Tryz.func162 rfl rfl (Nat.le_of_ble_eq_true rfl) (by kernel_rfl) ?_
 unfold jV at hF
 refine af (aa (ae (vI 0) wz rfl (aj (af (af (aa (ae (vL Post.enc l_1) wz rfl (cO un63 rfl wz (ae (vB (decide ((l_1.length:Int) > 500))) wz rfl (aj ?_))))))))))
 rcases au hF with⟨hc_2,hF⟩ | ⟨hc_2,hF⟩
 ·refine aA rfl hc_2 (af (aa (ae (vI 2) wz rfl (aj ?_))))
  obtain rfl:=ah hF
  exact aB (aO (.inr rfl) [(vI 2)] ⟨rfl,trivial⟩ rfl rfl rfl)
 ·refine ay rfl hc_2 (av (af (af (aa (ae (vL Post.enc l_1) wz rfl (cO un63 rfl wz (ae (vI 0) wz rfl (aj ?_))))))))
  obtain ⟨o_11,hj_12,hF⟩:=bind_some hF
  obtain ⟨hn_7,hj_12⟩:=bv hj_12
  refine aH (β:=(Unit)) (fun (s_8:Unit)=>([]:List (Nat×V))) (fun (s_8:Unit)=>([]:Hp)) (fun p=>o_11 = .go p) ?_ ?_
  ·refine aC (aV (β:=Nat×(List Post)×(Unit)) (fun p=>(fun (k_3:Nat) (l_4:List Post) (s_8:Unit)=>([(0,(vL Post.enc l_1)),(8,(vL Post.enc l_1)),(9,(vI (l_1.length:Int))),(10,(vI (k_3:Int)))]:List (Nat×V))) p.1 p.2.1 p.2.2) (fun p=>(fun (k_3:Nat) (l_4:List Post) (s_8:Unit)=>([]:Hp)) p.1 p.2.1 p.2.2) (fun p=>forR (fun k x s=>iI l_1 k x s) p.2.1 p.1 p.2.2=some o_11∧(l_1).drop p.1=p.2.1) (fun p=>p.2.1.length) (0,l_1,()) ⟨hj_12,rfl⟩ rfl (aJ rfl) ?_)
   rintro ⟨k_3,l_4,s_8⟩ ⟨hL_10,hD_6⟩
   dsimp only at hL_10 hD_6
   cases l_4 with
   | nil =>
    obtain rfl:=ah hL_10
    refine af (aa (ae (vB (decide ((k_3:Int) < (l_1.length:Int)))) wz rfl (aj ?_)))
    refine af (ay rfl (drop_nil hD_6) (aQ ?_))
    exact aR (s_8) rfl rfl (aJ rfl)
   | cons x_5 l_4 =>
    obtain ⟨c_,hc_9,hL_10⟩:=bind_some hL_10
    refine af (aa (ae (vB (decide ((k_3:Int) < (l_1.length:Int)))) wz rfl (aj ?_)))
    refine af (aA rfl (bL hD_6) (av ?_))
    unfold iI at hc_9
    refine af (aC (af (aa (ae (vI (k_3:Int)) wz rfl (dU es63 rfl rfl (bT hD_6) rfl wz (bN sz66 ag66 rfl (.d (.agg (Post.enc x_5))) rfl wz (dB 0 (.inl rfl) z66 rfl wz (fun n_13=>ae (vI (k_3:Int)) wz rfl (fH 0 il ft 0 sz66 rfl rfl [(vS x_5.Player),(vI x_5.X),(vI x_5.Y)] rfl wz (aj (aC (af (aa (aI Jg rfl 0 rfl wz (aD 0 0 il ft sz9 ag9 rfl rfl (vS x_5.Player) rfl wz ?_)))))))))))))))
    obtain ⟨r_14,hr_15,hc_9⟩:=bind_some hc_9
    refine aG (eY hr_15) rfl sU rfl rfl rfl rfl wz (ae (vB (!r_14)) wz rfl (ae (vB (!r_14)) wz rfl (aj ?_)))
    rcases au hc_9 with⟨hc_16,hc_9⟩ | ⟨hc_16,hc_9⟩
    ·refine aA rfl hc_16 (af (aa (ae (vI 5) wz rfl (aj ?_))))
     obtain rfl:=ah hc_9
     obtain rfl:=ah hL_10
     obtain rfl:=ah hF
     exact aB (aO (.inr rfl) [(vI 5)] ⟨rfl,trivial⟩ rfl rfl rfl)
    ·refine ay rfl hc_16 (af ?_)
     obtain ⟨v_17,h_18,hc_9⟩:=bind_some hc_9
     refine aH (β:=Unit) (fun _=>([(0,(vL Post.enc l_1)),(3,(vI (k_3:Int))),(4,(.ref n_13 0 0)),(8,(vL Post.enc l_1)),(9,(vI (l_1.length:Int))),(10,(vI (k_3:Int))),(20,(vB v_17))]:List (Nat×V))) (fun _=>([(n_13,some (.cells 3 [(vS x_5.Player),(vI x_5.X),(vI x_5.Y)]))]:Hp)) (fun _=>True) ?_ ?_
     ·refine aa (aI IG rfl 1 rfl wz (aD 0 0 il ft sz3 ag3 rfl rfl (vI x_5.X) rfl wz ?_))
      obtain ⟨r_19,hr_20,h_18⟩:=bind_some h_18
      refine aG (bg hr_20) rfl qE rfl rfl rfl rfl wz ?_
      rcases au h_18 with⟨hc_21,h_18⟩ | ⟨hc_21,h_18⟩
      ·refine aF rfl hc_21 wz (ak wa (ak wa (ak wa (ae (vB true) wz rfl (ae (vB true) wz rfl (aj ?_))))))
       obtain rfl:=ah h_18
       exact cu
      ·refine aF rfl hc_21 wz (aI IA rfl 2 rfl wa (aD 0 0 il ft sz3 ag3 rfl rfl (vI x_5.Y) rfl wa ?_))
       obtain ⟨r_22,hr_23,h_18⟩:=bind_some h_18
       refine aG (bg hr_23) rfl qE rfl rfl rfl rfl wa (ae (vB r_22) wz rfl (ae (vB r_22) wz rfl (aj ?_)))
       obtain rfl:=ah h_18
       exact cu
     ·rintro ⟨⟩ _ sl_ H_ hp_ hq_
      refine aL _ hp_ hq_ ?_
      rcases au hc_9 with⟨hc_24,hc_9⟩ | ⟨hc_24,hc_9⟩
      ·refine aA rfl hc_24 (af (aa (ae (vI 1) wz rfl (aj ?_))))
       obtain rfl:=ah hc_9
       obtain rfl:=ah hL_10
       obtain rfl:=ah hF
       exact aB (aO (.inr rfl) [(vI 1)] ⟨rfl,trivial⟩ rfl rfl rfl)
      ·refine ay rfl hc_24 (af ?_)
       obtain ⟨v_25,h_26,hc_9⟩:=bind_some hc_9
       refine aH (β:=Unit) (fun _=>([(0,(vL Post.enc l_1)),(8,(vL Post.enc l_1)),(9,(vI (l_1.length:Int))),(10,(vI (k_3:Int))),(29,(vB v_25))]:List (Nat×V))) (fun _=>([(n_13,some (.cells 3 [(vS x_5.Player),(vI x_5.X),(vI x_5.Y)]))]:Hp)) (fun _=>True) ?_ ?_
       ·refine bC (ae (vI (k_3:Int)) wz rfl (ae (vB (decide ((k_3:Int) > 0))) wz rfl ?_))
        rcases au h_26 with⟨hc_27,h_26⟩ | ⟨hc_27,h_26⟩
        ·refine aF rfl hc_27 wz (aI Jg rfl 0 rfl wa (aD 4 0 (.inr (by kernel_rfl)) (fun _ _ ag=>trivial) sz9 ag9 rfl rfl (vS x_5.Player) rfl wa (ae (vL Post.enc l_1) wa rfl (ae (vI (k_3:Int)) wa rfl (ae (vI (w64 ((k_3:Int) - 1))) wa rfl ?_)))))
         obtain ⟨y_28,hy_29,h_26⟩:=bind_some h_26
         refine dU es63 rfl rfl hy_29 rfl wa (kY Jg rfl [.str y_28.Player,.int .i64 y_28.X,.int .i64 y_28.Y] rfl rfl wa (bN sz9 ag9 rfl (vS y_28.Player) rfl wa (ae (vB (sLe x_5.Player y_28.Player)) wa rfl (ae (vB (sLe x_5.Player y_28.Player)) wz rfl (ae (vB (sLe x_5.Player y_28.Player)) wz rfl (aj ?_))))))
         obtain rfl:=ah h_26
         exact cu
        ·refine aF rfl hc_27 wz (ak wa (ak wa (ak wa (ak wa (ak wa (ak wa (ak wa (ak wa (ak wa (ae (vB false) wz rfl (ae (vB false) wz rfl (aj ?_))))))))))))
         obtain rfl:=ah h_26
         exact cu
       ·rintro ⟨⟩ _ sl_ H_ hp_ hq_
        refine aL _ hp_ hq_ ?_
        rcases au hc_9 with⟨hc_30,hc_9⟩ | ⟨hc_30,hc_9⟩
        ·refine aA rfl hc_30 (af (aa (ae (vI 7) wz rfl (aj ?_))))
         obtain rfl:=ah hc_9
         obtain rfl:=ah hL_10
         obtain rfl:=ah hF
         exact aB (aO (.inr rfl) [(vI 7)] ⟨rfl,trivial⟩ rfl rfl rfl)
        ·refine ay rfl hc_30 (av (aa (fJ (bO hD_6 hn_7) wz rfl (ae (vI ((k_3 + 1:Nat):Int)) wz rfl (aj ?_)))))
         obtain rfl:=ah hc_9
         exact aP (k_3 + 1,l_4,()) ⟨hL_10,aW hD_6⟩ (Nat.lt_succ_self _) rfl (aJ rfl)
  ·rintro s_8 ho_ sl_ H_ hp_ hq_
   subst ho_
   refine aL _ hp_ hq_ (af (aa (ae (vI 0) wz rfl (aj ?_))))
   obtain rfl:=ah hF
   exact aB (aO (.inr rfl) [(vI 0)] ⟨rfl,trivial⟩ rfl rfl rfl)
theorem yJ {l_1:(List Alert)} {posts_2:(List Post)} {r:Int} (hF:kH l_1 posts_2=some r) :
  FnM Tryz.prog 83 [(vL Alert.enc l_1),(vL Post.enc posts_2)] [] (vI r) []:=by
 refine FnM.of_wH ⟨Tryz.prog,13,[],[]⟩ rfl Tryz.func83 rfl rfl (Nat.le_of_ble_eq_true rfl) (by kernel_rfl) ?_
 unfold kH at hF
 refine af (aa (ae (vI 0) wz rfl (aj (af (af (aa (ae (vL Alert.enc l_1) wz rfl ?_)))))))
 obtain ⟨r_3,hr_4,hF⟩:=bind_some hF
 refine aG (wC hr_4) rfl hb161 rfl rfl rfl rfl wz (ae (vI r_3) wz rfl (aj (af (aa (ae (vI r_3) wz rfl (ae (vB (r_3 != 0)) wz rfl (aj ?_)))))))
 rcases au hF with⟨hc_5,hF⟩ | ⟨hc_5,hF⟩
 ·refine aA rfl hc_5 (af (aa (ae (vI r_3) wz rfl (ae (vI r_3) wz rfl (aj ?_)))))
  obtain rfl:=ah hF
  exact aB (aO (.inr rfl) [(vI r_3)] ⟨rfl,trivial⟩ rfl rfl rfl)
 ·refine ay rfl hc_5 (av (af (aa (ae (vL Post.enc posts_2) wz rfl ?_))))
  obtain ⟨r_6,hr_7,hF⟩:=bind_some hF
  refine aG (xU hr_7) rfl hb162 rfl rfl rfl rfl wz (ae (vI r_6) wz rfl (aj ?_))
  obtain rfl:=ah hF
  exact aB (aO (.inr rfl) [(vI r_6)] ⟨rfl,trivial⟩ rfl rfl rfl)
theorem yL {r_1:Rect} {p_2:Post} {r:Bool} (hF:pW r_1 p_2=some r) :
  FnM Tryz.prog 183 [(.d (.agg (Rect.enc r_1))),(.ref (ax 0) 0 0)] [(.cells 3 [(vS p_2.Player),(vI p_2.X),(vI p_2.Y)])] (vB r) [some (.cells 3 [(vS p_2.Player),(vI p_2.X),(vI p_2.Y)])]:=by
 refine FnM.of_wH ⟨Tryz.prog,36,[],[]⟩ rfl Tryz.func183 rfl rfl (Nat.le_of_ble_eq_true rfl) (by kernel_rfl) ?_
 unfold pW at hF
 refine af (aa (ek 0 (.inl rfl) [(vI r_1.X),(vI r_1.Y),(vI r_1.W),(vI r_1.H)] rfl rfl wz (fun n_3=>ae (vB false) wz rfl (aj (af ?_)))))
 obtain ⟨v_4,h_5,hF⟩:=bind_some hF
 refine aH (β:=Unit) (fun _=>([(3,(vB v_4))]:List (Nat×V))) (fun _=>([((ax 0),some (.cells 3 [(vS p_2.Player),(vI p_2.X),(vI p_2.Y)])),(n_3,some (.cells 4 [(vI r_1.X),(vI r_1.Y),(vI r_1.W),(vI r_1.H)]))]:Hp)) (fun _=>True) ?_ ?_
 ·refine aa (aI Ad rfl 0 rfl wz (aD 0 1 il ft sz3 ag3 rfl rfl (vI r_1.X) rfl wz (aI IG rfl 1 rfl wz (aD 0 0 il ft sz3 ag3 rfl rfl (vI p_2.X) rfl wz (ae (vB (decide (r_1.X≤p_2.X))) wz rfl ?_)))))
  rcases au h_5 with⟨hc_6,h_5⟩ | ⟨hc_6,h_5⟩
  ·refine aF rfl hc_6 wz (aI IG rfl 1 rfl wa (aD 0 0 il ft sz3 ag3 rfl rfl (vI p_2.X) rfl wa (aI Ad rfl 0 rfl wa (aD 0 1 il ft sz3 ag3 rfl rfl (vI r_1.X) rfl wa (aI FD rfl 2 rfl wa (aD 0 1 il ft sz3 ag3 rfl rfl (vI r_1.W) rfl wa (ae (vI (w64 (r_1.X + r_1.W))) wa rfl (ae (vB (decide (p_2.X < (w64 (r_1.X + r_1.W))))) wa rfl (ae (vB (decide (p_2.X < (w64 (r_1.X + r_1.W))))) wz rfl ?_)))))))))
   rcases au h_5 with⟨hc_7,h_5⟩ | ⟨hc_7,h_5⟩
   ·refine aF rfl hc_7 wz (aI wZ rfl 1 rfl wa (aD 0 1 il ft sz3 ag3 rfl rfl (vI r_1.Y) rfl wa (aI IA rfl 2 rfl wa (aD 0 0 il ft sz3 ag3 rfl rfl (vI p_2.Y) rfl wa (ae (vB (decide (r_1.Y≤p_2.Y))) wa rfl (ae (vB (decide (r_1.Y≤p_2.Y))) wz rfl ?_))))))
    rcases au h_5 with⟨hc_8,h_5⟩ | ⟨hc_8,h_5⟩
    ·refine aF rfl hc_8 wz (aI IA rfl 2 rfl wa (aD 0 0 il ft sz3 ag3 rfl rfl (vI p_2.Y) rfl wa (aI wZ rfl 1 rfl wa (aD 0 1 il ft sz3 ag3 rfl rfl (vI r_1.Y) rfl wa (aI Dy rfl 3 rfl wa (aD 0 1 il ft sz3 ag3 rfl rfl (vI r_1.H) rfl wa (ae (vI (w64 (r_1.Y + r_1.H))) wa rfl (ae (vB (decide (p_2.Y < (w64 (r_1.Y + r_1.H))))) wa rfl (ae (vB (decide (p_2.Y < (w64 (r_1.Y + r_1.H))))) wz rfl (ae (vB (decide (p_2.Y < (w64 (r_1.Y + r_1.H))))) wz rfl (aj ?_)))))))))))
     obtain rfl:=ah h_5
     exact cu
    ·refine aF rfl hc_8 wz (ak wa (ak wa (ak wa (ak wa (ak wa (ak wa (ak wa (ak wa (ae (vB false) wz rfl (ae (vB false) wz rfl (aj ?_)))))))))))
     obtain rfl:=ah h_5
     exact cu
   ·refine aF rfl hc_7 wz (ak wa (ak wa (ak wa (ak wa (ak wa (ae (vB false) wz rfl (ae (vB false) wz rfl (ak wa (ak wa (ak wa (ak wa (ak wa (ak wa (ak wa (ak wa (ae (vB false) wz rfl (ae (vB false) wz rfl (aj ?_))))))))))))))))))
    obtain rfl:=ah h_5
    exact cu
  ·refine aF rfl hc_6 wz (ak wa (ak wa (ak wa (ak wa (ak wa (ak wa (ak wa (ak wa (ae (vB false) wz rfl (ae (vB false) wz rfl (ak wa (ak wa (ak wa (ak wa (ak wa (ae (vB false) wz rfl (ae (vB false) wz rfl (ak wa (ak wa (ak wa (ak wa (ak wa (ak wa ?_)))))))))))))))))))))))
   refine ak wa (ak wa (ae (vB false) wz rfl (ae (vB false) wz rfl (aj ?_))))
   obtain rfl:=ah h_5
   exact cu
 ·rintro ⟨⟩ _ sl_ H_ hp_ hq_
  refine aL _ hp_ hq_ ?_
  obtain rfl:=ah hF
  exact aB (xK (.inr rfl) [(vB v_4)] _ [0] [ax 0] ⟨rfl,trivial⟩ (.cons (jK rfl rfl) (.nil)) (by kernel_rfl) ⟨(by kernel_rfl),trivial⟩ (by decide) (by kernel_rfl))
theorem lV {s_1:(List Rect)} {f_2:Rect→Option Bool} {r:Int} {gid:FuncId} {caps:List V} {Sin:List Box} (hfn:∀ x0 r,f_2 x0=some r→FnM Tryz.prog gid ([(.d (.agg (Rect.enc x0)))]++caps) Sin (vB r) (Sin.map some)) (hbF:aK Tryz.prog gid=true) (hcapF:caps.flatMap frz = []∧caps.map co0=caps) (hokF:okL Sin.length caps=true) (hsF:∀ b∈Sin,b.ok Sin.length=true) (hmF:∀ b∈Sin,b.mut=true) (hF:fO s_1 f_2=some r) :
  FnM Tryz.prog 249 [(vL Rect.enc s_1),(.fn gid caps)] Sin (vI r) (Sin.map some):=by
 refine FnM.of_wH ⟨Tryz.prog,19,[],[]⟩ rfl Tryz.func249 rfl rfl (Nat.le_of_ble_eq_true rfl) (by kernel_rfl) ?_
 unfold fO at hF
 refine af (aa (ae (vI 0) wz rfl (aj (af (af (aa (ae (vL Rect.enc s_1) wz rfl (cO AA rfl wz (ae (vI 0) wz rfl (aj ?_))))))))))
 obtain ⟨o_11,hj_12,hF⟩:=bind_some hF
 obtain ⟨hn_7,hj_12⟩:=bv hj_12
 refine aH (β:=(Unit)) (fun (s_8:Unit)=>([]:List (Nat×V))) (fun (s_8:Unit)=>(nD 0 Sin)) (fun p=>o_11 = .go p) ?_ ?_
 ·refine aC (aV (β:=Nat×(List Rect)×(Unit)) (fun p=>(fun (k_3:Nat) (l_4:List Rect) (s_8:Unit)=>([(0,(vL Rect.enc s_1)),(1,(.fn gid caps)),(7,(vI (s_1.length:Int))),(8,(vI (k_3:Int)))]:List (Nat×V))) p.1 p.2.1 p.2.2) (fun p=>(fun (k_3:Nat) (l_4:List Rect) (s_8:Unit)=>(nD 0 Sin)) p.1 p.2.1 p.2.2) (fun p=>forR (fun k x s=>fo f_2 k x s) p.2.1 p.1 p.2.2=some o_11∧(s_1).drop p.1=p.2.1) (fun p=>p.2.1.length) (0,s_1,()) ⟨hj_12,rfl⟩ rfl (tV _) ?_)
  rintro ⟨k_3,l_4,s_8⟩ ⟨hL_10,hD_6⟩
  dsimp only at hL_10 hD_6
  cases l_4 with
  | nil =>
   obtain rfl:=ah hL_10
   refine af (aa (ae (vB (decide ((k_3:Int) < (s_1.length:Int)))) wz rfl (aj ?_)))
   refine af (ay rfl (drop_nil hD_6) (aQ ?_))
   exact aR (s_8) rfl rfl (tV _)
  | cons x_5 l_4 =>
   obtain ⟨c_,hc_9,hL_10⟩:=bind_some hL_10
   refine af (aa (ae (vB (decide ((k_3:Int) < (s_1.length:Int)))) wz rfl (aj ?_)))
   refine af (aA rfl (bL hD_6) (av ?_))
   unfold fo at hc_9
   refine af (aC (af (aa (ae (vI (k_3:Int)) wz rfl (ae (vI (k_3:Int)) wz rfl (aj (af (aa (ae (.fn gid caps) wz rfl (ae (vL Rect.enc s_1) wz rfl (ae (vI (k_3:Int)) wz rfl (dU F3 rfl rfl (bT hD_6) rfl wz (bN wB GL rfl (.d (.agg (Rect.enc x_5))) rfl wz ?_)))))))))))))
   obtain ⟨r_13,hr_14,hc_9⟩:=bind_some hc_9
   refine FQ (hfn _ _ hr_14) rfl hbF rfl rfl hcapF hokF hsF hmF rfl wz rfl (aj ?_)
   rcases au hc_9 with⟨hc_15,hc_9⟩ | ⟨hc_15,hc_9⟩
   ·refine aA rfl hc_15 (af (aa (ae (vI (k_3:Int)) wz rfl (ae (vI (k_3:Int)) wz rfl (aj ?_)))))
    obtain rfl:=ah hc_9
    obtain rfl:=ah hL_10
    obtain rfl:=ah hF
    exact aB (LP hsF (.inr rfl) [(vI (k_3:Int))] ⟨rfl,trivial⟩ rfl rfl rfl)
   ·refine ay rfl hc_15 (av (aa (fJ (bO hD_6 hn_7) wz rfl (ae (vI ((k_3 + 1:Nat):Int)) wz rfl (aj ?_)))))
    obtain rfl:=ah hc_9
    exact aP (k_3 + 1,l_4,()) ⟨hL_10,aW hD_6⟩ (Nat.lt_succ_self _) rfl (tV _)
 ·rintro s_8 ho_ sl_ H_ hp_ hq_
  subst ho_
  refine aL _ hp_ hq_ (af (aa (ae (vI (-1)) wz rfl (aj ?_))))
  obtain rfl:=ah hF
  exact aB (LP hsF (.inr rfl) [(vI (-1))] ⟨rfl,trivial⟩ rfl rfl rfl)
theorem kM {s_1:(List Rect)} {f_2:Rect→Option Bool} {r:Bool} {gid:FuncId} {caps:List V} {Sin:List Box} (hfn:∀ x0 r,f_2 x0=some r→FnM Tryz.prog gid ([(.d (.agg (Rect.enc x0)))]++caps) Sin (vB r) (Sin.map some)) (hbF:aK Tryz.prog gid=true) (hcapF:caps.flatMap frz = []∧caps.map co0=caps) (hokF:okL Sin.length caps=true) (hsF:∀ b∈Sin,b.ok Sin.length=true) (hmF:∀ b∈Sin,b.mut=true) (hF:fe s_1 f_2=some r) :
  FnM Tryz.prog 182 [(vL Rect.enc s_1),(.fn gid caps)] Sin (vB r) (Sin.map some):=by
 refine FnM.of_wH ⟨Tryz.prog,9,[],[]⟩ rfl Tryz.func182 rfl rfl (Nat.le_of_ble_eq_true rfl) (by kernel_rfl) ?_
 unfold fe at hF
 refine af (aa (ae (vB false) wz rfl (aj (af (aa (ae (vL Rect.enc s_1) wz rfl (ae (.fn gid caps) wz rfl ?_)))))))
 obtain ⟨r_3,hr_4,hF⟩:=bind_some hF
 refine FQ (lV (gid:=gid) (caps:=caps) (Sin:=Sin) hfn hbF hcapF hokF hsF hmF hr_4) rfl hb249 rfl rfl ⟨rfl,rfl⟩ (by simp [okL,okV,hokF]) hsF hmF rfl wz rfl (ae (vB (decide (r_3≥0))) wz rfl (ae (vB (decide (r_3≥0))) wz rfl (aj ?_)))
 obtain rfl:=ah hF
 exact aB (LP hsF (.inr rfl) [(vB (decide (r_3≥0)))] ⟨rfl,trivial⟩ rfl rfl rfl)
theorem zZ {a_1:Alert} {p_2:Post} {r:Bool} (hF:oV a_1 p_2=some r) :
  FnM Tryz.prog 109 [(.d (.agg (Alert.enc a_1))),(.d (.agg (Post.enc p_2)))] [] (vB r) []:=by
 refine FnM.of_wH ⟨Tryz.prog,9,[],[]⟩ rfl Tryz.func109 rfl rfl (Nat.le_of_ble_eq_true rfl) (by kernel_rfl) ?_
 unfold oV at hF
 refine af (aa (ek 0 (.inl rfl) [(vS a_1.Id),(vS a_1.Sender),(vI a_1.Kind),(vL eS a_1.Refs),(vI a_1.At),(vI a_1.Until),(vI a_1.Weight),(vL Rect.enc a_1.Areas),(vS a_1.Text)] rfl rfl wz (fun n_3=>ek 0 (.inl rfl) [(vS p_2.Player),(vI p_2.X),(vI p_2.Y)] rfl rfl wz (fun n_4=>ae (vB false) wz rfl (aj (af (aa (aI Cg rfl 7 rfl wz (aD 0 0 il ft KM KD rfl rfl (vL Rect.enc a_1.Areas) rfl wz (ae (.fn 183 [(.ref n_4 0 0)]) wz rfl ?_))))))))))
 obtain ⟨r_5,hr_6,hF⟩:=bind_some hF
 refine eD 0 [1] il ft (kM (gid:=183) (caps := [.ref (ax 0) 0 0]) (Sin := [(.cells 3 [(vS p_2.Player),(vI p_2.X),(vI p_2.Y)])]) (fun _ _ h_=>yL h_) hb183 ⟨rfl,rfl⟩ (by kernel_rfl) (Ma (by kernel_rfl)) (Js (by kernel_rfl)) hr_6) rfl hb182 rfl (by kernel_rfl) (by kernel_rfl) (by kernel_rfl) (by kernel_rfl) (by kernel_rfl) (by kernel_rfl) (by kernel_rfl) (by decide) (by kernel_rfl) wz (vB r_5) (by kernel_rfl) ([(n_3,some (.cells 9 [(vS a_1.Id),(vS a_1.Sender),(vI a_1.Kind),(vL eS a_1.Refs),(vI a_1.At),(vI a_1.Until),(vI a_1.Weight),(vL Rect.enc a_1.Areas),(vS a_1.Text)])),(n_4,some (.cells 3 [(vS p_2.Player),(vI p_2.X),(vI p_2.Y)]))]:Hp) (by kernel_rfl) (ae (vB r_5) wz rfl (aj ?_))
 obtain rfl:=ah hF
 exact aB (aO (.inr rfl) [(vB r_5)] ⟨rfl,trivial⟩ rfl rfl rfl)
theorem zY {a_1:Alert} {p_2:Post} {r:Bool×Int} (hF:mO a_1 p_2=some r) :
  FnM Tryz.prog 45 [(.d (.agg (Alert.enc a_1))),(.d (.agg (Post.enc p_2)))] [] (.tup [(vB r.1),(vI r.2)]) []:=by
 refine FnM.of_wH ⟨Tryz.prog,18,[],[]⟩ rfl Tryz.func45 rfl rfl (Nat.le_of_ble_eq_true rfl) (by kernel_rfl) ?_
 unfold mO at hF
 refine af (aa (ek 0 (.inl rfl) [(vS a_1.Id),(vS a_1.Sender),(vI a_1.Kind),(vL eS a_1.Refs),(vI a_1.At),(vI a_1.Until),(vI a_1.Weight),(vL Rect.enc a_1.Areas),(vS a_1.Text)] rfl rfl wz (fun n_3=>ek 0 (.inl rfl) [(vS p_2.Player),(vI p_2.X),(vI p_2.Y)] rfl rfl wz (fun n_4=>ae (vB false) wz rfl (ae (vI 0) wz rfl (aj (af (af (aa (aD 0 0 il ft vJ zR rfl rfl (.d (.agg (Alert.enc a_1))) rfl wz (eU (([a_1]:List Alert).map Alert.enc) es56 ez56 rfl rfl rfl rfl rfl wz (aD 0 1 il ft sz66 ag66 rfl rfl (.d (.agg (Post.enc p_2))) rfl wz (eU (([p_2]:List Post).map Post.enc) es63 ez63 rfl rfl rfl rfl rfl wz ?_)))))))))))))
 obtain ⟨r_5,hr_6,hF⟩:=bind_some hF
 refine aG (yJ hr_6) rfl hb83 rfl rfl rfl rfl wz (ae (vI r_5) wz rfl (aj (af (aa (ae (vI r_5) wz rfl (ae (vB (r_5 != 0)) wz rfl (aj ?_)))))))
 rcases au hF with⟨hc_7,hF⟩ | ⟨hc_7,hF⟩
 ·refine aA rfl hc_7 (af (aa (ae (vI r_5) wz rfl (ae (vB false) wz rfl (ae (vI r_5) wz rfl (aj ?_))))))
  obtain rfl:=ah hF
  exact aB (aO (.inr rfl) [(vB false),(vI r_5)] ⟨rfl,⟨rfl,trivial⟩⟩ rfl rfl rfl)
 ·refine ay rfl hc_7 (av (af (aa (aD 0 0 il ft vJ zR rfl rfl (.d (.agg (Alert.enc a_1))) rfl wz (aD 0 1 il ft sz66 ag66 rfl rfl (.d (.agg (Post.enc p_2))) rfl wz ?_)))))
  obtain ⟨r_8,hr_9,hF⟩:=bind_some hF
  refine aG (zZ hr_9) rfl hb109 rfl rfl rfl rfl wz (ae (vB r_8) wz rfl (ae (vI 0) wz rfl (aj ?_)))
  obtain rfl:=ah hF
  exact aB (aO (.inr rfl) [(vB r_8),(vI 0)] ⟨rfl,⟨rfl,trivial⟩⟩ rfl rfl rfl)
theorem yx {r:Bool} (hF:mY  = some r) :
  FnM Tryz.prog 17 [] [] (vB r) []:=by
 refine FnM.of_wH ⟨Tryz.prog,75,[],[]⟩ rfl Tryz.func17 rfl rfl (Nat.le_of_ble_eq_true rfl) (by kernel_rfl) ?_
 unfold mY at hF
 refine af (aa (ae (vB false) wz rfl (aj (af (aa (ae (.d (.agg (Rect.enc (⟨0,0,2,2⟩:Rect)))) wz (by kernel_rfl) (ae (.d (.agg (Rect.enc (⟨1,1,2,2⟩:Rect)))) wz (by kernel_rfl) (eU (([(⟨0,0,2,2⟩:Rect),(⟨1,1,2,2⟩:Rect)]:List Rect).map Rect.enc) F3 ez98 rfl rfl rfl rfl rfl wz ?_))))))))
 obtain ⟨r_1,hr_2,hF⟩:=bind_some hF
 refine aG (Cz hr_2) rfl hb77 rfl rfl rfl rfl wz (ae (.tup [(vI r_1.1),(vI r_1.2)]) wz rfl (ae (vI r_1.1) wz rfl (ae (vI r_1.2) wz rfl (ae (vI r_1.1) wz rfl (ae (vI r_1.2) wz rfl (aj (af (aa (ae (.agg [(vS (⟨#[97]⟩:ByteArray)),(vS (⟨#[98]⟩:ByteArray)),(vI 0),(vI 0),(vI 0),(vI 1),(vI 127),.nil,(vI 1),(vI 2),(vI 0),.nil,(vB false)]) wz (by kernel_rfl) (ae (.d (.agg (Window.enc (⟨0,86400000⟩:Window)))) wz (by kernel_rfl) ?_))))))))))
 obtain ⟨r_3,hr_4,hF⟩:=bind_some hF
 refine aG (zC hr_4) rfl hb78 rfl rfl rfl rfl wz (ae (.tup [(vL Window.enc r_3.1),(vI r_3.2)]) wz rfl (ae (vL Window.enc r_3.1) wz rfl (ae (vI r_3.2) wz rfl (ae (vL Window.enc r_3.1) wz rfl (ae (vI r_3.2) wz rfl (aj (af (aa (ae (.d (.agg (Window.enc (⟨0,100⟩:Window)))) wz (by kernel_rfl) (ae (.agg [(vS (⟨#[97]⟩:ByteArray)),(vS (⟨#[]⟩:ByteArray)),(vI 0),(vI 100),.nil,(vI 10),(vI 0),(vI 0)]) wz (by kernel_rfl) ?_))))))))))
 obtain ⟨r_5,hr_6,hF⟩:=bind_some hF
 refine aG (DL hr_6) rfl hb79 rfl rfl rfl rfl wz (ae (.tup [(vI r_5.1),(vI r_5.2)]) wz rfl (ae (vI r_5.1) wz rfl (ae (vI r_5.2) wz rfl (ae (vI r_5.1) wz rfl (ae (vI r_5.2) wz rfl (aj (af (aa (ae (.d (.agg (Beat.enc (⟨(⟨#[112]⟩:ByteArray),0,100⟩:Beat)))) wz (by kernel_rfl) (ae (.d (.agg (Beat.enc (⟨(⟨#[112]⟩:ByteArray),1000,1300⟩:Beat)))) wz (by kernel_rfl) (eU (([(⟨(⟨#[112]⟩:ByteArray),0,100⟩:Beat),(⟨(⟨#[112]⟩:ByteArray),1000,1300⟩:Beat)]:List Beat).map Beat.enc) E5 ez158 rfl rfl rfl rfl rfl wz ?_)))))))))))
 obtain ⟨r_7,hr_8,hF⟩:=bind_some hF
 refine aG (CB hr_8) rfl hb80 rfl rfl rfl rfl wz (ae (.tup [(vI r_7.1),(vI r_7.2)]) wz rfl (ae (vI r_7.1) wz rfl (ae (vI r_7.2) wz rfl (ae (vI r_7.1) wz rfl (ae (vI r_7.2) wz rfl (aj (aL (H0:=([]:Hp)) ([(1,(vI r_1.1)),(2,(vI r_1.2)),(3,(vL Window.enc r_3.1)),(4,(vI r_3.2)),(5,(vI r_5.1)),(6,(vI r_5.2)),(7,(vI r_7.1)),(8,(vI r_7.2))]:List (Nat×V)) (by kernel_rfl) (sF (by kernel_rfl)) (af (aa (ae (.d (.agg (Rect.enc (⟨0,0,2,2⟩:Rect)))) wz (by kernel_rfl) (eU (([(⟨0,0,2,2⟩:Rect)]:List Rect).map Rect.enc) F3 ez98 rfl rfl rfl rfl rfl wz (ae (.agg [(vS (⟨#[97]⟩:ByteArray)),(vS (⟨#[115]⟩:ByteArray)),(vI 1),.nil,(vI 0),(vI 5),(vI 1),(vL Rect.enc ([(⟨0,0,2,2⟩:Rect)]:List Rect)),(vS (⟨#[120]⟩:ByteArray))]) wz (by kernel_rfl) (dB 0 (.inl rfl) z100 rfl wz (fun n_9=>fH 0 il ft 0 vJ rfl rfl [(vS (⟨#[97]⟩:ByteArray)),(vS (⟨#[115]⟩:ByteArray)),(vI 1),.nil,(vI 0),(vI 5),(vI 1),(vL Rect.enc ([(⟨0,0,2,2⟩:Rect)]:List Rect)),(vS (⟨#[120]⟩:ByteArray))] rfl wz (aj (af (aa (aD 0 0 il ft vJ zR rfl rfl (.agg [(vS (⟨#[97]⟩:ByteArray)),(vS (⟨#[115]⟩:ByteArray)),(vI 1),.nil,(vI 0),(vI 5),(vI 1),(vL Rect.enc ([(⟨0,0,2,2⟩:Rect)]:List Rect)),(vS (⟨#[120]⟩:ByteArray))]) rfl wz (ae (.d (.agg (Post.enc (⟨(⟨#[112]⟩:ByteArray),1,1⟩:Post)))) wz (by kernel_rfl) ?_)))))))))))))))))))
 obtain ⟨r_10,hr_11,hF⟩:=bind_some hF
 refine aG (zY hr_11) rfl hb45 rfl rfl rfl rfl wz (ae (.tup [(vB r_10.1),(vI r_10.2)]) wz rfl (ae (vB r_10.1) wz rfl (ae (vI r_10.2) wz rfl (ae (vB r_10.1) wz rfl (ae (vI r_10.2) wz rfl (aj (af ?_)))))))
 obtain ⟨v_12,h_13,hF⟩:=bind_some hF
 refine aH (β:=Unit) (fun _=>([(0,(vB v_12))]:List (Nat×V))) (fun _=>([(n_9,some (.cells 9 [(vS (⟨#[97]⟩:ByteArray)),(vS (⟨#[115]⟩:ByteArray)),(vI 1),.nil,(vI 0),(vI 5),(vI 1),(vL Rect.enc ([(⟨0,0,2,2⟩:Rect)]:List Rect)),(vS (⟨#[120]⟩:ByteArray))]))]:Hp)) (fun _=>True) ?_ ?_
 ·refine aa (ae (vI r_1.2) wz rfl (ae (vI r_3.2) wz rfl (ae (vI r_5.2) wz rfl (ae (vI r_7.2) wz rfl (ae (vI r_10.2) wz rfl (eU (([r_1.2,r_3.2,r_5.2,r_7.2,r_10.2]:List Int).map eI) es140 ez140 rfl rfl rfl rfl rfl wz ?_))))))
  obtain ⟨r_14,hr_15,h_13⟩:=bind_some h_13
  refine aG (F9 hr_15) rfl hb14 rfl rfl rfl rfl wz (ae (vB (r_14 == 0)) wz rfl ?_)
  rcases au h_13 with⟨hc_16,h_13⟩ | ⟨hc_16,h_13⟩
  ·refine aF rfl hc_16 wz (ae (vI r_1.1) wa rfl (ae (vB (r_1.1 == 7)) wa rfl (ae (vB (r_1.1 == 7)) wz rfl ?_)))
   rcases au h_13 with⟨hc_17,h_13⟩ | ⟨hc_17,h_13⟩
   ·refine aF rfl hc_17 wz (ae (vL Window.enc r_3.1) wa rfl (cO JW rfl wa (ae (vB ((r_3.1.length:Int) == 1)) wa rfl (ae (vB ((r_3.1.length:Int) == 1)) wz rfl ?_))))
    rcases au h_13 with⟨hc_18,h_13⟩ | ⟨hc_18,h_13⟩
    ·refine aF rfl hc_18 wz (ae (vI r_5.1) wa rfl (ae (vB (r_5.1 == 5)) wa rfl (ae (vB (r_5.1 == 5)) wz rfl ?_)))
     rcases au h_13 with⟨hc_19,h_13⟩ | ⟨hc_19,h_13⟩
     ·refine aF rfl hc_19 wz (ae (vI r_7.1) wa rfl (ae (vB (r_7.1 == 500)) wa rfl (ae (vB (r_7.1 == 500)) wz rfl ?_)))
      rcases au h_13 with⟨hc_20,h_13⟩ | ⟨hc_20,h_13⟩
      ·refine aF rfl hc_20 wz (ae (vB r_10.1) wa rfl (ae (vB r_10.1) wz rfl (ae (vB r_10.1) wz rfl (aj ?_))))
       obtain rfl:=ah h_13
       exact cu
      ·refine aF rfl hc_20 wz (ak wa (ae (vB false) wz rfl (ae (vB false) wz rfl (aj ?_))))
       obtain rfl:=ah h_13
       exact cu
     ·refine aF rfl hc_19 wz (ak wa (ak wa (ae (vB false) wz rfl (ae (vB false) wz rfl (ak wa (ae (vB false) wz rfl (ae (vB false) wz rfl (aj ?_))))))))
      obtain rfl:=ah h_13
      exact cu
    ·refine aF rfl hc_18 wz (ak wa (ak wa (ae (vB false) wz rfl (ae (vB false) wz rfl (ak wa (ak wa (ae (vB false) wz rfl (ae (vB false) wz rfl (ak wa (ae (vB false) wz rfl (ae (vB false) wz rfl (aj ?_))))))))))))
     obtain rfl:=ah h_13
     exact cu
   ·refine aF rfl hc_17 wz (ak wa (ak wa (ak wa (ae (vB false) wz rfl (ae (vB false) wz rfl (ak wa (ak wa (ae (vB false) wz rfl (ae (vB false) wz rfl (ak wa (ak wa (ae (vB false) wz rfl (ae (vB false) wz rfl (ak wa (ae (vB false) wz rfl (ae (vB false) wz rfl (aj ?_)))))))))))))))))
    obtain rfl:=ah h_13
    exact cu
  ·refine aF rfl hc_16 wz (ak wa (ak wa (ae (vB false) wz rfl (ae (vB false) wz rfl (ak wa (ak wa (ak wa (ae (vB false) wz rfl (ae (vB false) wz rfl (ak wa (ak wa (ae (vB false) wz rfl (ae (vB false) wz rfl (ak wa (ak wa (ae (vB false) wz rfl (ae (vB false) wz rfl (ak wa (ae (vB false) wz rfl (ae (vB false) wz rfl (aj ?_)))))))))))))))))))))
   obtain rfl:=ah h_13
   exact cu
 ·rintro ⟨⟩ _ sl_ H_ hp_ hq_
  refine aL _ hp_ hq_ ?_
  obtain rfl:=ah hF
  exact aB (aO (.inr rfl) [(vB v_12)] ⟨rfl,trivial⟩ rfl rfl rfl)
theorem AP {l_1:(List Entry)} {p_2:Player} {atv_3:Int} {r:Int×Int} (hF:mK l_1 p_2 atv_3=some r) :
  FnM Tryz.prog 37 [(vL Entry.enc l_1),(.d (.agg (Player.enc p_2))),(vI atv_3)] [] (.tup [(vI r.1),(vI r.2)]) []:=by
 refine FnM.of_wH ⟨Tryz.prog,34,[],[]⟩ rfl Tryz.func37 rfl rfl (Nat.le_of_ble_eq_true rfl) (by kernel_rfl) ?_
 unfold mK at hF
 refine af (aa (ek 0 (.inl rfl) [(vS p_2.Key),(vS p_2.Screen),(vI p_2.Zone),(vL eS p_2.Tags)] rfl rfl wz (fun n_4=>ae (vI 0) wz rfl (ae (vI 0) wz rfl (aj (af (af (aa (ae (vL Entry.enc l_1) wz rfl (aD 0 0 il ft uJ wO rfl rfl (.d (.agg (Player.enc p_2))) rfl wz (ae (vI atv_3) wz rfl ?_)))))))))))
 obtain ⟨r_5,hr_6,hF⟩:=bind_some hF
 refine aG (nz hr_6) rfl hb95 rfl rfl rfl rfl wz (ae (vI r_5) wz rfl (aj (af (aa (ae (vI r_5) wz rfl (ae (vB (r_5 != 0)) wz rfl (aj ?_)))))))
 rcases au hF with⟨hc_7,hF⟩ | ⟨hc_7,hF⟩
 ·refine aA rfl hc_7 (af (aa (ae (vI r_5) wz rfl (ae (vI 0) wz rfl (ae (vI r_5) wz rfl (aj ?_))))))
  obtain rfl:=ah hF
  exact aB (aO (.inr rfl) [(vI 0),(vI r_5)] ⟨rfl,⟨rfl,trivial⟩⟩ rfl rfl rfl)
 ·refine ay rfl hc_7 (av (af (aa (ae (vL Entry.enc l_1) wz rfl (aD 0 0 il ft uJ wO rfl rfl (.d (.agg (Player.enc p_2))) rfl wz (ae (vI atv_3) wz rfl (ae (vI atv_3) wz rfl (ae (vI (w64 (atv_3 + 34560000000))) wz rfl (ae (vI (w64 ((w64 (atv_3 + 34560000000)) + 1))) wz rfl (nS (vI (p9 (w64 ((w64 (atv_3 + 34560000000)) + 1)) 345686400000)) rfl (.inl rfl) wz (ae (.d (.agg (Window.enc (⟨atv_3,(p9 (w64 ((w64 (atv_3 + 34560000000)) + 1)) 345686400000)⟩:Window)))) wz (by kernel_rfl) ?_)))))))))))
  obtain ⟨r_8,hr_9,hF⟩:=bind_some hF
  refine aG (xR hr_9) rfl hb94 rfl rfl rfl rfl wz (ae (vL Slot_.enc r_8) wz rfl (aj (af (af (aa (ae (vL Slot_.enc r_8) wz rfl (cO un67 rfl wz (ae (vB (decide ((r_8.length:Int) < 2))) wz rfl (aj ?_)))))))))
  rcases au hF with⟨hc_10,hF⟩ | ⟨hc_10,hF⟩
  ·refine aA rfl hc_10 (af (aa (ae (vI (-1)) wz rfl (ae (vI 0) wz rfl (aj ?_)))))
   obtain rfl:=ah hF
   exact aB (aO (.inr rfl) [(vI (-1)),(vI 0)] ⟨rfl,⟨rfl,trivial⟩⟩ rfl rfl rfl)
  ·refine ay rfl hc_10 (av (af (aa (ae (vL Slot_.enc r_8) wz rfl ?_))))
   obtain ⟨y_11,hy_12,hF⟩:=bind_some hF
   refine dU es67 rfl rfl hy_12 rfl wz (kY LQ rfl [.int .i64 y_11.Time.From,.int .i64 y_11.Time.To,.str y_11.Entry] rfl rfl wz (kY iH rfl [.int .i64 y_11.Time.From,.int .i64 y_11.Time.To,.str y_11.Entry] rfl rfl wz (bN sz3 ag3 rfl (vI y_11.Time.From) rfl wz (ae (vI y_11.Time.From) wz rfl (ae (vI 0) wz rfl (aj (aL (H0:=([(n_4,some (.cells 4 [(vS p_2.Key),(vS p_2.Screen),(vI p_2.Zone),(vL eS p_2.Tags)]))]:Hp)) ([(6,(vI y_11.Time.From)),(7,(vI 0))]:List (Nat×V)) (by kernel_rfl) (sF (by kernel_rfl)) ?_)))))))
   obtain rfl:=ah hF
   exact aB (aO (.inr rfl) [(vI y_11.Time.From),(vI 0)] ⟨rfl,⟨rfl,trivial⟩⟩ rfl rfl rfl)
theorem yR {l_1:(List Int)} {r:Bool} (hF:mU l_1=some r) :
  FnM Tryz.prog 6 [(vL eI l_1)] [] (vB r) []:=by
 refine FnM.of_wH ⟨Tryz.prog,113,[],[]⟩ rfl Tryz.func6 rfl rfl (Nat.le_of_ble_eq_true rfl) (by kernel_rfl) ?_
 unfold mU at hF
 refine af (aa (ae (vB false) wz rfl (aj (af (aa (ae (vL eI l_1) wz rfl (ae (.d (.agg (Stream.enc (⟨l_1,0⟩:Stream)))) wz (by kernel_rfl) (ek 0 (.inl rfl) [(vL eI l_1),(vI 0)] rfl rfl wz (fun n_2=>ae (.ref n_2 0 0) wz rfl (aj (af (aa (ae (.ref n_2 0 0) wz rfl ?_)))))))))))))
 obtain ⟨r_3,hr_4,hF⟩:=bind_some hF
 refine eD 0 [0] il ft (rJ hr_4) rfl hb31 rfl (by kernel_rfl) (by kernel_rfl) (by kernel_rfl) (by kernel_rfl) (by kernel_rfl) (by kernel_rfl) (by kernel_rfl) (by decide) (by kernel_rfl) wz (vL Entry.enc r_3.1) (by kernel_rfl) ([(n_2,some (.cells 2 [(vL eI r_3.2.L),(vI r_3.2.f_at)]))]:Hp) (by kernel_rfl) (ae (.ref n_2 0 0) wz rfl ?_)
 obtain ⟨r_6,hr_7,hF⟩:=bind_some hF
 refine eD 0 [0] il ft (sN hr_7) rfl hb32 rfl (by kernel_rfl) (by kernel_rfl) (by kernel_rfl) (by kernel_rfl) (by kernel_rfl) (by kernel_rfl) (by kernel_rfl) (by decide) (by kernel_rfl) wz (.d (.agg (Player.enc r_6.1))) (by kernel_rfl) ([(n_2,some (.cells 2 [(vL eI r_6.2.L),(vI r_6.2.f_at)]))]:Hp) (by kernel_rfl) (ae (.ref n_2 0 0) wz rfl ?_)
 obtain ⟨r_9,hr_10,hF⟩:=bind_some hF
 refine eD 0 [0] il ft (ku hr_10) rfl hb34 rfl (by kernel_rfl) (by kernel_rfl) (by kernel_rfl) (by kernel_rfl) (by kernel_rfl) (by kernel_rfl) (by kernel_rfl) (by decide) (by kernel_rfl) wz (vI r_9.1) (by kernel_rfl) ([(n_2,some (.cells 2 [(vL eI r_9.2.L),(vI r_9.2.f_at)]))]:Hp) (by kernel_rfl) (ae (vI (w64 (r_9.1 * 86400000))) wz rfl (ae (.ref n_2 0 0) wz rfl (eU (([0,1,36000000]:List Int).map eI) kw wQ rfl rfl rfl rfl rfl wz ?_)))
 obtain ⟨r_12,hr_13,hF⟩:=bind_some hF
 refine eD 0 [0] il ft (eB hr_13) rfl Fx rfl (by kernel_rfl) (by kernel_rfl) (by kernel_rfl) (by kernel_rfl) (by kernel_rfl) (by kernel_rfl) (by kernel_rfl) (by decide) (by kernel_rfl) wz (vI r_12.1) (by kernel_rfl) ([(n_2,some (.cells 2 [(vL eI r_12.2.L),(vI r_12.2.f_at)]))]:Hp) (by kernel_rfl) (ae (vI (w64 ((w64 (r_9.1 * 86400000)) + r_12.1))) wz rfl (dB 0 (.inl rfl) z81 rfl wz (fun n_15=>ae (vL Entry.enc r_3.1) wz rfl (fH 0 il ft 1 uJ rfl rfl [(vS r_6.1.Key),(vS r_6.1.Screen),(vI r_6.1.Zone),(vL eS r_6.1.Tags)] rfl wz (ae (vI (w64 ((w64 (r_9.1 * 86400000)) + r_12.1))) wz rfl (aj (af (aa (ae (vL Entry.enc r_3.1) wz rfl (aD 0 1 il ft uJ wO rfl rfl (.d (.agg (Player.enc r_6.1))) rfl wz (ae (vI (w64 ((w64 (r_9.1 * 86400000)) + r_12.1))) wz rfl ?_)))))))))))
 obtain ⟨r_16,hr_17,hF⟩:=bind_some hF
 refine aG (AP hr_17) rfl hb37 rfl rfl rfl rfl wz (ae (.tup [(vI r_16.1),(vI r_16.2)]) wz rfl (ae (vI r_16.1) wz rfl (ae (vI r_16.2) wz rfl (ae (vI r_16.1) wz rfl (ae (vI r_16.2) wz rfl (aj (af (aa (ae (vL Entry.enc r_3.1) wz rfl (aD 0 1 il ft uJ wO rfl rfl (.d (.agg (Player.enc r_6.1))) rfl wz (ae (vI (w64 ((w64 (r_9.1 * 86400000)) + r_12.1))) wz rfl ?_)))))))))))
 obtain ⟨r_18,hr_19,hF⟩:=bind_some hF
 refine aG (nY hr_19) rfl hb35 rfl rfl rfl rfl wz (ae (.tup [(vS r_18.1),(vB r_18.2.1),(vI r_18.2.2)]) wz rfl (ae (vS r_18.1) wz rfl (ae (vB r_18.2.1) wz rfl (ae (vI r_18.2.2) wz rfl (ae (vS r_18.1) wz rfl (ae (vB r_18.2.1) wz rfl (ae (vI r_18.2.2) wz rfl (aj (aL (H0:=([(n_2,some (.cells 2 [(vL eI r_12.2.L),(vI r_12.2.f_at)])),(n_15,some (.cells 4 [(vS r_6.1.Key),(vS r_6.1.Screen),(vI r_6.1.Zone),(vL eS r_6.1.Tags)]))]:Hp)) ([(3,(.ref n_2 0 0)),(4,(vL Entry.enc r_3.1)),(5,(.ref n_15 0 0)),(6,(vI (w64 ((w64 (r_9.1 * 86400000)) + r_12.1)))),(7,(vI r_16.1)),(8,(vI r_16.2)),(9,(vS r_18.1)),(11,(vI r_18.2.2))]:List (Nat×V)) (by kernel_rfl) (sF (by kernel_rfl)) (af (af ?_)))))))))))
 obtain ⟨v_20,h_21,hF⟩:=bind_some hF
 refine aH (β:=Unit) (fun _=>([(3,(.ref n_2 0 0)),(4,(vL Entry.enc r_3.1)),(5,(.ref n_15 0 0)),(6,(vI (w64 ((w64 (r_9.1 * 86400000)) + r_12.1)))),(7,(vI r_16.1)),(9,(vS r_18.1)),(63,(vB v_20))]:List (Nat×V))) (fun _=>([(n_2,some (.cells 2 [(vL eI r_12.2.L),(vI r_12.2.f_at)])),(n_15,some (.cells 4 [(vS r_6.1.Key),(vS r_6.1.Screen),(vI r_6.1.Zone),(vL eS r_6.1.Tags)]))]:Hp)) (fun _=>True) ?_ ?_
 ·refine aa (ae (vI r_16.2) wz rfl (ae (vB (r_16.2 != 0)) wz rfl ?_))
  rcases au h_21 with⟨hc_22,h_21⟩ | ⟨hc_22,h_21⟩
  ·refine aF rfl hc_22 wz (ak wa (ak wa (ae (vB true) wz rfl (ae (vB true) wz rfl (ak wa (ak wa (ak wa (ak (wn rfl rfl) (ak (wn rfl rfl) (ak (wn rfl rfl) (ak wa (ae (vB true) wz rfl (aj ?_)))))))))))))
   obtain rfl:=ah h_21
   exact cu
  ·refine aF rfl hc_22 wz (ae (vI r_18.2.2) wa rfl (ae (vB (r_18.2.2 != 0)) wa rfl (ae (vB (r_18.2.2 != 0)) wz rfl ?_)))
   rcases au h_21 with⟨hc_23,h_21⟩ | ⟨hc_23,h_21⟩
   ·refine aF rfl hc_23 wz (ak wa (ak wa (ak wa (ak (wn rfl rfl) (ak (wn rfl rfl) (ak (wn rfl rfl) (ak wa (ae (vB true) wz rfl (aj ?_)))))))))
    obtain rfl:=ah h_21
    exact cu
   ·refine aF rfl hc_23 wz (ae (vI r_16.1) wa rfl (ae (vB (r_16.1 != (-1))) wa rfl ?_))
    rcases au h_21 with⟨hc_24,h_21⟩ | ⟨hc_24,h_21⟩
    ·refine aF rfl hc_24 wa (ae (vI r_16.1) wa rfl (ae (vI (w64 ((w64 (r_9.1 * 86400000)) + r_12.1))) wa rfl (ae (vB (decide (r_16.1≤(w64 ((w64 (r_9.1 * 86400000)) + r_12.1))))) wa rfl (ae (vB (decide (r_16.1≤(w64 ((w64 (r_9.1 * 86400000)) + r_12.1))))) wa rfl (ae (vB (decide (r_16.1≤(w64 ((w64 (r_9.1 * 86400000)) + r_12.1))))) wz rfl (aj ?_))))))
     obtain rfl:=ah h_21
     exact cu
    ·refine aF rfl hc_24 wa (ak wa (ak wa (ak wa (ae (vB false) wa rfl (ae (vB false) wz rfl (aj ?_))))))
     obtain rfl:=ah h_21
     exact cu
 ·rintro ⟨⟩ _ sl_ H_ hp_ hq_
  refine aL _ hp_ hq_ ?_
  rcases au hF with⟨hc_25,hF⟩ | ⟨hc_25,hF⟩
  ·refine aA rfl hc_25 (af (aa (ae (vB false) wz rfl (aj ?_))))
   obtain rfl:=ah hF
   exact aB (aO (.inr rfl) [(vB false)] ⟨rfl,trivial⟩ rfl rfl rfl)
  ·refine ay rfl hc_25 (av (af (aa (ae (vI (w64 ((w64 (r_9.1 * 86400000)) + r_12.1))) wz rfl (ae (vI (w64 ((w64 ((w64 (r_9.1 * 86400000)) + r_12.1)) + 34560000000))) wz rfl (ae (vI (w64 ((w64 ((w64 (r_9.1 * 86400000)) + r_12.1)) + 34560000000))) wz rfl (aj (af (af (aa (ae (vI r_16.1) wz rfl (ae (vB (decide (r_16.1≥0))) wz rfl (aj ?_)))))))))))))
   rcases au hF with⟨hc_26,hF⟩ | ⟨hc_26,hF⟩
   ·refine aA rfl hc_26 (af (aa (ae (vI r_16.1) wz rfl (ae (vI r_16.1) wz rfl (aj (af (aa (ae (vL Entry.enc r_3.1) wz rfl (aD 0 1 il ft uJ wO rfl rfl (.d (.agg (Player.enc r_6.1))) rfl wz (ae (vI r_16.1) wz rfl ?_))))))))))
    obtain ⟨r_27,hr_28,hF⟩:=bind_some hF
    refine aG (nY hr_28) rfl hb35 rfl rfl rfl rfl wz (ae (.tup [(vS r_27.1),(vB r_27.2.1),(vI r_27.2.2)]) wz rfl (ae (vS r_27.1) wz rfl (ae (vB r_27.2.1) wz rfl (ae (vI r_27.2.2) wz rfl (ae (vS r_27.1) wz rfl (ae (vB r_27.2.1) wz rfl (ae (vI r_27.2.2) wz rfl (aj (af ?_)))))))))
    obtain ⟨v_29,h_30,hF⟩:=bind_some hF
    refine aH (β:=Unit) (fun _=>([(3,(.ref n_2 0 0)),(4,(vL Entry.enc r_3.1)),(5,(.ref n_15 0 0)),(6,(vI (w64 ((w64 (r_9.1 * 86400000)) + r_12.1)))),(9,(vS r_18.1)),(12,(vI r_16.1)),(83,(vB v_29))]:List (Nat×V))) (fun _=>([(n_2,some (.cells 2 [(vL eI r_12.2.L),(vI r_12.2.f_at)])),(n_15,some (.cells 4 [(vS r_6.1.Key),(vS r_6.1.Screen),(vI r_6.1.Zone),(vL eS r_6.1.Tags)]))]:Hp)) (fun _=>True) ?_ ?_
    ·refine aa (ae (vI r_27.2.2) wz rfl (ae (vB (r_27.2.2 != 0)) wz rfl ?_))
     rcases au h_30 with⟨hc_31,h_30⟩ | ⟨hc_31,h_30⟩
     ·refine aF rfl hc_31 wz (ak wa (ak wa (ak wa (ae (vB true) wz rfl (aj ?_)))))
      obtain rfl:=ah h_30
      exact cu
     ·refine aF rfl hc_31 wz (ae (vS r_27.1) wa rfl (ae (vS r_18.1) wa rfl (ae (vB (sEq r_27.1 r_18.1)) wa rfl (ae (vB (sEq r_27.1 r_18.1)) wz rfl (aj ?_)))))
      obtain rfl:=ah h_30
      exact cu
    ·rintro ⟨⟩ _ sl_ H_ hp_ hq_
     refine aL _ hp_ hq_ ?_
     rcases au hF with⟨hc_32,hF⟩ | ⟨hc_32,hF⟩
     ·refine aA rfl hc_32 (af (aa (ae (vB false) wz rfl (aj ?_))))
      obtain rfl:=ah hF
      exact aB (aO (.inr rfl) [(vB false)] ⟨rfl,trivial⟩ rfl rfl rfl)
     ·refine ay rfl hc_32 (av (af (af (aa (ae (vI 0) wz rfl (aj ?_))))))
      obtain ⟨o_41,hj_42,hF⟩:=bind_some hF
      obtain ⟨hn_37,hj_42⟩:=bv hj_42
      refine aH (β:=((List Int)×Int)) (fun (s_38:(List Int)×Int)=>([]:List (Nat×V))) (fun (s_38:(List Int)×Int)=>([(n_2,some (.cells 2 [(vL eI s_38.1),(vI s_38.2)])),(n_15,some (.cells 4 [(vS r_6.1.Key),(vS r_6.1.Screen),(vI r_6.1.Zone),(vL eS r_6.1.Tags)]))]:Hp)) (fun p=>o_41 = .go p) ?_ ?_
      ·refine aC (aV (β:=Nat×(List Nat)×((List Int)×Int)) (fun p=>(fun (k_33:Nat) (l_34:List Nat) (s_38:(List Int)×Int)=>([(3,(.ref n_2 0 0)),(4,(vL Entry.enc r_3.1)),(5,(.ref n_15 0 0)),(6,(vI (w64 ((w64 (r_9.1 * 86400000)) + r_12.1)))),(9,(vS r_18.1)),(12,(vI r_16.1)),(84,(vI (k_33:Int)))]:List (Nat×V))) p.1 p.2.1 p.2.2) (fun p=>(fun (k_33:Nat) (l_34:List Nat) (s_38:(List Int)×Int)=>([(n_2,some (.cells 2 [(vL eI s_38.1),(vI s_38.2)])),(n_15,some (.cells 4 [(vS r_6.1.Key),(vS r_6.1.Screen),(vI r_6.1.Zone),(vL eS r_6.1.Tags)]))]:Hp)) p.1 p.2.1 p.2.2) (fun p=>forR (fun k x s=>jb r_3 r_6 r_9 r_12 r_16 r_18 k x s) p.2.1 p.1 p.2.2=some o_41∧((List.range (4:Int).toNat)).drop p.1=p.2.1) (fun p=>p.2.1.length) (0,(List.range (4:Int).toNat),(r_12.2.L,r_12.2.f_at)) ⟨hj_42,rfl⟩ rfl (aJ rfl) ?_)
       rintro ⟨k_33,l_34,s_38⟩ ⟨hL_40,hD_36⟩
       dsimp only at hL_40 hD_36
       cases l_34 with
       | nil =>
        obtain rfl:=ah hL_40
        refine af (aa (ae (vB (decide ((k_33:Int) < 4))) wz rfl (aj ?_)))
        refine af (ay rfl (xh hD_36) (aQ ?_))
        exact aR (s_38) rfl rfl (aJ rfl)
       | cons x_35 l_34 =>
        obtain ⟨c_,hc_39,hL_40⟩:=bind_some hL_40
        refine af (aa (ae (vB (decide ((k_33:Int) < 4))) wz rfl (aj ?_)))
        refine af (aA rfl (uz hD_36) (av ?_))
        unfold jb at hc_39
        refine af (aC (af (aa (ae (vI (w64 ((w64 (r_9.1 * 86400000)) + r_12.1))) wz rfl (ae (vI r_16.1) wz rfl (ae (vI (w64 (r_16.1 - 1))) wz rfl (ae (vI (w64 ((w64 (r_9.1 * 86400000)) + r_12.1))) wz rfl (ae (vI (w64 ((w64 (r_16.1 - 1)) - (w64 ((w64 (r_9.1 * 86400000)) + r_12.1))))) wz rfl (ae (vI (w64 ((w64 ((w64 (r_16.1 - 1)) - (w64 ((w64 (r_9.1 * 86400000)) + r_12.1)))).tdiv 1000))) wz rfl (ae (.ref n_2 0 0) wz rfl ?_))))))))))
        obtain ⟨r_43,hr_44,hc_39⟩:=bind_some hc_39
        refine eD 0 [0] il ft (ku hr_44) rfl hb34 rfl (by kernel_rfl) (by kernel_rfl) (by kernel_rfl) (by kernel_rfl) (by kernel_rfl) (by kernel_rfl) (by kernel_rfl) (by decide) (by kernel_rfl) wz (vI r_43.1) (by kernel_rfl) ([(n_2,some (.cells 2 [(vL eI r_43.2.L),(vI r_43.2.f_at)])),(n_15,some (.cells 4 [(vS r_6.1.Key),(vS r_6.1.Screen),(vI r_6.1.Zone),(vL eS r_6.1.Tags)]))]:Hp) (by kernel_rfl) (ae (vI (w64 ((w64 ((w64 ((w64 (r_16.1 - 1)) - (w64 ((w64 (r_9.1 * 86400000)) + r_12.1)))).tdiv 1000)) * r_43.1))) wz rfl (ae (vI (w64 ((w64 ((w64 (r_9.1 * 86400000)) + r_12.1)) + (w64 ((w64 ((w64 ((w64 (r_16.1 - 1)) - (w64 ((w64 (r_9.1 * 86400000)) + r_12.1)))).tdiv 1000)) * r_43.1))))) wz rfl (ae (vI (w64 ((w64 ((w64 (r_9.1 * 86400000)) + r_12.1)) + (w64 ((w64 ((w64 ((w64 (r_16.1 - 1)) - (w64 ((w64 (r_9.1 * 86400000)) + r_12.1)))).tdiv 1000)) * r_43.1))))) wz rfl (aj (af (aa (ae (vL Entry.enc r_3.1) wz rfl (aD 0 1 il ft uJ wO rfl rfl (.d (.agg (Player.enc r_6.1))) rfl wz (ae (vI (w64 ((w64 ((w64 (r_9.1 * 86400000)) + r_12.1)) + (w64 ((w64 ((w64 ((w64 (r_16.1 - 1)) - (w64 ((w64 (r_9.1 * 86400000)) + r_12.1)))).tdiv 1000)) * r_43.1))))) wz rfl ?_)))))))))
        obtain ⟨r_46,hr_47,hc_39⟩:=bind_some hc_39
        refine aG (nY hr_47) rfl hb35 rfl rfl rfl rfl wz (ae (.tup [(vS r_46.1),(vB r_46.2.1),(vI r_46.2.2)]) wz rfl (ae (vS r_46.1) wz rfl (ae (vB r_46.2.1) wz rfl (ae (vI r_46.2.2) wz rfl (ae (vS r_46.1) wz rfl (ae (vB r_46.2.1) wz rfl (ae (vI r_46.2.2) wz rfl (aj (af ?_)))))))))
        obtain ⟨v_48,h_49,hc_39⟩:=bind_some hc_39
        refine aH (β:=Unit) (fun _=>([(3,(.ref n_2 0 0)),(4,(vL Entry.enc r_3.1)),(5,(.ref n_15 0 0)),(6,(vI (w64 ((w64 (r_9.1 * 86400000)) + r_12.1)))),(9,(vS r_18.1)),(12,(vI r_16.1)),(84,(vI (k_33:Int))),(110,(vB v_48))]:List (Nat×V))) (fun _=>([(n_2,some (.cells 2 [(vL eI r_43.2.L),(vI r_43.2.f_at)])),(n_15,some (.cells 4 [(vS r_6.1.Key),(vS r_6.1.Screen),(vI r_6.1.Zone),(vL eS r_6.1.Tags)]))]:Hp)) (fun _=>True) ?_ ?_
        ·refine aa (ae (vI r_46.2.2) wz rfl (ae (vB (r_46.2.2 != 0)) wz rfl ?_))
         rcases au h_49 with⟨hc_50,h_49⟩ | ⟨hc_50,h_49⟩
         ·refine aF rfl hc_50 wz (ak wa (ak wa (ak wa (ae (vB true) wz rfl (aj ?_)))))
          obtain rfl:=ah h_49
          exact cu
         ·refine aF rfl hc_50 wz (ae (vS r_46.1) wa rfl (ae (vS r_18.1) wa rfl (ae (vB (sNe r_46.1 r_18.1)) wa rfl (ae (vB (sNe r_46.1 r_18.1)) wz rfl (aj ?_)))))
          obtain rfl:=ah h_49
          exact cu
        ·rintro ⟨⟩ _ sl_ H_ hp_ hq_
         refine aL _ hp_ hq_ ?_
         rcases au hc_39 with⟨hc_51,hc_39⟩ | ⟨hc_51,hc_39⟩
         ·refine aA rfl hc_51 (af (aa (ae (vB false) wz rfl (aj ?_))))
          obtain rfl:=ah hc_39
          obtain rfl:=ah hL_40
          obtain rfl:=ah hF
          exact aB (aO (.inr rfl) [(vB false)] ⟨rfl,trivial⟩ rfl rfl rfl)
         ·refine ay rfl hc_51 (av (aa (fJ (xn hD_36 hn_37) wz rfl (ae (vI ((k_33 + 1:Nat):Int)) wz rfl (aj ?_)))))
          obtain rfl:=ah hc_39
          exact aP (k_33 + 1,l_34,(r_43.2.L,r_43.2.f_at)) ⟨hL_40,aW hD_36⟩ (Nat.lt_succ_self _) rfl (aJ rfl)
      ·rintro s_38 ho_ sl_ H_ hp_ hq_
       subst ho_
       refine aL _ hp_ hq_ (af (aa ?_))
       obtain ⟨r_52,hr_53,hF⟩:=bind_some hF
       refine aG (yx hr_53) rfl hb17 rfl rfl rfl rfl wz (ae (vB r_52) wz rfl (aj ?_))
       obtain rfl:=ah hF
       exact aB (aO (.inr rfl) [(vB r_52)] ⟨rfl,trivial⟩ rfl rfl rfl)
   ·refine ay rfl hc_26 (av (af (af (aa (ae (vI 0) wz rfl (aj ?_))))))
    obtain ⟨o_62,hj_63,hF⟩:=bind_some hF
    obtain ⟨hn_58,hj_63⟩:=bv hj_63
    refine aH (β:=((List Int)×Int)) (fun (s_59:(List Int)×Int)=>([]:List (Nat×V))) (fun (s_59:(List Int)×Int)=>([(n_2,some (.cells 2 [(vL eI s_59.1),(vI s_59.2)])),(n_15,some (.cells 4 [(vS r_6.1.Key),(vS r_6.1.Screen),(vI r_6.1.Zone),(vL eS r_6.1.Tags)]))]:Hp)) (fun p=>o_62 = .go p) ?_ ?_
    ·refine aC (aV (β:=Nat×(List Nat)×((List Int)×Int)) (fun p=>(fun (k_54:Nat) (l_55:List Nat) (s_59:(List Int)×Int)=>([(3,(.ref n_2 0 0)),(4,(vL Entry.enc r_3.1)),(5,(.ref n_15 0 0)),(6,(vI (w64 ((w64 (r_9.1 * 86400000)) + r_12.1)))),(9,(vS r_18.1)),(12,(vI (w64 ((w64 ((w64 (r_9.1 * 86400000)) + r_12.1)) + 34560000000)))),(84,(vI (k_54:Int)))]:List (Nat×V))) p.1 p.2.1 p.2.2) (fun p=>(fun (k_54:Nat) (l_55:List Nat) (s_59:(List Int)×Int)=>([(n_2,some (.cells 2 [(vL eI s_59.1),(vI s_59.2)])),(n_15,some (.cells 4 [(vS r_6.1.Key),(vS r_6.1.Screen),(vI r_6.1.Zone),(vL eS r_6.1.Tags)]))]:Hp)) p.1 p.2.1 p.2.2) (fun p=>forR (fun k x s=>iU r_3 r_6 r_9 r_12 r_18 k x s) p.2.1 p.1 p.2.2=some o_62∧((List.range (4:Int).toNat)).drop p.1=p.2.1) (fun p=>p.2.1.length) (0,(List.range (4:Int).toNat),(r_12.2.L,r_12.2.f_at)) ⟨hj_63,rfl⟩ rfl (aJ rfl) ?_)
     rintro ⟨k_54,l_55,s_59⟩ ⟨hL_61,hD_57⟩
     dsimp only at hL_61 hD_57
     cases l_55 with
     | nil =>
      obtain rfl:=ah hL_61
      refine af (aa (ae (vB (decide ((k_54:Int) < 4))) wz rfl (aj ?_)))
      refine af (ay rfl (xh hD_57) (aQ ?_))
      exact aR (s_59) rfl rfl (aJ rfl)
     | cons x_56 l_55 =>
      obtain ⟨c_,hc_60,hL_61⟩:=bind_some hL_61
      refine af (aa (ae (vB (decide ((k_54:Int) < 4))) wz rfl (aj ?_)))
      refine af (aA rfl (uz hD_57) (av ?_))
      unfold iU at hc_60
      refine af (aC (af (aa (ae (vI (w64 ((w64 (r_9.1 * 86400000)) + r_12.1))) wz rfl (ae (vI (w64 ((w64 ((w64 (r_9.1 * 86400000)) + r_12.1)) + 34560000000))) wz rfl (ae (vI (w64 ((w64 ((w64 ((w64 (r_9.1 * 86400000)) + r_12.1)) + 34560000000)) - 1))) wz rfl (ae (vI (w64 ((w64 (r_9.1 * 86400000)) + r_12.1))) wz rfl (ae (vI (w64 ((w64 ((w64 ((w64 ((w64 (r_9.1 * 86400000)) + r_12.1)) + 34560000000)) - 1)) - (w64 ((w64 (r_9.1 * 86400000)) + r_12.1))))) wz rfl (ae (vI (w64 ((w64 ((w64 ((w64 ((w64 ((w64 (r_9.1 * 86400000)) + r_12.1)) + 34560000000)) - 1)) - (w64 ((w64 (r_9.1 * 86400000)) + r_12.1)))).tdiv 1000))) wz rfl (ae (.ref n_2 0 0) wz rfl ?_))))))))))
      obtain ⟨r_64,hr_65,hc_60⟩:=bind_some hc_60
      refine eD 0 [0] il ft (ku hr_65) rfl hb34 rfl (by kernel_rfl) (by kernel_rfl) (by kernel_rfl) (by kernel_rfl) (by kernel_rfl) (by kernel_rfl) (by kernel_rfl) (by decide) (by kernel_rfl) wz (vI r_64.1) (by kernel_rfl) ([(n_2,some (.cells 2 [(vL eI r_64.2.L),(vI r_64.2.f_at)])),(n_15,some (.cells 4 [(vS r_6.1.Key),(vS r_6.1.Screen),(vI r_6.1.Zone),(vL eS r_6.1.Tags)]))]:Hp) (by kernel_rfl) (ae (vI (w64 ((w64 ((w64 ((w64 ((w64 ((w64 ((w64 (r_9.1 * 86400000)) + r_12.1)) + 34560000000)) - 1)) - (w64 ((w64 (r_9.1 * 86400000)) + r_12.1)))).tdiv 1000)) * r_64.1))) wz rfl (ae (vI (w64 ((w64 ((w64 (r_9.1 * 86400000)) + r_12.1)) + (w64 ((w64 ((w64 ((w64 ((w64 ((w64 ((w64 (r_9.1 * 86400000)) + r_12.1)) + 34560000000)) - 1)) - (w64 ((w64 (r_9.1 * 86400000)) + r_12.1)))).tdiv 1000)) * r_64.1))))) wz rfl (ae (vI (w64 ((w64 ((w64 (r_9.1 * 86400000)) + r_12.1)) + (w64 ((w64 ((w64 ((w64 ((w64 ((w64 ((w64 (r_9.1 * 86400000)) + r_12.1)) + 34560000000)) - 1)) - (w64 ((w64 (r_9.1 * 86400000)) + r_12.1)))).tdiv 1000)) * r_64.1))))) wz rfl (aj (af (aa (ae (vL Entry.enc r_3.1) wz rfl (aD 0 1 il ft uJ wO rfl rfl (.d (.agg (Player.enc r_6.1))) rfl wz (ae (vI (w64 ((w64 ((w64 (r_9.1 * 86400000)) + r_12.1)) + (w64 ((w64 ((w64 ((w64 ((w64 ((w64 ((w64 (r_9.1 * 86400000)) + r_12.1)) + 34560000000)) - 1)) - (w64 ((w64 (r_9.1 * 86400000)) + r_12.1)))).tdiv 1000)) * r_64.1))))) wz rfl ?_)))))))))
      obtain ⟨r_67,hr_68,hc_60⟩:=bind_some hc_60
      refine aG (nY hr_68) rfl hb35 rfl rfl rfl rfl wz (ae (.tup [(vS r_67.1),(vB r_67.2.1),(vI r_67.2.2)]) wz rfl (ae (vS r_67.1) wz rfl (ae (vB r_67.2.1) wz rfl (ae (vI r_67.2.2) wz rfl (ae (vS r_67.1) wz rfl (ae (vB r_67.2.1) wz rfl (ae (vI r_67.2.2) wz rfl (aj (af ?_)))))))))
      obtain ⟨v_69,h_70,hc_60⟩:=bind_some hc_60
      refine aH (β:=Unit) (fun _=>([(3,(.ref n_2 0 0)),(4,(vL Entry.enc r_3.1)),(5,(.ref n_15 0 0)),(6,(vI (w64 ((w64 (r_9.1 * 86400000)) + r_12.1)))),(9,(vS r_18.1)),(12,(vI (w64 ((w64 ((w64 (r_9.1 * 86400000)) + r_12.1)) + 34560000000)))),(84,(vI (k_54:Int))),(110,(vB v_69))]:List (Nat×V))) (fun _=>([(n_2,some (.cells 2 [(vL eI r_64.2.L),(vI r_64.2.f_at)])),(n_15,some (.cells 4 [(vS r_6.1.Key),(vS r_6.1.Screen),(vI r_6.1.Zone),(vL eS r_6.1.Tags)]))]:Hp)) (fun _=>True) ?_ ?_
      ·refine aa (ae (vI r_67.2.2) wz rfl (ae (vB (r_67.2.2 != 0)) wz rfl ?_))
       rcases au h_70 with⟨hc_71,h_70⟩ | ⟨hc_71,h_70⟩
       ·refine aF rfl hc_71 wz (ak wa (ak wa (ak wa (ae (vB true) wz rfl (aj ?_)))))
        obtain rfl:=ah h_70
        exact cu
       ·refine aF rfl hc_71 wz (ae (vS r_67.1) wa rfl (ae (vS r_18.1) wa rfl (ae (vB (sNe r_67.1 r_18.1)) wa rfl (ae (vB (sNe r_67.1 r_18.1)) wz rfl (aj ?_)))))
        obtain rfl:=ah h_70
        exact cu
      ·rintro ⟨⟩ _ sl_ H_ hp_ hq_
       refine aL _ hp_ hq_ ?_
       rcases au hc_60 with⟨hc_72,hc_60⟩ | ⟨hc_72,hc_60⟩
       ·refine aA rfl hc_72 (af (aa (ae (vB false) wz rfl (aj ?_))))
        obtain rfl:=ah hc_60
        obtain rfl:=ah hL_61
        obtain rfl:=ah hF
        exact aB (aO (.inr rfl) [(vB false)] ⟨rfl,trivial⟩ rfl rfl rfl)
       ·refine ay rfl hc_72 (av (aa (fJ (xn hD_57 hn_58) wz rfl (ae (vI ((k_54 + 1:Nat):Int)) wz rfl (aj ?_)))))
        obtain rfl:=ah hc_60
        exact aP (k_54 + 1,l_55,(r_64.2.L,r_64.2.f_at)) ⟨hL_61,aW hD_57⟩ (Nat.lt_succ_self _) rfl (aJ rfl)
    ·rintro s_59 ho_ sl_ H_ hp_ hq_
     subst ho_
     refine aL _ hp_ hq_ (af (aa ?_))
     obtain ⟨r_73,hr_74,hF⟩:=bind_some hF
     refine aG (yx hr_74) rfl hb17 rfl rfl rfl rfl wz (ae (vB r_73) wz rfl (aj ?_))
     obtain rfl:=ah hF
     exact aB (aO (.inr rfl) [(vB r_73)] ⟨rfl,trivial⟩ rfl rfl rfl)
end Go.Proofs.YtjhcehhmdmbleaaGreatDoor.Law

