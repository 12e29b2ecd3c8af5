/-
 The machine computes these plain functions (written by a program of ours).
-/
import Derived.Test.YtjhcehhmdmbleaaGreatDoorFacts
import Derived.Test.YtjhcehhmdmbleaaGreatDoorDefs
import Derived.Test.YtjhcehhmdmbleaaGreatDoorPf1
import Derived.Test.YtjhcehhmdmbleaaGreatDoorShelf
open Go Go.Eng Go.Proofs
namespace Go.Proofs.YtjhcehhmdmbleaaGreatDoor.Law
set_option maxRecDepth 100000
set_option linter.unusedVariables false
set_option maxHeartbeats 1000000
theorem dN {s_1:ByteArray} {r:Bool} (hF:dU s_1=some r) :
  FnM Tryz.prog 125 [(vS s_1)] [] (vB r) []:=by
 refine FnM.of_wH ⟨Tryz.prog,48,[],[]⟩ rfl Tryz.func125 rfl rfl (Nat.le_of_ble_eq_true rfl) (by kernel_rfl) ?_
 unfold dU at hF
 refine af (aa (ae (vB false) wz rfl (ai (af (af (aa (ae (vI 0) wz rfl (ai ?_))))))))
 obtain ⟨o_10,hj_11,hF⟩:=bind_some hF
 obtain ⟨nq_33,hj_11⟩:=eY hj_11
 refine aG (β:=(Int)) (fun (s_7:Int)=>([(0,(vS s_1))]:List (Nat×V))) (fun (s_7:Int)=>([]:Hp)) (fun p=>o_10 = .go p) ?_ ?_
 ·refine aF (aW (β:=Nat×(Int)) (fun p=>(fun (k_2:Nat) (s_7:Int)=>([(0,(vS s_1)),(3,(vI s_7))]:List (Nat×V))) p.1 p.2) (fun p=>(fun (k_2:Nat) (s_7:Int)=>([]:Hp)) p.1 p.2) (fun p=>iterN (fun s=>jo s_1 s) p.1 p.2=some o_10) (fun p=>p.1) (nq_33,0) hj_11 rfl (aH rfl) ?_)
  rintro ⟨k_2,s_7⟩ hL_9
  dsimp only at hL_9
  cases k_2 with
  | zero=>cases hL_9
  | succ k_2 =>
   obtain ⟨c_,hc_8,hL_9⟩:=bind_some hL_9
   unfold jo at hc_8
   refine af (af (aa (ae (vI s_7) wz rfl (ae (vS s_1) wz rfl (lu un9 rfl wz (ae (vB (decide (s_7 < (s_1.size:Int)))) wz rfl (ai ?_)))))))
   rcases ak hc_8 with⟨hc_12,hc_8⟩ | ⟨hc_12,hc_8⟩
   ·refine aB rfl hc_12 (av (af (aF (af (aa (ae (vS s_1) wz rfl (ae (vI s_7) wz rfl ?_)))))))
    obtain ⟨b_13,hy_14,hc_8⟩:=bind_some hc_8
    refine jR un9 rfl rfl hy_14 wz (ae (.d (.int .u8 (b_13.toNat:Int))) wz rfl (ai (af ?_)))
    obtain ⟨v_15,h_16,hc_8⟩:=bind_some hc_8
    refine aG (β:=Unit) (fun _=>([(0,(vS s_1)),(3,(vI s_7)),(40,(vB v_15))]:List (Nat×V))) (fun _=>([]:Hp)) (fun _=>True) ?_ ?_
    ·refine aa (ae (.d (.int .u8 (b_13.toNat:Int))) wz rfl (ae (vB (decide ((b_13.toNat:Int)≥97))) wz rfl ?_))
     rcases ak h_16 with⟨hc_17,h_16⟩ | ⟨hc_17,h_16⟩
     ·refine aD rfl hc_17 wz (ae (.d (.int .u8 (b_13.toNat:Int))) wa rfl (ae (vB (decide ((b_13.toNat:Int)≤122))) wa rfl (ae (vB (decide ((b_13.toNat:Int)≤122))) wz rfl ?_)))
      rcases ak h_16 with⟨hc_18,h_16⟩ | ⟨hc_18,h_16⟩
      ·refine aD rfl hc_18 wz (aj wa (aj wa (aj wa (aj (wn rfl rfl) (aj (wn rfl rfl) (aj (wn rfl rfl) (aj (wn rfl rfl) (aj (wn rfl rfl) (aj (wn rfl rfl) (aj (wn rfl rfl) (aj (wn rfl rfl) (aj (wn rfl rfl) (aj (wn rfl rfl) (aj (wn rfl rfl) (aj (wn rfl rfl) (aj (wn rfl rfl) (aj (wn rfl rfl) (aj wa (ae (vB true) wz rfl (ae (vB false) wz rfl (ai ?_)))))))))))))))))))))
       obtain rfl:=ah h_16
       exact cu
      ·refine aD rfl hc_18 wz (ae (vI s_7) wa rfl (ae (vB (decide (s_7 > 0))) wa rfl ?_))
       rcases ak h_16 with⟨hc_19,h_16⟩ | ⟨hc_19,h_16⟩
       ·refine aD rfl hc_19 wa (ae (.d (.int .u8 (b_13.toNat:Int))) wa rfl (ae (vB (decide ((b_13.toNat:Int)≥48))) wa rfl ?_))
        rcases ak h_16 with⟨hc_20,h_16⟩ | ⟨hc_20,h_16⟩
        ·refine aD rfl hc_20 wa (ae (.d (.int .u8 (b_13.toNat:Int))) wa rfl (ae (vB (decide ((b_13.toNat:Int)≤57))) wa rfl (ae (vB (decide ((b_13.toNat:Int)≤57))) wa rfl ?_)))
         rcases ak h_16 with⟨hc_21,h_16⟩ | ⟨hc_21,h_16⟩
         ·refine aD rfl hc_21 wa (aj wa (aj wa (ae (vB true) wa rfl (ae (vB true) wa rfl (aj wa (aj wa (ae (vB true) wa rfl (ae (vB true) wa rfl (ae (vB true) wz rfl (ae (vB false) wz rfl (ai ?_)))))))))))
          obtain rfl:=ah h_16
          exact cu
         ·refine aD rfl hc_21 wa (ae (.d (.int .u8 (b_13.toNat:Int))) wa rfl (ae (vB ((b_13.toNat:Int) == 45)) wa rfl (ae (vB ((b_13.toNat:Int) == 45)) wa rfl ?_)))
          rcases ak h_16 with⟨hc_22,h_16⟩ | ⟨hc_22,h_16⟩
          ·refine aD rfl hc_22 wa (aj wa (aj wa (ae (vB true) wa rfl (ae (vB true) wa rfl (ae (vB true) wz rfl (ae (vB false) wz rfl (ai ?_)))))))
           obtain rfl:=ah h_16
           exact cu
          ·refine aD rfl hc_22 wa (ae (.d (.int .u8 (b_13.toNat:Int))) wa rfl (ae (vB ((b_13.toNat:Int) == 95)) wa rfl (ae (vB ((b_13.toNat:Int) == 95)) wa rfl (ae (vB ((b_13.toNat:Int) == 95)) wa rfl (ae (vB ((b_13.toNat:Int) == 95)) wz rfl (ae (vB (!((b_13.toNat:Int) == 95))) wz rfl (ai ?_)))))))
           obtain rfl:=ah h_16
           exact cu
        ·refine aD rfl hc_20 wa (aj wa (aj wa (ae (vB false) wa rfl (ae (vB false) wa rfl (ae (.d (.int .u8 (b_13.toNat:Int))) wa rfl (ae (vB ((b_13.toNat:Int) == 45)) wa rfl (ae (vB ((b_13.toNat:Int) == 45)) wa rfl ?_)))))))
         rcases ak h_16 with⟨hc_23,h_16⟩ | ⟨hc_23,h_16⟩
         ·refine aD rfl hc_23 wa (aj wa (aj wa (ae (vB true) wa rfl (ae (vB true) wa rfl (ae (vB true) wz rfl (ae (vB false) wz rfl (ai ?_)))))))
          obtain rfl:=ah h_16
          exact cu
         ·refine aD rfl hc_23 wa (ae (.d (.int .u8 (b_13.toNat:Int))) wa rfl (ae (vB ((b_13.toNat:Int) == 95)) wa rfl (ae (vB ((b_13.toNat:Int) == 95)) wa rfl (ae (vB ((b_13.toNat:Int) == 95)) wa rfl (ae (vB ((b_13.toNat:Int) == 95)) wz rfl (ae (vB (!((b_13.toNat:Int) == 95))) wz rfl (ai ?_)))))))
          obtain rfl:=ah h_16
          exact cu
       ·refine aD rfl hc_19 wa (aj wa (aj wa (aj wa (aj (wn rfl rfl) (aj (wn rfl rfl) (aj wa (aj wa (aj (wn rfl rfl) (aj (wn rfl rfl) (aj wa (aj wa (aj (wn rfl rfl) (aj (wn rfl rfl) (aj wa (ae (vB false) wa rfl (ae (vB false) wz rfl (ae (vB true) wz rfl (ai ?_))))))))))))))))))
        obtain rfl:=ah h_16
        exact cu
     ·refine aD rfl hc_17 wz (aj wa (aj wa (ae (vB false) wz rfl (ae (vB false) wz rfl (ae (vI s_7) wa rfl (ae (vB (decide (s_7 > 0))) wa rfl ?_))))))
      rcases ak h_16 with⟨hc_24,h_16⟩ | ⟨hc_24,h_16⟩
      ·refine aD rfl hc_24 wa (ae (.d (.int .u8 (b_13.toNat:Int))) wa rfl (ae (vB (decide ((b_13.toNat:Int)≥48))) wa rfl ?_))
       rcases ak h_16 with⟨hc_25,h_16⟩ | ⟨hc_25,h_16⟩
       ·refine aD rfl hc_25 wa (ae (.d (.int .u8 (b_13.toNat:Int))) wa rfl (ae (vB (decide ((b_13.toNat:Int)≤57))) wa rfl (ae (vB (decide ((b_13.toNat:Int)≤57))) wa rfl ?_)))
        rcases ak h_16 with⟨hc_26,h_16⟩ | ⟨hc_26,h_16⟩
        ·refine aD rfl hc_26 wa (aj wa (aj wa (ae (vB true) wa rfl (ae (vB true) wa rfl (aj wa (aj wa (ae (vB true) wa rfl (ae (vB true) wa rfl (ae (vB true) wz rfl (ae (vB false) wz rfl (ai ?_)))))))))))
         obtain rfl:=ah h_16
         exact cu
        ·refine aD rfl hc_26 wa (ae (.d (.int .u8 (b_13.toNat:Int))) wa rfl (ae (vB ((b_13.toNat:Int) == 45)) wa rfl (ae (vB ((b_13.toNat:Int) == 45)) wa rfl ?_)))
         rcases ak h_16 with⟨hc_27,h_16⟩ | ⟨hc_27,h_16⟩
         ·refine aD rfl hc_27 wa (aj wa (aj wa (ae (vB true) wa rfl (ae (vB true) wa rfl (ae (vB true) wz rfl (ae (vB false) wz rfl (ai ?_)))))))
          obtain rfl:=ah h_16
          exact cu
         ·refine aD rfl hc_27 wa (ae (.d (.int .u8 (b_13.toNat:Int))) wa rfl (ae (vB ((b_13.toNat:Int) == 95)) wa rfl (ae (vB ((b_13.toNat:Int) == 95)) wa rfl (ae (vB ((b_13.toNat:Int) == 95)) wa rfl (ae (vB ((b_13.toNat:Int) == 95)) wz rfl (ae (vB (!((b_13.toNat:Int) == 95))) wz rfl (ai ?_)))))))
          obtain rfl:=ah h_16
          exact cu
       ·refine aD rfl hc_25 wa (aj wa (aj wa (ae (vB false) wa rfl (ae (vB false) wa rfl (ae (.d (.int .u8 (b_13.toNat:Int))) wa rfl (ae (vB ((b_13.toNat:Int) == 45)) wa rfl (ae (vB ((b_13.toNat:Int) == 45)) wa rfl ?_)))))))
        rcases ak h_16 with⟨hc_28,h_16⟩ | ⟨hc_28,h_16⟩
        ·refine aD rfl hc_28 wa (aj wa (aj wa (ae (vB true) wa rfl (ae (vB true) wa rfl (ae (vB true) wz rfl (ae (vB false) wz rfl (ai ?_)))))))
         obtain rfl:=ah h_16
         exact cu
        ·refine aD rfl hc_28 wa (ae (.d (.int .u8 (b_13.toNat:Int))) wa rfl (ae (vB ((b_13.toNat:Int) == 95)) wa rfl (ae (vB ((b_13.toNat:Int) == 95)) wa rfl (ae (vB ((b_13.toNat:Int) == 95)) wa rfl (ae (vB ((b_13.toNat:Int) == 95)) wz rfl (ae (vB (!((b_13.toNat:Int) == 95))) wz rfl (ai ?_)))))))
         obtain rfl:=ah h_16
         exact cu
      ·refine aD rfl hc_24 wa (aj wa (aj wa (aj wa (aj (wn rfl rfl) (aj (wn rfl rfl) (aj wa (aj wa (aj (wn rfl rfl) (aj (wn rfl rfl) (aj wa (aj wa (aj (wn rfl rfl) (aj (wn rfl rfl) (aj wa (ae (vB false) wa rfl (ae (vB false) wz rfl (ae (vB true) wz rfl (ai ?_))))))))))))))))))
       obtain rfl:=ah h_16
       exact cu
    ·rintro ⟨⟩ _ sl_ H_ hp_ hq_
     refine aK _ hp_ hq_ ?_
     rcases ak hc_8 with⟨hc_29,hc_8⟩ | ⟨hc_29,hc_8⟩
     ·refine aB rfl hc_29 (af (aa (ae (vB false) wz rfl (ai ?_))))
      obtain rfl:=ah hc_8
      obtain rfl:=ah hL_9
      obtain rfl:=ah hF
      exact ay (aM (.inr rfl) [(vB false)] ⟨rfl,trivial⟩ rfl rfl rfl)
     ·refine aA rfl hc_29 (av (aa (ae (vI s_7) wz rfl (ae (vI (w64 (s_7 + 1))) wz rfl (ae (vI (w64 (s_7 + 1))) wz rfl (ai ?_))))))
      obtain rfl:=ah hc_8
      exact aR (k_2,(w64 (s_7 + 1))) hL_9 (Nat.lt_succ_self _) rfl (aH rfl)
   ·refine aA rfl hc_12 (aS ?_)
    obtain rfl:=ah hc_8
    obtain rfl:=ah hL_9
    exact aP (s_7) rfl rfl (aH rfl)
 ·rintro s_7 ho_ sl_ H_ hp_ hq_
  subst ho_
  refine aK _ hp_ hq_ (af ?_)
  obtain ⟨v_30,h_31,hF⟩:=bind_some hF
  refine aG (β:=Unit) (fun _=>([(2,(vB v_30))]:List (Nat×V))) (fun _=>([]:Hp)) (fun _=>True) ?_ ?_
  ·refine aa (ae (vS s_1) wz rfl (ae (vB (sNe s_1 (⟨#[]⟩:ByteArray))) wz rfl ?_))
   rcases ak h_31 with⟨hc_32,h_31⟩ | ⟨hc_32,h_31⟩
   ·refine aD rfl hc_32 wz (ae (vS s_1) wa rfl (lu un9 rfl wa (ae (vB (decide ((s_1.size:Int)≤40))) wa rfl (ae (vB (decide ((s_1.size:Int)≤40))) wz rfl (ae (vB (decide ((s_1.size:Int)≤40))) wz rfl (ai ?_))))))
    obtain rfl:=ah h_31
    exact cu
   ·refine aD rfl hc_32 wz (aj wa (aj wa (aj wa (ae (vB false) wz rfl (ae (vB false) wz rfl (ai ?_))))))
    obtain rfl:=ah h_31
    exact cu
  ·rintro ⟨⟩ _ sl_ H_ hp_ hq_
   refine aK _ hp_ hq_ ?_
   obtain rfl:=ah hF
   exact ay (aM (.inr rfl) [(vB v_30)] ⟨rfl,trivial⟩ rfl rfl rfl)
theorem bf {n_1:Int} {low_2:Int} {high_3:Int} {r:Bool} (hF:aO n_1 low_2 high_3=some r) :
  FnM Tryz.prog 84 [(vI n_1),(vI low_2),(vI high_3)] [] (vB r) []:=by
 refine FnM.of_wH ⟨Tryz.prog,15,[],[]⟩ rfl Tryz.func84 rfl rfl (Nat.le_of_ble_eq_true rfl) (by kernel_rfl) ?_
 unfold aO at hF
 refine af (aa (ae (vB false) wz rfl (ai (af ?_))))
 obtain ⟨v_4,h_5,hF⟩:=bind_some hF
 refine aG (β:=Unit) (fun _=>([(6,(vB v_4))]:List (Nat×V))) (fun _=>([]:Hp)) (fun _=>True) ?_ ?_
 ·refine aa (ae (vI n_1) wz rfl (ae (vI low_2) wz rfl (ae (vB (decide (n_1 < low_2))) wz rfl ?_)))
  rcases ak h_5 with⟨hc_6,h_5⟩ | ⟨hc_6,h_5⟩
  ·refine aD rfl hc_6 wz (aj wa (aj wa (aj wa (ae (vB true) wz rfl (ae (vB true) wz rfl (ai ?_))))))
   obtain rfl:=ah h_5
   exact cu
  ·refine aD rfl hc_6 wz (ae (vI n_1) wa rfl (ae (vI high_3) wa rfl (ae (vB (decide (n_1 > high_3))) wa rfl (ae (vB (decide (n_1 > high_3))) wz rfl (ae (vB (decide (n_1 > high_3))) wz rfl (ai ?_))))))
   obtain rfl:=ah h_5
   exact cu
 ·rintro ⟨⟩ _ sl_ H_ hp_ hq_
  refine aK _ hp_ hq_ ?_
  obtain rfl:=ah hF
  exact ay (aM (.inr rfl) [(vB v_4)] ⟨rfl,trivial⟩ rfl rfl rfl)
theorem Am {n_1:Int} {r:Bool} (hF:jC n_1=some r) :
  FnM Tryz.prog 150 [(vI n_1)] [] (vB r) []:=by
 refine FnM.of_wH ⟨Tryz.prog,6,[],[]⟩ rfl Tryz.func150 rfl rfl (Nat.le_of_ble_eq_true rfl) (by kernel_rfl) ?_
 unfold jC at hF
 refine af (aa (ae (vB false) wz rfl (ai (af (aa (ae (vI n_1) wz rfl ?_))))))
 obtain ⟨r_2,hr_3,hF⟩:=bind_some hF
 refine aC (bf hr_3) rfl pJ rfl rfl rfl rfl wz (ae (vB (!r_2)) wz rfl (ae (vB (!r_2)) wz rfl (ai ?_)))
 obtain rfl:=ah hF
 exact ay (aM (.inr rfl) [(vB (!r_2))] ⟨rfl,trivial⟩ rfl rfl rfl)
theorem lw {l_1:(List Int)} {r:Int} (hF:dY l_1=some r) :
  FnM Tryz.prog 74 [(vL eI l_1)] [] (vI r) []:=by
 refine FnM.of_wH ⟨Tryz.prog,15,[],[]⟩ rfl Tryz.func74 rfl rfl (Nat.le_of_ble_eq_true rfl) (by kernel_rfl) ?_
 unfold dY at hF
 refine af (aa (ae (vI 0) wz rfl (ai (af (af (aa (ae (vL eI l_1) wz rfl (bP vE rfl wz (ae (vI 0) wz rfl (ai ?_))))))))))
 obtain ⟨o_10,hj_11,hF⟩:=bind_some hF
 obtain ⟨hn_6,hj_11⟩:=aQ hj_11
 refine aG (β:=(Unit)) (fun (s_7:Unit)=>([]:List (Nat×V))) (fun (s_7:Unit)=>([]:Hp)) (fun p=>o_10 = .go p) ?_ ?_
 ·refine aF (aW (β:=Nat×(List Int)×(Unit)) (fun p=>(fun (k_2:Nat) (l_3:List Int) (s_7:Unit)=>([(5,(vL eI l_1)),(6,(vI (l_1.length:Int))),(7,(vI (k_2:Int)))]:List (Nat×V))) p.1 p.2.1 p.2.2) (fun p=>(fun (k_2:Nat) (l_3:List Int) (s_7:Unit)=>([]:Hp)) p.1 p.2.1 p.2.2) (fun p=>forR (fun k x s=>gN k x s) p.2.1 p.1 p.2.2=some o_10∧(l_1).drop p.1=p.2.1) (fun p=>p.2.1.length) (0,l_1,()) ⟨hj_11,rfl⟩ rfl (aH rfl) ?_)
  rintro ⟨k_2,l_3,s_7⟩ ⟨hL_9,hD_5⟩
  dsimp only at hL_9 hD_5
  cases l_3 with
  | nil =>
   obtain rfl:=ah hL_9
   refine af (aa (ae (vB (decide ((k_2:Int) < (l_1.length:Int)))) wz rfl (ai ?_)))
   refine af (aA rfl (drop_nil hD_5) (aS ?_))
   exact aP (s_7) rfl rfl (aH rfl)
  | cons x_4 l_3 =>
   obtain ⟨c_,hc_8,hL_9⟩:=bind_some hL_9
   refine af (aa (ae (vB (decide ((k_2:Int) < (l_1.length:Int)))) wz rfl (ai ?_)))
   refine af (aB rfl (aX hD_5) (av ?_))
   unfold gN at hc_8
   refine af (aF (af (aa (dL oo rfl rfl (bC hD_5) rfl wz (bJ sz3 ag3 rfl (vI x_4) rfl wz (ae (vI x_4) wz rfl (ai (af (aa (ae (vI x_4) wz rfl ?_))))))))))
   obtain ⟨r_12,hr_13,hc_8⟩:=bind_some hc_8
   refine aC (Am hr_13) rfl hb150 rfl rfl rfl rfl wz (ae (vB (!r_12)) wz rfl (ai ?_))
   rcases ak hc_8 with⟨hc_14,hc_8⟩ | ⟨hc_14,hc_8⟩
   ·refine aB rfl hc_14 (af (aa (ae (vI 1) wz rfl (ai ?_))))
    obtain rfl:=ah hc_8
    obtain rfl:=ah hL_9
    obtain rfl:=ah hF
    exact ay (aM (.inr rfl) [(vI 1)] ⟨rfl,trivial⟩ rfl rfl rfl)
   ·refine aA rfl hc_14 (av (aa (dQ (bu hD_5 hn_6) wz rfl (ae (vI ((k_2 + 1:Nat):Int)) wz rfl (ai ?_)))))
    obtain rfl:=ah hc_8
    exact aR (k_2 + 1,l_3,()) ⟨hL_9,aN hD_5⟩ (Nat.lt_succ_self _) rfl (aH rfl)
 ·rintro s_7 ho_ sl_ H_ hp_ hq_
  subst ho_
  refine aK _ hp_ hq_ (af (aa (ae (vI 0) wz rfl (ai ?_))))
  obtain rfl:=ah hF
  exact ay (aM (.inr rfl) [(vI 0)] ⟨rfl,trivial⟩ rfl rfl rfl)
theorem fT {r_1:Rect} {r:Int} (hF:dW r_1=some r) :
  FnM Tryz.prog 73 [(.d (.agg (Rect.enc r_1)))] [] (vI r) []:=by
 refine FnM.of_wH ⟨Tryz.prog,25,[],[]⟩ rfl Tryz.func73 rfl rfl (Nat.le_of_ble_eq_true rfl) (by kernel_rfl) ?_
 unfold dW at hF
 refine af (aa (dJ 0 (.inl rfl) [(vI r_1.X),(vI r_1.Y),(vI r_1.W),(vI r_1.H)] rfl rfl wz (fun n_2=>ae (vI 0) wz rfl (ai (af (af ?_))))))
 obtain ⟨v_3,h_4,hF⟩:=bind_some hF
 refine aG (β:=Unit) (fun _=>([(1,(.ref n_2 0 0)),(10,(vB v_3))]:List (Nat×V))) (fun _=>([(n_2,some (.cells 4 [(vI r_1.X),(vI r_1.Y),(vI r_1.W),(vI r_1.H)]))]:Hp)) (fun _=>True) ?_ ?_
 ·refine aa (ax gQ rfl 0 rfl wz (au 0 0 il ft sz3 ag3 rfl rfl (vI r_1.X) rfl wz ?_))
  obtain ⟨r_5,hr_6,h_4⟩:=bind_some h_4
  refine aC (bf hr_6) rfl pJ rfl rfl rfl rfl wz ?_
  rcases ak h_4 with⟨hc_7,h_4⟩ | ⟨hc_7,h_4⟩
  ·refine aD rfl hc_7 wz (aj wa (aj wa (aj wa (ae (vB true) wz rfl (ai ?_)))))
   obtain rfl:=ah h_4
   exact cu
  ·refine aD rfl hc_7 wz (ax fV rfl 1 rfl wa (au 0 0 il ft sz3 ag3 rfl rfl (vI r_1.Y) rfl wa ?_))
   obtain ⟨r_8,hr_9,h_4⟩:=bind_some h_4
   refine aC (bf hr_9) rfl pJ rfl rfl rfl rfl wa (ae (vB r_8) wz rfl (ai ?_))
   obtain rfl:=ah h_4
   exact cu
 ·rintro ⟨⟩ _ sl_ H_ hp_ hq_
  refine aK _ hp_ hq_ ?_
  rcases ak hF with⟨hc_10,hF⟩ | ⟨hc_10,hF⟩
  ·refine aB rfl hc_10 (af (aa (ae (vI 1) wz rfl (ai ?_))))
   obtain rfl:=ah hF
   exact ay (aM (.inr rfl) [(vI 1)] ⟨rfl,trivial⟩ rfl rfl rfl)
  ·refine aA rfl hc_10 (av (af (af ?_)))
   obtain ⟨v_11,h_12,hF⟩:=bind_some hF
   refine aG (β:=Unit) (fun _=>([(24,(vB v_11))]:List (Nat×V))) (fun _=>([(n_2,some (.cells 4 [(vI r_1.X),(vI r_1.Y),(vI r_1.W),(vI r_1.H)]))]:Hp)) (fun _=>True) ?_ ?_
   ·refine aa (ax ku rfl 2 rfl wz (au 0 0 il ft sz3 ag3 rfl rfl (vI r_1.W) rfl wz (ax gQ rfl 0 rfl wz (au 0 0 il ft sz3 ag3 rfl rfl (vI r_1.X) rfl wz (ae (vI (w64 (100000 - r_1.X))) wz rfl ?_)))))
    obtain ⟨r_13,hr_14,h_12⟩:=bind_some h_12
    refine aC (bf hr_14) rfl pJ rfl rfl rfl rfl wz ?_
    rcases ak h_12 with⟨hc_15,h_12⟩ | ⟨hc_15,h_12⟩
    ·refine aD rfl hc_15 wz (aj wa (aj wa (aj wa (aj wa (aj wa (aj wa (ae (vB true) wz rfl (ai ?_))))))))
     obtain rfl:=ah h_12
     exact cu
    ·refine aD rfl hc_15 wz (ax kw rfl 3 rfl wa (au 0 0 il ft sz3 ag3 rfl rfl (vI r_1.H) rfl wa (ax fV rfl 1 rfl wa (au 0 0 il ft sz3 ag3 rfl rfl (vI r_1.Y) rfl wa (ae (vI (w64 (100000 - r_1.Y))) wa rfl ?_)))))
     obtain ⟨r_16,hr_17,h_12⟩:=bind_some h_12
     refine aC (bf hr_17) rfl pJ rfl rfl rfl rfl wa (ae (vB r_16) wz rfl (ai ?_))
     obtain rfl:=ah h_12
     exact cu
   ·rintro ⟨⟩ _ sl_ H_ hp_ hq_
    refine aK _ hp_ hq_ ?_
    rcases ak hF with⟨hc_18,hF⟩ | ⟨hc_18,hF⟩
    ·refine aB rfl hc_18 (af (aa (ae (vI 1) wz rfl (ai ?_))))
     obtain rfl:=ah hF
     exact ay (aM (.inr rfl) [(vI 1)] ⟨rfl,trivial⟩ rfl rfl rfl)
    ·refine aA rfl hc_18 (av (af (aa (ae (vI 0) wz rfl (ai ?_)))))
     obtain rfl:=ah hF
     exact ay (aM (.inr rfl) [(vI 0)] ⟨rfl,trivial⟩ rfl rfl rfl)
theorem oJ {r_1:Rect} {wv_2:Int} {h_3:Int} {r:Bool} (hF:gK r_1 wv_2 h_3=some r) :
  FnM Tryz.prog 75 [(.d (.agg (Rect.enc r_1))),(vI wv_2),(vI h_3)] [] (vB r) []:=by
 refine FnM.of_wH ⟨Tryz.prog,33,[],[]⟩ rfl Tryz.func75 rfl rfl (Nat.le_of_ble_eq_true rfl) (by kernel_rfl) ?_
 unfold gK at hF
 refine af (aa (dJ 0 (.inl rfl) [(vI r_1.X),(vI r_1.Y),(vI r_1.W),(vI r_1.H)] rfl rfl wz (fun n_4=>ae (vB false) wz rfl (ai (af ?_)))))
 obtain ⟨v_5,h_6,hF⟩:=bind_some hF
 refine aG (β:=Unit) (fun _=>([(6,(vB v_5))]:List (Nat×V))) (fun _=>([(n_4,some (.cells 4 [(vI r_1.X),(vI r_1.Y),(vI r_1.W),(vI r_1.H)]))]:Hp)) (fun _=>True) ?_ ?_
 ·refine aa (ax gQ rfl 0 rfl wz (au 0 0 il ft sz3 ag3 rfl rfl (vI r_1.X) rfl wz (ae (vB (decide (r_1.X≥0))) wz rfl ?_)))
  rcases ak h_6 with⟨hc_7,h_6⟩ | ⟨hc_7,h_6⟩
  ·refine aD rfl hc_7 wz (ax fV rfl 1 rfl wa (au 0 0 il ft sz3 ag3 rfl rfl (vI r_1.Y) rfl wa (ae (vB (decide (r_1.Y≥0))) wa rfl (ae (vB (decide (r_1.Y≥0))) wz rfl ?_))))
   rcases ak h_6 with⟨hc_8,h_6⟩ | ⟨hc_8,h_6⟩
   ·refine aD rfl hc_8 wz (ax gQ rfl 0 rfl wa (au 0 0 il ft sz3 ag3 rfl rfl (vI r_1.X) rfl wa (ax ku rfl 2 rfl wa (au 0 0 il ft sz3 ag3 rfl rfl (vI r_1.W) rfl wa (ae (vI (w64 (r_1.X + r_1.W))) wa rfl (ae (vI wv_2) wa rfl (ae (vB (decide ((w64 (r_1.X + r_1.W))≤wv_2))) wa rfl (ae (vB (decide ((w64 (r_1.X + r_1.W))≤wv_2))) wz rfl ?_))))))))
    rcases ak h_6 with⟨hc_9,h_6⟩ | ⟨hc_9,h_6⟩
    ·refine aD rfl hc_9 wz (ax fV rfl 1 rfl wa (au 0 0 il ft sz3 ag3 rfl rfl (vI r_1.Y) rfl wa (ax kw rfl 3 rfl wa (au 0 0 il ft sz3 ag3 rfl rfl (vI r_1.H) rfl wa (ae (vI (w64 (r_1.Y + r_1.H))) wa rfl (ae (vI h_3) wa rfl (ae (vB (decide ((w64 (r_1.Y + r_1.H))≤h_3))) wa rfl (ae (vB (decide ((w64 (r_1.Y + r_1.H))≤h_3))) wz rfl (ae (vB (decide ((w64 (r_1.Y + r_1.H))≤h_3))) wz rfl (ai ?_))))))))))
     obtain rfl:=ah h_6
     exact cu
    ·refine aD rfl hc_9 wz (aj wa (aj wa (aj wa (aj wa (aj wa (aj wa (aj wa (ae (vB false) wz rfl (ae (vB false) wz rfl (ai ?_))))))))))
     obtain rfl:=ah h_6
     exact cu
   ·refine aD rfl hc_8 wz (aj wa (aj wa (aj wa (aj wa (aj wa (aj wa (aj wa (ae (vB false) wz rfl (ae (vB false) wz rfl (aj wa (aj wa (aj wa (aj wa (aj wa (aj wa (aj wa (ae (vB false) wz rfl (ae (vB false) wz rfl (ai ?_)))))))))))))))))))
    obtain rfl:=ah h_6
    exact cu
  ·refine aD rfl hc_7 wz (aj wa (aj wa (aj wa (ae (vB false) wz rfl (ae (vB false) wz rfl (aj wa (aj wa (aj wa (aj wa (aj wa (aj wa (aj wa (ae (vB false) wz rfl (ae (vB false) wz rfl (aj wa (aj wa (aj wa (aj wa (aj wa (aj wa (aj wa (ae (vB false) wz rfl (ae (vB false) wz rfl ?_)))))))))))))))))))))))
   refine ai ?_
   obtain rfl:=ah h_6
   exact cu
 ·rintro ⟨⟩ _ sl_ H_ hp_ hq_
  refine aK _ hp_ hq_ ?_
  obtain rfl:=ah hF
  exact ay (aM (.inr rfl) [(vB v_5)] ⟨rfl,trivial⟩ rfl rfl rfl)
theorem ru {a_1:Rect} {b_2:Rect} {r:Rect×Bool} (hF:jf a_1 b_2=some r) :
  FnM Tryz.prog 66 [(.d (.agg (Rect.enc a_1))),(.d (.agg (Rect.enc b_2)))] [] (.tup [(.d (.agg (Rect.enc r.1))),(vB r.2)]) []:=by
 refine FnM.of_wH ⟨Tryz.prog,58,[],[]⟩ rfl Tryz.func66 rfl rfl (Nat.le_of_ble_eq_true rfl) (by kernel_rfl) ?_
 unfold jf at hF
 refine af (aa (dJ 0 (.inl rfl) [(vI a_1.X),(vI a_1.Y),(vI a_1.W),(vI a_1.H)] rfl rfl wz (fun n_3=>dJ 0 (.inl rfl) [(vI b_2.X),(vI b_2.Y),(vI b_2.W),(vI b_2.H)] rfl rfl wz (fun n_4=>aY 0 (.inl rfl) z45 rfl wz (fun n_5=>ae (vB false) wz rfl (ai (af (bB (ax gQ rfl 0 rfl wz (au 1 0 (.inr (by kernel_rfl)) (fun _ _ ag=>trivial) sz3 ag3 rfl rfl (vI a_1.X) rfl wz (ax gQ rfl 0 rfl wz (au 3 1 (.inr (by kernel_rfl)) (fun _ _ ag=>⟨.inl ⟨rfl,rfl⟩,trivial⟩) sz3 ag3 rfl rfl (vI b_2.X) rfl wz (jy (vI (bS a_1.X b_2.X)) rfl (.inr rfl) wz (ax fV rfl 1 rfl wz (au 6 0 (.inr (by kernel_rfl)) (fun _ _ ag=>⟨.inl ⟨rfl,rfl⟩,⟨.inl ⟨rfl,rfl⟩,trivial⟩⟩) sz3 ag3 rfl rfl (vI a_1.Y) rfl wz (ax fV rfl 1 rfl wz (au 8 1 (.inr (by kernel_rfl)) (fun _ _ ag=>⟨.inl ⟨rfl,rfl⟩,⟨.inl ⟨rfl,rfl⟩,⟨.inl ⟨rfl,rfl⟩,trivial⟩⟩⟩) sz3 ag3 rfl rfl (vI b_2.Y) rfl wz (jy (vI (bS a_1.Y b_2.Y)) rfl (.inr rfl) wz (ae (vI (bS a_1.X b_2.X)) wz rfl (ae (vI (bS a_1.Y b_2.Y)) wz rfl (ai (af (bB ?_)))))))))))))))))))))))
 refine ax gQ rfl 0 rfl wz (au 1 0 (.inr (by kernel_rfl)) (fun _ _ ag=>trivial) sz3 ag3 rfl rfl (vI a_1.X) rfl wz (ax ku rfl 2 rfl wz (au 3 0 (.inr (by kernel_rfl)) (fun _ _ ag=>⟨.inl ⟨rfl,rfl⟩,trivial⟩) sz3 ag3 rfl rfl (vI a_1.W) rfl wz (ae (vI (w64 (a_1.X + a_1.W))) wz rfl (ax gQ rfl 0 rfl wz (au 6 1 (.inr (by kernel_rfl)) (fun _ _ ag=>⟨.inl ⟨rfl,rfl⟩,⟨.inl ⟨rfl,rfl⟩,trivial⟩⟩) sz3 ag3 rfl rfl (vI b_2.X) rfl wz (ax ku rfl 2 rfl wz (au 8 1 (.inr (by kernel_rfl)) (fun _ _ ag=>⟨.inl ⟨rfl,rfl⟩,⟨.inl ⟨rfl,rfl⟩,⟨.inl ⟨rfl,rfl⟩,trivial⟩⟩⟩) sz3 ag3 rfl rfl (vI b_2.W) rfl wz (ae (vI (w64 (b_2.X + b_2.W))) wz rfl (jy (vI (eZ (w64 (a_1.X + a_1.W)) (w64 (b_2.X + b_2.W)))) rfl (.inl rfl) wz (ae (vI (bS a_1.X b_2.X)) wz rfl (ae (vI (w64 ((eZ (w64 (a_1.X + a_1.W)) (w64 (b_2.X + b_2.W))) - (bS a_1.X b_2.X)))) wz rfl (ax fV rfl 1 rfl wz (au 14 0 (.inr (by kernel_rfl)) (fun _ _ ag=>⟨.inl ⟨rfl,rfl⟩,⟨.inl ⟨rfl,rfl⟩,⟨.inl ⟨rfl,rfl⟩,⟨.inl ⟨rfl,rfl⟩,trivial⟩⟩⟩⟩) sz3 ag3 rfl rfl (vI a_1.Y) rfl wz (ax kw rfl 3 rfl wz (au 16 0 (.inr (by kernel_rfl)) (fun _ _ ag=>⟨.inl ⟨rfl,rfl⟩,⟨.inl ⟨rfl,rfl⟩,⟨.inl ⟨rfl,rfl⟩,⟨.inl ⟨rfl,rfl⟩,⟨.inl ⟨rfl,rfl⟩,trivial⟩⟩⟩⟩⟩) sz3 ag3 rfl rfl (vI a_1.H) rfl wz (ae (vI (w64 (a_1.Y + a_1.H))) wz rfl (ax fV rfl 1 rfl wz (au 19 1 (.inr (by kernel_rfl)) (fun _ _ ag=>⟨.inl ⟨rfl,rfl⟩,⟨.inl ⟨rfl,rfl⟩,⟨.inl ⟨rfl,rfl⟩,⟨.inl ⟨rfl,rfl⟩,⟨.inl ⟨rfl,rfl⟩,⟨.inl ⟨rfl,rfl⟩,trivial⟩⟩⟩⟩⟩⟩) sz3 ag3 rfl rfl (vI b_2.Y) rfl wz (ax kw rfl 3 rfl wz (au 21 1 (.inr (by kernel_rfl)) (fun _ _ ag=>⟨.inl ⟨rfl,rfl⟩,⟨.inl ⟨rfl,rfl⟩,⟨.inl ⟨rfl,rfl⟩,⟨.inl ⟨rfl,rfl⟩,⟨.inl ⟨rfl,rfl⟩,⟨.inl ⟨rfl,rfl⟩,⟨.inl ⟨rfl,rfl⟩,trivial⟩⟩⟩⟩⟩⟩⟩) sz3 ag3 rfl rfl (vI b_2.H) rfl wz (ae (vI (w64 (b_2.Y + b_2.H))) wz rfl (jy (vI (eZ (w64 (a_1.Y + a_1.H)) (w64 (b_2.Y + b_2.H)))) rfl (.inl rfl) wz ?_)))))))))))))))))))))))
 refine ae (vI (bS a_1.Y b_2.Y)) wz rfl (ae (vI (w64 ((eZ (w64 (a_1.Y + a_1.H)) (w64 (b_2.Y + b_2.H))) - (bS a_1.Y b_2.Y)))) wz rfl (ae (vI (w64 ((eZ (w64 (a_1.X + a_1.W)) (w64 (b_2.X + b_2.W))) - (bS a_1.X b_2.X)))) wz rfl (ae (vI (w64 ((eZ (w64 (a_1.Y + a_1.H)) (w64 (b_2.Y + b_2.H))) - (bS a_1.Y b_2.Y)))) wz rfl (ai (aK (H0:=([(n_3,some (.cells 4 [(vI a_1.X),(vI a_1.Y),(vI a_1.W),(vI a_1.H)])),(n_4,some (.cells 4 [(vI b_2.X),(vI b_2.Y),(vI b_2.W),(vI b_2.H)])),(n_5,some (.cells 4 [(vI 0),(vI 0),(vI 0),(vI 0)]))]:Hp)) ([(4,(.ref n_5 0 0)),(6,(vI (bS a_1.X b_2.X))),(7,(vI (bS a_1.Y b_2.Y))),(8,(vI (w64 ((eZ (w64 (a_1.X + a_1.W)) (w64 (b_2.X + b_2.W))) - (bS a_1.X b_2.X))))),(9,(vI (w64 ((eZ (w64 (a_1.Y + a_1.H)) (w64 (b_2.Y + b_2.H))) - (bS a_1.Y b_2.Y)))))]:List (Nat×V)) (by kernel_rfl) (mM (by kernel_rfl)) (af (af ?_)))))))
 obtain ⟨v_6,h_7,hF⟩:=bind_some hF
 refine aG (β:=Unit) (fun _=>([(4,(.ref n_5 0 0)),(6,(vI (bS a_1.X b_2.X))),(7,(vI (bS a_1.Y b_2.Y))),(8,(vI (w64 ((eZ (w64 (a_1.X + a_1.W)) (w64 (b_2.X + b_2.W))) - (bS a_1.X b_2.X))))),(9,(vI (w64 ((eZ (w64 (a_1.Y + a_1.H)) (w64 (b_2.Y + b_2.H))) - (bS a_1.Y b_2.Y))))),(51,(vB v_6))]:List (Nat×V))) (fun _=>([(n_3,some (.cells 4 [(vI a_1.X),(vI a_1.Y),(vI a_1.W),(vI a_1.H)])),(n_4,some (.cells 4 [(vI b_2.X),(vI b_2.Y),(vI b_2.W),(vI b_2.H)])),(n_5,some (.cells 4 [(vI 0),(vI 0),(vI 0),(vI 0)]))]:Hp)) (fun _=>True) ?_ ?_
 ·refine aa (ae (vI (w64 ((eZ (w64 (a_1.X + a_1.W)) (w64 (b_2.X + b_2.W))) - (bS a_1.X b_2.X)))) wz rfl (ae (vB (decide ((w64 ((eZ (w64 (a_1.X + a_1.W)) (w64 (b_2.X + b_2.W))) - (bS a_1.X b_2.X)))≤0))) wz rfl ?_))
  rcases ak h_7 with⟨hc_8,h_7⟩ | ⟨hc_8,h_7⟩
  ·refine aD rfl hc_8 wz (aj wa (aj wa (ae (vB true) wz rfl (ai ?_))))
   obtain rfl:=ah h_7
   exact cu
  ·refine aD rfl hc_8 wz (ae (vI (w64 ((eZ (w64 (a_1.Y + a_1.H)) (w64 (b_2.Y + b_2.H))) - (bS a_1.Y b_2.Y)))) wa rfl (ae (vB (decide ((w64 ((eZ (w64 (a_1.Y + a_1.H)) (w64 (b_2.Y + b_2.H))) - (bS a_1.Y b_2.Y)))≤0))) wa rfl (ae (vB (decide ((w64 ((eZ (w64 (a_1.Y + a_1.H)) (w64 (b_2.Y + b_2.H))) - (bS a_1.Y b_2.Y)))≤0))) wz rfl (ai ?_))))
   obtain rfl:=ah h_7
   exact cu
 ·rintro ⟨⟩ _ sl_ H_ hp_ hq_
  refine aK _ hp_ hq_ ?_
  rcases ak hF with⟨hc_9,hF⟩ | ⟨hc_9,hF⟩
  ·refine aB rfl hc_9 (af (aa (ae (.d (.agg (Rect.enc (⟨0,0,0,0⟩:Rect)))) wz (by kernel_rfl) (bL 0 il ft 2 dx rfl rfl [(vI 0),(vI 0),(vI 0),(vI 0)] rfl wz (ae (vB false) wz rfl (ai ?_))))))
   obtain rfl:=ah hF
   exact ay (aM (.inr rfl) [(.d (.agg (Rect.enc (⟨0,0,0,0⟩:Rect)))),(vB false)] ⟨⟨2,_,_,_,_,_,_,_,rfl,rfl,dx,gm,rfl⟩,⟨rfl,trivial⟩⟩ rfl rfl rfl)
  ·refine aA rfl hc_9 (av (af (aa (ae (vI (bS a_1.X b_2.X)) wz rfl (ae (vI (bS a_1.Y b_2.Y)) wz rfl (ae (vI (w64 ((eZ (w64 (a_1.X + a_1.W)) (w64 (b_2.X + b_2.W))) - (bS a_1.X b_2.X)))) wz rfl (ae (vI (w64 ((eZ (w64 (a_1.Y + a_1.H)) (w64 (b_2.Y + b_2.H))) - (bS a_1.Y b_2.Y)))) wz rfl (ae (.d (.agg (Rect.enc (⟨(bS a_1.X b_2.X),(bS a_1.Y b_2.Y),(w64 ((eZ (w64 (a_1.X + a_1.W)) (w64 (b_2.X + b_2.W))) - (bS a_1.X b_2.X))),(w64 ((eZ (w64 (a_1.Y + a_1.H)) (w64 (b_2.Y + b_2.H))) - (bS a_1.Y b_2.Y)))⟩:Rect)))) wz (by kernel_rfl) (bL 0 il ft 2 dx rfl rfl [(vI (bS a_1.X b_2.X)),(vI (bS a_1.Y b_2.Y)),(vI (w64 ((eZ (w64 (a_1.X + a_1.W)) (w64 (b_2.X + b_2.W))) - (bS a_1.X b_2.X)))),(vI (w64 ((eZ (w64 (a_1.Y + a_1.H)) (w64 (b_2.Y + b_2.H))) - (bS a_1.Y b_2.Y))))] rfl wz (ae (vB true) wz rfl (ai ?_)))))))))))
   obtain rfl:=ah hF
   exact ay (aM (.inr rfl) [(.d (.agg (Rect.enc (⟨(bS a_1.X b_2.X),(bS a_1.Y b_2.Y),(w64 ((eZ (w64 (a_1.X + a_1.W)) (w64 (b_2.X + b_2.W))) - (bS a_1.X b_2.X))),(w64 ((eZ (w64 (a_1.Y + a_1.H)) (w64 (b_2.Y + b_2.H))) - (bS a_1.Y b_2.Y)))⟩:Rect)))),(vB true)] ⟨⟨2,_,_,_,_,_,_,_,rfl,rfl,dx,gm,rfl⟩,⟨rfl,trivial⟩⟩ rfl rfl rfl)
theorem xc {wv_1:Wall} {r:Int} (hF:dI wv_1=some r) :
  FnM Tryz.prog 144 [(.d (.agg (Wall.enc wv_1)))] [] (vI r) []:=by
 refine FnM.of_wH ⟨Tryz.prog,99,[],[]⟩ rfl Tryz.func144 rfl rfl (Nat.le_of_ble_eq_true rfl) (by kernel_rfl) ?_
 unfold dI at hF
 refine af (aa (dJ 0 (.inl rfl) [(vS wv_1.Key),(vI wv_1.W),(vI wv_1.H),(vL Screen.enc wv_1.Screens)] rfl rfl wz (fun n_2=>ae (vI 0) wz rfl (ai (af (af (aa (ax Na rfl 0 rfl wz (au 0 0 il ft sz9 ag9 rfl rfl (vS wv_1.Key) rfl wz ?_)))))))))
 obtain ⟨r_3,hr_4,hF⟩:=bind_some hF
 refine aC (dN hr_4) rfl qM rfl rfl rfl rfl wz (ae (vB (!r_3)) wz rfl (ai ?_))
 rcases ak hF with⟨hc_5,hF⟩ | ⟨hc_5,hF⟩
 ·refine aB rfl hc_5 (af (aa (ae (vI 5) wz rfl (ai ?_))))
  obtain rfl:=ah hF
  exact ay (aM (.inr rfl) [(vI 5)] ⟨rfl,trivial⟩ rfl rfl rfl)
 ·refine aA rfl hc_5 (av (af (af (aa (ax wo rfl 1 rfl wz (au 0 0 il ft sz3 ag3 rfl rfl (vI wv_1.W) rfl wz (ax wC rfl 2 rfl wz (au 0 0 il ft sz3 ag3 rfl rfl (vI wv_1.H) rfl wz (fH (([wv_1.W,wv_1.H]:List Int).map eI) oo Ce rfl rfl rfl rfl rfl wz ?_)))))))))
  obtain ⟨r_6,hr_7,hF⟩:=bind_some hF
  refine aC (lw hr_7) rfl hb74 rfl rfl rfl rfl wz (ae (vI r_6) wz rfl (ai (af (aa (ae (vI r_6) wz rfl (ae (vB (r_6 != 0)) wz rfl (ai ?_)))))))
  rcases ak hF with⟨hc_8,hF⟩ | ⟨hc_8,hF⟩
  ·refine aB rfl hc_8 (af (aa (ae (vI r_6) wz rfl (ae (vI r_6) wz rfl (ai ?_)))))
   obtain rfl:=ah hF
   exact ay (aM (.inr rfl) [(vI r_6)] ⟨rfl,trivial⟩ rfl rfl rfl)
  ·refine aA rfl hc_8 (av (af (af (aa (ax ol rfl 3 rfl wz (au 0 0 il ft zJ Bu rfl rfl (vL Screen.enc wv_1.Screens) rfl wz (bP Ah rfl wz (ae (vB (decide ((wv_1.Screens.length:Int) > 50))) wz rfl (ai ?_)))))))))
   rcases ak hF with⟨hc_9,hF⟩ | ⟨hc_9,hF⟩
   ·refine aB rfl hc_9 (af (aa (ae (vI 2) wz rfl (ai ?_))))
    obtain rfl:=ah hF
    exact ay (aM (.inr rfl) [(vI 2)] ⟨rfl,trivial⟩ rfl rfl rfl)
   ·refine aA rfl hc_9 (av (af (af (aa (ax ol rfl 3 rfl wz (au 0 0 il ft zJ Bu rfl rfl (vL Screen.enc wv_1.Screens) rfl wz (bP Ah rfl wz (ae (vI 0) wz rfl (ai ?_)))))))))
    obtain ⟨o_18,hj_19,hF⟩:=bind_some hF
    obtain ⟨hn_14,hj_19⟩:=aQ hj_19
    refine aG (β:=(Unit)) (fun (s_15:Unit)=>([(1,(.ref n_2 0 0))]:List (Nat×V))) (fun (s_15:Unit)=>([(n_2,some (.cells 4 [(vS wv_1.Key),(vI wv_1.W),(vI wv_1.H),(vL Screen.enc wv_1.Screens)]))]:Hp)) (fun p=>o_18 = .go p) ?_ ?_
    ·refine aF (aW (β:=Nat×(List Screen)×(Unit)) (fun p=>(fun (k_10:Nat) (l_11:List Screen) (s_15:Unit)=>([(1,(.ref n_2 0 0)),(31,(vL Screen.enc wv_1.Screens)),(32,(vI (wv_1.Screens.length:Int))),(33,(vI (k_10:Int)))]:List (Nat×V))) p.1 p.2.1 p.2.2) (fun p=>(fun (k_10:Nat) (l_11:List Screen) (s_15:Unit)=>([(n_2,some (.cells 4 [(vS wv_1.Key),(vI wv_1.W),(vI wv_1.H),(vL Screen.enc wv_1.Screens)]))]:Hp)) p.1 p.2.1 p.2.2) (fun p=>forR (fun k x s=>iC wv_1 k x s) p.2.1 p.1 p.2.2=some o_18∧(wv_1.Screens).drop p.1=p.2.1) (fun p=>p.2.1.length) (0,wv_1.Screens,()) ⟨hj_19,rfl⟩ rfl (aH rfl) ?_)
     rintro ⟨k_10,l_11,s_15⟩ ⟨hL_17,hD_13⟩
     dsimp only at hL_17 hD_13
     cases l_11 with
     | nil =>
      obtain rfl:=ah hL_17
      refine af (aa (ae (vB (decide ((k_10:Int) < (wv_1.Screens.length:Int)))) wz rfl (ai ?_)))
      refine af (aA rfl (drop_nil hD_13) (aS ?_))
      exact aP (s_15) rfl rfl (aH rfl)
     | cons x_12 l_11 =>
      obtain ⟨c_,hc_16,hL_17⟩:=bind_some hL_17
      refine af (aa (ae (vB (decide ((k_10:Int) < (wv_1.Screens.length:Int)))) wz rfl (ai ?_)))
      refine af (aB rfl (aX hD_13) (av ?_))
      unfold iC at hc_16
      refine af (aF (af (aa (ae (vI (k_10:Int)) wz rfl (dL DF rfl rfl (bC hD_13) rfl wz (bJ lX zi rfl (.d (.agg (Screen.enc x_12))) rfl wz (aY 0 (.inl rfl) z127 rfl wz (fun n_20=>ae (vI (k_10:Int)) wz rfl (bL 0 il ft 1 lX rfl rfl [(vS x_12.Key),(vI x_12.On.X),(vI x_12.On.Y),(vI x_12.On.W),(vI x_12.On.H)] rfl wz (ai (af (af (aa (ax uK rfl 0 rfl wz (au 0 1 il ft sz9 ag9 rfl rfl (vS x_12.Key) rfl wz ?_)))))))))))))))
      obtain ⟨r_21,hr_22,hc_16⟩:=bind_some hc_16
      refine aC (dN hr_22) rfl qM rfl rfl rfl rfl wz (ae (vB (!r_21)) wz rfl (ai ?_))
      rcases ak hc_16 with⟨hc_23,hc_16⟩ | ⟨hc_23,hc_16⟩
      ·refine aB rfl hc_23 (af (aa (ae (vI 5) wz rfl (ai ?_))))
       obtain rfl:=ah hc_16
       obtain rfl:=ah hL_17
       obtain rfl:=ah hF
       exact ay (aM (.inr rfl) [(vI 5)] ⟨rfl,trivial⟩ rfl rfl rfl)
      ·refine aA rfl hc_23 (av (af (af (aa (ax kg rfl 1 rfl wz (au 0 1 il ft dx gm rfl rfl (.d (.agg (Rect.enc x_12.On))) rfl wz ?_))))))
       obtain ⟨r_24,hr_25,hc_16⟩:=bind_some hc_16
       refine aC (fT hr_25) rfl LM rfl rfl rfl rfl wz (ae (vI r_24) wz rfl (ai (af (aa (ae (vI r_24) wz rfl (ae (vB (r_24 != 0)) wz rfl (ai ?_)))))))
       rcases ak hc_16 with⟨hc_26,hc_16⟩ | ⟨hc_26,hc_16⟩
       ·refine aB rfl hc_26 (af (aa (ae (vI r_24) wz rfl (ae (vI r_24) wz rfl (ai ?_)))))
        obtain rfl:=ah hc_16
        obtain rfl:=ah hL_17
        obtain rfl:=ah hF
        exact ay (aM (.inr rfl) [(vI r_24)] ⟨rfl,trivial⟩ rfl rfl rfl)
       ·refine aA rfl hc_26 (av (af (af (aa (ax kg rfl 1 rfl wz (au 0 1 il ft dx gm rfl rfl (.d (.agg (Rect.enc x_12.On))) rfl wz (ax wo rfl 1 rfl wz (au 0 0 il ft sz3 ag3 rfl rfl (vI wv_1.W) rfl wz (ax wC rfl 2 rfl wz (au 0 0 il ft sz3 ag3 rfl rfl (vI wv_1.H) rfl wz ?_))))))))))
        obtain ⟨r_27,hr_28,hc_16⟩:=bind_some hc_16
        refine aC (oJ hr_28) rfl hb75 rfl rfl rfl rfl wz (ae (vB (!r_27)) wz rfl (ai ?_))
        rcases ak hc_16 with⟨hc_29,hc_16⟩ | ⟨hc_29,hc_16⟩
        ·refine aB rfl hc_29 (af (aa (ae (vI 3) wz rfl (ai ?_))))
         obtain rfl:=ah hc_16
         obtain rfl:=ah hL_17
         obtain rfl:=ah hF
         exact ay (aM (.inr rfl) [(vI 3)] ⟨rfl,trivial⟩ rfl rfl rfl)
        ·refine aA rfl hc_29 (av (af ?_))
         obtain ⟨v_30,h_31,hc_16⟩:=bind_some hc_16
         refine aG (β:=Unit) (fun _=>([(1,(.ref n_2 0 0)),(31,(vL Screen.enc wv_1.Screens)),(32,(vI (wv_1.Screens.length:Int))),(33,(vI (k_10:Int))),(69,(vB v_30))]:List (Nat×V))) (fun _=>([(n_2,some (.cells 4 [(vS wv_1.Key),(vI wv_1.W),(vI wv_1.H),(vL Screen.enc wv_1.Screens)])),(n_20,some (.cells 5 [(vS x_12.Key),(vI x_12.On.X),(vI x_12.On.Y),(vI x_12.On.W),(vI x_12.On.H)]))]:Hp)) (fun _=>True) ?_ ?_
         ·refine bB (ae (vI (k_10:Int)) wz rfl (ae (vB (decide ((k_10:Int) > 0))) wz rfl ?_))
          rcases ak h_31 with⟨hc_32,h_31⟩ | ⟨hc_32,h_31⟩
          ·refine aD rfl hc_32 wz (ax uK rfl 0 rfl wa (au 4 1 (.inr (by kernel_rfl)) (fun _ _ ag=>trivial) sz9 ag9 rfl rfl (vS x_12.Key) rfl wa (ax ol rfl 3 rfl wa (au 6 0 (.inr (by kernel_rfl)) (fun _ _ ag=>⟨.inl ⟨rfl,rfl⟩,trivial⟩) zJ Bu rfl rfl (vL Screen.enc wv_1.Screens) rfl wa (ae (vI (k_10:Int)) wa rfl (ae (vI (w64 ((k_10:Int) - 1))) wa rfl ?_))))))
           obtain ⟨y_33,hy_34,h_31⟩:=bind_some h_31
           refine dL DF rfl rfl hy_34 rfl wa (lW uK rfl [.str y_33.Key,.int .i64 y_33.On.X,.int .i64 y_33.On.Y,.int .i64 y_33.On.W,.int .i64 y_33.On.H] rfl rfl wa (bJ sz9 ag9 rfl (vS y_33.Key) rfl wa (ae (vB (sLe x_12.Key y_33.Key)) wa rfl (ae (vB (sLe x_12.Key y_33.Key)) wz rfl (ai ?_)))))
           obtain rfl:=ah h_31
           exact cu
          ·refine aD rfl hc_32 wz (aj wa (aj wa (aj wa (aj wa (aj wa (aj wa (aj wa (aj wa (aj wa (aj wa (ae (vB false) wz rfl (ai ?_))))))))))))
           obtain rfl:=ah h_31
           exact cu
         ·rintro ⟨⟩ _ sl_ H_ hp_ hq_
          refine aK _ hp_ hq_ ?_
          rcases ak hc_16 with⟨hc_35,hc_16⟩ | ⟨hc_35,hc_16⟩
          ·refine aB rfl hc_35 (af (aa (ae (vI 7) wz rfl (ai ?_))))
           obtain rfl:=ah hc_16
           obtain rfl:=ah hL_17
           obtain rfl:=ah hF
           exact ay (aM (.inr rfl) [(vI 7)] ⟨rfl,trivial⟩ rfl rfl rfl)
          ·refine aA rfl hc_35 (av (aa (dQ (bu hD_13 hn_14) wz rfl (ae (vI ((k_10 + 1:Nat):Int)) wz rfl (ai ?_)))))
           obtain rfl:=ah hc_16
           exact aR (k_10 + 1,l_11,()) ⟨hL_17,aN hD_13⟩ (Nat.lt_succ_self _) rfl (aH rfl)
    ·rintro s_15 ho_ sl_ H_ hp_ hq_
     subst ho_
     refine aK _ hp_ hq_ (af (af (aa (ax ol rfl 3 rfl wz (au 0 0 il ft zJ Bu rfl rfl (vL Screen.enc wv_1.Screens) rfl wz (bP Ah rfl wz (ae (vI 0) wz rfl (ai ?_))))))))
     obtain ⟨o_44,hj_45,hF⟩:=bind_some hF
     obtain ⟨hn_40,hj_45⟩:=aQ hj_45
     refine aG (β:=(Unit)) (fun (s_41:Unit)=>([]:List (Nat×V))) (fun (s_41:Unit)=>([(n_2,some (.cells 4 [(vS wv_1.Key),(vI wv_1.W),(vI wv_1.H),(vL Screen.enc wv_1.Screens)]))]:Hp)) (fun p=>o_44 = .go p) ?_ ?_
     ·refine aF (aW (β:=Nat×(List Screen)×(Unit)) (fun p=>(fun (k_36:Nat) (l_37:List Screen) (s_41:Unit)=>([(1,(.ref n_2 0 0)),(72,(vL Screen.enc wv_1.Screens)),(73,(vI (wv_1.Screens.length:Int))),(74,(vI (k_36:Int)))]:List (Nat×V))) p.1 p.2.1 p.2.2) (fun p=>(fun (k_36:Nat) (l_37:List Screen) (s_41:Unit)=>([(n_2,some (.cells 4 [(vS wv_1.Key),(vI wv_1.W),(vI wv_1.H),(vL Screen.enc wv_1.Screens)]))]:Hp)) p.1 p.2.1 p.2.2) (fun p=>forR (fun k x s=>bH wv_1 k x s) p.2.1 p.1 p.2.2=some o_44∧(wv_1.Screens).drop p.1=p.2.1) (fun p=>p.2.1.length) (0,wv_1.Screens,()) ⟨hj_45,rfl⟩ rfl (aH rfl) ?_)
      rintro ⟨k_36,l_37,s_41⟩ ⟨hL_43,hD_39⟩
      dsimp only at hL_43 hD_39
      cases l_37 with
      | nil =>
       obtain rfl:=ah hL_43
       refine af (aa (ae (vB (decide ((k_36:Int) < (wv_1.Screens.length:Int)))) wz rfl (ai ?_)))
       refine af (aA rfl (drop_nil hD_39) (aS ?_))
       exact aP (s_41) rfl rfl (aH rfl)
      | cons x_38 l_37 =>
       obtain ⟨c_,hc_42,hL_43⟩:=bind_some hL_43
       refine af (aa (ae (vB (decide ((k_36:Int) < (wv_1.Screens.length:Int)))) wz rfl (ai ?_)))
       refine af (aB rfl (aX hD_39) (av ?_))
       unfold bH at hc_42
       refine af (aF (af (aa (ae (vI (k_36:Int)) wz rfl (dL DF rfl rfl (bC hD_39) rfl wz (bJ lX zi rfl (.d (.agg (Screen.enc x_38))) rfl wz (aY 0 (.inl rfl) z127 rfl wz (fun n_46=>ae (vI (k_36:Int)) wz rfl (bL 0 il ft 1 lX rfl rfl [(vS x_38.Key),(vI x_38.On.X),(vI x_38.On.Y),(vI x_38.On.W),(vI x_38.On.H)] rfl wz (ai (af (aa (ax ol rfl 3 rfl wz (au 0 0 il ft zJ Bu rfl rfl (vL Screen.enc wv_1.Screens) rfl wz (ae (vI (k_36:Int)) wz rfl ?_)))))))))))))))
       obtain ⟨y_47,hy_48,hc_42⟩:=bind_some hc_42
       refine pM Ah lX (fun _=>rfl) rfl rfl hy_48 wz (bP Ah rfl wz (ae (vI 0) wz rfl (ai ?_)))
       obtain ⟨o_57,hj_58,hc_42⟩:=bind_some hc_42
       obtain ⟨hn_53,hj_58⟩:=aQ hj_58
       refine aG (β:=(Unit)) (fun (s_54:Unit)=>([(1,(.ref n_2 0 0)),(72,(vL Screen.enc wv_1.Screens)),(73,(vI (wv_1.Screens.length:Int))),(74,(vI (k_36:Int)))]:List (Nat×V))) (fun (s_54:Unit)=>([(n_2,some (.cells 4 [(vS wv_1.Key),(vI wv_1.W),(vI wv_1.H),(vL Screen.enc wv_1.Screens)])),(n_46,some (.cells 5 [(vS x_38.Key),(vI x_38.On.X),(vI x_38.On.Y),(vI x_38.On.W),(vI x_38.On.H)]))]:Hp)) (fun p=>o_57 = .go p) ?_ ?_
       ·refine aF (aW (β:=Nat×(List Screen)×(Unit)) (fun p=>(fun (k_49:Nat) (l_50:List Screen) (s_54:Unit)=>([(1,(.ref n_2 0 0)),(8,(.ref n_46 0 0)),(72,(vL Screen.enc wv_1.Screens)),(73,(vI (wv_1.Screens.length:Int))),(74,(vI (k_36:Int))),(82,(vL Screen.enc y_47)),(83,(vI (y_47.length:Int))),(84,(vI (k_49:Int)))]:List (Nat×V))) p.1 p.2.1 p.2.2) (fun p=>(fun (k_49:Nat) (l_50:List Screen) (s_54:Unit)=>([(n_2,some (.cells 4 [(vS wv_1.Key),(vI wv_1.W),(vI wv_1.H),(vL Screen.enc wv_1.Screens)])),(n_46,some (.cells 5 [(vS x_38.Key),(vI x_38.On.X),(vI x_38.On.Y),(vI x_38.On.W),(vI x_38.On.H)]))]:Hp)) p.1 p.2.1 p.2.2) (fun p=>forR (fun k x s=>cB x_38 k x s) p.2.1 p.1 p.2.2=some o_57∧(y_47).drop p.1=p.2.1) (fun p=>p.2.1.length) (0,y_47,()) ⟨hj_58,rfl⟩ rfl (aH rfl) ?_)
        rintro ⟨k_49,l_50,s_54⟩ ⟨hL_56,hD_52⟩
        dsimp only at hL_56 hD_52
        cases l_50 with
        | nil =>
         obtain rfl:=ah hL_56
         refine af (aa (ae (vB (decide ((k_49:Int) < (y_47.length:Int)))) wz rfl (ai ?_)))
         refine af (aA rfl (drop_nil hD_52) (aS ?_))
         exact aP (s_54) rfl rfl (aH rfl)
        | cons x_51 l_50 =>
         obtain ⟨c_,hc_55,hL_56⟩:=bind_some hL_56
         refine af (aa (ae (vB (decide ((k_49:Int) < (y_47.length:Int)))) wz rfl (ai ?_)))
         refine af (aB rfl (aX hD_52) (av ?_))
         unfold cB at hc_55
         refine af (aF (af (aa (dL DF rfl rfl (bC hD_52) rfl wz (bJ lX zi rfl (.d (.agg (Screen.enc x_51))) rfl wz (aY 0 (.inl rfl) z127 rfl wz (fun n_59=>bL 0 il ft 2 lX rfl rfl [(vS x_51.Key),(vI x_51.On.X),(vI x_51.On.Y),(vI x_51.On.W),(vI x_51.On.H)] rfl wz (ai (af (aa (ax kg rfl 1 rfl wz (au 0 1 il ft dx gm rfl rfl (.d (.agg (Rect.enc x_38.On))) rfl wz (ax kg rfl 1 rfl wz (au 0 2 il ft dx gm rfl rfl (.d (.agg (Rect.enc x_51.On))) rfl wz ?_))))))))))))))
         obtain ⟨r_60,hr_61,hc_55⟩:=bind_some hc_55
         refine aC (ru hr_61) rfl hb66 rfl rfl rfl rfl wz (ae (.tup [(.d (.agg (Rect.enc r_60.1))),(vB r_60.2)]) wz rfl (ae (.d (.agg (Rect.enc r_60.1))) wz rfl (ae (vB r_60.2) wz rfl (aY 0 (.inl rfl) z45 rfl wz (fun n_62=>bL 0 il ft 3 dx rfl rfl [(vI r_60.1.X),(vI r_60.1.Y),(vI r_60.1.W),(vI r_60.1.H)] rfl wz (ae (vB r_60.2) wz rfl (ai (af (aa (ae (vB r_60.2) wz rfl (ai ?_)))))))))))
         rcases ak hc_55 with⟨hc_63,hc_55⟩ | ⟨hc_63,hc_55⟩
         ·refine aB rfl hc_63 (af (aa (ae (vI 13) wz rfl (ai ?_))))
          obtain rfl:=ah hc_55
          obtain rfl:=ah hL_56
          obtain rfl:=ah hc_42
          obtain rfl:=ah hL_43
          obtain rfl:=ah hF
          exact ay (aM (.inr rfl) [(vI 13)] ⟨rfl,trivial⟩ rfl rfl rfl)
         ·refine aA rfl hc_63 (av (aa (dQ (bu hD_52 hn_53) wz rfl (ae (vI ((k_49 + 1:Nat):Int)) wz rfl (ai ?_)))))
          obtain rfl:=ah hc_55
          exact aR (k_49 + 1,l_50,()) ⟨hL_56,aN hD_52⟩ (Nat.lt_succ_self _) rfl (aH rfl)
       ·rintro s_54 ho_ sl_ H_ hp_ hq_
        subst ho_
        refine aK _ hp_ hq_ (aa (dQ (bu hD_39 hn_40) wz rfl (ae (vI ((k_36 + 1:Nat):Int)) wz rfl (ai ?_))))
        obtain rfl:=ah hc_42
        exact aR (k_36 + 1,l_37,()) ⟨hL_43,aN hD_39⟩ (Nat.lt_succ_self _) rfl (aH rfl)
     ·rintro s_41 ho_ sl_ H_ hp_ hq_
      subst ho_
      refine aK _ hp_ hq_ (af (aa (ae (vI 0) wz rfl (ai ?_))))
      obtain rfl:=ah hF
      exact ay (aM (.inr rfl) [(vI 0)] ⟨rfl,trivial⟩ rfl rfl rfl)
theorem nW {l_1:Layout} {r:Int} (hF:eB l_1=some r) :
  FnM Tryz.prog 71 [(.d (.agg (Layout.enc l_1)))] [] (vI r) []:=by
 refine FnM.of_wH ⟨Tryz.prog,68,[],[]⟩ rfl Tryz.func71 rfl rfl (Nat.le_of_ble_eq_true rfl) (by kernel_rfl) ?_
 unfold eB at hF
 refine af (aa (dJ 0 (.inl rfl) [(vS l_1.Key),(vI l_1.W),(vI l_1.H),(vL Zone.enc l_1.Zones)] rfl rfl wz (fun n_2=>ae (vI 0) wz rfl (ai (af (af (aa (ax pl32_0 rfl 0 rfl wz (au 0 0 il ft sz9 ag9 rfl rfl (vS l_1.Key) rfl wz ?_)))))))))
 obtain ⟨r_3,hr_4,hF⟩:=bind_some hF
 refine aC (dN hr_4) rfl qM rfl rfl rfl rfl wz (ae (vB (!r_3)) wz rfl (ai ?_))
 rcases ak hF with⟨hc_5,hF⟩ | ⟨hc_5,hF⟩
 ·refine aB rfl hc_5 (af (aa (ae (vI 5) wz rfl (ai ?_))))
  obtain rfl:=ah hF
  exact ay (aM (.inr rfl) [(vI 5)] ⟨rfl,trivial⟩ rfl rfl rfl)
 ·refine aA rfl hc_5 (av (af (af (aa (ax zU rfl 1 rfl wz (au 0 0 il ft sz3 ag3 rfl rfl (vI l_1.W) rfl wz (ax Av rfl 2 rfl wz (au 0 0 il ft sz3 ag3 rfl rfl (vI l_1.H) rfl wz (fH (([l_1.W,l_1.H]:List Int).map eI) oo Ce rfl rfl rfl rfl rfl wz ?_)))))))))
  obtain ⟨r_6,hr_7,hF⟩:=bind_some hF
  refine aC (lw hr_7) rfl hb74 rfl rfl rfl rfl wz (ae (vI r_6) wz rfl (ai (af (aa (ae (vI r_6) wz rfl (ae (vB (r_6 != 0)) wz rfl (ai ?_)))))))
  rcases ak hF with⟨hc_8,hF⟩ | ⟨hc_8,hF⟩
  ·refine aB rfl hc_8 (af (aa (ae (vI r_6) wz rfl (ae (vI r_6) wz rfl (ai ?_)))))
   obtain rfl:=ah hF
   exact ay (aM (.inr rfl) [(vI r_6)] ⟨rfl,trivial⟩ rfl rfl rfl)
  ·refine aA rfl hc_8 (av (af (af (aa (ax tY rfl 3 rfl wz (au 0 0 il ft G9 Ie rfl rfl (vL Zone.enc l_1.Zones) rfl wz (bP un30 rfl wz (ae (vB (decide ((l_1.Zones.length:Int) > 30))) wz rfl (ai ?_)))))))))
   rcases ak hF with⟨hc_9,hF⟩ | ⟨hc_9,hF⟩
   ·refine aB rfl hc_9 (af (aa (ae (vI 2) wz rfl (ai ?_))))
    obtain rfl:=ah hF
    exact ay (aM (.inr rfl) [(vI 2)] ⟨rfl,trivial⟩ rfl rfl rfl)
   ·refine aA rfl hc_9 (av (af (af (aa (ax tY rfl 3 rfl wz (au 0 0 il ft G9 Ie rfl rfl (vL Zone.enc l_1.Zones) rfl wz (bP un30 rfl wz (ae (vI 0) wz rfl (ai ?_)))))))))
    obtain ⟨o_18,hj_19,hF⟩:=bind_some hF
    obtain ⟨hn_14,hj_19⟩:=aQ hj_19
    refine aG (β:=(Unit)) (fun (s_15:Unit)=>([]:List (Nat×V))) (fun (s_15:Unit)=>([(n_2,some (.cells 4 [(vS l_1.Key),(vI l_1.W),(vI l_1.H),(vL Zone.enc l_1.Zones)]))]:Hp)) (fun p=>o_18 = .go p) ?_ ?_
    ·refine aF (aW (β:=Nat×(List Zone)×(Unit)) (fun p=>(fun (k_10:Nat) (l_11:List Zone) (s_15:Unit)=>([(1,(.ref n_2 0 0)),(25,(vL Zone.enc l_1.Zones)),(26,(vI (l_1.Zones.length:Int))),(27,(vI (k_10:Int)))]:List (Nat×V))) p.1 p.2.1 p.2.2) (fun p=>(fun (k_10:Nat) (l_11:List Zone) (s_15:Unit)=>([(n_2,some (.cells 4 [(vS l_1.Key),(vI l_1.W),(vI l_1.H),(vL Zone.enc l_1.Zones)]))]:Hp)) p.1 p.2.1 p.2.2) (fun p=>forR (fun k x s=>gp l_1 k x s) p.2.1 p.1 p.2.2=some o_18∧(l_1.Zones).drop p.1=p.2.1) (fun p=>p.2.1.length) (0,l_1.Zones,()) ⟨hj_19,rfl⟩ rfl (aH rfl) ?_)
     rintro ⟨k_10,l_11,s_15⟩ ⟨hL_17,hD_13⟩
     dsimp only at hL_17 hD_13
     cases l_11 with
     | nil =>
      obtain rfl:=ah hL_17
      refine af (aa (ae (vB (decide ((k_10:Int) < (l_1.Zones.length:Int)))) wz rfl (ai ?_)))
      refine af (aA rfl (drop_nil hD_13) (aS ?_))
      exact aP (s_15) rfl rfl (aH rfl)
     | cons x_12 l_11 =>
      obtain ⟨c_,hc_16,hL_17⟩:=bind_some hL_17
      refine af (aa (ae (vB (decide ((k_10:Int) < (l_1.Zones.length:Int)))) wz rfl (ai ?_)))
      refine af (aB rfl (aX hD_13) (av ?_))
      unfold gp at hc_16
      refine af (aF (af (aa (ae (vI (k_10:Int)) wz rfl (dL Ep rfl rfl (bC hD_13) rfl wz (bJ yH K4 rfl (.d (.agg (Zone.enc x_12))) rfl wz (aY 0 (.inl rfl) z131 rfl wz (fun n_20=>ae (vI (k_10:Int)) wz rfl (bL 0 il ft 1 yH rfl rfl [(vS x_12.Key),(vI x_12.On.X),(vI x_12.On.Y),(vI x_12.On.W),(vI x_12.On.H),(vI x_12.Order)] rfl wz (ai (af (af (aa (ax BU rfl 0 rfl wz (au 0 1 il ft sz9 ag9 rfl rfl (vS x_12.Key) rfl wz ?_)))))))))))))))
      obtain ⟨r_21,hr_22,hc_16⟩:=bind_some hc_16
      refine aC (dN hr_22) rfl qM rfl rfl rfl rfl wz (ae (vB (!r_21)) wz rfl (ai ?_))
      rcases ak hc_16 with⟨hc_23,hc_16⟩ | ⟨hc_23,hc_16⟩
      ·refine aB rfl hc_23 (af (aa (ae (vI 5) wz rfl (ai ?_))))
       obtain rfl:=ah hc_16
       obtain rfl:=ah hL_17
       obtain rfl:=ah hF
       exact ay (aM (.inr rfl) [(vI 5)] ⟨rfl,trivial⟩ rfl rfl rfl)
      ·refine aA rfl hc_23 (av (af (af (aa (ax rR rfl 1 rfl wz (au 0 1 il ft dx gm rfl rfl (.d (.agg (Rect.enc x_12.On))) rfl wz ?_))))))
       obtain ⟨r_24,hr_25,hc_16⟩:=bind_some hc_16
       refine aC (fT hr_25) rfl LM rfl rfl rfl rfl wz (ae (vI r_24) wz rfl (ai (af (aa (ae (vI r_24) wz rfl (ae (vB (r_24 != 0)) wz rfl (ai ?_)))))))
       rcases ak hc_16 with⟨hc_26,hc_16⟩ | ⟨hc_26,hc_16⟩
       ·refine aB rfl hc_26 (af (aa (ae (vI r_24) wz rfl (ae (vI r_24) wz rfl (ai ?_)))))
        obtain rfl:=ah hc_16
        obtain rfl:=ah hL_17
        obtain rfl:=ah hF
        exact ay (aM (.inr rfl) [(vI r_24)] ⟨rfl,trivial⟩ rfl rfl rfl)
       ·refine aA rfl hc_26 (av (af (af (aa (ax rR rfl 1 rfl wz (au 0 1 il ft dx gm rfl rfl (.d (.agg (Rect.enc x_12.On))) rfl wz (ax zU rfl 1 rfl wz (au 0 0 il ft sz3 ag3 rfl rfl (vI l_1.W) rfl wz (ax Av rfl 2 rfl wz (au 0 0 il ft sz3 ag3 rfl rfl (vI l_1.H) rfl wz ?_))))))))))
        obtain ⟨r_27,hr_28,hc_16⟩:=bind_some hc_16
        refine aC (oJ hr_28) rfl hb75 rfl rfl rfl rfl wz (ae (vB (!r_27)) wz rfl (ai ?_))
        rcases ak hc_16 with⟨hc_29,hc_16⟩ | ⟨hc_29,hc_16⟩
        ·refine aB rfl hc_29 (af (aa (ae (vI 3) wz rfl (ai ?_))))
         obtain rfl:=ah hc_16
         obtain rfl:=ah hL_17
         obtain rfl:=ah hF
         exact ay (aM (.inr rfl) [(vI 3)] ⟨rfl,trivial⟩ rfl rfl rfl)
        ·refine aA rfl hc_29 (av (af (af (aa (ax zB rfl 5 rfl wz (au 0 1 il ft sz3 ag3 rfl rfl (vI x_12.Order) rfl wz ?_))))))
         obtain ⟨r_30,hr_31,hc_16⟩:=bind_some hc_16
         refine aC (bf hr_31) rfl pJ rfl rfl rfl rfl wz (ai ?_)
         rcases ak hc_16 with⟨hc_32,hc_16⟩ | ⟨hc_32,hc_16⟩
         ·refine aB rfl hc_32 (af (aa (ae (vI 1) wz rfl (ai ?_))))
          obtain rfl:=ah hc_16
          obtain rfl:=ah hL_17
          obtain rfl:=ah hF
          exact ay (aM (.inr rfl) [(vI 1)] ⟨rfl,trivial⟩ rfl rfl rfl)
         ·refine aA rfl hc_32 (av (af ?_))
          obtain ⟨v_33,h_34,hc_16⟩:=bind_some hc_16
          refine aG (β:=Unit) (fun _=>([(1,(.ref n_2 0 0)),(25,(vL Zone.enc l_1.Zones)),(26,(vI (l_1.Zones.length:Int))),(27,(vI (k_10:Int))),(66,(vB v_33))]:List (Nat×V))) (fun _=>([(n_2,some (.cells 4 [(vS l_1.Key),(vI l_1.W),(vI l_1.H),(vL Zone.enc l_1.Zones)])),(n_20,some (.cells 6 [(vS x_12.Key),(vI x_12.On.X),(vI x_12.On.Y),(vI x_12.On.W),(vI x_12.On.H),(vI x_12.Order)]))]:Hp)) (fun _=>True) ?_ ?_
          ·refine bB (ae (vI (k_10:Int)) wz rfl (ae (vB (decide ((k_10:Int) > 0))) wz rfl ?_))
           rcases ak h_34 with⟨hc_35,h_34⟩ | ⟨hc_35,h_34⟩
           ·refine aD rfl hc_35 wz (ax BU rfl 0 rfl wa (au 4 1 (.inr (by kernel_rfl)) (fun _ _ ag=>trivial) sz9 ag9 rfl rfl (vS x_12.Key) rfl wa (ax tY rfl 3 rfl wa (au 6 0 (.inr (by kernel_rfl)) (fun _ _ ag=>⟨.inl ⟨rfl,rfl⟩,trivial⟩) G9 Ie rfl rfl (vL Zone.enc l_1.Zones) rfl wa (ae (vI (k_10:Int)) wa rfl (ae (vI (w64 ((k_10:Int) - 1))) wa rfl ?_))))))
            obtain ⟨y_36,hy_37,h_34⟩:=bind_some h_34
            refine dL Ep rfl rfl hy_37 rfl wa (lW BU rfl [.str y_36.Key,.int .i64 y_36.On.X,.int .i64 y_36.On.Y,.int .i64 y_36.On.W,.int .i64 y_36.On.H,.int .i64 y_36.Order] rfl rfl wa (bJ sz9 ag9 rfl (vS y_36.Key) rfl wa (ae (vB (sLe x_12.Key y_36.Key)) wa rfl (ae (vB (sLe x_12.Key y_36.Key)) wz rfl (ai ?_)))))
            obtain rfl:=ah h_34
            exact cu
           ·refine aD rfl hc_35 wz (aj wa (aj wa (aj wa (aj wa (aj wa (aj wa (aj wa (aj wa (aj wa (aj wa (ae (vB false) wz rfl (ai ?_))))))))))))
            obtain rfl:=ah h_34
            exact cu
          ·rintro ⟨⟩ _ sl_ H_ hp_ hq_
           refine aK _ hp_ hq_ ?_
           rcases ak hc_16 with⟨hc_38,hc_16⟩ | ⟨hc_38,hc_16⟩
           ·refine aB rfl hc_38 (af (aa (ae (vI 7) wz rfl (ai ?_))))
            obtain rfl:=ah hc_16
            obtain rfl:=ah hL_17
            obtain rfl:=ah hF
            exact ay (aM (.inr rfl) [(vI 7)] ⟨rfl,trivial⟩ rfl rfl rfl)
           ·refine aA rfl hc_38 (av (aa (dQ (bu hD_13 hn_14) wz rfl (ae (vI ((k_10 + 1:Nat):Int)) wz rfl (ai ?_)))))
            obtain rfl:=ah hc_16
            exact aR (k_10 + 1,l_11,()) ⟨hL_17,aN hD_13⟩ (Nat.lt_succ_self _) rfl (aH rfl)
    ·rintro s_15 ho_ sl_ H_ hp_ hq_
     subst ho_
     refine aK _ hp_ hq_ (af (aa (ae (vI 0) wz rfl (ai ?_))))
     obtain rfl:=ah hF
     exact ay (aM (.inr rfl) [(vI 0)] ⟨rfl,trivial⟩ rfl rfl rfl)
theorem zT {l_1:(List Zone)} {i_2:Int} {k_3:Int} {r:Bool} (hF:mf l_1 i_2 k_3=some r) :
  FnM Tryz.prog 196 [(vL Zone.enc l_1),(vI i_2),(vI k_3)] [] (vB r) []:=by
 refine FnM.of_wH ⟨Tryz.prog,36,[],[]⟩ rfl Tryz.func196 rfl rfl (Nat.le_of_ble_eq_true rfl) (by kernel_rfl) ?_
 unfold mf at hF
 refine af (aa (ae (vB false) wz rfl (ai (af ?_))))
 obtain ⟨v_4,h_5,hF⟩:=bind_some hF
 refine aG (β:=Unit) (fun _=>([(6,(vB v_4))]:List (Nat×V))) (fun _=>([]:Hp)) (fun _=>True) ?_ ?_
 ·refine bB (ae (vL Zone.enc l_1) wz rfl (ae (vI i_2) wz rfl ?_))
  obtain ⟨y_6,hy_7,h_5⟩:=bind_some h_5
  refine dL Ep rfl rfl hy_7 rfl wz (lW zB rfl [.int .i64 y_6.Order] rfl rfl wz (bJ sz3 ag3 rfl (vI y_6.Order) rfl wz (ae (vL Zone.enc l_1) wz rfl (ae (vI k_3) wz rfl ?_))))
  obtain ⟨y_8,hy_9,h_5⟩:=bind_some h_5
  refine dL Ep rfl rfl hy_9 rfl wz (lW zB rfl [.int .i64 y_8.Order] rfl rfl wz (bJ sz3 ag3 rfl (vI y_8.Order) rfl wz (ae (vB (decide (y_6.Order > y_8.Order))) wz rfl ?_)))
  rcases ak h_5 with⟨hc_10,h_5⟩ | ⟨hc_10,h_5⟩
  ·refine aD rfl hc_10 wz (aj wa (aj wa (aj wa (aj wa (aj wa (aj wa (aj wa (aj wa (aj wa (aj wa (aj wa (aj wa (aj (wn rfl rfl) (aj (wn rfl rfl) (aj (wn rfl rfl) (aj wa (ae (vB true) wz rfl (ae (vB true) wz rfl (ai ?_)))))))))))))))))))
   obtain rfl:=ah h_5
   exact cu
  ·refine aD rfl hc_10 wz (ae (vL Zone.enc l_1) wa rfl (ae (vI i_2) wa rfl ?_))
   obtain ⟨y_11,hy_12,h_5⟩:=bind_some h_5
   refine dL Ep rfl rfl hy_12 rfl wa (lW zB rfl [.int .i64 y_11.Order] rfl rfl wa (bJ sz3 ag3 rfl (vI y_11.Order) rfl wa (ae (vL Zone.enc l_1) wa rfl (ae (vI k_3) wa rfl ?_))))
   obtain ⟨y_13,hy_14,h_5⟩:=bind_some h_5
   refine dL Ep rfl rfl hy_14 rfl wa (lW zB rfl [.int .i64 y_13.Order] rfl rfl wa (bJ sz3 ag3 rfl (vI y_13.Order) rfl wa (ae (vB (y_11.Order == y_13.Order)) wa rfl ?_)))
   rcases ak h_5 with⟨hc_15,h_5⟩ | ⟨hc_15,h_5⟩
   ·refine aD rfl hc_15 wa (ae (vI i_2) wa rfl (ae (vI k_3) wa rfl (ae (vB (decide (i_2 > k_3))) wa rfl (ae (vB (decide (i_2 > k_3))) wa rfl (ae (vB (decide (i_2 > k_3))) wz rfl (ae (vB (decide (i_2 > k_3))) wz rfl (ai ?_)))))))
    obtain rfl:=ah h_5
    exact cu
   ·refine aD rfl hc_15 wa (aj wa (aj wa (aj wa (ae (vB false) wa rfl (ae (vB false) wz rfl (ae (vB false) wz rfl (ai ?_)))))))
    obtain rfl:=ah h_5
    exact cu
 ·rintro ⟨⟩ _ sl_ H_ hp_ hq_
  refine aK _ hp_ hq_ ?_
  obtain rfl:=ah hF
  exact ay (aM (.inr rfl) [(vB v_4)] ⟨rfl,trivial⟩ rfl rfl rfl)
theorem mK {n_1:Int} {r:Bool} (hF:dC n_1=some r) :
  FnM Tryz.prog 193 [.nil,(vI n_1)] [] (kV r (aJ 0) 4 ([]:List Rect)) (kO r 4):=by
 refine FnM.of_wH ⟨Tryz.prog,27,[],[]⟩ rfl Tryz.func193 rfl rfl (Nat.le_of_ble_eq_true rfl) (by kernel_rfl) ?_
 unfold dC at hF
 refine af (aa (ae .nil wz rfl (ai (af (af (aa (ae (vI n_1) wz rfl (ae (vB (decide (n_1 < 0))) wz rfl (ai ?_)))))))))
 rcases ak hF with⟨hc_2,hF⟩ | ⟨hc_2,hF⟩
 ·refine aB rfl hc_2 (aa ?_)
  cases hF
 ·refine aA rfl hc_2 (av (af (af (aa (ae (vI n_1) wz rfl (ae .nil wz rfl (NT AA rfl wz (ae .nil wz rfl (M3 zw rfl wz (ae (vI (w64 (0 - 0))) wz rfl (ae (vI (w64 (n_1 - (w64 (0 - 0))))) wz rfl (ae (vI (w64 (n_1 - (w64 (0 - 0))))) wz rfl (ai (af (aa (ae (vI (w64 (n_1 - (w64 (0 - 0))))) wz rfl (ae (vB (decide ((w64 (n_1 - (w64 (0 - 0)))) > 0))) wz rfl (ai ?_))))))))))))))))))
  rcases ak hF with⟨hc_3,hF⟩ | ⟨hc_3,hF⟩
  ·refine aB rfl hc_3 (aa (ae .nil wz rfl (ae .nil wz rfl (NT AA rfl wz (ae .nil wz (by kernel_rfl) (ae (vI (w64 (n_1 - (w64 (0 - 0))))) wz rfl ?_))))))
   obtain ⟨_,hz_5,hF⟩:=bind_some hF
   refine h_appz (enc:=Rect.enc) 0 (.inl rfl) AA (by kernel_rfl) dx z45 rfl (by decide) Ll rfl rfl hz_5 wz (fun n_4=>ae .nil wz rfl (M3 zw rfl wz (h_cutm (m:=0) zw dx rfl rfl rfl (Nat.zero_le _) wz (ae (.vs n_4 4 0 0) wz rfl (ai (af (aa (ae (.vs n_4 4 0 0) wz rfl (ae (.vs n_4 4 0 0) wz rfl (ai ?_))))))))))
   obtain rfl:=ah hF
   exact ay (finK (.inr rfl) 0 rfl rfl)
  ·refine aA rfl hc_3 (av (af (aa (ae .nil wz rfl (ae .nil wz rfl (ai ?_))))))
   obtain rfl:=ah hF
   exact ay (finK0 (.inr rfl) rfl)
theorem mI {slices_1:(List (List Rect))} {r:(List Rect)} (hF:cK slices_1=some r) :
  FnM Tryz.prog 145 [(vL (eL Rect.enc) slices_1)] [] (vL Rect.enc r) []:=by
 refine FnM.of_wH ⟨Tryz.prog,36,[],[]⟩ rfl Tryz.func145 rfl rfl (Nat.le_of_ble_eq_true rfl) (by kernel_rfl) ?_
 unfold cK at hF
 refine af (aa (ae .nil wz rfl (ai (af (aa (ae (vI 0) wz rfl (ai (af (af (aa (ae (vL (eL Rect.enc) slices_1) wz rfl (bP un260 rfl wz (ae (vI 0) wz rfl (ai ?_))))))))))))))
 obtain ⟨o_10,hj_11,hF⟩:=bind_some hF
 obtain ⟨hn_6,hj_11⟩:=aQ hj_11
 refine aG (β:=(Int)) (fun (s_7:Int)=>([(0,(vL (eL Rect.enc) slices_1)),(3,(vI s_7))]:List (Nat×V))) (fun (s_7:Int)=>([]:Hp)) (fun p=>o_10 = .go p) ?_ ?_
 ·refine aF (aW (β:=Nat×(List (List Rect))×(Int)) (fun p=>(fun (k_2:Nat) (l_3:List (List Rect)) (s_7:Int)=>([(0,(vL (eL Rect.enc) slices_1)),(3,(vI s_7)),(9,(vL (eL Rect.enc) slices_1)),(10,(vI (slices_1.length:Int))),(11,(vI (k_2:Int)))]:List (Nat×V))) p.1 p.2.1 p.2.2) (fun p=>(fun (k_2:Nat) (l_3:List (List Rect)) (s_7:Int)=>([]:Hp)) p.1 p.2.1 p.2.2) (fun p=>forR (fun k x s=>dm k x s) p.2.1 p.1 p.2.2=some o_10∧(slices_1).drop p.1=p.2.1) (fun p=>p.2.1.length) (0,slices_1,0) ⟨hj_11,rfl⟩ rfl (aH rfl) ?_)
  rintro ⟨k_2,l_3,s_7⟩ ⟨hL_9,hD_5⟩
  dsimp only at hL_9 hD_5
  cases l_3 with
  | nil =>
   obtain rfl:=ah hL_9
   refine af (aa (ae (vB (decide ((k_2:Int) < (slices_1.length:Int)))) wz rfl (ai ?_)))
   refine af (aA rfl (drop_nil hD_5) (aS ?_))
   exact aP (s_7) rfl rfl (aH rfl)
  | cons x_4 l_3 =>
   obtain ⟨c_,hc_8,hL_9⟩:=bind_some hL_9
   refine af (aa (ae (vB (decide ((k_2:Int) < (slices_1.length:Int)))) wz rfl (ai ?_)))
   refine af (aB rfl (aX hD_5) (av ?_))
   unfold dm at hc_8
   refine af (aF (af (aa (dL M7 rfl rfl (bC hD_5) rfl wz (bJ Mf LQ rfl (vL Rect.enc x_4) rfl wz (ae (vL Rect.enc x_4) wz rfl (ai (af (aa (ae (vI s_7) wz rfl (ae (vL Rect.enc x_4) wz rfl (bP zw rfl wz (ae (vI (w64 (s_7 + (x_4.length:Int)))) wz rfl (ae (vI (w64 (s_7 + (x_4.length:Int)))) wz rfl (ai (af (aa (ae (vI (w64 (s_7 + (x_4.length:Int)))) wz rfl (ae (vB (decide ((w64 (s_7 + (x_4.length:Int))) < 0))) wz rfl (ai ?_))))))))))))))))))))
   obtain ⟨v_12,h_13,hc_8⟩:=bind_some hc_8
   refine aG (β:=Unit) (fun _=>([(0,(vL (eL Rect.enc) slices_1)),(3,(vI (w64 (s_7 + (x_4.length:Int))))),(9,(vL (eL Rect.enc) slices_1)),(10,(vI (slices_1.length:Int))),(11,(vI (k_2:Int)))]:List (Nat×V))) (fun _=>([]:Hp)) (fun _=>True) ?_ ?_
   ·rcases ak h_13 with⟨hc_14,h_13⟩ | ⟨hc_14,h_13⟩
    ·refine aB rfl hc_14 (aa ?_)
     cases h_13
    ·refine aA rfl hc_14 (av ?_)
     obtain rfl:=ah h_13
     exact cu
   ·rintro ⟨⟩ _ sl_ H_ hp_ hq_
    refine aK _ hp_ hq_ (aa (dQ (bu hD_5 hn_6) wz rfl (ae (vI ((k_2 + 1:Nat):Int)) wz rfl (ai ?_))))
    obtain rfl:=ah hc_8
    exact aR (k_2 + 1,l_3,(w64 (s_7 + (x_4.length:Int)))) ⟨hL_9,aN hD_5⟩ (Nat.lt_succ_self _) rfl (aH rfl)
 ·rintro s_7 ho_ sl_ H_ hp_ hq_
  subst ho_
  refine aK _ hp_ hq_ (af (aa (ae (vI s_7) wz rfl ?_)))
  obtain ⟨b_15,hr_16,hF⟩:=bind_some hF
  refine h_callk (enc:=Rect.enc) (mK hr_16) rfl hb193 (by kernel_rfl) rfl (by kernel_rfl) wz (fun n_17=>ae (kV b_15 n_17 4 ([]:List Rect)) wz rfl (ai (af (af (aa (ae (vL (eL Rect.enc) slices_1) wz rfl (bP un260 rfl wz (ae (vI 0) wz rfl (ai ?_)))))))))
  obtain ⟨o_28,hj_29,hF⟩:=bind_some hF
  obtain ⟨hn_22,hj_29⟩:=aQ hj_29
  refine aG (β:=((List Rect))×Nm) (fun p=>(fun (s_23:(List Rect)) (n_25:Nm)=>([(6,(kV b_15 n_25 4 s_23))]:List (Nat×V))) p.1 p.2) (fun p=>(fun (s_23:(List Rect)) (n_25:Nm)=>([(n_25,kB b_15 4 Rect.enc s_23)]:Hp)) p.1 p.2) (fun p=>o_28 = .go p.1) ?_ ?_
  ·refine aF (aW (β:=Nat×(List (List Rect))×((List Rect))×Nm) (fun p=>(fun (k_18:Nat) (l_19:List (List Rect)) (s_23:(List Rect)) (n_25:Nm)=>([(6,(kV b_15 n_25 4 s_23)),(25,(vL (eL Rect.enc) slices_1)),(26,(vI (slices_1.length:Int))),(27,(vI (k_18:Int)))]:List (Nat×V))) p.1 p.2.1 p.2.2.1 p.2.2.2) (fun p=>(fun (k_18:Nat) (l_19:List (List Rect)) (s_23:(List Rect)) (n_25:Nm)=>([(n_25,kB b_15 4 Rect.enc s_23)]:Hp)) p.1 p.2.1 p.2.2.1 p.2.2.2) (fun p=>forR (fun k x s=>di k x s) p.2.1 p.1 p.2.2.1=some o_28∧(slices_1).drop p.1=p.2.1) (fun p=>p.2.1.length) (0,slices_1,([]:List Rect),n_17) ⟨hj_29,rfl⟩ rfl (aH rfl) ?_)
   rintro ⟨k_18,l_19,s_23,n_25⟩ ⟨hL_27,hD_21⟩
   dsimp only at hL_27 hD_21
   cases l_19 with
   | nil =>
    obtain rfl:=ah hL_27
    refine af (aa (ae (vB (decide ((k_18:Int) < (slices_1.length:Int)))) wz rfl (ai ?_)))
    refine af (aA rfl (drop_nil hD_21) (aS ?_))
    exact aP (s_23,n_25) rfl rfl (aH rfl)
   | cons x_20 l_19 =>
    obtain ⟨c_,hc_26,hL_27⟩:=bind_some hL_27
    refine af (aa (ae (vB (decide ((k_18:Int) < (slices_1.length:Int)))) wz rfl (ai ?_)))
    refine af (aB rfl (aX hD_21) (av ?_))
    unfold di at hc_26
    refine af (aF (af (aa (dL M7 rfl rfl (bC hD_21) rfl wz (bJ Mf LQ rfl (vL Rect.enc x_20) rfl wz (ae (vL Rect.enc x_20) wz rfl (ai (aa (ae (kV b_15 n_25 4 s_23) wz rfl (ae (vL Rect.enc x_20) wz rfl ?_))))))))))
    obtain ⟨a_30,hz_31,hc_26⟩:=bind_some hc_26
    refine h_appk 0 il ft (i:=0) AA AA dx z45 rfl (by decide) Ll (by decide) (fun _=>rfl) rfl rfl rfl hz_31 wz (fun n_32=>ae (kV b_15 n_32 4 a_30) wz rfl (ai (aa (dQ (bu hD_21 hn_22) wz rfl (ae (vI ((k_18 + 1:Nat):Int)) wz rfl (ai ?_))))))
    obtain rfl:=ah hc_26
    exact aR (k_18 + 1,l_19,a_30,n_32) ⟨hL_27,aN hD_21⟩ (Nat.lt_succ_self _) rfl (aH rfl)
  ·rintro ⟨s_23,n_25⟩ ho_ sl_ H_ hp_ hq_
   subst ho_
   refine aK _ hp_ hq_ (af (aa (ae (kV b_15 n_25 4 s_23) wz rfl (ae (kV b_15 n_25 4 s_23) wz rfl (ai (Mm 0 rfl (Jd 2 0 rfl rfl (Jd 6 0 rfl rfl (Jd 35 0 rfl rfl ?_)))))))))
   obtain rfl:=ah hF
   exact ay (aM (.inr rfl) [(vL Rect.enc s_23)] ⟨rfl,trivial⟩ rfl rfl rfl)
theorem rG {x r:(List Int)} (hF:dA x=some r) :
  FnM Tryz.prog 90 [(dV (aJ 0) 1 x)] (([]:List Box)++gI 1 eI x) (.tup []) (([]:List Box).map some++gT x (gB 1 eI r)) :=
 NN Tryz.slices_Sort_int Tryz.slices_Sort_int_none hF
theorem pO {s_1:(List Int)} {r:(List Int)} (hF:bU s_1=some r) :
  FnM Tryz.prog 91 [(dV (aJ 0) 1 s_1)] (([]:List Box)++gI 1 eI s_1) (vL eI r) (([]:List Box).map some++gT s_1 none):=by
 refine FnM.of_wHv ⟨Tryz.prog,61,[],[]⟩ rfl Tryz.func91 rfl rfl (Nat.le_of_ble_eq_true rfl) (by kernel_rfl) ?_
 unfold bU at hF
 refine af (aa (ae .nil wz rfl (ai (af (af (aa (ae (dV (aJ 0) 1 s_1) wz rfl (Ju vE rfl wz (ae (vB (decide ((s_1.length:Int) < 2))) wz rfl (ai ?_))))))))))
 rcases ak hF with⟨hc_2,hF⟩ | ⟨hc_2,hF⟩
 ·refine aB rfl hc_2 (af (aa (ae (dV (aJ 0) 1 s_1) wz rfl (ae (dV (aJ 0) 1 s_1) wz rfl (ai (gU 0 rfl (yz 0 0 rfl rfl (yz 2 0 rfl rfl (yz 6 0 rfl rfl (yz 9 0 rfl rfl (GR (i:=0) rfl ?_)))))))))))
  obtain rfl:=ah hF
  exact ay (Ja (bs:=([]:List Box)) (os:=([]:List Box)) (xs:=s_1) (o:=none) (.inr rfl) [(vL eI s_1)] ⟨rfl,trivial⟩ rfl rfl rfl rfl rfl (by kernel_rfl) BG rfl)
 ·refine aA rfl hc_2 (av (af (af (aa (ae (vI 1) wz rfl (ai ?_))))))
  obtain ⟨o_11,hj_12,hF⟩:=bind_some hF
  obtain ⟨nq_52,hj_12⟩:=eY hj_12
  refine aG (β:=(Int)) (fun (s_8:Int)=>([(0,(dV (aJ 0) 1 s_1))]:List (Nat×V))) (fun (s_8:Int)=>([((aJ 0),gB 1 eI s_1)]:Hp)) (fun p=>o_11 = .go p) ?_ ?_
  ·refine aF (aW (β:=Nat×(Int)) (fun p=>(fun (k_3:Nat) (s_8:Int)=>([(0,(dV (aJ 0) 1 s_1)),(3,(vI s_8))]:List (Nat×V))) p.1 p.2) (fun p=>(fun (k_3:Nat) (s_8:Int)=>([((aJ 0),gB 1 eI s_1)]:Hp)) p.1 p.2) (fun p=>iterN (fun s=>aV s_1 s) p.1 p.2=some o_11) (fun p=>p.1) (nq_52,1) hj_12 rfl (aH rfl) ?_)
   rintro ⟨k_3,s_8⟩ hL_10
   dsimp only at hL_10
   cases k_3 with
   | zero=>cases hL_10
   | succ k_3 =>
    obtain ⟨c_,hc_9,hL_10⟩:=bind_some hL_10
    unfold aV at hc_9
    refine af (af (aa (ae (vI s_8) wz rfl (ae (dV (aJ 0) 1 s_1) wz rfl (Ju vE rfl wz (ae (vB (decide (s_8 < (s_1.length:Int)))) wz rfl (ai ?_)))))))
    rcases ak hc_9 with⟨hc_13,hc_9⟩ | ⟨hc_13,hc_9⟩
    ·refine aB rfl hc_13 (av (af (aF (af (bB (ae (dV (aJ 0) 1 s_1) wz rfl (ae (vI s_8) wz rfl ?_)))))))
     obtain ⟨_,hi_14,hc_9⟩:=bind_some hc_9
     refine vJ oo rfl rfl (rJ hi_14) (ny hi_14) wz ?_
     obtain ⟨e_15,hy_16,hc_9⟩:=bind_some hc_9
     refine tX 3 0 (.inr (by kernel_rfl)) (fun _ _ ag=>trivial) sz3 ag3 rfl rfl hy_16 (vI e_15) rfl wz (ae (dV (aJ 0) 1 s_1) wz rfl (ae (vI s_8) wz rfl (ae (vI (w64 (s_8 - 1))) wz rfl ?_)))
     obtain ⟨_,hi_17,hc_9⟩:=bind_some hc_9
     refine vJ oo rfl rfl (rJ hi_17) (ny hi_17) wz ?_
     obtain ⟨e_18,hy_19,hc_9⟩:=bind_some hc_9
     refine tX 8 0 (.inr (by kernel_rfl)) (fun _ _ ag=>⟨.inl ⟨rfl,rfl⟩,trivial⟩) sz3 ag3 rfl rfl hy_19 (vI e_18) rfl wz (ae (vB (e_15 == e_18)) wz rfl (ai ?_))
     rcases ak hc_9 with⟨hc_20,hc_9⟩ | ⟨hc_20,hc_9⟩
     ·refine aB rfl hc_20 (af (aa (ae (dV (aJ 0) 1 s_1) wz rfl (ae (vI s_8) wz rfl ?_))))
      obtain ⟨_,hn_21,hc_9⟩:=bind_some hc_9
      replace hn_21:=neL_ne hn_21
      refine lK (v':=(vV (aJ 0) 1 s_1)) 0 rfl (yM hn_21) (lK (v':=(vV (aJ 0) 1 s_1)) 11 rfl (yM hn_21) (lK (v':=(vV (aJ 0) 1 s_1)) 16 rfl (yM hn_21) (lK (v':=(vV (aJ 0) 1 s_1)) 20 rfl (yM hn_21) (lK (v':=(vV (aJ 0) 1 s_1)) 26 rfl (yM hn_21) (h_reH 0 rfl (gB_cons hn_21) ?_)))))
      obtain ⟨_,hr_22,hc_9⟩:=bind_some hc_9
      refine Hw vE sz3 rfl rfl hr_22 wz (ae (.vs (aJ 0) 1 ((s_8).toNat) (((s_1.length:Int)).toNat - (s_8).toNat)) wz rfl (ai (af (af (aa (ae (vI 1) wz rfl (ai ?_)))))))
      obtain ⟨o_31,hj_32,hc_9⟩:=bind_some hc_9
      obtain ⟨nq_51,hj_32⟩:=eY hj_32
      refine aG (β:=((List Int)×Int×Int)) (fun (s_28:(List Int)×Int×Int)=>([(0,(vV (aJ 0) 1 s_28.1)),(3,(vI s_28.2.1))]:List (Nat×V))) (fun (s_28:(List Int)×Int×Int)=>([((aJ 0),some (bV 1 eI s_28.1))]:Hp)) (fun p=>o_31 = .go p) ?_ ?_
      ·refine aF (aW (β:=Nat×((List Int)×Int×Int)) (fun p=>(fun (k_23:Nat) (s_28:(List Int)×Int×Int)=>([(0,(vV (aJ 0) 1 s_28.1)),(3,(vI s_28.2.1)),(4,(.vs (aJ 0) 1 ((s_8).toNat) (((s_1.length:Int)).toNat - (s_8).toNat))),(5,(vI s_28.2.2))]:List (Nat×V))) p.1 p.2) (fun p=>(fun (k_23:Nat) (s_28:(List Int)×Int×Int)=>([((aJ 0),some (bV 1 eI s_28.1))]:Hp)) p.1 p.2) (fun p=>iterN (fun s=>bQ s_1 s_8 s) p.1 p.2=some o_31) (fun p=>p.1) (nq_51,(s_1,s_8,1)) hj_32 rfl (aH rfl) ?_)
       rintro ⟨k_23,s_28⟩ hL_30
       dsimp only at hL_30
       cases k_23 with
       | zero=>cases hL_30
       | succ k_23 =>
        obtain ⟨c_,hc_29,hL_30⟩:=bind_some hL_30
        unfold bQ at hc_29
        refine af (af (aa (ae (vI s_28.2.2) wz rfl (ae (.vs (aJ 0) 1 ((s_8).toNat) (((s_1.length:Int)).toNat - (s_8).toNat)) wz rfl (h_lenp vE rfl wz (ae (vB (decide (s_28.2.2 < (((((s_1.length:Int)).toNat - (s_8).toNat):Nat):Int)))) wz rfl (ai ?_)))))))
        rcases ak hc_29 with⟨hc_33,hc_29⟩ | ⟨hc_33,hc_29⟩
        ·refine aB rfl hc_33 (av (af (aF (af (bB (ae (.vs (aJ 0) 1 ((s_8).toNat) (((s_1.length:Int)).toNat - (s_8).toNat)) wz rfl (ae (vI s_28.2.2) wz rfl ?_)))))))
         obtain ⟨_,hi_34,hc_29⟩:=bind_some hc_29
         refine EA oo rfl rfl (MG hi_34) (JS hi_34) wz ?_
         obtain ⟨e_35,hy_36,hc_29⟩:=bind_some hc_29
         refine Kg 3 0 (.inr (by kernel_rfl)) (fun _ _ ag=>trivial) sz3 ag3 rfl rfl hy_36 (vI e_35) rfl wz (ae (.vs (aJ 0) 1 ((s_8).toNat) (((s_1.length:Int)).toNat - (s_8).toNat)) wz rfl (ae (vI s_28.2.2) wz rfl (ae (vI (w64 (s_28.2.2 - 1))) wz rfl ?_)))
         obtain ⟨_,hi_37,hc_29⟩:=bind_some hc_29
         refine EA oo rfl rfl (MG hi_37) (JS hi_37) wz ?_
         obtain ⟨e_38,hy_39,hc_29⟩:=bind_some hc_29
         refine Kg 8 0 (.inr (by kernel_rfl)) (fun _ _ ag=>⟨.inl ⟨rfl,rfl⟩,trivial⟩) sz3 ag3 rfl rfl hy_39 (vI e_38) rfl wz (ae (vB (e_35 != e_38)) wz rfl (ai ?_))
         obtain ⟨v_40,h_41,hc_29⟩:=bind_some hc_29
         refine aG (β:=Unit) (fun _=>([(0,(vV (aJ 0) 1 v_40.1)),(3,(vI v_40.2)),(4,(.vs (aJ 0) 1 ((s_8).toNat) (((s_1.length:Int)).toNat - (s_8).toNat))),(5,(vI s_28.2.2))]:List (Nat×V))) (fun _=>([((aJ 0),some (bV 1 eI v_40.1))]:Hp)) (fun _=>True) ?_ ?_
         ·rcases ak h_41 with⟨hc_42,h_41⟩ | ⟨hc_42,h_41⟩
          ·refine aB rfl hc_42 (af (aa (ae (vV (aJ 0) 1 s_28.1) wz rfl (ae (vI s_28.2.1) wz rfl (ae (.vs (aJ 0) 1 ((s_8).toNat) (((s_1.length:Int)).toNat - (s_8).toNat)) wz rfl (ae (vI s_28.2.2) wz rfl ?_))))))
           obtain ⟨_,hi_43,h_41⟩:=bind_some h_41
           refine EA oo rfl rfl (MG hi_43) (JS hi_43) wz ?_
           obtain ⟨e_44,hy_45,h_41⟩:=bind_some h_41
           refine Kg 0 0 il ft sz3 ag3 rfl rfl hy_45 (vI e_44) rfl wz ?_
           obtain ⟨_,hi_46,h_41⟩:=bind_some h_41
           refine EA oo rfl rfl (rJ hi_46) (ny hi_46) wz ?_
           obtain ⟨e_47,hy_48,h_41⟩:=bind_some h_41
           refine h_stv 0 il ft 0 sz3 rfl rfl hy_48 e_44 rfl wz (lK (v':=(vV (aJ 0) 1 (s_28.1.set (0 + (s_28.2.1).toNat) e_44))) 0 rfl (GG (by simp)) (lK (v':=(vV (aJ 0) 1 (s_28.1.set (0 + (s_28.2.1).toNat) e_44))) 45 rfl (GG (by simp)) (ai (aa (ae (vI s_28.2.1) wz rfl (ae (vI (w64 (s_28.2.1 + 1))) wz rfl (ae (vI (w64 (s_28.2.1 + 1))) wz rfl (ai ?_))))))))
           obtain rfl:=ah h_41
           exact cu
          ·refine aA rfl hc_42 (av ?_)
           obtain rfl:=ah h_41
           exact cu
         ·rintro ⟨⟩ _ sl_ H_ hp_ hq_
          refine aK _ hp_ hq_ (aa (ae (vI s_28.2.2) wz rfl (ae (vI (w64 (s_28.2.2 + 1))) wz rfl (ae (vI (w64 (s_28.2.2 + 1))) wz rfl (ai ?_)))))
          obtain rfl:=ah hc_29
          exact aR (k_23,(v_40.1,v_40.2,(w64 (s_28.2.2 + 1)))) hL_30 (Nat.lt_succ_self _) rfl (aH rfl)
        ·refine aA rfl hc_33 (aS ?_)
         obtain rfl:=ah hc_29
         obtain rfl:=ah hL_30
         exact aP ((s_28.1,s_28.2.1,s_28.2.2)) rfl rfl (aH rfl)
      ·rintro s_28 ho_ sl_ H_ hp_ hq_
       subst ho_
       refine aK _ hp_ hq_ (af (aa (ae (vV (aJ 0) 1 s_28.1) wz rfl (ae (vI s_28.2.1) wz rfl ?_))))
       obtain ⟨_,hr_49,hc_9⟩:=bind_some hc_9
       refine Hw vE sz3 rfl rfl hr_49 wz (h_clear (i:=0) 0 il ft 0 el22 sz3 z3 rfl rfl rfl (by decide) rfl (y5 hr_49) rfl wz (lK (v':=(vV (aJ 0) 1 (s_28.1.take ((s_28.2.1).toNat)++List.replicate (((s_28.1.length:Int)).toNat - (s_28.2.1).toNat) 0++s_28.1.drop (((s_28.2.1).toNat) + (((s_28.1.length:Int)).toNat - (s_28.2.1).toNat))))) 0 rfl (GG (EK (y5 hr_49))) (lK (v':=(vV (aJ 0) 1 (s_28.1.take ((s_28.2.1).toNat)++List.replicate (((s_28.1.length:Int)).toNat - (s_28.2.1).toNat) 0++s_28.1.drop (((s_28.2.1).toNat) + (((s_28.1.length:Int)).toNat - (s_28.2.1).toNat))))) 54 rfl (GG (EK (y5 hr_49))) (ai (af (aa (ae (vV (aJ 0) 1 (s_28.1.take ((s_28.2.1).toNat)++List.replicate (((s_28.1.length:Int)).toNat - (s_28.2.1).toNat) 0++s_28.1.drop (((s_28.2.1).toNat) + (((s_28.1.length:Int)).toNat - (s_28.2.1).toNat)))) wz rfl (ae (vI s_28.2.1) wz rfl ?_))))))))
       obtain ⟨_,hr_50,hc_9⟩:=bind_some hc_9
       refine MZ vE sz3 rfl rfl hr_50 wz (ae (.vs (aJ 0) 1 0 ((s_28.2.1).toNat)) wz rfl (ai (Gm 0 rfl (Fw 0 0 rfl rfl (Mt 2 0 rfl rfl (y5 hr_50) (Fw 54 0 rfl rfl (Fw 57 0 rfl rfl (Mt 59 0 rfl rfl (y5 hr_50) (GR (i:=0) rfl ?_)))))))))
       obtain rfl:=ah hc_9
       obtain rfl:=ah hL_10
       obtain rfl:=ah hF
       exact ay (Ja (bs:=([]:List Box)) (os:=([]:List Box)) (xs:=s_1) (o:=none) (.inr rfl) [(vL eI (cutL (s_28.1.take ((s_28.2.1).toNat)++List.replicate (((s_28.1.length:Int)).toNat - (s_28.2.1).toNat) 0++s_28.1.drop (((s_28.2.1).toNat) + (((s_28.1.length:Int)).toNat - (s_28.2.1).toNat))) 0 ((s_28.2.1).toNat)))] ⟨rfl,trivial⟩ rfl rfl rfl rfl rfl (by kernel_rfl) BG rfl)
     ·refine aA rfl hc_20 (av (aa (ae (vI s_8) wz rfl (ae (vI (w64 (s_8 + 1))) wz rfl (ae (vI (w64 (s_8 + 1))) wz rfl (ai ?_))))))
      obtain rfl:=ah hc_9
      exact aR (k_3,(w64 (s_8 + 1))) hL_10 (Nat.lt_succ_self _) rfl (aH rfl)
    ·refine aA rfl hc_13 (aS ?_)
     obtain rfl:=ah hc_9
     obtain rfl:=ah hL_10
     exact aP (s_8) rfl rfl (aH rfl)
  ·rintro s_8 ho_ sl_ H_ hp_ hq_
   subst ho_
   refine aK _ hp_ hq_ (af (aa (ae (dV (aJ 0) 1 s_1) wz rfl (ae (dV (aJ 0) 1 s_1) wz rfl (ai (gU 0 rfl (yz 0 0 rfl rfl (yz 2 0 rfl rfl (yz 60 0 rfl rfl (GR (i:=0) rfl ?_))))))))))
   obtain rfl:=ah hF
   exact ay (Ja (bs:=([]:List Box)) (os:=([]:List Box)) (xs:=s_1) (o:=none) (.inr rfl) [(vL eI s_1)] ⟨rfl,trivial⟩ rfl rfl rfl rfl rfl (by kernel_rfl) BG rfl)
theorem AP {a_1:Run} {b_2:Run} {r:Int} (hF:l8 a_1 b_2=some r) :
  FnM Tryz.prog 195 [(.d (.agg (Run.enc a_1))),(.d (.agg (Run.enc b_2)))] [] (vI r) []:=by
 refine FnM.of_wH ⟨Tryz.prog,10,[],[]⟩ rfl Tryz.func195 rfl rfl (Nat.le_of_ble_eq_true rfl) (by kernel_rfl) ?_
 unfold l8 at hF
 refine af (aa (dJ 0 (.inl rfl) [(vI a_1.f_from),(vI a_1.f_to)] rfl rfl wz (fun n_3=>dJ 0 (.inl rfl) [(vI b_2.f_from),(vI b_2.f_to)] rfl rfl wz (fun n_4=>ae (vI 0) wz rfl (ai (af (aa (ax kQ rfl 0 rfl wz (au 0 0 il ft sz3 ag3 rfl rfl (vI a_1.f_from) rfl wz (ax kQ rfl 0 rfl wz (au 0 1 il ft sz3 ag3 rfl rfl (vI b_2.f_from) rfl wz (ae (vI (w64 (a_1.f_from - b_2.f_from))) wz rfl (ae (vI (w64 (a_1.f_from - b_2.f_from))) wz rfl (ai ?_))))))))))))))
 obtain rfl:=ah hF
 exact ay (aM (.inr rfl) [(vI (w64 (a_1.f_from - b_2.f_from)))] ⟨rfl,trivial⟩ rfl rfl rfl)
theorem ym {x_1:Int} {r:Int} (hF:pK x_1=some r) :
  FnM Tryz.prog 224 [(.d (.int .u64 x_1))] [] (vI r) []:=by
 refine FnM.of_wH ⟨Tryz.prog,25,[],[]⟩ rfl Tryz.func224 rfl rfl (Nat.le_of_ble_eq_true rfl) (by kernel_rfl) ?_
 unfold pK at hF
 refine af (aa (ae (vI 0) wz rfl (ai (af (af (aa (ae (.d (.int .u64 x_1)) wz rfl (ae (vB (decide (x_1≥4294967296))) wz rfl (ai ?_)))))))))
 obtain ⟨v_2,h_3,hF⟩:=bind_some hF
 refine aG (β:=Unit) (fun _=>([(0,(.d (.int .u64 v_2.1))),(2,(vI v_2.2))]:List (Nat×V))) (fun _=>([]:Hp)) (fun _=>True) ?_ ?_
 ·rcases ak h_3 with⟨hc_4,h_3⟩ | ⟨hc_4,h_3⟩
  ·refine aB rfl hc_4 (af (aa (ae (.d (.int .u64 x_1)) wz rfl ?_)))
   obtain ⟨q_5,hz_6,h_3⟩:=bind_some h_3
   refine Km rfl rfl hz_6 wz (ae (.d (.int .u64 q_5)) wz rfl (ai (aa (ae (vI 32) wz rfl (ai ?_)))))
   obtain rfl:=ah h_3
   exact cu
  ·refine aA rfl hc_4 (av ?_)
   obtain rfl:=ah h_3
   exact cu
 ·rintro ⟨⟩ _ sl_ H_ hp_ hq_
  refine aK _ hp_ hq_ (af (af (aa (ae (.d (.int .u64 v_2.1)) wz rfl (ae (vB (decide (v_2.1≥65536))) wz rfl (ai ?_))))))
  obtain ⟨v_7,h_8,hF⟩:=bind_some hF
  refine aG (β:=Unit) (fun _=>([(0,(.d (.int .u64 v_7.1))),(2,(vI v_7.2))]:List (Nat×V))) (fun _=>([]:Hp)) (fun _=>True) ?_ ?_
  ·rcases ak h_8 with⟨hc_9,h_8⟩ | ⟨hc_9,h_8⟩
   ·refine aB rfl hc_9 (af (aa (ae (.d (.int .u64 v_2.1)) wz rfl ?_)))
    obtain ⟨q_10,hz_11,h_8⟩:=bind_some h_8
    refine Km rfl rfl hz_11 wz (ae (.d (.int .u64 q_10)) wz rfl (ai (aa (ae (vI v_2.2) wz rfl (ae (vI (w64 (v_2.2 + 16))) wz rfl (ae (vI (w64 (v_2.2 + 16))) wz rfl (ai ?_)))))))
    obtain rfl:=ah h_8
    exact cu
   ·refine aA rfl hc_9 (av ?_)
    obtain rfl:=ah h_8
    exact cu
  ·rintro ⟨⟩ _ sl_ H_ hp_ hq_
   refine aK _ hp_ hq_ (af (af (aa (ae (.d (.int .u64 v_7.1)) wz rfl (ae (vB (decide (v_7.1≥256))) wz rfl (ai ?_))))))
   obtain ⟨v_12,h_13,hF⟩:=bind_some hF
   refine aG (β:=Unit) (fun _=>([(0,(.d (.int .u64 v_12.1))),(2,(vI v_12.2))]:List (Nat×V))) (fun _=>([]:Hp)) (fun _=>True) ?_ ?_
   ·rcases ak h_13 with⟨hc_14,h_13⟩ | ⟨hc_14,h_13⟩
    ·refine aB rfl hc_14 (af (aa (ae (.d (.int .u64 v_7.1)) wz rfl ?_)))
     obtain ⟨q_15,hz_16,h_13⟩:=bind_some h_13
     refine Km rfl rfl hz_16 wz (ae (.d (.int .u64 q_15)) wz rfl (ai (aa (ae (vI v_7.2) wz rfl (ae (vI (w64 (v_7.2 + 8))) wz rfl (ae (vI (w64 (v_7.2 + 8))) wz rfl (ai ?_)))))))
     obtain rfl:=ah h_13
     exact cu
    ·refine aA rfl hc_14 (av ?_)
     obtain rfl:=ah h_13
     exact cu
   ·rintro ⟨⟩ _ sl_ H_ hp_ hq_
    refine aK _ hp_ hq_ (af (aa (ae (vI v_12.2) wz rfl (ae (.d (.int .u64 v_12.1)) wz rfl (oh yT un5 rfl wz ?_)))))
    obtain ⟨b_17,hy_18,hF⟩:=bind_some hF
    refine jR un9 rfl rfl hy_18 wz (oh un5 un3 rfl wz (ae (vI (w64 (v_12.2 + (w64 (b_17.toNat:Int))))) wz rfl (ae (vI (w64 (v_12.2 + (w64 (b_17.toNat:Int))))) wz rfl (ai ?_))))
    obtain rfl:=ah hF
    exact ay (aM (.inr rfl) [(vI (w64 (v_12.2 + (w64 (b_17.toNat:Int)))))] ⟨rfl,trivial⟩ rfl rfl rfl)
theorem zP {x_1:Int} {r:Int} (hF:kJ x_1=some r) :
  FnM Tryz.prog 167 [(.d (.int .u64 x_1))] [] (vI r) []:=by
 refine FnM.of_wH ⟨Tryz.prog,8,[],[]⟩ rfl Tryz.func167 rfl rfl (Nat.le_of_ble_eq_true rfl) (by kernel_rfl) ?_
 unfold kJ at hF
 refine af (aa (ae (vI 0) wz rfl (ai (af (aA rfl rfl (av (af (aa (ae (.d (.int .u64 x_1)) wz rfl ?_)))))))))
 obtain ⟨r_2,hr_3,hF⟩:=bind_some hF
 refine aC (ym hr_3) rfl hb224 rfl rfl rfl rfl wz (ae (vI r_2) wz rfl (ai ?_))
 obtain rfl:=ah hF
 exact ay (aM (.inr rfl) [(vI r_2)] ⟨rfl,trivial⟩ rfl rfl rfl)
end Go.Proofs.YtjhcehhmdmbleaaGreatDoor.Law

