/-
 The machine computes these plain functions (written by a program of ours).
-/
import Derived.Test.YticmkhcacamhkaaGreatDoorFacts
import Derived.Test.YticmkhcacamhkaaGreatDoorDefs
import Derived.Test.YticmkhcacamhkaaGreatDoorPf1
import Derived.Test.YticmkhcacamhkaaGreatDoorShelf
open Go Go.Eng Go.Proofs
namespace Go.Proofs.YticmkhcacamhkaaGreatDoor.Law
set_option maxRecDepth 100000
set_option linter.unusedVariables false
set_option maxHeartbeats 1000000
theorem fT {s_1:ByteArray} {r:Bool} (hF:kit_IsKey s_1=some r) :
  FnM Tryz.prog 69 [(vS s_1)] [] (vB r) []:=by
 refine FnM.of_wH ⟨Tryz.prog,48,[],[]⟩ rfl Tryz.func69 rfl rfl (lb_ rfl) (by kernel_rfl) ?_
 unfold kit_IsKey at hF
 refine af (aa (ae (vB false) wz rfl (aj (af (af (aa (ae (vI 0) wz rfl (aj ?_))))))))
 obtain ⟨o_10,hj_11,hF⟩:=bind_some hF
 obtain ⟨nq_33,hj_11⟩:=bR hj_11
 refine aD (β:=(Int)) (λ(s_7:Int)=>([(0,(vS s_1))]:SL_)) (λ(s_7:Int)=>([]:Hp)) (λp=>o_10 = .go p) ?_ ?_
 ·refine ay (aS (β:=Nat×(Int)) (λp=>(λ(k_2:Nat) (s_7:Int)=>([(0,(vS s_1)),(3,(vI s_7))]:SL_)) p.1 p.2) (λp=>(λ(k_2:Nat) (s_7:Int)=>([]:Hp)) p.1 p.2) (λp=>iterN (λs=>kv s_1 s) p.1 p.2=some o_10) (λp=>p.1) (nq_33,0) hj_11 rfl (aJ rfl) ?_)
  rintro ⟨k_2,s_7⟩ hL_9
  dsimp only at hL_9
  cases k_2 with
  | zero=>cases hL_9
  | succ k_2 =>
   obtain ⟨c_,hc_8,hL_9⟩:=bind_some hL_9
   unfold kv at hc_8
   refine af (af (aa (ae (vI s_7) wz rfl (ae (vS s_1) wz rfl (qF un9 rfl wz (ae (vB (decide (s_7<(s_1.size:Int)))) wz rfl (aj ?_)))))))
   rcases au hc_8 with⟨hc_12,hc_8⟩|⟨hc_12,hc_8⟩
   ·refine aC rfl hc_12 (ax (af (ay (af (aa (ae (vS s_1) wz rfl (ae (vI s_7) wz rfl ?_)))))))
    obtain ⟨b_13,hy_14,hc_8⟩:=bind_some hc_8
    refine mE un9 rfl rfl hy_14 wz (ae (.d (.int .u8 (b_13.toNat:Int))) wz rfl (aj (af ?_)))
    obtain ⟨v_15,h_16,hc_8⟩:=bind_some hc_8
    refine aD (β:=Unit) (λ_=>([(0,(vS s_1)),(3,(vI s_7)),(40,(vB v_15))]:SL_)) (λ_=>([]:Hp)) (λ_=>True) ?_ ?_
    ·refine aa (ae (.d (.int .u8 (b_13.toNat:Int))) wz rfl (ae (vB (decide ((b_13.toNat:Int)>=97))) wz rfl ?_))
     rcases au h_16 with⟨hc_17,h_16⟩|⟨hc_17,h_16⟩
     ·refine aF rfl hc_17 wz (ae (.d (.int .u8 (b_13.toNat:Int))) wa rfl (ae (vB (decide ((b_13.toNat:Int)<=122))) wa rfl (ae (vB (decide ((b_13.toNat:Int)<=122))) wz rfl ?_)))
      rcases au h_16 with⟨hc_18,h_16⟩|⟨hc_18,h_16⟩
      ·refine aF rfl hc_18 wz (ak wa (ak wa (ak wa (ak (wn rfl rfl) (ak (wn rfl rfl) (ak (wn rfl rfl) (ak (wn rfl rfl) (ak (wn rfl rfl) (ak (wn rfl rfl) (ak (wn rfl rfl) (ak (wn rfl rfl) (ak (wn rfl rfl) (ak (wn rfl rfl) (ak (wn rfl rfl) (ak (wn rfl rfl) (ak (wn rfl rfl) (ak (wn rfl rfl) (ak wa (ae (vB true) wz rfl (ae (vB false) wz rfl (aj ?_)))))))))))))))))))))
       obtain rfl:=ah h_16
       exact cu
      ·refine aF rfl hc_18 wz (ae (vI s_7) wa rfl (ae (vB (decide (s_7>0))) wa rfl ?_))
       rcases au h_16 with⟨hc_19,h_16⟩|⟨hc_19,h_16⟩
       ·refine aF rfl hc_19 wa (ae (.d (.int .u8 (b_13.toNat:Int))) wa rfl (ae (vB (decide ((b_13.toNat:Int)>=48))) wa rfl ?_))
        rcases au h_16 with⟨hc_20,h_16⟩|⟨hc_20,h_16⟩
        ·refine aF rfl hc_20 wa (ae (.d (.int .u8 (b_13.toNat:Int))) wa rfl (ae (vB (decide ((b_13.toNat:Int)<=57))) wa rfl (ae (vB (decide ((b_13.toNat:Int)<=57))) wa rfl ?_)))
         rcases au h_16 with⟨hc_21,h_16⟩|⟨hc_21,h_16⟩
         ·refine aF rfl hc_21 wa (ak wa (ak wa (ae (vB true) wa rfl (ae (vB true) wa rfl (ak wa (ak wa (ae (vB true) wa rfl (ae (vB true) wa rfl (ae (vB true) wz rfl (ae (vB false) wz rfl (aj ?_)))))))))))
          obtain rfl:=ah h_16
          exact cu
         ·refine aF rfl hc_21 wa (ae (.d (.int .u8 (b_13.toNat:Int))) wa rfl (ae (vB ((b_13.toNat:Int)==45)) wa rfl (ae (vB ((b_13.toNat:Int)==45)) wa rfl ?_)))
          rcases au h_16 with⟨hc_22,h_16⟩|⟨hc_22,h_16⟩
          ·refine aF rfl hc_22 wa (ak wa (ak wa (ae (vB true) wa rfl (ae (vB true) wa rfl (ae (vB true) wz rfl (ae (vB false) wz rfl (aj ?_)))))))
           obtain rfl:=ah h_16
           exact cu
          ·refine aF rfl hc_22 wa (ae (.d (.int .u8 (b_13.toNat:Int))) wa rfl (ae (vB ((b_13.toNat:Int)==95)) wa rfl (ae (vB ((b_13.toNat:Int)==95)) wa rfl (ae (vB ((b_13.toNat:Int)==95)) wa rfl (ae (vB ((b_13.toNat:Int)==95)) wz rfl (ae (vB (!((b_13.toNat:Int)==95))) wz rfl (aj ?_)))))))
           obtain rfl:=ah h_16
           exact cu
        ·refine aF rfl hc_20 wa (ak wa (ak wa (ae (vB false) wa rfl (ae (vB false) wa rfl (ae (.d (.int .u8 (b_13.toNat:Int))) wa rfl (ae (vB ((b_13.toNat:Int)==45)) wa rfl (ae (vB ((b_13.toNat:Int)==45)) wa rfl ?_)))))))
         rcases au h_16 with⟨hc_23,h_16⟩|⟨hc_23,h_16⟩
         ·refine aF rfl hc_23 wa (ak wa (ak wa (ae (vB true) wa rfl (ae (vB true) wa rfl (ae (vB true) wz rfl (ae (vB false) wz rfl (aj ?_)))))))
          obtain rfl:=ah h_16
          exact cu
         ·refine aF rfl hc_23 wa (ae (.d (.int .u8 (b_13.toNat:Int))) wa rfl (ae (vB ((b_13.toNat:Int)==95)) wa rfl (ae (vB ((b_13.toNat:Int)==95)) wa rfl (ae (vB ((b_13.toNat:Int)==95)) wa rfl (ae (vB ((b_13.toNat:Int)==95)) wz rfl (ae (vB (!((b_13.toNat:Int)==95))) wz rfl (aj ?_)))))))
          obtain rfl:=ah h_16
          exact cu
       ·refine aF rfl hc_19 wa (ak wa (ak wa (ak wa (ak (wn rfl rfl) (ak (wn rfl rfl) (ak wa (ak wa (ak (wn rfl rfl) (ak (wn rfl rfl) (ak wa (ak wa (ak (wn rfl rfl) (ak (wn rfl rfl) (ak wa (ae (vB false) wa rfl (ae (vB false) wz rfl (ae (vB true) wz rfl (aj ?_))))))))))))))))))
        obtain rfl:=ah h_16
        exact cu
     ·refine aF rfl hc_17 wz (ak wa (ak wa (ae (vB false) wz rfl (ae (vB false) wz rfl (ae (vI s_7) wa rfl (ae (vB (decide (s_7>0))) wa rfl ?_))))))
      rcases au h_16 with⟨hc_24,h_16⟩|⟨hc_24,h_16⟩
      ·refine aF rfl hc_24 wa (ae (.d (.int .u8 (b_13.toNat:Int))) wa rfl (ae (vB (decide ((b_13.toNat:Int)>=48))) wa rfl ?_))
       rcases au h_16 with⟨hc_25,h_16⟩|⟨hc_25,h_16⟩
       ·refine aF rfl hc_25 wa (ae (.d (.int .u8 (b_13.toNat:Int))) wa rfl (ae (vB (decide ((b_13.toNat:Int)<=57))) wa rfl (ae (vB (decide ((b_13.toNat:Int)<=57))) wa rfl ?_)))
        rcases au h_16 with⟨hc_26,h_16⟩|⟨hc_26,h_16⟩
        ·refine aF rfl hc_26 wa (ak wa (ak wa (ae (vB true) wa rfl (ae (vB true) wa rfl (ak wa (ak wa (ae (vB true) wa rfl (ae (vB true) wa rfl (ae (vB true) wz rfl (ae (vB false) wz rfl (aj ?_)))))))))))
         obtain rfl:=ah h_16
         exact cu
        ·refine aF rfl hc_26 wa (ae (.d (.int .u8 (b_13.toNat:Int))) wa rfl (ae (vB ((b_13.toNat:Int)==45)) wa rfl (ae (vB ((b_13.toNat:Int)==45)) wa rfl ?_)))
         rcases au h_16 with⟨hc_27,h_16⟩|⟨hc_27,h_16⟩
         ·refine aF rfl hc_27 wa (ak wa (ak wa (ae (vB true) wa rfl (ae (vB true) wa rfl (ae (vB true) wz rfl (ae (vB false) wz rfl (aj ?_)))))))
          obtain rfl:=ah h_16
          exact cu
         ·refine aF rfl hc_27 wa (ae (.d (.int .u8 (b_13.toNat:Int))) wa rfl (ae (vB ((b_13.toNat:Int)==95)) wa rfl (ae (vB ((b_13.toNat:Int)==95)) wa rfl (ae (vB ((b_13.toNat:Int)==95)) wa rfl (ae (vB ((b_13.toNat:Int)==95)) wz rfl (ae (vB (!((b_13.toNat:Int)==95))) wz rfl (aj ?_)))))))
          obtain rfl:=ah h_16
          exact cu
       ·refine aF rfl hc_25 wa (ak wa (ak wa (ae (vB false) wa rfl (ae (vB false) wa rfl (ae (.d (.int .u8 (b_13.toNat:Int))) wa rfl (ae (vB ((b_13.toNat:Int)==45)) wa rfl (ae (vB ((b_13.toNat:Int)==45)) wa rfl ?_)))))))
        rcases au h_16 with⟨hc_28,h_16⟩|⟨hc_28,h_16⟩
        ·refine aF rfl hc_28 wa (ak wa (ak wa (ae (vB true) wa rfl (ae (vB true) wa rfl (ae (vB true) wz rfl (ae (vB false) wz rfl (aj ?_)))))))
         obtain rfl:=ah h_16
         exact cu
        ·refine aF rfl hc_28 wa (ae (.d (.int .u8 (b_13.toNat:Int))) wa rfl (ae (vB ((b_13.toNat:Int)==95)) wa rfl (ae (vB ((b_13.toNat:Int)==95)) wa rfl (ae (vB ((b_13.toNat:Int)==95)) wa rfl (ae (vB ((b_13.toNat:Int)==95)) wz rfl (ae (vB (!((b_13.toNat:Int)==95))) wz rfl (aj ?_)))))))
         obtain rfl:=ah h_16
         exact cu
      ·refine aF rfl hc_24 wa (ak wa (ak wa (ak wa (ak (wn rfl rfl) (ak (wn rfl rfl) (ak wa (ak wa (ak (wn rfl rfl) (ak (wn rfl rfl) (ak wa (ak wa (ak (wn rfl rfl) (ak (wn rfl rfl) (ak wa (ae (vB false) wa rfl (ae (vB false) wz rfl (ae (vB true) wz rfl (aj ?_))))))))))))))))))
       obtain rfl:=ah h_16
       exact cu
    ·rintro ⟨⟩ _ sl_ H_ hp_ hq_
     refine aL _ hp_ hq_ ?_
     rcases au hc_8 with⟨hc_29,hc_8⟩|⟨hc_29,hc_8⟩
     ·refine aC rfl hc_29 (af (aa (ae (vB false) wz rfl (aj ?_))))
      obtain rfl:=ah hc_8
      obtain rfl:=ah hL_9
      obtain rfl:=ah hF
      exact aG (aU (.inr rfl) [(vB false)] ⟨rfl,trivial⟩ rfl rfl rfl)
     ·refine aB rfl hc_29 (ax (aa (ae (vI s_7) wz rfl (ae (vI (w64 (s_7+1))) wz rfl (ae (vI (w64 (s_7+1))) wz rfl (aj ?_))))))
      obtain rfl:=ah hc_8
      exact aO (k_2,(w64 (s_7+1))) hL_9 (ls_ _) rfl (aJ rfl)
   ·refine aB rfl hc_12 (aP ?_)
    obtain rfl:=ah hc_8
    obtain rfl:=ah hL_9
    exact aN (s_7) rfl rfl (aJ rfl)
 ·rintro s_7 ho_ sl_ H_ hp_ hq_
  subst ho_
  refine aL _ hp_ hq_ (af ?_)
  obtain ⟨v_30,h_31,hF⟩:=bind_some hF
  refine aD (β:=Unit) (λ_=>([(2,(vB v_30))]:SL_)) (λ_=>([]:Hp)) (λ_=>True) ?_ ?_
  ·refine aa (ae (vS s_1) wz rfl (ae (vB (sNe s_1 (⟨#[]⟩:ByteArray))) wz rfl ?_))
   rcases au h_31 with⟨hc_32,h_31⟩|⟨hc_32,h_31⟩
   ·refine aF rfl hc_32 wz (ae (vS s_1) wa rfl (qF un9 rfl wa (ae (vB (decide ((s_1.size:Int)<=40))) wa rfl (ae (vB (decide ((s_1.size:Int)<=40))) wz rfl (ae (vB (decide ((s_1.size:Int)<=40))) wz rfl (aj ?_))))))
    obtain rfl:=ah h_31
    exact cu
   ·refine aF rfl hc_32 wz (ak wa (ak wa (ak wa (ae (vB false) wz rfl (ae (vB false) wz rfl (aj ?_))))))
    obtain rfl:=ah h_31
    exact cu
  ·rintro ⟨⟩ _ sl_ H_ hp_ hq_
   refine aL _ hp_ hq_ ?_
   obtain rfl:=ah hF
   exact aG (aU (.inr rfl) [(vB v_30)] ⟨rfl,trivial⟩ rfl rfl rfl)
theorem bg {n_1:Int} {low_2:Int} {high_3:Int} {r:Bool} (hF:aQ n_1 low_2 high_3=some r) :
  FnM Tryz.prog 19 [(vI n_1),(vI low_2),(vI high_3)] [] (vB r) []:=by
 refine FnM.of_wH ⟨Tryz.prog,15,[],[]⟩ rfl Tryz.func19 rfl rfl (lb_ rfl) (by kernel_rfl) ?_
 unfold aQ at hF
 refine af (aa (ae (vB false) wz rfl (aj (af ?_))))
 obtain ⟨v_4,h_5,hF⟩:=bind_some hF
 refine aD (β:=Unit) (λ_=>([(6,(vB v_4))]:SL_)) (λ_=>([]:Hp)) (λ_=>True) ?_ ?_
 ·refine aa (ae (vI n_1) wz rfl (ae (vI low_2) wz rfl (ae (vB (decide (n_1<low_2))) wz rfl ?_)))
  rcases au h_5 with⟨hc_6,h_5⟩|⟨hc_6,h_5⟩
  ·refine aF rfl hc_6 wz (ak wa (ak wa (ak wa (ae (vB true) wz rfl (ae (vB true) wz rfl (aj ?_))))))
   obtain rfl:=ah h_5
   exact cu
  ·refine aF rfl hc_6 wz (ae (vI n_1) wa rfl (ae (vI high_3) wa rfl (ae (vB (decide (n_1>high_3))) wa rfl (ae (vB (decide (n_1>high_3))) wz rfl (ae (vB (decide (n_1>high_3))) wz rfl (aj ?_))))))
   obtain rfl:=ah h_5
   exact cu
 ·rintro ⟨⟩ _ sl_ H_ hp_ hq_
  refine aL _ hp_ hq_ ?_
  obtain rfl:=ah hF
  exact aG (aU (.inr rfl) [(vB v_4)] ⟨rfl,trivial⟩ rfl rfl rfl)
theorem Ae {a_1:Alert} {r:Int} (hF:l5 a_1=some r) :
  FnM Tryz.prog 100 [(.d (.agg (Alert.enc a_1)))] [] (vI r) []:=by
 refine FnM.of_wH ⟨Tryz.prog,48,[],[]⟩ rfl Tryz.func100 rfl rfl (lb_ rfl) (by kernel_rfl) ?_
 unfold l5 at hF
 refine af (aa (dL 0 (.inl rfl) [(vS a_1.Id),(vS a_1.Sender),(vI a_1.Kind),(vL eS a_1.Refs),(vI a_1.At),(vI a_1.Until),(vI a_1.Weight),(vL Rect.enc a_1.Areas),(vS a_1.Text)] rfl rfl wz (λn_2=>ae (vI 0) wz rfl (aj (af (af (aa (aH wy rfl 3 rfl wz (aA 0 0 il ft xU A8 rfl rfl (vL eS a_1.Refs) rfl wz (bW yY rfl wz (ae (vB (decide ((a_1.Refs.length:Int)>20))) wz rfl (aj ?_))))))))))))
 rcases au hF with⟨hc_3,hF⟩|⟨hc_3,hF⟩
 ·refine aC rfl hc_3 (af (aa (ae (vI 2) wz rfl (aj ?_))))
  obtain rfl:=ah hF
  exact aG (aU (.inr rfl) [(vI 2)] ⟨rfl,trivial⟩ rfl rfl rfl)
 ·refine aB rfl hc_3 (ax (af (af (aa (aH wy rfl 3 rfl wz (aA 0 0 il ft xU A8 rfl rfl (vL eS a_1.Refs) rfl wz (bW yY rfl wz (ae (vI 0) wz rfl (aj ?_)))))))))
  obtain ⟨o_12,hj_13,hF⟩:=bind_some hF
  obtain ⟨hn_8,hj_13⟩:=aV hj_13
  refine aD (β:=(Unit)) (λ(s_9:Unit)=>([(1,(.ref n_2 0 0))]:SL_)) (λ(s_9:Unit)=>([(n_2,some (.cells 9 [(vS a_1.Id),(vS a_1.Sender),(vI a_1.Kind),(vL eS a_1.Refs),(vI a_1.At),(vI a_1.Until),(vI a_1.Weight),(vL Rect.enc a_1.Areas),(vS a_1.Text)]))]:Hp)) (λp=>o_12 = .go p) ?_ ?_
  ·refine ay (aS (β:=Nat×(List ByteArray)×(Unit)) (λp=>(λ(k_4:Nat) (l_5:List ByteArray) (s_9:Unit)=>([(1,(.ref n_2 0 0)),(10,(vL eS a_1.Refs)),(11,(vI (a_1.Refs.length:Int))),(12,(vI (k_4:Int)))]:SL_)) p.1 p.2.1 p.2.2) (λp=>(λ(k_4:Nat) (l_5:List ByteArray) (s_9:Unit)=>([(n_2,some (.cells 9 [(vS a_1.Id),(vS a_1.Sender),(vI a_1.Kind),(vL eS a_1.Refs),(vI a_1.At),(vI a_1.Until),(vI a_1.Weight),(vL Rect.enc a_1.Areas),(vS a_1.Text)]))]:Hp)) p.1 p.2.1 p.2.2) (λp=>forR (λk x s=>jV a_1 k x s) p.2.1 p.1 p.2.2=some o_12/\(a_1.Refs).drop p.1=p.2.1) (λp=>p.2.1.length) (0,a_1.Refs,()) ⟨hj_13,rfl⟩ rfl (aJ rfl) ?_)
   rintro ⟨k_4,l_5,s_9⟩ ⟨hL_11,hD_7⟩
   dsimp only at hL_11 hD_7
   cases l_5 with
   | nil =>
    obtain rfl:=ah hL_11
    refine af (aa (ae (vB (decide ((k_4:Int)<(a_1.Refs.length:Int)))) wz rfl (aj ?_)))
    refine af (aB rfl (drop_nil hD_7) (aP ?_))
    exact aN (s_9) rfl rfl (aJ rfl)
   | cons x_6 l_5 =>
    obtain ⟨c_,hc_10,hL_11⟩:=bind_some hL_11
    refine af (aa (ae (vB (decide ((k_4:Int)<(a_1.Refs.length:Int)))) wz rfl (aj ?_)))
    refine af (aC rfl (bf hD_7) (ax ?_))
    unfold jV at hc_10
    refine af (ay (af (aa (ae (vI (k_4:Int)) wz rfl (dK qy rfl rfl (bG hD_7) rfl wz (bB sz9 ag9 rfl (vS x_6) rfl wz (ae (vI (k_4:Int)) wz rfl (ae (vS x_6) wz rfl (aj (ay (af (aa (ae (vS x_6) wz rfl ?_)))))))))))))
    obtain ⟨r_14,hr_15,hc_10⟩:=bind_some hc_10
    refine aI (fT hr_15) rfl BJ rfl rfl rfl rfl wz (ae (vB (!r_14)) wz rfl (ae (vB (!r_14)) wz rfl (aj ?_)))
    rcases au hc_10 with⟨hc_16,hc_10⟩|⟨hc_16,hc_10⟩
    ·refine aC rfl hc_16 (af (aa (ae (vI 5) wz rfl (aj ?_))))
     obtain rfl:=ah hc_10
     obtain rfl:=ah hL_11
     obtain rfl:=ah hF
     exact aG (aU (.inr rfl) [(vI 5)] ⟨rfl,trivial⟩ rfl rfl rfl)
    ·refine aB rfl hc_16 (af ?_)
     obtain ⟨v_17,h_18,hc_10⟩:=bind_some hc_10
     refine aD (β:=Unit) (λ_=>([(1,(.ref n_2 0 0)),(4,(vS x_6)),(10,(vL eS a_1.Refs)),(11,(vI (a_1.Refs.length:Int))),(12,(vI (k_4:Int))),(21,(vB v_17))]:SL_)) (λ_=>([(n_2,some (.cells 9 [(vS a_1.Id),(vS a_1.Sender),(vI a_1.Kind),(vL eS a_1.Refs),(vI a_1.At),(vI a_1.Until),(vI a_1.Weight),(vL Rect.enc a_1.Areas),(vS a_1.Text)]))]:Hp)) (λ_=>True) ?_ ?_
     ·refine aa (ae (vI (k_4:Int)) wz rfl (ae (vB (decide ((k_4:Int)>0))) wz rfl ?_))
      rcases au h_18 with⟨hc_19,h_18⟩|⟨hc_19,h_18⟩
      ·refine aF rfl hc_19 wz (ae (vS x_6) wa rfl (aH wy rfl 3 rfl wa (aA 0 0 il ft xU A8 rfl rfl (vL eS a_1.Refs) rfl wa (ae (vI (k_4:Int)) wa rfl (ae (vI (w64 ((k_4:Int)-1))) wa rfl ?_)))))
       obtain ⟨y_20,hy_21,h_18⟩:=bind_some h_18
       refine dK qy rfl rfl hy_21 rfl wa (bB sz9 ag9 rfl (vS y_20) rfl wa (ae (vB (sLe x_6 y_20)) wa rfl (ae (vB (sLe x_6 y_20)) wz rfl (ae (vB (sLe x_6 y_20)) wz rfl (aj ?_)))))
       obtain rfl:=ah h_18
       exact cu
      ·refine aF rfl hc_19 wz (ak wa (ak wa (ak wa (ak wa (ak wa (ak wa (ak wa (ak wa (ae (vB false) wz rfl (ae (vB false) wz rfl (aj ?_)))))))))))
       obtain rfl:=ah h_18
       exact cu
     ·rintro ⟨⟩ _ sl_ H_ hp_ hq_
      refine aL _ hp_ hq_ ?_
      rcases au hc_10 with⟨hc_22,hc_10⟩|⟨hc_22,hc_10⟩
      ·refine aC rfl hc_22 (af (aa (ae (vI 7) wz rfl (aj ?_))))
       obtain rfl:=ah hc_10
       obtain rfl:=ah hL_11
       obtain rfl:=ah hF
       exact aG (aU (.inr rfl) [(vI 7)] ⟨rfl,trivial⟩ rfl rfl rfl)
      ·refine aB rfl hc_22 (af (aa (ae (vS x_6) wz rfl (aH rO rfl 0 rfl wz (aA 0 0 il ft sz9 ag9 rfl rfl (vS a_1.Id) rfl wz (ae (vB (sEq x_6 a_1.Id)) wz rfl (ae (vB (sEq x_6 a_1.Id)) wz rfl (aj ?_))))))))
       rcases au hc_10 with⟨hc_23,hc_10⟩|⟨hc_23,hc_10⟩
       ·refine aC rfl hc_23 (af (aa (ae (vI 14) wz rfl (aj ?_))))
        obtain rfl:=ah hc_10
        obtain rfl:=ah hL_11
        obtain rfl:=ah hF
        exact aG (aU (.inr rfl) [(vI 14)] ⟨rfl,trivial⟩ rfl rfl rfl)
       ·refine aB rfl hc_23 (ax (aa (fu (bA hD_7 hn_8) wz rfl (ae (vI ((k_4+1:Nat):Int)) wz rfl (aj ?_)))))
        obtain rfl:=ah hc_10
        exact aO (k_4+1,l_5,()) ⟨hL_11,aR hD_7⟩ (ls_ _) rfl (aJ rfl)
  ·rintro s_9 ho_ sl_ H_ hp_ hq_
   subst ho_
   refine aL _ hp_ hq_ (af (af (aa (aH BA rfl 2 rfl wz (aA 0 0 il ft sz3 ag3 rfl rfl (vI a_1.Kind) rfl wz (ae (vB (a_1.Kind==1)) wz rfl (aH wy rfl 3 rfl wz (aA 0 0 il ft xU A8 rfl rfl (vL eS a_1.Refs) rfl wz (bW yY rfl wz (ae (vB ((a_1.Refs.length:Int)==0)) wz rfl (PR un4 rfl rfl wz (aj ?_))))))))))))
   rcases au hF with⟨hc_24,hF⟩|⟨hc_24,hF⟩
   ·refine aC rfl hc_24 (af (aa (ae (vI 3) wz rfl (aj ?_))))
    obtain rfl:=ah hF
    exact aG (aU (.inr rfl) [(vI 3)] ⟨rfl,trivial⟩ rfl rfl rfl)
   ·refine aB rfl hc_24 (ax (af (aa (ae (vI 0) wz rfl (aj ?_)))))
    obtain rfl:=ah hF
    exact aG (aU (.inr rfl) [(vI 0)] ⟨rfl,trivial⟩ rfl rfl rfl)
theorem jk {n_1:Int} {r:Bool} (hF:dS n_1=some r) :
  FnM Tryz.prog 52 [(vI n_1)] [] (vB r) []:=by
 refine FnM.of_wH ⟨Tryz.prog,9,[],[]⟩ rfl Tryz.func52 rfl rfl (lb_ rfl) (by kernel_rfl) ?_
 unfold dS at hF
 refine af (aa (ae (vB false) wz rfl (aj (af ?_))))
 obtain ⟨v_2,h_3,hF⟩:=bind_some hF
 refine aD (β:=Unit) (λ_=>([(2,(vB v_2))]:SL_)) (λ_=>([]:Hp)) (λ_=>True) ?_ ?_
 ·refine aa (ae (vI n_1) wz rfl (ae (vB (decide (n_1>=0))) wz rfl ?_))
  rcases au h_3 with⟨hc_4,h_3⟩|⟨hc_4,h_3⟩
  ·refine aF rfl hc_4 wz (ae (vI n_1) wa rfl (ae (vB (decide (n_1<345686400000))) wa rfl (ae (vB (decide (n_1<345686400000))) wz rfl (ae (vB (decide (n_1<345686400000))) wz rfl (aj ?_)))))
   obtain rfl:=ah h_3
   exact cu
  ·refine aF rfl hc_4 wz (ak wa (ak wa (ae (vB false) wz rfl (ae (vB false) wz rfl (aj ?_)))))
   obtain rfl:=ah h_3
   exact cu
 ·rintro ⟨⟩ _ sl_ H_ hp_ hq_
  refine aL _ hp_ hq_ ?_
  obtain rfl:=ah hF
  exact aG (aU (.inr rfl) [(vB v_2)] ⟨rfl,trivial⟩ rfl rfl rfl)
theorem rX {r_1:Rect} {r:Int} (hF:iT r_1=some r) :
  FnM Tryz.prog 83 [(.d (.agg (Rect.enc r_1)))] [] (vI r) []:=by
 refine FnM.of_wH ⟨Tryz.prog,25,[],[]⟩ rfl Tryz.func83 rfl rfl (lb_ rfl) (by kernel_rfl) ?_
 unfold iT at hF
 refine af (aa (dL 0 (.inl rfl) [(vI r_1.X),(vI r_1.Y),(vI r_1.W),(vI r_1.H)] rfl rfl wz (λn_2=>ae (vI 0) wz rfl (aj (af (af ?_))))))
 obtain ⟨v_3,h_4,hF⟩:=bind_some hF
 refine aD (β:=Unit) (λ_=>([(1,(.ref n_2 0 0)),(10,(vB v_3))]:SL_)) (λ_=>([(n_2,some (.cells 4 [(vI r_1.X),(vI r_1.Y),(vI r_1.W),(vI r_1.H)]))]:Hp)) (λ_=>True) ?_ ?_
 ·refine aa (aH Cg rfl 0 rfl wz (aA 0 0 il ft sz3 ag3 rfl rfl (vI r_1.X) rfl wz ?_))
  obtain ⟨r_5,hr_6,h_4⟩:=bind_some h_4
  refine aI (bg hr_6) rfl rA rfl rfl rfl rfl wz ?_
  rcases au h_4 with⟨hc_7,h_4⟩|⟨hc_7,h_4⟩
  ·refine aF rfl hc_7 wz (ak wa (ak wa (ak wa (ae (vB true) wz rfl (aj ?_)))))
   obtain rfl:=ah h_4
   exact cu
  ·refine aF rfl hc_7 wz (aH yl rfl 1 rfl wa (aA 0 0 il ft sz3 ag3 rfl rfl (vI r_1.Y) rfl wa ?_))
   obtain ⟨r_8,hr_9,h_4⟩:=bind_some h_4
   refine aI (bg hr_9) rfl rA rfl rfl rfl rfl wa (ae (vB r_8) wz rfl (aj ?_))
   obtain rfl:=ah h_4
   exact cu
 ·rintro ⟨⟩ _ sl_ H_ hp_ hq_
  refine aL _ hp_ hq_ ?_
  rcases au hF with⟨hc_10,hF⟩|⟨hc_10,hF⟩
  ·refine aC rfl hc_10 (af (aa (ae (vI 1) wz rfl (aj ?_))))
   obtain rfl:=ah hF
   exact aG (aU (.inr rfl) [(vI 1)] ⟨rfl,trivial⟩ rfl rfl rfl)
  ·refine aB rfl hc_10 (ax (af (af ?_)))
   obtain ⟨v_11,h_12,hF⟩:=bind_some hF
   refine aD (β:=Unit) (λ_=>([(24,(vB v_11))]:SL_)) (λ_=>([(n_2,some (.cells 4 [(vI r_1.X),(vI r_1.Y),(vI r_1.W),(vI r_1.H)]))]:Hp)) (λ_=>True) ?_ ?_
   ·refine aa (aH IG rfl 2 rfl wz (aA 0 0 il ft sz3 ag3 rfl rfl (vI r_1.W) rfl wz (aH Cg rfl 0 rfl wz (aA 0 0 il ft sz3 ag3 rfl rfl (vI r_1.X) rfl wz (ae (vI (w64 (100000-r_1.X))) wz rfl ?_)))))
    obtain ⟨r_13,hr_14,h_12⟩:=bind_some h_12
    refine aI (bg hr_14) rfl rA rfl rfl rfl rfl wz ?_
    rcases au h_12 with⟨hc_15,h_12⟩|⟨hc_15,h_12⟩
    ·refine aF rfl hc_15 wz (ak wa (ak wa (ak wa (ak wa (ak wa (ak wa (ae (vB true) wz rfl (aj ?_))))))))
     obtain rfl:=ah h_12
     exact cu
    ·refine aF rfl hc_15 wz (aH Fe rfl 3 rfl wa (aA 0 0 il ft sz3 ag3 rfl rfl (vI r_1.H) rfl wa (aH yl rfl 1 rfl wa (aA 0 0 il ft sz3 ag3 rfl rfl (vI r_1.Y) rfl wa (ae (vI (w64 (100000-r_1.Y))) wa rfl ?_)))))
     obtain ⟨r_16,hr_17,h_12⟩:=bind_some h_12
     refine aI (bg hr_17) rfl rA rfl rfl rfl rfl wa (ae (vB r_16) wz rfl (aj ?_))
     obtain rfl:=ah h_12
     exact cu
   ·rintro ⟨⟩ _ sl_ H_ hp_ hq_
    refine aL _ hp_ hq_ ?_
    rcases au hF with⟨hc_18,hF⟩|⟨hc_18,hF⟩
    ·refine aC rfl hc_18 (af (aa (ae (vI 1) wz rfl (aj ?_))))
     obtain rfl:=ah hF
     exact aG (aU (.inr rfl) [(vI 1)] ⟨rfl,trivial⟩ rfl rfl rfl)
    ·refine aB rfl hc_18 (ax (af (aa (ae (vI 0) wz rfl (aj ?_)))))
     obtain rfl:=ah hF
     exact aG (aU (.inr rfl) [(vI 0)] ⟨rfl,trivial⟩ rfl rfl rfl)
theorem dB {s_1:ByteArray} {r:Int} (hF:bE s_1=some r) :
  FnM Tryz.prog 149 [(vS s_1)] [] (.d (.int .u64 r)) []:=by
 refine FnM.of_wH ⟨Tryz.prog,59,[],[]⟩ rfl Tryz.func149 rfl rfl (lb_ rfl) (by kernel_rfl) ?_
 unfold bE at hF
 refine af (aa (ae (.d (.int .u64 0)) wz rfl (aj (af (aB rfl rfl (ax (af (aW (ae (vS s_1) wz rfl ?_)))))))))
 obtain ⟨b_2,hy_3,hF⟩:=bind_some hF
 refine mE un9 rfl rfl hy_3 wz (nD un5 Ay rfl wz (ae (vS s_1) wz rfl ?_))
 obtain ⟨b_4,hy_5,hF⟩:=bind_some hF
 refine mE un9 rfl rfl hy_5 wz (nD un5 Ay rfl wz ?_)
 obtain ⟨q_6,hz_7,hF⟩:=bind_some hF
 refine C9 rfl rfl hz_7 wz (ae (.d (.int .u64 (orI .u64 (IntKind.u64.wrap (b_2.toNat:Int)) q_6))) wz rfl (ae (vS s_1) wz rfl ?_))
 obtain ⟨b_8,hy_9,hF⟩:=bind_some hF
 refine mE un9 rfl rfl hy_9 wz (nD un5 Ay rfl wz ?_)
 obtain ⟨q_10,hz_11,hF⟩:=bind_some hF
 refine C9 rfl rfl hz_11 wz (ae (.d (.int .u64 (orI .u64 (orI .u64 (IntKind.u64.wrap (b_2.toNat:Int)) q_6) q_10))) wz rfl (ae (vS s_1) wz rfl ?_))
 obtain ⟨b_12,hy_13,hF⟩:=bind_some hF
 refine mE un9 rfl rfl hy_13 wz (nD un5 Ay rfl wz ?_)
 obtain ⟨q_14,hz_15,hF⟩:=bind_some hF
 refine C9 rfl rfl hz_15 wz (ae (.d (.int .u64 (orI .u64 (orI .u64 (orI .u64 (IntKind.u64.wrap (b_2.toNat:Int)) q_6) q_10) q_14))) wz rfl (ae (vS s_1) wz rfl ?_))
 obtain ⟨b_16,hy_17,hF⟩:=bind_some hF
 refine mE un9 rfl rfl hy_17 wz (nD un5 Ay rfl wz ?_)
 obtain ⟨q_18,hz_19,hF⟩:=bind_some hF
 refine C9 rfl rfl hz_19 wz (ae (.d (.int .u64 (orI .u64 (orI .u64 (orI .u64 (orI .u64 (IntKind.u64.wrap (b_2.toNat:Int)) q_6) q_10) q_14) q_18))) wz rfl (ae (vS s_1) wz rfl ?_))
 obtain ⟨b_20,hy_21,hF⟩:=bind_some hF
 refine mE un9 rfl rfl hy_21 wz (nD un5 Ay rfl wz ?_)
 obtain ⟨q_22,hz_23,hF⟩:=bind_some hF
 refine C9 rfl rfl hz_23 wz (ae (.d (.int .u64 (orI .u64 (orI .u64 (orI .u64 (orI .u64 (orI .u64 (IntKind.u64.wrap (b_2.toNat:Int)) q_6) q_10) q_14) q_18) q_22))) wz rfl (ae (vS s_1) wz rfl ?_))
 obtain ⟨b_24,hy_25,hF⟩:=bind_some hF
 refine mE un9 rfl rfl hy_25 wz (nD un5 Ay rfl wz ?_)
 obtain ⟨q_26,hz_27,hF⟩:=bind_some hF
 refine C9 rfl rfl hz_27 wz (ae (.d (.int .u64 (orI .u64 (orI .u64 (orI .u64 (orI .u64 (orI .u64 (orI .u64 (IntKind.u64.wrap (b_2.toNat:Int)) q_6) q_10) q_14) q_18) q_22) q_26))) wz rfl (ae (vS s_1) wz rfl ?_))
 obtain ⟨b_28,hy_29,hF⟩:=bind_some hF
 refine mE un9 rfl rfl hy_29 wz (nD un5 Ay rfl wz ?_)
 obtain ⟨q_30,hz_31,hF⟩:=bind_some hF
 refine C9 rfl rfl hz_31 wz (ae (.d (.int .u64 (orI .u64 (orI .u64 (orI .u64 (orI .u64 (orI .u64 (orI .u64 (orI .u64 (IntKind.u64.wrap (b_2.toNat:Int)) q_6) q_10) q_14) q_18) q_22) q_26) q_30))) wz rfl (ae (.d (.int .u64 (orI .u64 (orI .u64 (orI .u64 (orI .u64 (orI .u64 (orI .u64 (orI .u64 (IntKind.u64.wrap (b_2.toNat:Int)) q_6) q_10) q_14) q_18) q_22) q_26) q_30))) wz rfl (aj (aL (H0:=([]:Hp)) ([(2,(.d (.int .u64 (orI .u64 (orI .u64 (orI .u64 (orI .u64 (orI .u64 (orI .u64 (orI .u64 (IntKind.u64.wrap (b_2.toNat:Int)) q_6) q_10) q_14) q_18) q_22) q_26) q_30))))]:SL_) (by kernel_rfl) (uP (by kernel_rfl)) ?_))))
 obtain rfl:=ah hF
 exact aG (aU (.inr rfl) [(.d (.int .u64 (orI .u64 (orI .u64 (orI .u64 (orI .u64 (orI .u64 (orI .u64 (orI .u64 (IntKind.u64.wrap (b_2.toNat:Int)) q_6) q_10) q_14) q_18) q_22) q_26) q_30)))] ⟨rfl,trivial⟩ rfl rfl rfl)
theorem rZ {s_1:ByteArray} {r:Bool} (hF:gG s_1=some r) :
  FnM Tryz.prog 133 [(vS s_1)] [] (vB r) []:=by
 refine FnM.of_wH ⟨Tryz.prog,169,[],[]⟩ rfl Tryz.func133 rfl rfl (lb_ rfl) (by kernel_rfl) ?_
 unfold gG at hF
 refine af (aa (ae (vB false) wz rfl (aj (af ?_))))
 obtain ⟨o_10,hj_11,hF⟩:=bind_some hF
 obtain ⟨nq_71,hj_11⟩:=bR hj_11
 refine aD (β:=(ByteArray)) (λ(s_7:ByteArray)=>([]:SL_)) (λ(s_7:ByteArray)=>([]:Hp)) (λp=>o_10 = .go p) ?_ ?_
 ·refine ay (aS (β:=Nat×(ByteArray)) (λp=>(λ(k_2:Nat) (s_7:ByteArray)=>([(0,(vS s_7))]:SL_)) p.1 p.2) (λp=>(λ(k_2:Nat) (s_7:ByteArray)=>([]:Hp)) p.1 p.2) (λp=>iterN (λs=>fF s) p.1 p.2=some o_10) (λp=>p.1) (nq_71,s_1) hj_11 rfl (aJ rfl) ?_)
  rintro ⟨k_2,s_7⟩ hL_9
  dsimp only at hL_9
  cases k_2 with
  | zero=>cases hL_9
  | succ k_2 =>
   obtain ⟨c_,hc_8,hL_9⟩:=bind_some hL_9
   unfold fF at hc_8
   refine af (af (aa (ae (vS s_7) wz rfl (qF un9 rfl wz (ae (vB (decide ((s_7.size:Int)>0))) wz rfl (aj ?_))))))
   rcases au hc_8 with⟨hc_12,hc_8⟩|⟨hc_12,hc_8⟩
   ·refine aC rfl hc_12 (ax (ay (af (aa (ae (vS s_7) wz rfl ?_)))))
    obtain ⟨b_13,hy_14,hc_8⟩:=bind_some hc_8
    refine mE un9 rfl rfl hy_14 wz (ae (.d (.int .u8 (b_13.toNat:Int))) wz rfl (aj (af (af (aa (ae (.d (.int .u8 (b_13.toNat:Int))) wz rfl (ae (vB (decide ((b_13.toNat:Int)<128))) wz rfl (aj ?_))))))))
    rcases au hc_8 with⟨hc_15,hc_8⟩|⟨hc_15,hc_8⟩
    ·refine aC rfl hc_15 (af (aa (ae (vS s_7) wz rfl ?_)))
     obtain ⟨y_16,hy_17,hc_8⟩:=bind_some hc_8
     refine iH un9 rfl rfl hy_17 wz (ae (vS y_16) wz rfl (aj (af (af ?_))))
     obtain ⟨v_18,h_19,hc_8⟩:=bind_some hc_8
     refine aD (β:=Unit) (λ_=>([(0,(vS y_16)),(24,(vB v_18))]:SL_)) (λ_=>([]:Hp)) (λ_=>True) ?_ ?_
     ·refine aa (ae (vS y_16) wz rfl (qF un9 rfl wz (ae (vB (decide ((y_16.size:Int)>8))) wz rfl ?_)))
      rcases au h_19 with⟨hc_20,h_19⟩|⟨hc_20,h_19⟩
      ·refine aF rfl hc_20 wz (ae (vS y_16) wa rfl ?_)
       obtain ⟨r_21,hr_22,h_19⟩:=bind_some h_19
       refine aI (dB hr_22) rfl EK rfl rfl rfl rfl wa (ae (.d (.int .u64 (ru .u64 r_21 9259542123273814144))) wa rfl (ae (vB ((ru .u64 r_21 9259542123273814144)==0)) wa rfl (ae (vB ((ru .u64 r_21 9259542123273814144)==0)) wz rfl (aj ?_))))
       obtain rfl:=ah h_19
       exact cu
      ·refine aF rfl hc_20 wz (ak wa (ak wa (ak wa (ak wa (ae (vB false) wz rfl (aj ?_))))))
       obtain rfl:=ah h_19
       exact cu
     ·rintro ⟨⟩ _ sl_ H_ hp_ hq_
      refine aL _ hp_ hq_ ?_
      obtain ⟨v_23,h_24,hc_8⟩:=bind_some hc_8
      refine aD (β:=Unit) (λ_=>([(0,(vS v_23))]:SL_)) (λ_=>([]:Hp)) (λ_=>True) ?_ ?_
      ·rcases au h_24 with⟨hc_25,h_24⟩|⟨hc_25,h_24⟩
       ·refine aC rfl hc_25 (af (aa (ae (vS y_16) wz rfl ?_)))
        obtain ⟨y_26,hy_27,h_24⟩:=bind_some h_24
        refine iH un9 rfl rfl hy_27 wz (ae (vS y_26) wz rfl (aj (af ?_)))
        obtain ⟨v_28,h_29,h_24⟩:=bind_some h_24
        refine aD (β:=Unit) (λ_=>([(0,(vS y_26)),(39,(vB v_28))]:SL_)) (λ_=>([]:Hp)) (λ_=>True) ?_ ?_
        ·refine aW (ae (vS y_26) wz rfl (qF un9 rfl wz (ae (vB (decide ((y_26.size:Int)>16))) wz rfl ?_)))
         rcases au h_29 with⟨hc_30,h_29⟩|⟨hc_30,h_29⟩
         ·refine aF rfl hc_30 wz (ae (vS y_26) wa rfl ?_)
          obtain ⟨r_31,hr_32,h_29⟩:=bind_some h_29
          refine aI (dB hr_32) rfl EK rfl rfl rfl rfl wa (ae (vS y_26) wa rfl ?_)
          obtain ⟨y_33,hy_34,h_29⟩:=bind_some h_29
          refine iH un9 rfl rfl hy_34 wa ?_
          obtain ⟨r_35,hr_36,h_29⟩:=bind_some h_29
          refine aI (dB hr_36) rfl EK rfl rfl rfl rfl wa (ae (.d (.int .u64 (orI .u64 r_31 r_35))) wa rfl (ae (.d (.int .u64 (ru .u64 (orI .u64 r_31 r_35) 9259542123273814144))) wa rfl (ae (vB ((ru .u64 (orI .u64 r_31 r_35) 9259542123273814144)==0)) wa rfl (ae (vB ((ru .u64 (orI .u64 r_31 r_35) 9259542123273814144)==0)) wz rfl (aj ?_)))))
          obtain rfl:=ah h_29
          exact cu
         ·refine aF rfl hc_30 wz (ak wa (ak wa (ak wa (ak wa (ak wa (ak wa (ak wa (ak wa (ae (vB false) wz rfl (aj ?_))))))))))
          obtain rfl:=ah h_29
          exact cu
        ·rintro ⟨⟩ _ sl_ H_ hp_ hq_
         refine aL _ hp_ hq_ ?_
         rcases au h_24 with⟨hc_37,h_24⟩|⟨hc_37,h_24⟩
         ·refine aC rfl hc_37 (af (aa (ae (vS y_26) wz rfl ?_)))
          obtain ⟨y_38,hy_39,h_24⟩:=bind_some h_24
          refine iH un9 rfl rfl hy_39 wz (ae (vS y_38) wz rfl (aj ?_))
          obtain ⟨o_48,hj_49,h_24⟩:=bind_some h_24
          obtain ⟨nq_70,hj_49⟩:=bR hj_49
          refine aD (β:=(ByteArray)) (λ(s_45:ByteArray)=>([(0,(vS s_45))]:SL_)) (λ(s_45:ByteArray)=>([]:Hp)) (λp=>o_48 = .go p) ?_ ?_
          ·refine ay (aS (β:=Nat×(ByteArray)) (λp=>(λ(k_40:Nat) (s_45:ByteArray)=>([(0,(vS s_45))]:SL_)) p.1 p.2) (λp=>(λ(k_40:Nat) (s_45:ByteArray)=>([]:Hp)) p.1 p.2) (λp=>iterN (λs=>gZ s) p.1 p.2=some o_48) (λp=>p.1) (nq_70,y_38) hj_49 rfl (aJ rfl) ?_)
           rintro ⟨k_40,s_45⟩ hL_47
           dsimp only at hL_47
           cases k_40 with
           | zero=>cases hL_47
           | succ k_40 =>
            obtain ⟨c_,hc_46,hL_47⟩:=bind_some hL_47
            unfold gZ at hc_46
            refine af (af ?_)
            obtain ⟨v_50,h_51,hc_46⟩:=bind_some hc_46
            refine aD (β:=Unit) (λ_=>([(0,(vS s_45)),(62,(vB v_50))]:SL_)) (λ_=>([]:Hp)) (λ_=>True) ?_ ?_
            ·refine aW (ae (vS s_45) wz rfl (qF un9 rfl wz (ae (vB (decide ((s_45.size:Int)>32))) wz rfl ?_)))
             rcases au h_51 with⟨hc_52,h_51⟩|⟨hc_52,h_51⟩
             ·refine aF rfl hc_52 wz (ae (vS s_45) wa rfl ?_)
              obtain ⟨r_53,hr_54,h_51⟩:=bind_some h_51
              refine aI (dB hr_54) rfl EK rfl rfl rfl rfl wa (ae (vS s_45) wa rfl ?_)
              obtain ⟨y_55,hy_56,h_51⟩:=bind_some h_51
              refine iH un9 rfl rfl hy_56 wa ?_
              obtain ⟨r_57,hr_58,h_51⟩:=bind_some h_51
              refine aI (dB hr_58) rfl EK rfl rfl rfl rfl wa (ae (.d (.int .u64 (orI .u64 r_53 r_57))) wa rfl (ae (vS s_45) wa rfl ?_))
              obtain ⟨y_59,hy_60,h_51⟩:=bind_some h_51
              refine iH un9 rfl rfl hy_60 wa ?_
              obtain ⟨r_61,hr_62,h_51⟩:=bind_some h_51
              refine aI (dB hr_62) rfl EK rfl rfl rfl rfl wa (ae (vS s_45) wa rfl ?_)
              obtain ⟨y_63,hy_64,h_51⟩:=bind_some h_51
              refine iH un9 rfl rfl hy_64 wa ?_
              obtain ⟨r_65,hr_66,h_51⟩:=bind_some h_51
              refine aI (dB hr_66) rfl EK rfl rfl rfl rfl wa (ae (.d (.int .u64 (orI .u64 r_61 r_65))) wa rfl (ae (.d (.int .u64 (orI .u64 (orI .u64 r_53 r_57) (orI .u64 r_61 r_65)))) wa rfl (ae (.d (.int .u64 (ru .u64 (orI .u64 (orI .u64 r_53 r_57) (orI .u64 r_61 r_65)) 9259542123273814144))) wa rfl (ae (vB ((ru .u64 (orI .u64 (orI .u64 r_53 r_57) (orI .u64 r_61 r_65)) 9259542123273814144)==0)) wa rfl (ae (vB ((ru .u64 (orI .u64 (orI .u64 r_53 r_57) (orI .u64 r_61 r_65)) 9259542123273814144)==0)) wz rfl (aj ?_))))))
              obtain rfl:=ah h_51
              exact cu
             ·refine aF rfl hc_52 wz (ak wa (ak wa (ak wa (ak wa (ak wa (ak wa (ak wa (ak wa (ak wa (ak wa (ak wa (ak wa (ak wa (ak wa (ak wa (ak wa (ae (vB false) wz rfl (aj ?_))))))))))))))))))
              obtain rfl:=ah h_51
              exact cu
            ·rintro ⟨⟩ _ sl_ H_ hp_ hq_
             refine aL _ hp_ hq_ ?_
             rcases au hc_46 with⟨hc_67,hc_46⟩|⟨hc_67,hc_46⟩
             ·refine aC rfl hc_67 (ax (ay (aa (ae (vS s_45) wz rfl ?_))))
              obtain ⟨y_68,hy_69,hc_46⟩:=bind_some hc_46
              refine iH un9 rfl rfl hy_69 wz (ae (vS y_68) wz rfl (aj ?_))
              obtain rfl:=ah hc_46
              exact aO (k_40,y_68) hL_47 (ls_ _) rfl (aJ rfl)
             ·refine aB rfl hc_67 (aP ?_)
              obtain rfl:=ah hc_46
              obtain rfl:=ah hL_47
              exact aN (s_45) rfl rfl (aJ rfl)
          ·rintro s_45 ho_ sl_ H_ hp_ hq_
           subst ho_
           obtain rfl:=ah h_24
           exact aN () trivial (MH [0] hp_ rfl) (Oa hq_ (aJ rfl))
         ·refine aB rfl hc_37 (ax ?_)
          obtain rfl:=ah h_24
          exact cu
       ·refine aB rfl hc_25 (ax ?_)
        obtain rfl:=ah h_24
        exact cu
      ·rintro ⟨⟩ _ sl_ H_ hp_ hq_
       refine aL _ hp_ hq_ (aP ?_)
       obtain rfl:=ah hc_8
       exact aO (k_2,v_23) hL_9 (ls_ _) rfl (aJ rfl)
    ·refine aB rfl hc_15 (ax (af (aa (ae (.d (.int .u8 (b_13.toNat:Int))) wz rfl ?_))))
     cases hc_8
   ·refine aB rfl hc_12 (aP ?_)
    obtain rfl:=ah hc_8
    obtain rfl:=ah hL_9
    exact aN (s_7) rfl rfl (aJ rfl)
 ·rintro s_7 ho_ sl_ H_ hp_ hq_
  subst ho_
  refine aL _ hp_ hq_ (af (aa (ae (vB true) wz rfl (aj ?_))))
  obtain rfl:=ah hF
  exact aG (aU (.inr rfl) [(vB true)] ⟨rfl,trivial⟩ rfl rfl rfl)
theorem uQ {s_1:ByteArray} {c_2:Int} {r:ByteArray} (hF:strings_trimRightByte s_1 c_2=some r) :
  FnM Tryz.prog 151 [(vS s_1),(.d (.int .u8 c_2))] [] (vS r) []:=by
 refine FnM.of_wH ⟨Tryz.prog,23,[],[]⟩ rfl Tryz.func151 rfl rfl (lb_ rfl) (by kernel_rfl) ?_
 unfold strings_trimRightByte at hF
 refine af (aa (ae (vS (⟨#[]⟩:ByteArray)) wz rfl (aj (af ?_))))
 obtain ⟨o_11,hj_12,hF⟩:=bind_some hF
 obtain ⟨nq_21,hj_12⟩:=bR hj_12
 refine aD (β:=(ByteArray)) (λ(s_8:ByteArray)=>([(0,(vS s_8))]:SL_)) (λ(s_8:ByteArray)=>([]:Hp)) (λp=>o_11 = .go p) ?_ ?_
 ·refine ay (aS (β:=Nat×(ByteArray)) (λp=>(λ(k_3:Nat) (s_8:ByteArray)=>([(0,(vS s_8)),(1,(.d (.int .u8 c_2)))]:SL_)) p.1 p.2) (λp=>(λ(k_3:Nat) (s_8:ByteArray)=>([]:Hp)) p.1 p.2) (λp=>iterN (λs=>iZ c_2 s) p.1 p.2=some o_11) (λp=>p.1) (nq_21,s_1) hj_12 rfl (aJ rfl) ?_)
  rintro ⟨k_3,s_8⟩ hL_10
  dsimp only at hL_10
  cases k_3 with
  | zero=>cases hL_10
  | succ k_3 =>
   obtain ⟨c_,hc_9,hL_10⟩:=bind_some hL_10
   unfold iZ at hc_9
   refine af (af ?_)
   obtain ⟨v_13,h_14,hc_9⟩:=bind_some hc_9
   refine aD (β:=Unit) (λ_=>([(0,(vS s_8)),(1,(.d (.int .u8 c_2))),(16,(vB v_13))]:SL_)) (λ_=>([]:Hp)) (λ_=>True) ?_ ?_
   ·refine aa (ae (vS s_8) wz rfl (qF un9 rfl wz (ae (vB (decide ((s_8.size:Int)>0))) wz rfl ?_)))
    rcases au h_14 with⟨hc_15,h_14⟩|⟨hc_15,h_14⟩
    ·refine aF rfl hc_15 wz (ae (vS s_8) wa rfl (ae (vS s_8) wa rfl (qF un9 rfl wa (ae (vI (w64 ((s_8.size:Int)-1))) wa rfl ?_))))
     obtain ⟨b_16,hy_17,h_14⟩:=bind_some h_14
     refine mE un9 rfl rfl hy_17 wa (ae (.d (.int .u8 c_2)) wa rfl (ae (vB ((b_16.toNat:Int)==c_2)) wa rfl (ae (vB ((b_16.toNat:Int)==c_2)) wz rfl (aj ?_))))
     obtain rfl:=ah h_14
     exact cu
    ·refine aF rfl hc_15 wz (ak wa (ak wa (ak wa (ak wa (ak wa (ak wa (ak wa (ae (vB false) wz rfl (aj ?_)))))))))
     obtain rfl:=ah h_14
     exact cu
   ·rintro ⟨⟩ _ sl_ H_ hp_ hq_
    refine aL _ hp_ hq_ ?_
    rcases au hc_9 with⟨hc_18,hc_9⟩|⟨hc_18,hc_9⟩
    ·refine aC rfl hc_18 (ax (ay (aa (ae (vS s_8) wz rfl (ae (vS s_8) wz rfl (qF un9 rfl wz (ae (vI (w64 ((s_8.size:Int)-1))) wz rfl ?_)))))))
     obtain ⟨y_19,hy_20,hc_9⟩:=bind_some hc_9
     refine Ey un9 rfl rfl hy_20 wz (ae (vS y_19) wz rfl (aj ?_))
     obtain rfl:=ah hc_9
     exact aO (k_3,y_19) hL_10 (ls_ _) rfl (aJ rfl)
    ·refine aB rfl hc_18 (aP ?_)
     obtain rfl:=ah hc_9
     obtain rfl:=ah hL_10
     exact aN (s_8) rfl rfl (aJ rfl)
 ·rintro s_8 ho_ sl_ H_ hp_ hq_
  subst ho_
  refine aL _ hp_ hq_ (af (aa (ae (vS s_8) wz rfl (ae (vS s_8) wz rfl (aj ?_)))))
  obtain rfl:=ah hF
  exact aG (aU (.inr rfl) [(vS s_8)] ⟨rfl,trivial⟩ rfl rfl rfl)
theorem vG {s_1:ByteArray} {c_2:Int} {r:ByteArray} (hF:strings_trimLeftByte s_1 c_2=some r) :
  FnM Tryz.prog 150 [(vS s_1),(.d (.int .u8 c_2))] [] (vS r) []:=by
 refine FnM.of_wH ⟨Tryz.prog,17,[],[]⟩ rfl Tryz.func150 rfl rfl (lb_ rfl) (by kernel_rfl) ?_
 unfold strings_trimLeftByte at hF
 refine af (aa (ae (vS (⟨#[]⟩:ByteArray)) wz rfl (aj (af ?_))))
 obtain ⟨o_11,hj_12,hF⟩:=bind_some hF
 obtain ⟨nq_21,hj_12⟩:=bR hj_12
 refine aD (β:=(ByteArray)) (λ(s_8:ByteArray)=>([(0,(vS s_8))]:SL_)) (λ(s_8:ByteArray)=>([]:Hp)) (λp=>o_11 = .go p) ?_ ?_
 ·refine ay (aS (β:=Nat×(ByteArray)) (λp=>(λ(k_3:Nat) (s_8:ByteArray)=>([(0,(vS s_8)),(1,(.d (.int .u8 c_2)))]:SL_)) p.1 p.2) (λp=>(λ(k_3:Nat) (s_8:ByteArray)=>([]:Hp)) p.1 p.2) (λp=>iterN (λs=>ji c_2 s) p.1 p.2=some o_11) (λp=>p.1) (nq_21,s_1) hj_12 rfl (aJ rfl) ?_)
  rintro ⟨k_3,s_8⟩ hL_10
  dsimp only at hL_10
  cases k_3 with
  | zero=>cases hL_10
  | succ k_3 =>
   obtain ⟨c_,hc_9,hL_10⟩:=bind_some hL_10
   unfold ji at hc_9
   refine af (af ?_)
   obtain ⟨v_13,h_14,hc_9⟩:=bind_some hc_9
   refine aD (β:=Unit) (λ_=>([(0,(vS s_8)),(1,(.d (.int .u8 c_2))),(13,(vB v_13))]:SL_)) (λ_=>([]:Hp)) (λ_=>True) ?_ ?_
   ·refine aa (ae (vS s_8) wz rfl (qF un9 rfl wz (ae (vB (decide ((s_8.size:Int)>0))) wz rfl ?_)))
    rcases au h_14 with⟨hc_15,h_14⟩|⟨hc_15,h_14⟩
    ·refine aF rfl hc_15 wz (ae (vS s_8) wa rfl ?_)
     obtain ⟨b_16,hy_17,h_14⟩:=bind_some h_14
     refine mE un9 rfl rfl hy_17 wa (ae (.d (.int .u8 c_2)) wa rfl (ae (vB ((b_16.toNat:Int)==c_2)) wa rfl (ae (vB ((b_16.toNat:Int)==c_2)) wz rfl (aj ?_))))
     obtain rfl:=ah h_14
     exact cu
    ·refine aF rfl hc_15 wz (ak wa (ak wa (ak wa (ak wa (ae (vB false) wz rfl (aj ?_))))))
     obtain rfl:=ah h_14
     exact cu
   ·rintro ⟨⟩ _ sl_ H_ hp_ hq_
    refine aL _ hp_ hq_ ?_
    rcases au hc_9 with⟨hc_18,hc_9⟩|⟨hc_18,hc_9⟩
    ·refine aC rfl hc_18 (ax (ay (aa (ae (vS s_8) wz rfl ?_))))
     obtain ⟨y_19,hy_20,hc_9⟩:=bind_some hc_9
     refine iH un9 rfl rfl hy_20 wz (ae (vS y_19) wz rfl (aj ?_))
     obtain rfl:=ah hc_9
     exact aO (k_3,y_19) hL_10 (ls_ _) rfl (aJ rfl)
    ·refine aB rfl hc_18 (aP ?_)
     obtain rfl:=ah hc_9
     obtain rfl:=ah hL_10
     exact aN (s_8) rfl rfl (aJ rfl)
 ·rintro s_8 ho_ sl_ H_ hp_ hq_
  subst ho_
  refine aL _ hp_ hq_ (af (aa (ae (vS s_8) wz rfl (ae (vS s_8) wz rfl (aj ?_)))))
  obtain rfl:=ah hF
  exact aG (aU (.inr rfl) [(vS s_8)] ⟨rfl,trivial⟩ rfl rfl rfl)
theorem Dn {s_1:ByteArray} {cutset_2:ByteArray} {r:ByteArray} (hF:qc s_1 cutset_2=some r) :
  FnM Tryz.prog 134 [(vS s_1),(vS cutset_2)] [] (vS r) []:=by
 refine FnM.of_wH ⟨Tryz.prog,43,[],[]⟩ rfl Tryz.func134 rfl rfl (lb_ rfl) (by kernel_rfl) ?_
 unfold qc at hF
 refine af (aa (ae (vS (⟨#[]⟩:ByteArray)) wz rfl (aj (af (af ?_)))))
 obtain ⟨v_3,h_4,hF⟩:=bind_some hF
 refine aD (β:=Unit) (λ_=>([(0,(vS s_1)),(1,(vS cutset_2)),(12,(vB v_3))]:SL_)) (λ_=>([]:Hp)) (λ_=>True) ?_ ?_
 ·refine aa (ae (vS s_1) wz rfl (ae (vB (sEq s_1 (⟨#[]⟩:ByteArray))) wz rfl ?_))
  rcases au h_4 with⟨hc_5,h_4⟩|⟨hc_5,h_4⟩
  ·refine aF rfl hc_5 wz (ak wa (ak wa (ae (vB true) wz rfl (aj ?_))))
   obtain rfl:=ah h_4
   exact cu
  ·refine aF rfl hc_5 wz (ae (vS cutset_2) wa rfl (ae (vB (sEq cutset_2 (⟨#[]⟩:ByteArray))) wa rfl (ae (vB (sEq cutset_2 (⟨#[]⟩:ByteArray))) wz rfl (aj ?_))))
   obtain rfl:=ah h_4
   exact cu
 ·rintro ⟨⟩ _ sl_ H_ hp_ hq_
  refine aL _ hp_ hq_ ?_
  rcases au hF with⟨hc_6,hF⟩|⟨hc_6,hF⟩
  ·refine aC rfl hc_6 (af (aa (ae (vS s_1) wz rfl (ae (vS s_1) wz rfl (aj ?_)))))
   obtain rfl:=ah hF
   exact aG (aU (.inr rfl) [(vS s_1)] ⟨rfl,trivial⟩ rfl rfl rfl)
  ·refine aB rfl hc_6 (ax (af (af ?_)))
   obtain ⟨v_7,h_8,hF⟩:=bind_some hF
   refine aD (β:=Unit) (λ_=>([(0,(vS s_1)),(1,(vS cutset_2)),(21,(vB v_7))]:SL_)) (λ_=>([]:Hp)) (λ_=>True) ?_ ?_
   ·refine aa (ae (vS cutset_2) wz rfl (qF un9 rfl wz (ae (vB ((cutset_2.size:Int)==1)) wz rfl ?_)))
    rcases au h_8 with⟨hc_9,h_8⟩|⟨hc_9,h_8⟩
    ·refine aF rfl hc_9 wz (ae (vS cutset_2) wa rfl ?_)
     obtain ⟨b_10,hy_11,h_8⟩:=bind_some h_8
     refine mE un9 rfl rfl hy_11 wa (ae (vB (decide ((b_10.toNat:Int)<128))) wa rfl (ae (vB (decide ((b_10.toNat:Int)<128))) wz rfl (aj ?_)))
     obtain rfl:=ah h_8
     exact cu
    ·refine aF rfl hc_9 wz (ak wa (ak wa (ak wa (ae (vB false) wz rfl (aj ?_)))))
     obtain rfl:=ah h_8
     exact cu
   ·rintro ⟨⟩ _ sl_ H_ hp_ hq_
    refine aL _ hp_ hq_ ?_
    rcases au hF with⟨hc_12,hF⟩|⟨hc_12,hF⟩
    ·refine aC rfl hc_12 (af (aW (ae (vS s_1) wz rfl (ae (vS cutset_2) wz rfl ?_))))
     obtain ⟨b_13,hy_14,hF⟩:=bind_some hF
     refine mE un9 rfl rfl hy_14 wz ?_
     obtain ⟨r_15,hr_16,hF⟩:=bind_some hF
     refine aI (uQ hr_16) rfl hb151 rfl rfl rfl rfl wz (ae (vS cutset_2) wz rfl ?_)
     obtain ⟨b_17,hy_18,hF⟩:=bind_some hF
     refine mE un9 rfl rfl hy_18 wz ?_
     obtain ⟨r_19,hr_20,hF⟩:=bind_some hF
     refine aI (vG hr_20) rfl hb150 rfl rfl rfl rfl wz (ae (vS r_19) wz rfl (aj ?_))
     obtain rfl:=ah hF
     exact aG (aU (.inr rfl) [(vS r_19)] ⟨rfl,trivial⟩ rfl rfl rfl)
    ·refine aB rfl hc_12 (ax (af (af (aa (ae (vS cutset_2) wz rfl ?_)))))
     cases hF
theorem zm {x0:ByteArray} {x1:ByteArray} {r:Bool} (hF:strings_Contains x0 x1=some r) :
  FnM Tryz.prog 135 [(vS x0),(vS x1)] [] (vB r) [] :=
 JS Tryz.strings_Contains J3 hF
theorem Eg {s_1:ByteArray} {r:Bool} (hF:o5 s_1=some r) :
  FnM Tryz.prog 101 [(vS s_1)] [] (vB r) []:=by
 refine FnM.of_wH ⟨Tryz.prog,33,[],[]⟩ rfl Tryz.func101 rfl rfl (lb_ rfl) (by kernel_rfl) ?_
 unfold o5 at hF
 refine af (aa (ae (vB false) wz rfl (aj (af (af (aa (ae (vI 0) wz rfl (aj ?_))))))))
 obtain ⟨o_10,hj_11,hF⟩:=bind_some hF
 obtain ⟨nq_31,hj_11⟩:=bR hj_11
 refine aD (β:=(Int)) (λ(s_7:Int)=>([(0,(vS s_1))]:SL_)) (λ(s_7:Int)=>([]:Hp)) (λp=>o_10 = .go p) ?_ ?_
 ·refine ay (aS (β:=Nat×(Int)) (λp=>(λ(k_2:Nat) (s_7:Int)=>([(0,(vS s_1)),(3,(vI s_7))]:SL_)) p.1 p.2) (λp=>(λ(k_2:Nat) (s_7:Int)=>([]:Hp)) p.1 p.2) (λp=>iterN (λs=>pY s_1 s) p.1 p.2=some o_10) (λp=>p.1) (nq_31,0) hj_11 rfl (aJ rfl) ?_)
  rintro ⟨k_2,s_7⟩ hL_9
  dsimp only at hL_9
  cases k_2 with
  | zero=>cases hL_9
  | succ k_2 =>
   obtain ⟨c_,hc_8,hL_9⟩:=bind_some hL_9
   unfold pY at hc_8
   refine af (af (aa (ae (vI s_7) wz rfl (ae (vS s_1) wz rfl (qF un9 rfl wz (ae (vB (decide (s_7<(s_1.size:Int)))) wz rfl (aj ?_)))))))
   rcases au hc_8 with⟨hc_12,hc_8⟩|⟨hc_12,hc_8⟩
   ·refine aC rfl hc_12 (ax (af (ay (af ?_))))
    obtain ⟨v_13,h_14,hc_8⟩:=bind_some hc_8
    refine aD (β:=Unit) (λ_=>([(0,(vS s_1)),(3,(vI s_7)),(19,(vB v_13))]:SL_)) (λ_=>([]:Hp)) (λ_=>True) ?_ ?_
    ·refine aa (ae (vS s_1) wz rfl (ae (vI s_7) wz rfl ?_))
     obtain ⟨b_15,hy_16,h_14⟩:=bind_some h_14
     refine mE un9 rfl rfl hy_16 wz (ae (vB (decide ((b_15.toNat:Int)<32))) wz rfl ?_)
     rcases au h_14 with⟨hc_17,h_14⟩|⟨hc_17,h_14⟩
     ·refine aF rfl hc_17 wz (ak wa (ak wa (ak wa (ak wa (ae (vB true) wz rfl (aj ?_))))))
      obtain rfl:=ah h_14
      exact cu
     ·refine aF rfl hc_17 wz (ae (vS s_1) wa rfl (ae (vI s_7) wa rfl ?_))
      obtain ⟨b_18,hy_19,h_14⟩:=bind_some h_14
      refine mE un9 rfl rfl hy_19 wa (ae (vB ((b_18.toNat:Int)==127)) wa rfl (ae (vB ((b_18.toNat:Int)==127)) wz rfl (aj ?_)))
      obtain rfl:=ah h_14
      exact cu
    ·rintro ⟨⟩ _ sl_ H_ hp_ hq_
     refine aL _ hp_ hq_ ?_
     rcases au hc_8 with⟨hc_20,hc_8⟩|⟨hc_20,hc_8⟩
     ·refine aC rfl hc_20 (af (aa (ae (vB false) wz rfl (aj ?_))))
      obtain rfl:=ah hc_8
      obtain rfl:=ah hL_9
      obtain rfl:=ah hF
      exact aG (aU (.inr rfl) [(vB false)] ⟨rfl,trivial⟩ rfl rfl rfl)
     ·refine aB rfl hc_20 (ax (aa (ae (vI s_7) wz rfl (ae (vI (w64 (s_7+1))) wz rfl (ae (vI (w64 (s_7+1))) wz rfl (aj ?_))))))
      obtain rfl:=ah hc_8
      exact aO (k_2,(w64 (s_7+1))) hL_9 (ls_ _) rfl (aJ rfl)
   ·refine aB rfl hc_12 (aP ?_)
    obtain rfl:=ah hc_8
    obtain rfl:=ah hL_9
    exact aN (s_7) rfl rfl (aJ rfl)
 ·rintro s_7 ho_ sl_ H_ hp_ hq_
  subst ho_
  refine aL _ hp_ hq_ (af ?_)
  obtain ⟨v_21,h_22,hF⟩:=bind_some hF
  refine aD (β:=Unit) (λ_=>([(2,(vB v_21))]:SL_)) (λ_=>([]:Hp)) (λ_=>True) ?_ ?_
  ·refine aa (ae (vS s_1) wz rfl ?_)
   obtain ⟨r_23,hr_24,h_22⟩:=bind_some h_22
   refine aI (rZ hr_24) rfl hb133 rfl rfl rfl rfl wz ?_
   rcases au h_22 with⟨hc_25,h_22⟩|⟨hc_25,h_22⟩
   ·refine aF rfl hc_25 wz (ae (vS s_1) wa rfl ?_)
    obtain ⟨r_26,hr_27,h_22⟩:=bind_some h_22
    refine aI (Dn hr_27) rfl hb134 rfl rfl rfl rfl wa (ae (vS s_1) wa rfl (ae (vB (sEq r_26 s_1)) wa rfl (ae (vB (sEq r_26 s_1)) wz rfl ?_)))
    rcases au h_22 with⟨hc_28,h_22⟩|⟨hc_28,h_22⟩
    ·refine aF rfl hc_28 wz (ae (vS s_1) wa rfl ?_)
     obtain ⟨r_29,hr_30,h_22⟩:=bind_some h_22
     refine aI (zm hr_30) rfl hb135 rfl rfl rfl rfl wa (ae (vB (!r_29)) wa rfl (ae (vB (!r_29)) wz rfl (ae (vB (!r_29)) wz rfl (aj ?_))))
     obtain rfl:=ah h_22
     exact cu
    ·refine aF rfl hc_28 wz (ak wa (ak wa (ak wa (ae (vB false) wz rfl (ae (vB false) wz rfl (aj ?_))))))
     obtain rfl:=ah h_22
     exact cu
   ·refine aF rfl hc_25 wz (ak wa (ak wa (ak wa (ak wa (ae (vB false) wz rfl (ae (vB false) wz rfl (ak wa (ak wa (ak wa (ae (vB false) wz rfl (ae (vB false) wz rfl (aj ?_))))))))))))
    obtain rfl:=ah h_22
    exact cu
  ·rintro ⟨⟩ _ sl_ H_ hp_ hq_
   refine aL _ hp_ hq_ ?_
   obtain rfl:=ah hF
   exact aG (aU (.inr rfl) [(vB v_21)] ⟨rfl,trivial⟩ rfl rfl rfl)
theorem zq {a_1:Alert} {r:Int} (hF:kU a_1=some r) :
  FnM Tryz.prog 67 [(.d (.agg (Alert.enc a_1)))] [] (vI r) []:=by
 refine FnM.of_wH ⟨Tryz.prog,92,[],[]⟩ rfl Tryz.func67 rfl rfl (lb_ rfl) (by kernel_rfl) ?_
 unfold kU at hF
 refine af (aa (dL 0 (.inl rfl) [(vS a_1.Id),(vS a_1.Sender),(vI a_1.Kind),(vL eS a_1.Refs),(vI a_1.At),(vI a_1.Until),(vI a_1.Weight),(vL Rect.enc a_1.Areas),(vS a_1.Text)] rfl rfl wz (λn_2=>ae (vI 0) wz rfl (aj (af (af ?_))))))
 obtain ⟨v_3,h_4,hF⟩:=bind_some hF
 refine aD (β:=Unit) (λ_=>([(1,(.ref n_2 0 0)),(17,(vB v_3))]:SL_)) (λ_=>([(n_2,some (.cells 9 [(vS a_1.Id),(vS a_1.Sender),(vI a_1.Kind),(vL eS a_1.Refs),(vI a_1.At),(vI a_1.Until),(vI a_1.Weight),(vL Rect.enc a_1.Areas),(vS a_1.Text)]))]:Hp)) (λ_=>True) ?_ ?_
 ·refine aa (aH rO rfl 0 rfl wz (aA 0 0 il ft sz9 ag9 rfl rfl (vS a_1.Id) rfl wz ?_))
  obtain ⟨r_5,hr_6,h_4⟩:=bind_some h_4
  refine aI (fT hr_6) rfl BJ rfl rfl rfl rfl wz (ae (vB (!r_5)) wz rfl ?_)
  rcases au h_4 with⟨hc_7,h_4⟩|⟨hc_7,h_4⟩
  ·refine aF rfl hc_7 wz (ak wa (ak wa (ak wa (ak wa (ae (vB true) wz rfl (aj ?_))))))
   obtain rfl:=ah h_4
   exact cu
  ·refine aF rfl hc_7 wz (aH KF rfl 1 rfl wa (aA 0 0 il ft sz9 ag9 rfl rfl (vS a_1.Sender) rfl wa ?_))
   obtain ⟨r_8,hr_9,h_4⟩:=bind_some h_4
   refine aI (fT hr_9) rfl BJ rfl rfl rfl rfl wa (ae (vB (!r_8)) wa rfl (ae (vB (!r_8)) wz rfl (aj ?_)))
   obtain rfl:=ah h_4
   exact cu
 ·rintro ⟨⟩ _ sl_ H_ hp_ hq_
  refine aL _ hp_ hq_ ?_
  rcases au hF with⟨hc_10,hF⟩|⟨hc_10,hF⟩
  ·refine aC rfl hc_10 (af (aa (ae (vI 5) wz rfl (aj ?_))))
   obtain rfl:=ah hF
   exact aG (aU (.inr rfl) [(vI 5)] ⟨rfl,trivial⟩ rfl rfl rfl)
  ·refine aB rfl hc_10 (ax (af (af (aa (aH BA rfl 2 rfl wz (aA 0 0 il ft sz3 ag3 rfl rfl (vI a_1.Kind) rfl wz ?_))))))
   obtain ⟨r_11,hr_12,hF⟩:=bind_some hF
   refine aI (bg hr_12) rfl rA rfl rfl rfl rfl wz (aj ?_)
   rcases au hF with⟨hc_13,hF⟩|⟨hc_13,hF⟩
   ·refine aC rfl hc_13 (af (aa (ae (vI 4) wz rfl (aj ?_))))
    obtain rfl:=ah hF
    exact aG (aU (.inr rfl) [(vI 4)] ⟨rfl,trivial⟩ rfl rfl rfl)
   ·refine aB rfl hc_13 (ax (af (af (aa (aA 0 0 il ft lL qZ rfl rfl (.d (.agg (Alert.enc a_1))) rfl wz ?_)))))
    obtain ⟨r_14,hr_15,hF⟩:=bind_some hF
    refine aI (Ae hr_15) rfl hb100 rfl rfl rfl rfl wz (ae (vI r_14) wz rfl (aj (af (aa (ae (vI r_14) wz rfl (ae (vB (r_14 != 0)) wz rfl (aj ?_)))))))
    rcases au hF with⟨hc_16,hF⟩|⟨hc_16,hF⟩
    ·refine aC rfl hc_16 (af (aa (ae (vI r_14) wz rfl (ae (vI r_14) wz rfl (aj ?_)))))
     obtain rfl:=ah hF
     exact aG (aU (.inr rfl) [(vI r_14)] ⟨rfl,trivial⟩ rfl rfl rfl)
    ·refine aB rfl hc_16 (ax (af (af ?_)))
     obtain ⟨v_17,h_18,hF⟩:=bind_some hF
     refine aD (β:=Unit) (λ_=>([(1,(.ref n_2 0 0)),(45,(vB v_17))]:SL_)) (λ_=>([(n_2,some (.cells 9 [(vS a_1.Id),(vS a_1.Sender),(vI a_1.Kind),(vL eS a_1.Refs),(vI a_1.At),(vI a_1.Until),(vI a_1.Weight),(vL Rect.enc a_1.Areas),(vS a_1.Text)]))]:Hp)) (λ_=>True) ?_ ?_
     ·refine aa (aH oL rfl 4 rfl wz (aA 0 0 il ft sz3 ag3 rfl rfl (vI a_1.At) rfl wz ?_))
      obtain ⟨r_19,hr_20,h_18⟩:=bind_some h_18
      refine aI (jk hr_20) rfl Lb rfl rfl rfl rfl wz (ae (vB (!r_19)) wz rfl ?_)
      rcases au h_18 with⟨hc_21,h_18⟩|⟨hc_21,h_18⟩
      ·refine aF rfl hc_21 wz (ak wa (ak wa (ak wa (ak wa (ak wa (ak wa (ak wa (ak wa (ak wa (ae (vB true) wz rfl (ae (vB true) wz rfl (ak wa (ak wa (ak wa (ae (vB true) wz rfl (aj ?_))))))))))))))))
       obtain rfl:=ah h_18
       exact cu
      ·refine aF rfl hc_21 wz (aH Lv rfl 5 rfl wa (aA 0 0 il ft sz3 ag3 rfl rfl (vI a_1.Until) rfl wa (aH oL rfl 4 rfl wa (aA 0 0 il ft sz3 ag3 rfl rfl (vI a_1.At) rfl wa (ae (vI (w64 (a_1.At+1))) wa rfl (aH oL rfl 4 rfl wa (aA 0 0 il ft sz3 ag3 rfl rfl (vI a_1.At) rfl wa (ae (vI (w64 (a_1.At+2592000000))) wa rfl ?_))))))))
       obtain ⟨r_22,hr_23,h_18⟩:=bind_some h_18
       refine aI (bg hr_23) rfl rA rfl rfl rfl rfl wa (ae (vB r_22) wz rfl ?_)
       rcases au h_18 with⟨hc_24,h_18⟩|⟨hc_24,h_18⟩
       ·refine aF rfl hc_24 wz (ak wa (ak wa (ak wa (ae (vB true) wz rfl (aj ?_)))))
        obtain rfl:=ah h_18
        exact cu
       ·refine aF rfl hc_24 wz (aH K4 rfl 6 rfl wa (aA 0 0 il ft sz3 ag3 rfl rfl (vI a_1.Weight) rfl wa ?_))
        obtain ⟨r_25,hr_26,h_18⟩:=bind_some h_18
        refine aI (bg hr_26) rfl rA rfl rfl rfl rfl wa (ae (vB r_25) wz rfl (aj ?_))
        obtain rfl:=ah h_18
        exact cu
     ·rintro ⟨⟩ _ sl_ H_ hp_ hq_
      refine aL _ hp_ hq_ ?_
      rcases au hF with⟨hc_27,hF⟩|⟨hc_27,hF⟩
      ·refine aC rfl hc_27 (af (aa (ae (vI 1) wz rfl (aj ?_))))
       obtain rfl:=ah hF
       exact aG (aU (.inr rfl) [(vI 1)] ⟨rfl,trivial⟩ rfl rfl rfl)
      ·refine aB rfl hc_27 (ax (af (af (aa (aH Cy rfl 7 rfl wz (aA 0 0 il ft JZ KE rfl rfl (vL Rect.enc a_1.Areas) rfl wz (bW BB rfl wz (ae (vB (decide ((a_1.Areas.length:Int)>20))) wz rfl (aj ?_)))))))))
       rcases au hF with⟨hc_28,hF⟩|⟨hc_28,hF⟩
       ·refine aC rfl hc_28 (af (aa (ae (vI 2) wz rfl (aj ?_))))
        obtain rfl:=ah hF
        exact aG (aU (.inr rfl) [(vI 2)] ⟨rfl,trivial⟩ rfl rfl rfl)
       ·refine aB rfl hc_28 (ax (af (af (aa (aH Cy rfl 7 rfl wz (aA 0 0 il ft JZ KE rfl rfl (vL Rect.enc a_1.Areas) rfl wz (bW BB rfl wz (ae (vI 0) wz rfl (aj ?_)))))))))
        obtain ⟨o_37,hj_38,hF⟩:=bind_some hF
        obtain ⟨hn_33,hj_38⟩:=aV hj_38
        refine aD (β:=(Unit)) (λ(s_34:Unit)=>([(1,(.ref n_2 0 0))]:SL_)) (λ(s_34:Unit)=>([(n_2,some (.cells 9 [(vS a_1.Id),(vS a_1.Sender),(vI a_1.Kind),(vL eS a_1.Refs),(vI a_1.At),(vI a_1.Until),(vI a_1.Weight),(vL Rect.enc a_1.Areas),(vS a_1.Text)]))]:Hp)) (λp=>o_37 = .go p) ?_ ?_
        ·refine ay (aS (β:=Nat×(List Rect)×(Unit)) (λp=>(λ(k_29:Nat) (l_30:List Rect) (s_34:Unit)=>([(1,(.ref n_2 0 0)),(51,(vL Rect.enc a_1.Areas)),(52,(vI (a_1.Areas.length:Int))),(53,(vI (k_29:Int)))]:SL_)) p.1 p.2.1 p.2.2) (λp=>(λ(k_29:Nat) (l_30:List Rect) (s_34:Unit)=>([(n_2,some (.cells 9 [(vS a_1.Id),(vS a_1.Sender),(vI a_1.Kind),(vL eS a_1.Refs),(vI a_1.At),(vI a_1.Until),(vI a_1.Weight),(vL Rect.enc a_1.Areas),(vS a_1.Text)]))]:Hp)) p.1 p.2.1 p.2.2) (λp=>forR (λk x s=>jy k x s) p.2.1 p.1 p.2.2=some o_37/\(a_1.Areas).drop p.1=p.2.1) (λp=>p.2.1.length) (0,a_1.Areas,()) ⟨hj_38,rfl⟩ rfl (aJ rfl) ?_)
         rintro ⟨k_29,l_30,s_34⟩ ⟨hL_36,hD_32⟩
         dsimp only at hL_36 hD_32
         cases l_30 with
         | nil =>
          obtain rfl:=ah hL_36
          refine af (aa (ae (vB (decide ((k_29:Int)<(a_1.Areas.length:Int)))) wz rfl (aj ?_)))
          refine af (aB rfl (drop_nil hD_32) (aP ?_))
          exact aN (s_34) rfl rfl (aJ rfl)
         | cons x_31 l_30 =>
          obtain ⟨c_,hc_35,hL_36⟩:=bind_some hL_36
          refine af (aa (ae (vB (decide ((k_29:Int)<(a_1.Areas.length:Int)))) wz rfl (aj ?_)))
          refine af (aC rfl (bf hD_32) (ax ?_))
          unfold jy at hc_35
          refine af (ay (af (aa (dK Iu rfl rfl (bG hD_32) rfl wz (bB vH Io rfl (.d (.agg (Rect.enc x_31))) rfl wz (cK 0 (.inl rfl) z55 rfl wz (λn_39=>eD 0 il ft 1 vH rfl rfl [(vI x_31.X),(vI x_31.Y),(vI x_31.W),(vI x_31.H)] rfl wz (aj (af (aa (aA 0 1 il ft vH Io rfl rfl (.d (.agg (Rect.enc x_31))) rfl wz ?_)))))))))))
          obtain ⟨r_40,hr_41,hc_35⟩:=bind_some hc_35
          refine aI (rX hr_41) rfl hb83 rfl rfl rfl rfl wz (ae (vI r_40) wz rfl (aj (af (aa (ae (vI r_40) wz rfl (ae (vB (r_40 != 0)) wz rfl (aj ?_)))))))
          rcases au hc_35 with⟨hc_42,hc_35⟩|⟨hc_42,hc_35⟩
          ·refine aC rfl hc_42 (af (aa (ae (vI r_40) wz rfl (ae (vI r_40) wz rfl (aj ?_)))))
           obtain rfl:=ah hc_35
           obtain rfl:=ah hL_36
           obtain rfl:=ah hF
           exact aG (aU (.inr rfl) [(vI r_40)] ⟨rfl,trivial⟩ rfl rfl rfl)
          ·refine aB rfl hc_42 (ax (aa (fu (bA hD_32 hn_33) wz rfl (ae (vI ((k_29+1:Nat):Int)) wz rfl (aj ?_)))))
           obtain rfl:=ah hc_35
           exact aO (k_29+1,l_30,()) ⟨hL_36,aR hD_32⟩ (ls_ _) rfl (aJ rfl)
        ·rintro s_34 ho_ sl_ H_ hp_ hq_
         subst ho_
         refine aL _ hp_ hq_ (af (aa (aH BA rfl 2 rfl wz (aA 0 0 il ft sz3 ag3 rfl rfl (vI a_1.Kind) rfl wz (ae (vB (a_1.Kind==3)) wz rfl (ae (vB (a_1.Kind==3)) wz rfl (aj (af (ay (af (aa (ae (vB (a_1.Kind==3)) wz rfl (aH Cy rfl 7 rfl wz (aA 0 0 il ft JZ KE rfl rfl (vL Rect.enc a_1.Areas) rfl wz (bW BB rfl wz (ae (vB ((a_1.Areas.length:Int)==0)) wz rfl (PR un4 rfl rfl wz (ae (vB (!((a_1.Kind==3)==((a_1.Areas.length:Int)==0)))) wz rfl (aj ?_)))))))))))))))))))
         rcases au hF with⟨hc_43,hF⟩|⟨hc_43,hF⟩
         ·refine aC rfl hc_43 (af (aa (ae (vI 3) wz rfl (aj ?_))))
          obtain rfl:=ah hF
          exact aG (aU (.inr rfl) [(vI 3)] ⟨rfl,trivial⟩ rfl rfl rfl)
         ·refine aB rfl hc_43 (af (aa (aH Hf rfl 8 rfl wz (aA 0 0 il ft sz9 ag9 rfl rfl (vS a_1.Text) rfl wz (qF un9 rfl wz (ae (vB (decide ((a_1.Text.size:Int)>500))) wz rfl (ae (vB (decide ((a_1.Text.size:Int)>500))) wz rfl (aj ?_))))))))
          rcases au hF with⟨hc_44,hF⟩|⟨hc_44,hF⟩
          ·refine aC rfl hc_44 (af (aa (ae (vI 2) wz rfl (aj ?_))))
           obtain rfl:=ah hF
           exact aG (aU (.inr rfl) [(vI 2)] ⟨rfl,trivial⟩ rfl rfl rfl)
          ·refine aB rfl hc_44 (af ?_)
           obtain ⟨v_45,h_46,hF⟩:=bind_some hF
           refine aD (β:=Unit) (λ_=>([(78,(vB v_45))]:SL_)) (λ_=>([(n_2,some (.cells 9 [(vS a_1.Id),(vS a_1.Sender),(vI a_1.Kind),(vL eS a_1.Refs),(vI a_1.At),(vI a_1.Until),(vI a_1.Weight),(vL Rect.enc a_1.Areas),(vS a_1.Text)]))]:Hp)) (λ_=>True) ?_ ?_
           ·refine aa (aH Hf rfl 8 rfl wz (aA 0 0 il ft sz9 ag9 rfl rfl (vS a_1.Text) rfl wz ?_))
            obtain ⟨r_47,hr_48,h_46⟩:=bind_some h_46
            refine aI (Eg hr_48) rfl hb101 rfl rfl rfl rfl wz (ae (vB (!r_47)) wz rfl ?_)
            rcases au h_46 with⟨hc_49,h_46⟩|⟨hc_49,h_46⟩
            ·refine aF rfl hc_49 wz (ak wa (ak wa (ak wa (ak wa (ak (wn rfl rfl) (ak (wn rfl rfl) (ak wa (ae (vB true) wz rfl (ae (vB true) wz rfl (aj ?_))))))))))
             obtain rfl:=ah h_46
             exact cu
            ·refine aF rfl hc_49 wz (aH Hf rfl 8 rfl wa (aA 0 0 il ft sz9 ag9 rfl rfl (vS a_1.Text) rfl wa (ae (vB (sEq a_1.Text (⟨#[]⟩:ByteArray))) wa rfl ?_)))
             rcases au h_46 with⟨hc_50,h_46⟩|⟨hc_50,h_46⟩
             ·refine aF rfl hc_50 wa (ae (vB (a_1.Kind==3)) wa rfl (ae (vB (!(a_1.Kind==3))) wa rfl (ae (vB (!(a_1.Kind==3))) wa rfl (ae (vB (!(a_1.Kind==3))) wz rfl (ae (vB (!(a_1.Kind==3))) wz rfl (aj ?_))))))
              obtain rfl:=ah h_46
              exact cu
             ·refine aF rfl hc_50 wa (ak wa (ak wa (ae (vB false) wa rfl (ae (vB false) wz rfl (ae (vB false) wz rfl (aj ?_))))))
              obtain rfl:=ah h_46
              exact cu
           ·rintro ⟨⟩ _ sl_ H_ hp_ hq_
            refine aL _ hp_ hq_ ?_
            rcases au hF with⟨hc_51,hF⟩|⟨hc_51,hF⟩
            ·refine aC rfl hc_51 (af (aa (ae (vI 3) wz rfl (aj ?_))))
             obtain rfl:=ah hF
             exact aG (aU (.inr rfl) [(vI 3)] ⟨rfl,trivial⟩ rfl rfl rfl)
            ·refine aB rfl hc_51 (ax (af (aa (ae (vI 0) wz rfl (aj ?_)))))
             obtain rfl:=ah hF
             exact aG (aU (.inr rfl) [(vI 0)] ⟨rfl,trivial⟩ rfl rfl rfl)
theorem nL {x_1:Int} {r:Bool} (hF:cmp_isNaN_int x_1=some r) :
  FnM Tryz.prog 79 [(vI x_1)] [] (vB r) []:=by
 refine FnM.of_wH ⟨Tryz.prog,6,[],[]⟩ rfl Tryz.func79 rfl rfl (lb_ rfl) (by kernel_rfl) ?_
 unfold cmp_isNaN_int at hF
 refine af (aa (ae (vB false) wz rfl (aj (af (aa (ae (vI x_1) wz rfl (ae (vI x_1) wz rfl (ae (vB (x_1 != x_1)) wz rfl (ae (vB (x_1 != x_1)) wz rfl (aj ?_))))))))))
 obtain rfl:=ah hF
 exact aG (aU (.inr rfl) [(vB (x_1 != x_1))] ⟨rfl,trivial⟩ rfl rfl rfl)
theorem gM {x_1:Int} {y_2:Int} {r:Int} (hF:cmp_Compare_int x_1 y_2=some r) :
  FnM Tryz.prog 42 [(vI x_1),(vI y_2)] [] (vI r) []:=by
 refine FnM.of_wH ⟨Tryz.prog,20,[],[]⟩ rfl Tryz.func42 rfl rfl (lb_ rfl) (by kernel_rfl) ?_
 unfold cmp_Compare_int at hF
 refine af (aa (ae (vI 0) wz rfl (aj (af (aa (ae (vI x_1) wz rfl ?_))))))
 obtain ⟨r_3,hr_4,hF⟩:=bind_some hF
 refine aI (nL hr_4) rfl hb79 rfl rfl rfl rfl wz (ae (vB r_3) wz rfl (aj (af (aa (ae (vI y_2) wz rfl ?_)))))
 obtain ⟨r_5,hr_6,hF⟩:=bind_some hF
 refine aI (nL hr_6) rfl hb79 rfl rfl rfl rfl wz (ae (vB r_5) wz rfl (aj (af (af (aa (ae (vB r_3) wz rfl (aj ?_)))))))
 rcases au hF with⟨hc_7,hF⟩|⟨hc_7,hF⟩
 ·refine aC rfl hc_7 (af (af (aa (ae (vB r_5) wz rfl (aj ?_)))))
  rcases au hF with⟨hc_8,hF⟩|⟨hc_8,hF⟩
  ·refine aC rfl hc_8 (af (aa (ae (vI 0) wz rfl (aj ?_))))
   obtain rfl:=ah hF
   exact aG (aU (.inr rfl) [(vI 0)] ⟨rfl,trivial⟩ rfl rfl rfl)
  ·refine aB rfl hc_8 (ax (af (aa (ae (vI (-1)) wz rfl (aj ?_)))))
   obtain rfl:=ah hF
   exact aG (aU (.inr rfl) [(vI (-1))] ⟨rfl,trivial⟩ rfl rfl rfl)
 ·refine aB rfl hc_7 (ax (af (af (aa (ae (vB r_5) wz rfl (aj ?_))))))
  rcases au hF with⟨hc_9,hF⟩|⟨hc_9,hF⟩
  ·refine aC rfl hc_9 (af (aa (ae (vI 1) wz rfl (aj ?_))))
   obtain rfl:=ah hF
   exact aG (aU (.inr rfl) [(vI 1)] ⟨rfl,trivial⟩ rfl rfl rfl)
  ·refine aB rfl hc_9 (ax (af (af (aa (ae (vI x_1) wz rfl (ae (vI y_2) wz rfl (ae (vB (decide (x_1<y_2))) wz rfl (aj ?_))))))))
   rcases au hF with⟨hc_10,hF⟩|⟨hc_10,hF⟩
   ·refine aC rfl hc_10 (af (aa (ae (vI (-1)) wz rfl (aj ?_))))
    obtain rfl:=ah hF
    exact aG (aU (.inr rfl) [(vI (-1))] ⟨rfl,trivial⟩ rfl rfl rfl)
   ·refine aB rfl hc_10 (ax (af (af (aa (ae (vI x_1) wz rfl (ae (vI y_2) wz rfl (ae (vB (decide (x_1>y_2))) wz rfl (aj ?_))))))))
    rcases au hF with⟨hc_11,hF⟩|⟨hc_11,hF⟩
    ·refine aC rfl hc_11 (af (aa (ae (vI 1) wz rfl (aj ?_))))
     obtain rfl:=ah hF
     exact aG (aU (.inr rfl) [(vI 1)] ⟨rfl,trivial⟩ rfl rfl rfl)
    ·refine aB rfl hc_11 (ax (af (aa (ae (vI 0) wz rfl (aj ?_)))))
     obtain rfl:=ah hF
     exact aG (aU (.inr rfl) [(vI 0)] ⟨rfl,trivial⟩ rfl rfl rfl)
theorem o6 {a_1:ByteArray} {b_2:ByteArray} {r:Int} (hF:iV a_1 b_2=some r) :
  FnM Tryz.prog 126 [(vS a_1),(vS b_2)] [] (vI r) []:=by
 refine FnM.of_wH ⟨Tryz.prog,8,[],[]⟩ rfl Tryz.func126 rfl rfl (lb_ rfl) (by kernel_rfl) ?_
 unfold iV at hF
 refine af (aa (ae (vI 0) wz rfl (aj (af (aa (ae (vS a_1) wz rfl (ae (vS b_2) wz rfl (h_ext (Oe (f:=146) Tryz.func146 rfl rfl (by kernel_rfl) (by kernel_rfl) _ _) rfl nb146 rfl wz (ae (vI (wm a_1 b_2)) wz rfl (aj ?_))))))))))
 obtain rfl:=ah hF
 exact aG (aU (.inr rfl) [(vI (wm a_1 b_2))] ⟨rfl,trivial⟩ rfl rfl rfl)
theorem lI {a_1:ByteArray} {b_2:ByteArray} {r:Int} (hF:strings_Compare a_1 b_2=some r) :
  FnM Tryz.prog 82 [(vS a_1),(vS b_2)] [] (vI r) []:=by
 refine FnM.of_wH ⟨Tryz.prog,8,[],[]⟩ rfl Tryz.func82 rfl rfl (lb_ rfl) (by kernel_rfl) ?_
 unfold strings_Compare at hF
 refine af (aa (ae (vI 0) wz rfl (aj (af (aa (ae (vS a_1) wz rfl (ae (vS b_2) wz rfl ?_)))))))
 obtain ⟨r_3,hr_4,hF⟩:=bind_some hF
 refine aI (o6 hr_4) rfl hb126 rfl rfl rfl rfl wz (ae (vI r_3) wz rfl (aj ?_))
 obtain rfl:=ah hF
 exact aG (aU (.inr rfl) [(vI r_3)] ⟨rfl,trivial⟩ rfl rfl rfl)
theorem qK {vals_1:(List Int)} {r:Int} (hF:jw vals_1=some r) :
  FnM Tryz.prog 81 [(vL eI vals_1)] [] (vI r) []:=by
 refine FnM.of_wH ⟨Tryz.prog,18,[],[]⟩ rfl Tryz.func81 rfl rfl (lb_ rfl) (by kernel_rfl) ?_
 unfold jw at hF
 refine af (aa (ae (vI 0) wz rfl (aj (af (aa (ae (vI 0) wz rfl (aj (af (af (aa (ae (vL eI vals_1) wz rfl (bW wO rfl wz (ae (vI 0) wz rfl (aj ?_))))))))))))))
 obtain ⟨o_10,hj_11,hF⟩:=bind_some hF
 obtain ⟨hn_6,hj_11⟩:=aV hj_11
 refine aD (β:=(Unit)) (λ(s_7:Unit)=>([(3,(vI 0))]:SL_)) (λ(s_7:Unit)=>([]:Hp)) (λp=>o_10 = .go p) ?_ ?_
 ·refine ay (aS (β:=Nat×(List Int)×(Unit)) (λp=>(λ(k_2:Nat) (l_3:List Int) (s_7:Unit)=>([(3,(vI 0)),(6,(vL eI vals_1)),(7,(vI (vals_1.length:Int))),(8,(vI (k_2:Int)))]:SL_)) p.1 p.2.1 p.2.2) (λp=>(λ(k_2:Nat) (l_3:List Int) (s_7:Unit)=>([]:Hp)) p.1 p.2.1 p.2.2) (λp=>forR (λk x s=>mD k x s) p.2.1 p.1 p.2.2=some o_10/\(vals_1).drop p.1=p.2.1) (λp=>p.2.1.length) (0,vals_1,()) ⟨hj_11,rfl⟩ rfl (aJ rfl) ?_)
  rintro ⟨k_2,l_3,s_7⟩ ⟨hL_9,hD_5⟩
  dsimp only at hL_9 hD_5
  cases l_3 with
  | nil =>
   obtain rfl:=ah hL_9
   refine af (aa (ae (vB (decide ((k_2:Int)<(vals_1.length:Int)))) wz rfl (aj ?_)))
   refine af (aB rfl (drop_nil hD_5) (aP ?_))
   exact aN (s_7) rfl rfl (aJ rfl)
  | cons x_4 l_3 =>
   obtain ⟨c_,hc_8,hL_9⟩:=bind_some hL_9
   refine af (aa (ae (vB (decide ((k_2:Int)<(vals_1.length:Int)))) wz rfl (aj ?_)))
   refine af (aC rfl (bf hD_5) (ax ?_))
   unfold mD at hc_8
   refine af (ay (af (aa (dK jf rfl rfl (bG hD_5) rfl wz (bB sz3 ag3 rfl (vI x_4) rfl wz (ae (vI x_4) wz rfl (aj (af (aa (ae (vI x_4) wz rfl (ae (vI 0) wz rfl (ae (vB (x_4 != 0)) wz rfl (aj ?_)))))))))))))
   rcases au hc_8 with⟨hc_12,hc_8⟩|⟨hc_12,hc_8⟩
   ·refine aC rfl hc_12 (af (aa (ae (vI x_4) wz rfl (ae (vI x_4) wz rfl (aj ?_)))))
    obtain rfl:=ah hc_8
    obtain rfl:=ah hL_9
    obtain rfl:=ah hF
    exact aG (aU (.inr rfl) [(vI x_4)] ⟨rfl,trivial⟩ rfl rfl rfl)
   ·refine aB rfl hc_12 (ax (aa (fu (bA hD_5 hn_6) wz rfl (ae (vI ((k_2+1:Nat):Int)) wz rfl (aj ?_)))))
    obtain rfl:=ah hc_8
    exact aO (k_2+1,l_3,()) ⟨hL_9,aR hD_5⟩ (ls_ _) rfl (aJ rfl)
 ·rintro s_7 ho_ sl_ H_ hp_ hq_
  subst ho_
  refine aL _ hp_ hq_ (af (aa (ae (vI 0) wz rfl (ae (vI 0) wz rfl (aj ?_)))))
  obtain rfl:=ah hF
  exact aG (aU (.inr rfl) [(vI 0)] ⟨rfl,trivial⟩ rfl rfl rfl)
theorem vk {a_1:Alert} {b_2:Alert} {r:Int} (hF:jG a_1 b_2=some r) :
  FnM Tryz.prog 68 [(.d (.agg (Alert.enc a_1))),(.d (.agg (Alert.enc b_2)))] [] (vI r) []:=by
 refine FnM.of_wH ⟨Tryz.prog,17,[],[]⟩ rfl Tryz.func68 rfl rfl (lb_ rfl) (by kernel_rfl) ?_
 unfold jG at hF
 refine af (aa (dL 0 (.inl rfl) [(vS a_1.Id),(vS a_1.Sender),(vI a_1.Kind),(vL eS a_1.Refs),(vI a_1.At),(vI a_1.Until),(vI a_1.Weight),(vL Rect.enc a_1.Areas),(vS a_1.Text)] rfl rfl wz (λn_3=>dL 0 (.inl rfl) [(vS b_2.Id),(vS b_2.Sender),(vI b_2.Kind),(vL eS b_2.Refs),(vI b_2.At),(vI b_2.Until),(vI b_2.Weight),(vL Rect.enc b_2.Areas),(vS b_2.Text)] rfl rfl wz (λn_4=>ae (vI 0) wz rfl (aj (af (aW (aH oL rfl 4 rfl wz (aA 1 0 (.inr (by kernel_rfl)) (λ_ _ ag=>trivial) sz3 ag3 rfl rfl (vI a_1.At) rfl wz (aH oL rfl 4 rfl wz (aA 3 1 (.inr (by kernel_rfl)) (λ_ _ ag=>⟨.inl ⟨rfl,rfl⟩,trivial⟩) sz3 ag3 rfl rfl (vI b_2.At) rfl wz ?_)))))))))))
 obtain ⟨r_5,hr_6,hF⟩:=bind_some hF
 refine aI (gM hr_6) rfl Lu rfl rfl rfl rfl wz (aH rO rfl 0 rfl wz (aA 6 0 (.inr (by kernel_rfl)) (λ_ _ ag=>⟨.inl ⟨rfl,rfl⟩,⟨.inl ⟨rfl,rfl⟩,trivial⟩⟩) sz9 ag9 rfl rfl (vS a_1.Id) rfl wz (aH rO rfl 0 rfl wz (aA 8 1 (.inr (by kernel_rfl)) (λ_ _ ag=>⟨.inl ⟨rfl,rfl⟩,⟨.inl ⟨rfl,rfl⟩,⟨.inl ⟨rfl,rfl⟩,trivial⟩⟩⟩) sz9 ag9 rfl rfl (vS b_2.Id) rfl wz ?_))))
 obtain ⟨r_7,hr_8,hF⟩:=bind_some hF
 refine aI (lI hr_8) rfl hb82 rfl rfl rfl rfl wz (dW (([r_5,r_7]:List Int).map eI) jf uh rfl rfl rfl rfl rfl wz ?_)
 obtain ⟨r_9,hr_10,hF⟩:=bind_some hF
 refine aI (qK hr_10) rfl hb81 rfl rfl rfl rfl wz (ae (vI r_9) wz rfl (aj ?_))
 obtain rfl:=ah hF
 exact aG (aU (.inr rfl) [(vI r_9)] ⟨rfl,trivial⟩ rfl rfl rfl)
end Go.Proofs.YticmkhcacamhkaaGreatDoor.Law

