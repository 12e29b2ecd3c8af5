/-
 The machine computes these plain functions (written by a program of ours).
-/
import Derived.Test.YtjhcehhmdmbleaaGreatDoorFacts
import Derived.Test.YtjhcehhmdmbleaaGreatDoorDefs
import Derived.Test.YtjhcehhmdmbleaaGreatDoorPf2
import Derived.Test.YtjhcehhmdmbleaaGreatDoorShelf
open Go Go.Eng Go.Proofs
namespace Go.Proofs.YtjhcehhmdmbleaaGreatDoor.Law
set_option maxRecDepth 100000
set_option linter.unusedVariables false
set_option maxHeartbeats 1000000
theorem BN {r_1:(List Receipt)} {atv_2:Int} {r:(List (Pair×Int))} (hF:jK r_1 atv_2=some r) :
  FnM Tryz.prog 102 [(vL Receipt.enc r_1),(vI atv_2)] [] (.map (aH 0)) [some (bM (fun x=>D.agg (Pair.enc x)) (D.int .i64) r)]:=by
 refine FnM.of_wH ⟨Tryz.prog,49,[],[]⟩ rfl Tryz.func102 rfl rfl (Nat.le_of_ble_eq_true rfl) (by kernel_rfl) ?_
 unfold jK at hF
 refine af (aa (ae .nilm wz rfl (aj (af (aa (Hu 0 (.inl rfl) wz (fun n_3=>JR (b':=some (bM (fun x=>D.agg (Pair.enc x)) (D.int .i64) ([]:List (Pair×Int)))) 0 rfl rfl (ae (.map n_3) wz rfl (aj (af (af (aa (ae (vL Receipt.enc r_1) wz rfl (bO un89 rfl wz (ae (vI 0) wz rfl (aj ?_))))))))))))))))
 obtain ⟨o_12,hj_13,hF⟩:=bind_some hF
 obtain ⟨hn_8,hj_13⟩:=aW hj_13
 refine aD (β:=((List (Pair×Int)))) (fun (s_9:(List (Pair×Int)))=>([(5,(.map n_3))]:List (Nat×V))) (fun (s_9:(List (Pair×Int)))=>([(n_3,some (bM (fun x=>D.agg (Pair.enc x)) (D.int .i64) s_9))]:Hp)) (fun p=>o_12 = .go p) ?_ ?_
 ·refine aA (aV (β:=Nat×(List Receipt)×((List (Pair×Int)))) (fun p=>(fun (k_4:Nat) (l_5:List Receipt) (s_9:(List (Pair×Int)))=>([(1,(vI atv_2)),(5,(.map n_3)),(12,(vL Receipt.enc r_1)),(13,(vI (r_1.length:Int))),(14,(vI (k_4:Int)))]:List (Nat×V))) p.1 p.2.1 p.2.2) (fun p=>(fun (k_4:Nat) (l_5:List Receipt) (s_9:(List (Pair×Int)))=>([(n_3,some (bM (fun x=>D.agg (Pair.enc x)) (D.int .i64) s_9))]:Hp)) p.1 p.2.1 p.2.2) (fun p=>forR (fun k x s=>iI atv_2 k x s) p.2.1 p.1 p.2.2=some o_12∧(r_1).drop p.1=p.2.1) (fun p=>p.2.1.length) (0,r_1,([]:List (Pair×Int))) ⟨hj_13,rfl⟩ rfl (aI rfl) ?_)
  rintro ⟨k_4,l_5,s_9⟩ ⟨hL_11,hD_7⟩
  dsimp only at hL_11 hD_7
  cases l_5 with
  | nil =>
   obtain rfl:=ah hL_11
   refine af (aa (ae (vB (decide ((k_4:Int) < (r_1.length:Int)))) wz rfl (aj ?_)))
   refine af (ax rfl (drop_nil hD_7) (aS ?_))
   exact aO (s_9) rfl rfl (aI rfl)
  | cons x_6 l_5 =>
   obtain ⟨c_,hc_10,hL_11⟩:=bind_some hL_11
   refine af (aa (ae (vB (decide ((k_4:Int) < (r_1.length:Int)))) wz rfl (aj ?_)))
   refine af (ay rfl (aX hD_7) (au ?_))
   unfold iI at hc_10
   refine af (aA (af (aa (dI K9 rfl rfl (bC hD_7) rfl wz (bG EC ag91 rfl (.d (.agg (Receipt.enc x_6))) rfl wz (dh 0 (.inl rfl) z91 rfl wz (fun n_14=>fD 0 il ft 1 EC rfl rfl [(vS x_6.Player),(vS x_6.Alert),(vI x_6.At),(vB x_6.Seen)] rfl wz (aj (af (aa (aG Dp rfl 0 rfl wz (aC 0 1 il ft sz9 ag9 rfl rfl (vS x_6.Player) rfl wz (aG DL rfl 1 rfl wz (aC 0 1 il ft sz9 ag9 rfl rfl (vS x_6.Alert) rfl wz (ae (.d (.agg (Pair.enc (⟨x_6.Player,x_6.Alert⟩:Pair)))) wz (by kernel_rfl) (dh 0 (.inl rfl) z191 rfl wz (fun n_15=>fD 0 il ft 2 Lj rfl rfl [(vS x_6.Player),(vS x_6.Alert)] rfl wz (aj (af (aa (ae (.map n_3) wz rfl (aC 0 2 il ft Lj ag191 rfl rfl (.d (.agg (Pair.enc (⟨x_6.Player,x_6.Alert⟩:Pair)))) rfl wz (BD (eq:=(fun (a b:Pair)=>(eqS a.f_player b.f_player && (eqS a.f_alert b.f_alert && true)))) (kD:=(fun x=>D.agg (Pair.enc x))) (vD:=(D.int .i64)) (es:=s_9) (k:=(⟨x_6.Player,x_6.Alert⟩:Pair)) (z:=0) 0 0 il ft (fun _ _=>rfl) J9 (by kernel_rfl) (by kernel_rfl) rfl rfl rfl (.tup [(vI ((mGet (fun (a b:Pair)=>(eqS a.f_player b.f_player && (eqS a.f_alert b.f_alert && true))) s_9 (⟨x_6.Player,x_6.Alert⟩:Pair)).getD 0)),(vB ((mGet (fun (a b:Pair)=>(eqS a.f_player b.f_player && (eqS a.f_alert b.f_alert && true))) s_9 (⟨x_6.Player,x_6.Alert⟩:Pair)).isSome))]) rfl wz ?_)))))))))))))))))))))))
   refine ae (.tup [(vI ((mGet (fun (a b:Pair)=>(eqS a.f_player b.f_player && (eqS a.f_alert b.f_alert && true))) s_9 (⟨x_6.Player,x_6.Alert⟩:Pair)).getD 0)),(vB ((mGet (fun (a b:Pair)=>(eqS a.f_player b.f_player && (eqS a.f_alert b.f_alert && true))) s_9 (⟨x_6.Player,x_6.Alert⟩:Pair)).isSome))]) wz rfl (ae (vI ((mGet (fun (a b:Pair)=>(eqS a.f_player b.f_player && (eqS a.f_alert b.f_alert && true))) s_9 (⟨x_6.Player,x_6.Alert⟩:Pair)).getD 0)) wz rfl (ae (vB ((mGet (fun (a b:Pair)=>(eqS a.f_player b.f_player && (eqS a.f_alert b.f_alert && true))) s_9 (⟨x_6.Player,x_6.Alert⟩:Pair)).isSome)) wz rfl (ae (vI ((mGet (fun (a b:Pair)=>(eqS a.f_player b.f_player && (eqS a.f_alert b.f_alert && true))) s_9 (⟨x_6.Player,x_6.Alert⟩:Pair)).getD 0)) wz rfl (ae (vB ((mGet (fun (a b:Pair)=>(eqS a.f_player b.f_player && (eqS a.f_alert b.f_alert && true))) s_9 (⟨x_6.Player,x_6.Alert⟩:Pair)).isSome)) wz rfl (aj (af ?_))))))
   obtain ⟨v_16,h_17,hc_10⟩:=bind_some hc_10
   refine aD (β:=Unit) (fun _=>([(1,(vI atv_2)),(5,(.map n_3)),(7,(.ref n_14 0 0)),(8,(.ref n_15 0 0)),(12,(vL Receipt.enc r_1)),(13,(vI (r_1.length:Int))),(14,(vI (k_4:Int))),(42,(vB v_16))]:List (Nat×V))) (fun _=>([(n_3,some (bM (fun x=>D.agg (Pair.enc x)) (D.int .i64) s_9)),(n_14,some (.cells 4 [(vS x_6.Player),(vS x_6.Alert),(vI x_6.At),(vB x_6.Seen)])),(n_15,some (.cells 2 [(vS x_6.Player),(vS x_6.Alert)]))]:Hp)) (fun _=>True) ?_ ?_
   ·refine aa (aG Ec rfl 2 rfl wz (aC 0 1 il ft sz3 ag3 rfl rfl (vI x_6.At) rfl wz (ae (vI atv_2) wz rfl (ae (vB (decide (x_6.At≤atv_2))) wz rfl ?_))))
    rcases ak h_17 with⟨hc_18,h_17⟩ | ⟨hc_18,h_17⟩
    ·refine av rfl hc_18 wz (ae (vB ((mGet (fun (a b:Pair)=>(eqS a.f_player b.f_player && (eqS a.f_alert b.f_alert && true))) s_9 (⟨x_6.Player,x_6.Alert⟩:Pair)).isSome)) wa rfl (ae (vB (!((mGet (fun (a b:Pair)=>(eqS a.f_player b.f_player && (eqS a.f_alert b.f_alert && true))) s_9 (⟨x_6.Player,x_6.Alert⟩:Pair)).isSome))) wa rfl ?_))
     rcases ak h_17 with⟨hc_19,h_17⟩ | ⟨hc_19,h_17⟩
     ·refine av rfl hc_19 wa (ai wa (ai wa (ai wa (ai wa (ae (vB true) wa rfl (ae (vB true) wz rfl (aj ?_)))))))
      obtain rfl:=ah h_17
      exact cu
     ·refine av rfl hc_19 wa (aG Ec rfl 2 rfl wa (aC 0 1 il ft sz3 ag3 rfl rfl (vI x_6.At) rfl wa (ae (vI ((mGet (fun (a b:Pair)=>(eqS a.f_player b.f_player && (eqS a.f_alert b.f_alert && true))) s_9 (⟨x_6.Player,x_6.Alert⟩:Pair)).getD 0)) wa rfl (ae (vB (decide (x_6.At < ((mGet (fun (a b:Pair)=>(eqS a.f_player b.f_player && (eqS a.f_alert b.f_alert && true))) s_9 (⟨x_6.Player,x_6.Alert⟩:Pair)).getD 0)))) wa rfl (ae (vB (decide (x_6.At < ((mGet (fun (a b:Pair)=>(eqS a.f_player b.f_player && (eqS a.f_alert b.f_alert && true))) s_9 (⟨x_6.Player,x_6.Alert⟩:Pair)).getD 0)))) wa rfl (ae (vB (decide (x_6.At < ((mGet (fun (a b:Pair)=>(eqS a.f_player b.f_player && (eqS a.f_alert b.f_alert && true))) s_9 (⟨x_6.Player,x_6.Alert⟩:Pair)).getD 0)))) wz rfl (aj ?_)))))))
      obtain rfl:=ah h_17
      exact cu
    ·refine av rfl hc_18 wz (ai wa (ai wa (ai wa (ai (wn rfl rfl) (ai (wn rfl rfl) (ai (wn rfl rfl) (ai (wn rfl rfl) (ai wa (ae (vB false) wz rfl (aj ?_))))))))))
     obtain rfl:=ah h_17
     exact cu
   ·rintro ⟨⟩ _ sl_ H_ hp_ hq_
    refine aK _ hp_ hq_ ?_
    obtain ⟨v_20,h_21,hc_10⟩:=bind_some hc_10
    refine aD (β:=Unit) (fun _=>([(1,(vI atv_2)),(5,(.map n_3)),(12,(vL Receipt.enc r_1)),(13,(vI (r_1.length:Int))),(14,(vI (k_4:Int)))]:List (Nat×V))) (fun _=>([(n_3,some (bM (fun x=>D.agg (Pair.enc x)) (D.int .i64) v_20)),(n_14,some (.cells 4 [(vS x_6.Player),(vS x_6.Alert),(vI x_6.At),(vB x_6.Seen)])),(n_15,some (.cells 2 [(vS x_6.Player),(vS x_6.Alert)]))]:Hp)) (fun _=>True) ?_ ?_
    ·rcases ak h_21 with⟨hc_22,h_21⟩ | ⟨hc_22,h_21⟩
     ·refine ay rfl hc_22 (aa (ae (.map n_3) wz rfl (aC 0 2 il ft Lj ag191 rfl rfl (.d (.agg (Pair.enc (⟨x_6.Player,x_6.Alert⟩:Pair)))) rfl wz (aG Ec rfl 2 rfl wz (aC 0 1 il ft sz3 ag3 rfl rfl (vI x_6.At) rfl wz (Ey (eq:=(fun (a b:Pair)=>(eqS a.f_player b.f_player && (eqS a.f_alert b.f_alert && true)))) (kD:=(fun x=>D.agg (Pair.enc x))) (vD:=(D.int .i64)) (es:=s_9) (k:=(⟨x_6.Player,x_6.Alert⟩:Pair)) (v:=x_6.At) 0 0 il ft (fun _ _=>rfl) J9 (by kernel_rfl) rfl rfl rfl rfl wz (aj ?_)))))))
      obtain rfl:=ah h_21
      exact cu
     ·refine ax rfl hc_22 (au ?_)
      obtain rfl:=ah h_21
      exact cu
    ·rintro ⟨⟩ _ sl_ H_ hp_ hq_
     refine aK _ hp_ hq_ (aa (dY (bn hD_7 hn_8) wz rfl (ae (vI ((k_4 + 1:Nat):Int)) wz rfl (aj ?_))))
     obtain rfl:=ah hc_10
     exact aU (k_4 + 1,l_5,v_20) ⟨hL_11,aR hD_7⟩ (Nat.lt_succ_self _) rfl (aI rfl)
 ·rintro s_9 ho_ sl_ H_ hp_ hq_
  subst ho_
  refine aK _ hp_ hq_ (af (aa (ae (.map n_3) wz rfl (ae (.map n_3) wz rfl (aj ?_)))))
  obtain rfl:=ah hF
  exact aB (xC (.inr rfl) [(.map n_3)] _ [0] [n_3] ⟨rfl,trivial⟩ (.cons (JY _) .nil) (by kernel_rfl) ⟨(by kernel_rfl),trivial⟩ (by decide) (by kernel_rfl))
theorem zu {o_1:Alert} {p_2:ByteArray} {p_3:Alert} {r:Bool} (hF:jS o_1 p_2 p_3=some r) :
  FnM Tryz.prog 239 [(.d (.agg (Alert.enc o_1))),(.ref (aH 0) 0 0),(.ref (aH 1) 0 0)] [(.cells 1 [(vS p_2)]),(.cells 9 [(vS p_3.Id),(vS p_3.Sender),(vI p_3.Kind),(vL eS p_3.Refs),(vI p_3.At),(vI p_3.Until),(vI p_3.Weight),(vL Rect.enc p_3.Areas),(vS p_3.Text)])] (vB r) [some (.cells 1 [(vS p_2)]),some (.cells 9 [(vS p_3.Id),(vS p_3.Sender),(vI p_3.Kind),(vL eS p_3.Refs),(vI p_3.At),(vI p_3.Until),(vI p_3.Weight),(vL Rect.enc p_3.Areas),(vS p_3.Text)])]:=by
 refine FnM.of_wH ⟨Tryz.prog,22,[],[]⟩ rfl Tryz.func239 rfl rfl (Nat.le_of_ble_eq_true rfl) (by kernel_rfl) ?_
 unfold jS at hF
 refine af (aa (fB 0 (.inl rfl) [(vS o_1.Id),(vS o_1.Sender),(vI o_1.Kind),(vL eS o_1.Refs),(vI o_1.At),(vI o_1.Until),(vI o_1.Weight),(vL Rect.enc o_1.Areas),(vS o_1.Text)] rfl rfl wz (fun n_4=>ae (vB false) wz rfl (aj (af ?_)))))
 obtain ⟨v_5,h_6,hF⟩:=bind_some hF
 refine aD (β:=Unit) (fun _=>([(4,(vB v_5))]:List (Nat×V))) (fun _=>([((aH 0),some (.cells 1 [(vS p_2)])),((aH 1),some (.cells 9 [(vS p_3.Id),(vS p_3.Sender),(vI p_3.Kind),(vL eS p_3.Refs),(vI p_3.At),(vI p_3.Until),(vI p_3.Weight),(vL Rect.enc p_3.Areas),(vS p_3.Text)])),(n_4,some (.cells 9 [(vS o_1.Id),(vS o_1.Sender),(vI o_1.Kind),(vL eS o_1.Refs),(vI o_1.At),(vI o_1.Until),(vI o_1.Weight),(vL Rect.enc o_1.Areas),(vS o_1.Text)]))]:Hp)) (fun _=>True) ?_ ?_
 ·refine aa (aG lD rfl 0 rfl wz (aC 0 2 il ft sz9 ag9 rfl rfl (vS o_1.Id) rfl wz (aC 0 0 il ft sz9 ag9 rfl rfl (vS p_2) rfl wz (ae (vB (sEq o_1.Id p_2)) wz rfl ?_))))
  rcases ak h_6 with⟨hc_7,h_6⟩ | ⟨hc_7,h_6⟩
  ·refine av rfl hc_7 wz (aG Dq rfl 1 rfl wa (aC 0 2 il ft sz9 ag9 rfl rfl (vS o_1.Sender) rfl wa (aG Dq rfl 1 rfl wa (aC 0 1 il ft sz9 ag9 rfl rfl (vS p_3.Sender) rfl wa (ae (vB (sEq o_1.Sender p_3.Sender)) wa rfl (ae (vB (sEq o_1.Sender p_3.Sender)) wz rfl ?_))))))
   rcases ak h_6 with⟨hc_8,h_6⟩ | ⟨hc_8,h_6⟩
   ·refine av rfl hc_8 wz (aC 0 2 il ft gX kC rfl rfl (.d (.agg (Alert.enc o_1))) rfl wa (aC 0 1 il ft gX kC rfl rfl (.d (.agg (Alert.enc p_3))) rfl wa ?_))
    obtain ⟨r_9,hr_10,h_6⟩:=bind_some h_6
    refine aF (rJ hr_10) rfl hb206 rfl rfl rfl rfl wa (ae (vB (decide (r_9 < 0))) wa rfl (ae (vB (decide (r_9 < 0))) wz rfl (ae (vB (decide (r_9 < 0))) wz rfl (aj ?_))))
    obtain rfl:=ah h_6
    exact cu
   ·refine av rfl hc_8 wz (ai wa (ai wa (ai wa (ai wa (ae (vB false) wz rfl (ae (vB false) wz rfl (aj ?_)))))))
    obtain rfl:=ah h_6
    exact cu
  ·refine av rfl hc_7 wz (ai wa (ai wa (ai wa (ai wa (ai wa (ae (vB false) wz rfl (ae (vB false) wz rfl (ai wa (ai wa (ai wa (ai wa (ae (vB false) wz rfl (ae (vB false) wz rfl (aj ?_))))))))))))))
   obtain rfl:=ah h_6
   exact cu
 ·rintro ⟨⟩ _ sl_ H_ hp_ hq_
  refine aK _ hp_ hq_ ?_
  obtain rfl:=ah hF
  exact aB (xC (.inr rfl) [(vB v_5)] _ [0,1] [aH 0,aH 1] ⟨rfl,trivial⟩ (.cons (iZ rfl rfl) (.nil)) (by kernel_rfl) ⟨(by kernel_rfl),⟨(by kernel_rfl),trivial⟩⟩ (by decide) (by kernel_rfl))
theorem gH {s_1:(List Alert)} {f_2:Alert→Option Bool} {r:Int} {gid:FuncId} {caps:List V} {Sin:List Box} (hfn:∀ x0 r,f_2 x0=some r→FnM Tryz.prog gid ([(.d (.agg (Alert.enc x0)))]++caps) Sin (vB r) (Sin.map some)) (hbF:aJ Tryz.prog gid=true) (hcapF:caps.flatMap frz = []∧caps.map co0=caps) (hokF:okL Sin.length caps=true) (hsF:∀ b∈Sin,b.ok Sin.length=true) (hmF:∀ b∈Sin,b.mut=true) (hF:bE s_1 f_2=some r) :
  FnM Tryz.prog 41 [(vL Alert.enc s_1),(.fn gid caps)] Sin (vI r) (Sin.map some):=by
 refine FnM.of_wH ⟨Tryz.prog,19,[],[]⟩ rfl Tryz.func41 rfl rfl (Nat.le_of_ble_eq_true rfl) (by kernel_rfl) ?_
 unfold bE at hF
 refine af (aa (ae (vI 0) wz rfl (aj (af (af (aa (ae (vL Alert.enc s_1) wz rfl (bO FN rfl wz (ae (vI 0) wz rfl (aj ?_))))))))))
 obtain ⟨o_11,hj_12,hF⟩:=bind_some hF
 obtain ⟨hn_7,hj_12⟩:=aW hj_12
 refine aD (β:=(Unit)) (fun (s_8:Unit)=>([]:List (Nat×V))) (fun (s_8:Unit)=>(lQ 0 Sin)) (fun p=>o_11 = .go p) ?_ ?_
 ·refine aA (aV (β:=Nat×(List Alert)×(Unit)) (fun p=>(fun (k_3:Nat) (l_4:List Alert) (s_8:Unit)=>([(0,(vL Alert.enc s_1)),(1,(.fn gid caps)),(7,(vI (s_1.length:Int))),(8,(vI (k_3:Int)))]:List (Nat×V))) p.1 p.2.1 p.2.2) (fun p=>(fun (k_3:Nat) (l_4:List Alert) (s_8:Unit)=>(lQ 0 Sin)) p.1 p.2.1 p.2.2) (fun p=>forR (fun k x s=>bP f_2 k x s) p.2.1 p.1 p.2.2=some o_11∧(s_1).drop p.1=p.2.1) (fun p=>p.2.1.length) (0,s_1,()) ⟨hj_12,rfl⟩ rfl (nI _) ?_)
  rintro ⟨k_3,l_4,s_8⟩ ⟨hL_10,hD_6⟩
  dsimp only at hL_10 hD_6
  cases l_4 with
  | nil =>
   obtain rfl:=ah hL_10
   refine af (aa (ae (vB (decide ((k_3:Int) < (s_1.length:Int)))) wz rfl (aj ?_)))
   refine af (ax rfl (drop_nil hD_6) (aS ?_))
   exact aO (s_8) rfl rfl (nI _)
  | cons x_5 l_4 =>
   obtain ⟨c_,hc_9,hL_10⟩:=bind_some hL_10
   refine af (aa (ae (vB (decide ((k_3:Int) < (s_1.length:Int)))) wz rfl (aj ?_)))
   refine af (ay rfl (aX hD_6) (au ?_))
   unfold bP at hc_9
   refine af (aA (af (aa (ae (vI (k_3:Int)) wz rfl (ae (vI (k_3:Int)) wz rfl (aj (af (aa (ae (.fn gid caps) wz rfl (ae (vL Alert.enc s_1) wz rfl (ae (vI (k_3:Int)) wz rfl (dI uF rfl rfl (bC hD_6) rfl wz (bG gX kC rfl (.d (.agg (Alert.enc x_5))) rfl wz ?_)))))))))))))
   obtain ⟨r_13,hr_14,hc_9⟩:=bind_some hc_9
   refine zZ (hfn _ _ hr_14) rfl hbF rfl rfl hcapF hokF hsF hmF rfl wz rfl (aj ?_)
   rcases ak hc_9 with⟨hc_15,hc_9⟩ | ⟨hc_15,hc_9⟩
   ·refine ay rfl hc_15 (af (aa (ae (vI (k_3:Int)) wz rfl (ae (vI (k_3:Int)) wz rfl (aj ?_)))))
    obtain rfl:=ah hc_9
    obtain rfl:=ah hL_10
    obtain rfl:=ah hF
    exact aB (Gw hsF (.inr rfl) [(vI (k_3:Int))] ⟨rfl,trivial⟩ rfl rfl rfl)
   ·refine ax rfl hc_15 (au (aa (dY (bn hD_6 hn_7) wz rfl (ae (vI ((k_3 + 1:Nat):Int)) wz rfl (aj ?_)))))
    obtain rfl:=ah hc_9
    exact aU (k_3 + 1,l_4,()) ⟨hL_10,aR hD_6⟩ (Nat.lt_succ_self _) rfl (nI _)
 ·rintro s_8 ho_ sl_ H_ hp_ hq_
  subst ho_
  refine aK _ hp_ hq_ (af (aa (ae (vI (-1)) wz rfl (aj ?_))))
  obtain rfl:=ah hF
  exact aB (Gw hsF (.inr rfl) [(vI (-1))] ⟨rfl,trivial⟩ rfl rfl rfl)
theorem Cm {l_1:(List Alert)} {a_2:Alert} {ref_3:ByteArray} {r:Int} (hF:nX l_1 a_2 ref_3=some r) :
  FnM Tryz.prog 179 [(vL Alert.enc l_1),(.d (.agg (Alert.enc a_2))),(vS ref_3)] [] (vI r) []:=by
 refine FnM.of_wH ⟨Tryz.prog,10,[],[]⟩ rfl Tryz.func179 rfl rfl (Nat.le_of_ble_eq_true rfl) (by kernel_rfl) ?_
 unfold nX at hF
 refine af (aa (fB 0 (.inl rfl) [(vS a_2.Id),(vS a_2.Sender),(vI a_2.Kind),(vL eS a_2.Refs),(vI a_2.At),(vI a_2.Until),(vI a_2.Weight),(vL Rect.enc a_2.Areas),(vS a_2.Text)] rfl rfl wz (fun n_4=>fB 0 (.inl rfl) [(vS ref_3)] rfl rfl wz (fun n_5=>ae (vI 0) wz rfl (aj (af (aa (ae (vL Alert.enc l_1) wz rfl (ae (.fn 239 [(.ref n_5 0 0),(.ref n_4 0 0)]) wz rfl ?_)))))))))
 obtain ⟨r_6,hr_7,hF⟩:=bind_some hF
 refine dw 0 [1,0] il ft (gH (gid:=239) (caps := [.ref (aH 0) 0 0,.ref (aH 1) 0 0]) (Sin := [(.cells 1 [(vS ref_3)]),(.cells 9 [(vS a_2.Id),(vS a_2.Sender),(vI a_2.Kind),(vL eS a_2.Refs),(vI a_2.At),(vI a_2.Until),(vI a_2.Weight),(vL Rect.enc a_2.Areas),(vS a_2.Text)])]) (fun _ _ h_=>zu h_) hb239 ⟨rfl,rfl⟩ (by kernel_rfl) (DF (by kernel_rfl)) (zL (by kernel_rfl)) hr_7) rfl hb41 rfl (by kernel_rfl) (by kernel_rfl) (by kernel_rfl) (by kernel_rfl) (by kernel_rfl) (by kernel_rfl) (by kernel_rfl) (by decide) (by kernel_rfl) wz (vI r_6) (by kernel_rfl) ([(n_4,some (.cells 9 [(vS a_2.Id),(vS a_2.Sender),(vI a_2.Kind),(vL eS a_2.Refs),(vI a_2.At),(vI a_2.Until),(vI a_2.Weight),(vL Rect.enc a_2.Areas),(vS a_2.Text)])),(n_5,some (.cells 1 [(vS ref_3)]))]:Hp) (by kernel_rfl) (ae (vI r_6) wz rfl (aj ?_))
 obtain rfl:=ah hF
 exact aB (aP (.inr rfl) [(vI r_6)] ⟨rfl,trivial⟩ rfl rfl rfl)
theorem Ck {l_1:(List Alert)} {r:(List Int)} (hF:qK l_1=some r) :
  FnM Tryz.prog 103 [(vL Alert.enc l_1)] [] (vL eI r) []:=by
 refine FnM.of_wH ⟨Tryz.prog,55,[],[]⟩ rfl Tryz.func103 rfl rfl (Nat.le_of_ble_eq_true rfl) (by kernel_rfl) ?_
 unfold qK at hF
 refine af (aa (ae .nil wz rfl (aj (af (aa (ae .nil wz rfl (aj (af (af (aa (ae (vL Alert.enc l_1) wz rfl (bO FN rfl wz (ae (vI 0) wz rfl (aj (lT (fun n_8 => ?_))))))))))))))))
 obtain ⟨o_13,hj_14,hF⟩:=bind_some hF
 obtain ⟨hn_6,hj_14⟩:=aW hj_14
 refine aD (β:=((List Int))×Nm) (fun p=>(fun (s_7:(List Int)) (n_10:Nm)=>([(0,(vL Alert.enc l_1)),(3,(gV n_10 1 s_7))]:List (Nat×V))) p.1 p.2) (fun p=>(fun (s_7:(List Int)) (n_10:Nm)=>([(n_10,gB 1 eI s_7)]:Hp)) p.1 p.2) (fun p=>o_13 = .go p.1) ?_ ?_
 ·refine aA (aV (β:=Nat×(List Alert)×((List Int))×Nm) (fun p=>(fun (k_2:Nat) (l_3:List Alert) (s_7:(List Int)) (n_10:Nm)=>([(0,(vL Alert.enc l_1)),(3,(gV n_10 1 s_7)),(11,(vL Alert.enc l_1)),(12,(vI (l_1.length:Int))),(13,(vI (k_2:Int)))]:List (Nat×V))) p.1 p.2.1 p.2.2.1 p.2.2.2) (fun p=>(fun (k_2:Nat) (l_3:List Alert) (s_7:(List Int)) (n_10:Nm)=>([(n_10,gB 1 eI s_7)]:Hp)) p.1 p.2.1 p.2.2.1 p.2.2.2) (fun p=>forR (fun k x s=>l8 k x s) p.2.1 p.1 p.2.2.1=some o_13∧(l_1).drop p.1=p.2.1) (fun p=>p.2.1.length) (0,l_1,([]:List Int),n_8) ⟨hj_14,rfl⟩ rfl (aI rfl) ?_)
  rintro ⟨k_2,l_3,s_7,n_10⟩ ⟨hL_12,hD_5⟩
  dsimp only at hL_12 hD_5
  cases l_3 with
  | nil =>
   obtain rfl:=ah hL_12
   refine af (aa (ae (vB (decide ((k_2:Int) < (l_1.length:Int)))) wz rfl (aj ?_)))
   refine af (ax rfl (drop_nil hD_5) (aS ?_))
   exact aO (s_7,n_10) rfl rfl (aI rfl)
  | cons x_4 l_3 =>
   obtain ⟨c_,hc_11,hL_12⟩:=bind_some hL_12
   refine af (aa (ae (vB (decide ((k_2:Int) < (l_1.length:Int)))) wz rfl (aj ?_)))
   refine af (ay rfl (aX hD_5) (au ?_))
   unfold l8 at hc_11
   refine af (aA (af (aa (dI uF rfl rfl (bC hD_5) rfl wz (bG gX kC rfl (.d (.agg (Alert.enc x_4))) rfl wz (dh 0 (.inl rfl) FR rfl wz (fun n_15=>fD 0 il ft 1 gX rfl rfl [(vS x_4.Id),(vS x_4.Sender),(vI x_4.Kind),(vL eS x_4.Refs),(vI x_4.At),(vI x_4.Until),(vI x_4.Weight),(vL Rect.enc x_4.Areas),(vS x_4.Text)] rfl wz (aj (aa (ae (gV n_10 1 s_7) wz rfl (aG Ep rfl 5 rfl wz (aC 0 1 il ft sz3 ag3 rfl rfl (vI x_4.Until) rfl wz (eQ (([x_4.Until]:List Int).map eI) nM Di rfl rfl rfl rfl rfl wz ?_)))))))))))))
   obtain ⟨a_16,hz_17,hc_11⟩:=bind_some hc_11
   refine jT 0 il ft (i:=0) Lu Lu sz3 z3 rfl (by decide) by3 (by decide) (fun _=>rfl) rfl rfl rfl hz_17 wz (fun n_18=>ae (gV n_18 1 a_16) wz rfl (aj (aa (dY (bn hD_5 hn_6) wz rfl (ae (vI ((k_2 + 1:Nat):Int)) wz rfl (aj ?_))))))
   obtain rfl:=ah hc_11
   exact aU (k_2 + 1,l_3,a_16,n_18) ⟨hL_12,aR hD_5⟩ (Nat.lt_succ_self _) rfl (aI rfl)
 ·rintro ⟨s_7,n_10⟩ ho_ sl_ H_ hp_ hq_
  subst ho_
  refine aK _ hp_ hq_ (af (af (aa (ae (vL Alert.enc l_1) wz rfl (bO FN rfl wz (ae (vI 0) wz rfl (aj ?_)))))))
  obtain ⟨o_27,hj_28,hF⟩:=bind_some hF
  obtain ⟨hn_23,hj_28⟩:=aW hj_28
  refine aD (β:=((List Int))) (fun (s_24:(List Int))=>([(3,(gV n_10 1 s_24))]:List (Nat×V))) (fun (s_24:(List Int))=>([(n_10,gB 1 eI s_24)]:Hp)) (fun p=>o_27 = .go p) ?_ ?_
  ·refine aA (aV (β:=Nat×(List Alert)×((List Int))) (fun p=>(fun (k_19:Nat) (l_20:List Alert) (s_24:(List Int))=>([(0,(vL Alert.enc l_1)),(3,(gV n_10 1 s_24)),(23,(vL Alert.enc l_1)),(24,(vI (l_1.length:Int))),(25,(vI (k_19:Int)))]:List (Nat×V))) p.1 p.2.1 p.2.2) (fun p=>(fun (k_19:Nat) (l_20:List Alert) (s_24:(List Int))=>([(n_10,gB 1 eI s_24)]:Hp)) p.1 p.2.1 p.2.2) (fun p=>forR (fun k x s=>lZ l_1 k x s) p.2.1 p.1 p.2.2=some o_27∧(l_1).drop p.1=p.2.1) (fun p=>p.2.1.length) (0,l_1,s_7) ⟨hj_28,rfl⟩ rfl (aI rfl) ?_)
   rintro ⟨k_19,l_20,s_24⟩ ⟨hL_26,hD_22⟩
   dsimp only at hL_26 hD_22
   cases l_20 with
   | nil =>
    obtain rfl:=ah hL_26
    refine af (aa (ae (vB (decide ((k_19:Int) < (l_1.length:Int)))) wz rfl (aj ?_)))
    refine af (ax rfl (drop_nil hD_22) (aS ?_))
    exact aO (s_24) rfl rfl (aI rfl)
   | cons x_21 l_20 =>
    obtain ⟨c_,hc_25,hL_26⟩:=bind_some hL_26
    refine af (aa (ae (vB (decide ((k_19:Int) < (l_1.length:Int)))) wz rfl (aj ?_)))
    refine af (ay rfl (aX hD_22) (au ?_))
    unfold lZ at hc_25
    refine af (aA (af (aa (dI uF rfl rfl (bC hD_22) rfl wz (bG gX kC rfl (.d (.agg (Alert.enc x_21))) rfl wz (dh 0 (.inl rfl) FR rfl wz (fun n_29=>fD 0 il ft 1 gX rfl rfl [(vS x_21.Id),(vS x_21.Sender),(vI x_21.Kind),(vL eS x_21.Refs),(vI x_21.At),(vI x_21.Until),(vI x_21.Weight),(vL Rect.enc x_21.Areas),(vS x_21.Text)] rfl wz (aj (af (aa (aG p8 rfl 3 rfl wz (aC 0 1 il ft Bu DD rfl rfl (vL eS x_21.Refs) rfl wz (bO xu rfl wz (ae (vI 0) wz rfl (aj ?_)))))))))))))))
    obtain ⟨o_38,hj_39,hc_25⟩:=bind_some hc_25
    obtain ⟨hn_34,hj_39⟩:=aW hj_39
    refine aD (β:=((List Int))) (fun (s_35:(List Int))=>([(0,(vL Alert.enc l_1)),(3,(gV n_10 1 s_35)),(23,(vL Alert.enc l_1)),(24,(vI (l_1.length:Int))),(25,(vI (k_19:Int)))]:List (Nat×V))) (fun (s_35:(List Int))=>([(n_10,gB 1 eI s_35),(n_29,some (.cells 9 [(vS x_21.Id),(vS x_21.Sender),(vI x_21.Kind),(vL eS x_21.Refs),(vI x_21.At),(vI x_21.Until),(vI x_21.Weight),(vL Rect.enc x_21.Areas),(vS x_21.Text)]))]:Hp)) (fun p=>o_38 = .go p) ?_ ?_
    ·refine aA (aV (β:=Nat×(List ByteArray)×((List Int))) (fun p=>(fun (k_30:Nat) (l_31:List ByteArray) (s_35:(List Int))=>([(0,(vL Alert.enc l_1)),(3,(gV n_10 1 s_35)),(7,(.ref n_29 0 0)),(23,(vL Alert.enc l_1)),(24,(vI (l_1.length:Int))),(25,(vI (k_19:Int))),(30,(vL eS x_21.Refs)),(31,(vI (x_21.Refs.length:Int))),(32,(vI (k_30:Int)))]:List (Nat×V))) p.1 p.2.1 p.2.2) (fun p=>(fun (k_30:Nat) (l_31:List ByteArray) (s_35:(List Int))=>([(n_10,gB 1 eI s_35),(n_29,some (.cells 9 [(vS x_21.Id),(vS x_21.Sender),(vI x_21.Kind),(vL eS x_21.Refs),(vI x_21.At),(vI x_21.Until),(vI x_21.Weight),(vL Rect.enc x_21.Areas),(vS x_21.Text)]))]:Hp)) p.1 p.2.1 p.2.2) (fun p=>forR (fun k x s=>kg l_1 x_21 k x s) p.2.1 p.1 p.2.2=some o_38∧(x_21.Refs).drop p.1=p.2.1) (fun p=>p.2.1.length) (0,x_21.Refs,s_24) ⟨hj_39,rfl⟩ rfl (aI rfl) ?_)
     rintro ⟨k_30,l_31,s_35⟩ ⟨hL_37,hD_33⟩
     dsimp only at hL_37 hD_33
     cases l_31 with
     | nil =>
      obtain rfl:=ah hL_37
      refine af (aa (ae (vB (decide ((k_30:Int) < (x_21.Refs.length:Int)))) wz rfl (aj ?_)))
      refine af (ax rfl (drop_nil hD_33) (aS ?_))
      exact aO (s_35) rfl rfl (aI rfl)
     | cons x_32 l_31 =>
      obtain ⟨c_,hc_36,hL_37⟩:=bind_some hL_37
      refine af (aa (ae (vB (decide ((k_30:Int) < (x_21.Refs.length:Int)))) wz rfl (aj ?_)))
      refine af (ay rfl (aX hD_33) (au ?_))
      unfold kg at hc_36
      refine af (aA (af (aa (dI q8 rfl rfl (bC hD_33) rfl wz (bG sz9 ag9 rfl (vS x_32) rfl wz (ae (vS x_32) wz rfl (aj (af (aa (ae (vL Alert.enc l_1) wz rfl (aC 0 1 il ft gX kC rfl rfl (.d (.agg (Alert.enc x_21))) rfl wz (ae (vS x_32) wz rfl ?_))))))))))))
      obtain ⟨r_40,hr_41,hc_36⟩:=bind_some hc_36
      refine aF (Cm hr_41) rfl hb179 rfl rfl rfl rfl wz (ae (vI r_40) wz rfl (aj (af (aa (ae (vI r_40) wz rfl (ae (vB (decide (r_40≥0))) wz rfl (aj ?_)))))))
      obtain ⟨v_42,h_43,hc_36⟩:=bind_some hc_36
      refine aD (β:=Unit) (fun _=>([(0,(vL Alert.enc l_1)),(3,(gV n_10 1 v_42)),(7,(.ref n_29 0 0)),(23,(vL Alert.enc l_1)),(24,(vI (l_1.length:Int))),(25,(vI (k_19:Int))),(30,(vL eS x_21.Refs)),(31,(vI (x_21.Refs.length:Int))),(32,(vI (k_30:Int)))]:List (Nat×V))) (fun _=>([(n_10,gB 1 eI v_42),(n_29,some (.cells 9 [(vS x_21.Id),(vS x_21.Sender),(vI x_21.Kind),(vL eS x_21.Refs),(vI x_21.At),(vI x_21.Until),(vI x_21.Weight),(vL Rect.enc x_21.Areas),(vS x_21.Text)]))]:Hp)) (fun _=>True) ?_ ?_
      ·rcases ak h_43 with⟨hc_44,h_43⟩ | ⟨hc_44,h_43⟩
       ·refine ay rfl hc_44 (bA (ae (gV n_10 1 s_35) wz rfl (ae (vI r_40) wz rfl (ae (gV n_10 1 s_35) wz rfl (ae (vI r_40) wz rfl ?_)))))
        obtain ⟨_,hi_45,h_43⟩:=bind_some h_43
        refine xg nM rfl rfl (lN hi_45) (iV hi_45) wz ?_
        obtain ⟨e_46,hy_47,h_43⟩:=bind_some h_43
        refine nz 5 0 (.inr (by kernel_rfl)) (fun _ _ ag=>trivial) sz3 ag3 rfl rfl hy_47 (vI e_46) rfl wz (aG jU rfl 4 rfl wz (aC 7 1 (.inr (by kernel_rfl)) (fun _ _ ag=>⟨.inl ⟨rfl,rfl⟩,trivial⟩) sz3 ag3 rfl rfl (vI x_21.At) rfl wz (qi (vI (uX e_46 x_21.At)) rfl (.inl rfl) wz ?_)))
        obtain ⟨_,hi_48,h_43⟩:=bind_some h_43
        refine xg nM rfl rfl (lN hi_48) (iV hi_48) wz ?_
        obtain ⟨e_49,hy_50,h_43⟩:=bind_some h_43
        refine w9 10 (.inr (by kernel_rfl)) (fun _ _ ag=>⟨.inr (.inr (by kernel_rfl)),⟨.inr (.inr (by kernel_rfl)),trivial⟩⟩) 0 sz3 rfl rfl hy_50 (uX e_46 x_21.At) rfl wz (fU (v':=(gV n_10 1 (s_35.set (0 + (r_40).toNat) (uX e_46 x_21.At)))) 3 rfl (lc (by simp)) (fU (v':=(gV n_10 1 (s_35.set (0 + (r_40).toNat) (uX e_46 x_21.At)))) 42 rfl (lc (by simp)) (fU (v':=(gV n_10 1 (s_35.set (0 + (r_40).toNat) (uX e_46 x_21.At)))) 44 rfl (lc (by simp)) (aj ?_))))
        obtain rfl:=ah h_43
        exact cu
       ·refine ax rfl hc_44 (au ?_)
        obtain rfl:=ah h_43
        exact cu
      ·rintro ⟨⟩ _ sl_ H_ hp_ hq_
       refine aK _ hp_ hq_ (aa (dY (bn hD_33 hn_34) wz rfl (ae (vI ((k_30 + 1:Nat):Int)) wz rfl (aj ?_))))
       obtain rfl:=ah hc_36
       exact aU (k_30 + 1,l_31,v_42) ⟨hL_37,aR hD_33⟩ (Nat.lt_succ_self _) rfl (aI rfl)
    ·rintro s_35 ho_ sl_ H_ hp_ hq_
     subst ho_
     refine aK _ hp_ hq_ (aa (dY (bn hD_22 hn_23) wz rfl (ae (vI ((k_19 + 1:Nat):Int)) wz rfl (aj ?_))))
     obtain rfl:=ah hc_25
     exact aU (k_19 + 1,l_20,s_35) ⟨hL_26,aR hD_22⟩ (Nat.lt_succ_self _) rfl (aI rfl)
  ·rintro s_24 ho_ sl_ H_ hp_ hq_
   subst ho_
   refine aK _ hp_ hq_ (af (aa (ae (gV n_10 1 s_24) wz rfl (ae (gV n_10 1 s_24) wz rfl (aj (gM 0 rfl (dQ 2 0 rfl rfl (dQ 3 0 rfl rfl (dQ 54 0 rfl rfl ?_)))))))))
   obtain rfl:=ah hF
   exact aB (aP (.inr rfl) [(vL eI s_24)] ⟨rfl,trivial⟩ rfl rfl rfl)
theorem xz {r_1:Rect} {p_2:Post} {r:Bool} (hF:jV r_1 p_2=some r) :
  FnM Tryz.prog 183 [(.d (.agg (Rect.enc r_1))),(.ref (aH 0) 0 0)] [(.cells 3 [(vS p_2.Player),(vI p_2.X),(vI p_2.Y)])] (vB r) [some (.cells 3 [(vS p_2.Player),(vI p_2.X),(vI p_2.Y)])]:=by
 refine FnM.of_wH ⟨Tryz.prog,36,[],[]⟩ rfl Tryz.func183 rfl rfl (Nat.le_of_ble_eq_true rfl) (by kernel_rfl) ?_
 unfold jV at hF
 refine af (aa (fB 0 (.inl rfl) [(vI r_1.X),(vI r_1.Y),(vI r_1.W),(vI r_1.H)] rfl rfl wz (fun n_3=>ae (vB false) wz rfl (aj (af ?_)))))
 obtain ⟨v_4,h_5,hF⟩:=bind_some hF
 refine aD (β:=Unit) (fun _=>([(3,(vB v_4))]:List (Nat×V))) (fun _=>([((aH 0),some (.cells 3 [(vS p_2.Player),(vI p_2.X),(vI p_2.Y)])),(n_3,some (.cells 4 [(vI r_1.X),(vI r_1.Y),(vI r_1.W),(vI r_1.H)]))]:Hp)) (fun _=>True) ?_ ?_
 ·refine aa (aG yY rfl 0 rfl wz (aC 0 1 il ft sz3 ag3 rfl rfl (vI r_1.X) rfl wz (aG Gg rfl 1 rfl wz (aC 0 0 il ft sz3 ag3 rfl rfl (vI p_2.X) rfl wz (ae (vB (decide (r_1.X≤p_2.X))) wz rfl ?_)))))
  rcases ak h_5 with⟨hc_6,h_5⟩ | ⟨hc_6,h_5⟩
  ·refine av rfl hc_6 wz (aG Gg rfl 1 rfl wa (aC 0 0 il ft sz3 ag3 rfl rfl (vI p_2.X) rfl wa (aG yY rfl 0 rfl wa (aC 0 1 il ft sz3 ag3 rfl rfl (vI r_1.X) rfl wa (aG Ej rfl 2 rfl wa (aC 0 1 il ft sz3 ag3 rfl rfl (vI r_1.W) rfl wa (ae (vI (w64 (r_1.X + r_1.W))) wa rfl (ae (vB (decide (p_2.X < (w64 (r_1.X + r_1.W))))) wa rfl (ae (vB (decide (p_2.X < (w64 (r_1.X + r_1.W))))) wz rfl ?_)))))))))
   rcases ak h_5 with⟨hc_7,h_5⟩ | ⟨hc_7,h_5⟩
   ·refine av rfl hc_7 wz (aG uI rfl 1 rfl wa (aC 0 1 il ft sz3 ag3 rfl rfl (vI r_1.Y) rfl wa (aG Gu rfl 2 rfl wa (aC 0 0 il ft sz3 ag3 rfl rfl (vI p_2.Y) rfl wa (ae (vB (decide (r_1.Y≤p_2.Y))) wa rfl (ae (vB (decide (r_1.Y≤p_2.Y))) wz rfl ?_))))))
    rcases ak h_5 with⟨hc_8,h_5⟩ | ⟨hc_8,h_5⟩
    ·refine av rfl hc_8 wz (aG Gu rfl 2 rfl wa (aC 0 0 il ft sz3 ag3 rfl rfl (vI p_2.Y) rfl wa (aG uI rfl 1 rfl wa (aC 0 1 il ft sz3 ag3 rfl rfl (vI r_1.Y) rfl wa (aG Ar rfl 3 rfl wa (aC 0 1 il ft sz3 ag3 rfl rfl (vI r_1.H) rfl wa (ae (vI (w64 (r_1.Y + r_1.H))) wa rfl (ae (vB (decide (p_2.Y < (w64 (r_1.Y + r_1.H))))) wa rfl (ae (vB (decide (p_2.Y < (w64 (r_1.Y + r_1.H))))) wz rfl (ae (vB (decide (p_2.Y < (w64 (r_1.Y + r_1.H))))) wz rfl (aj ?_)))))))))))
     obtain rfl:=ah h_5
     exact cu
    ·refine av rfl hc_8 wz (ai wa (ai wa (ai wa (ai wa (ai wa (ai wa (ai wa (ai wa (ae (vB false) wz rfl (ae (vB false) wz rfl (aj ?_)))))))))))
     obtain rfl:=ah h_5
     exact cu
   ·refine av rfl hc_7 wz (ai wa (ai wa (ai wa (ai wa (ai wa (ae (vB false) wz rfl (ae (vB false) wz rfl (ai wa (ai wa (ai wa (ai wa (ai wa (ai wa (ai wa (ai wa (ae (vB false) wz rfl (ae (vB false) wz rfl (aj ?_))))))))))))))))))
    obtain rfl:=ah h_5
    exact cu
  ·refine av rfl hc_6 wz (ai wa (ai wa (ai wa (ai wa (ai wa (ai wa (ai wa (ai wa (ae (vB false) wz rfl (ae (vB false) wz rfl (ai wa (ai wa (ai wa (ai wa (ai wa (ae (vB false) wz rfl (ae (vB false) wz rfl (ai wa (ai wa (ai wa (ai wa (ai wa (ai wa ?_)))))))))))))))))))))))
   refine ai wa (ai wa (ae (vB false) wz rfl (ae (vB false) wz rfl (aj ?_))))
   obtain rfl:=ah h_5
   exact cu
 ·rintro ⟨⟩ _ sl_ H_ hp_ hq_
  refine aK _ hp_ hq_ ?_
  obtain rfl:=ah hF
  exact aB (xC (.inr rfl) [(vB v_4)] _ [0] [aH 0] ⟨rfl,trivial⟩ (.cons (iZ rfl rfl) (.nil)) (by kernel_rfl) ⟨(by kernel_rfl),trivial⟩ (by decide) (by kernel_rfl))
theorem lL {s_1:(List Rect)} {f_2:Rect→Option Bool} {r:Int} {gid:FuncId} {caps:List V} {Sin:List Box} (hfn:∀ x0 r,f_2 x0=some r→FnM Tryz.prog gid ([(.d (.agg (Rect.enc x0)))]++caps) Sin (vB r) (Sin.map some)) (hbF:aJ Tryz.prog gid=true) (hcapF:caps.flatMap frz = []∧caps.map co0=caps) (hokF:okL Sin.length caps=true) (hsF:∀ b∈Sin,b.ok Sin.length=true) (hmF:∀ b∈Sin,b.mut=true) (hF:dF s_1 f_2=some r) :
  FnM Tryz.prog 249 [(vL Rect.enc s_1),(.fn gid caps)] Sin (vI r) (Sin.map some):=by
 refine FnM.of_wH ⟨Tryz.prog,19,[],[]⟩ rfl Tryz.func249 rfl rfl (Nat.le_of_ble_eq_true rfl) (by kernel_rfl) ?_
 unfold dF at hF
 refine af (aa (ae (vI 0) wz rfl (aj (af (af (aa (ae (vL Rect.enc s_1) wz rfl (bO yI rfl wz (ae (vI 0) wz rfl (aj ?_))))))))))
 obtain ⟨o_11,hj_12,hF⟩:=bind_some hF
 obtain ⟨hn_7,hj_12⟩:=aW hj_12
 refine aD (β:=(Unit)) (fun (s_8:Unit)=>([]:List (Nat×V))) (fun (s_8:Unit)=>(lQ 0 Sin)) (fun p=>o_11 = .go p) ?_ ?_
 ·refine aA (aV (β:=Nat×(List Rect)×(Unit)) (fun p=>(fun (k_3:Nat) (l_4:List Rect) (s_8:Unit)=>([(0,(vL Rect.enc s_1)),(1,(.fn gid caps)),(7,(vI (s_1.length:Int))),(8,(vI (k_3:Int)))]:List (Nat×V))) p.1 p.2.1 p.2.2) (fun p=>(fun (k_3:Nat) (l_4:List Rect) (s_8:Unit)=>(lQ 0 Sin)) p.1 p.2.1 p.2.2) (fun p=>forR (fun k x s=>bg f_2 k x s) p.2.1 p.1 p.2.2=some o_11∧(s_1).drop p.1=p.2.1) (fun p=>p.2.1.length) (0,s_1,()) ⟨hj_12,rfl⟩ rfl (nI _) ?_)
  rintro ⟨k_3,l_4,s_8⟩ ⟨hL_10,hD_6⟩
  dsimp only at hL_10 hD_6
  cases l_4 with
  | nil =>
   obtain rfl:=ah hL_10
   refine af (aa (ae (vB (decide ((k_3:Int) < (s_1.length:Int)))) wz rfl (aj ?_)))
   refine af (ax rfl (drop_nil hD_6) (aS ?_))
   exact aO (s_8) rfl rfl (nI _)
  | cons x_5 l_4 =>
   obtain ⟨c_,hc_9,hL_10⟩:=bind_some hL_10
   refine af (aa (ae (vB (decide ((k_3:Int) < (s_1.length:Int)))) wz rfl (aj ?_)))
   refine af (ay rfl (aX hD_6) (au ?_))
   unfold bg at hc_9
   refine af (aA (af (aa (ae (vI (k_3:Int)) wz rfl (ae (vI (k_3:Int)) wz rfl (aj (af (aa (ae (.fn gid caps) wz rfl (ae (vL Rect.enc s_1) wz rfl (ae (vI (k_3:Int)) wz rfl (dI Cj rfl rfl (bC hD_6) rfl wz (bG rF DK rfl (.d (.agg (Rect.enc x_5))) rfl wz ?_)))))))))))))
   obtain ⟨r_13,hr_14,hc_9⟩:=bind_some hc_9
   refine zZ (hfn _ _ hr_14) rfl hbF rfl rfl hcapF hokF hsF hmF rfl wz rfl (aj ?_)
   rcases ak hc_9 with⟨hc_15,hc_9⟩ | ⟨hc_15,hc_9⟩
   ·refine ay rfl hc_15 (af (aa (ae (vI (k_3:Int)) wz rfl (ae (vI (k_3:Int)) wz rfl (aj ?_)))))
    obtain rfl:=ah hc_9
    obtain rfl:=ah hL_10
    obtain rfl:=ah hF
    exact aB (Gw hsF (.inr rfl) [(vI (k_3:Int))] ⟨rfl,trivial⟩ rfl rfl rfl)
   ·refine ax rfl hc_15 (au (aa (dY (bn hD_6 hn_7) wz rfl (ae (vI ((k_3 + 1:Nat):Int)) wz rfl (aj ?_)))))
    obtain rfl:=ah hc_9
    exact aU (k_3 + 1,l_4,()) ⟨hL_10,aR hD_6⟩ (Nat.lt_succ_self _) rfl (nI _)
 ·rintro s_8 ho_ sl_ H_ hp_ hq_
  subst ho_
  refine aK _ hp_ hq_ (af (aa (ae (vI (-1)) wz rfl (aj ?_))))
  obtain rfl:=ah hF
  exact aB (Gw hsF (.inr rfl) [(vI (-1))] ⟨rfl,trivial⟩ rfl rfl rfl)
theorem kv {s_1:(List Rect)} {f_2:Rect→Option Bool} {r:Bool} {gid:FuncId} {caps:List V} {Sin:List Box} (hfn:∀ x0 r,f_2 x0=some r→FnM Tryz.prog gid ([(.d (.agg (Rect.enc x0)))]++caps) Sin (vB r) (Sin.map some)) (hbF:aJ Tryz.prog gid=true) (hcapF:caps.flatMap frz = []∧caps.map co0=caps) (hokF:okL Sin.length caps=true) (hsF:∀ b∈Sin,b.ok Sin.length=true) (hmF:∀ b∈Sin,b.mut=true) (hF:bT s_1 f_2=some r) :
  FnM Tryz.prog 182 [(vL Rect.enc s_1),(.fn gid caps)] Sin (vB r) (Sin.map some):=by
 refine FnM.of_wH ⟨Tryz.prog,9,[],[]⟩ rfl Tryz.func182 rfl rfl (Nat.le_of_ble_eq_true rfl) (by kernel_rfl) ?_
 unfold bT at hF
 refine af (aa (ae (vB false) wz rfl (aj (af (aa (ae (vL Rect.enc s_1) wz rfl (ae (.fn gid caps) wz rfl ?_)))))))
 obtain ⟨r_3,hr_4,hF⟩:=bind_some hF
 refine zZ (lL (gid:=gid) (caps:=caps) (Sin:=Sin) hfn hbF hcapF hokF hsF hmF hr_4) rfl hb249 rfl rfl ⟨rfl,rfl⟩ (by simp [okL,okV,hokF]) hsF hmF rfl wz rfl (ae (vB (decide (r_3≥0))) wz rfl (ae (vB (decide (r_3≥0))) wz rfl (aj ?_)))
 obtain rfl:=ah hF
 exact aB (Gw hsF (.inr rfl) [(vB (decide (r_3≥0)))] ⟨rfl,trivial⟩ rfl rfl rfl)
theorem sH {a_1:Alert} {p_2:Post} {r:Bool} (hF:jh a_1 p_2=some r) :
  FnM Tryz.prog 109 [(.d (.agg (Alert.enc a_1))),(.d (.agg (Post.enc p_2)))] [] (vB r) []:=by
 refine FnM.of_wH ⟨Tryz.prog,9,[],[]⟩ rfl Tryz.func109 rfl rfl (Nat.le_of_ble_eq_true rfl) (by kernel_rfl) ?_
 unfold jh at hF
 refine af (aa (fB 0 (.inl rfl) [(vS a_1.Id),(vS a_1.Sender),(vI a_1.Kind),(vL eS a_1.Refs),(vI a_1.At),(vI a_1.Until),(vI a_1.Weight),(vL Rect.enc a_1.Areas),(vS a_1.Text)] rfl rfl wz (fun n_3=>fB 0 (.inl rfl) [(vS p_2.Player),(vI p_2.X),(vI p_2.Y)] rfl rfl wz (fun n_4=>ae (vB false) wz rfl (aj (af (aa (aG vH rfl 7 rfl wz (aC 0 0 il ft FT Gi rfl rfl (vL Rect.enc a_1.Areas) rfl wz (ae (.fn 183 [(.ref n_4 0 0)]) wz rfl ?_))))))))))
 obtain ⟨r_5,hr_6,hF⟩:=bind_some hF
 refine dw 0 [1] il ft (kv (gid:=183) (caps := [.ref (aH 0) 0 0]) (Sin := [(.cells 3 [(vS p_2.Player),(vI p_2.X),(vI p_2.Y)])]) (fun _ _ h_=>xz h_) hb183 ⟨rfl,rfl⟩ (by kernel_rfl) (DF (by kernel_rfl)) (zL (by kernel_rfl)) hr_6) rfl hb182 rfl (by kernel_rfl) (by kernel_rfl) (by kernel_rfl) (by kernel_rfl) (by kernel_rfl) (by kernel_rfl) (by kernel_rfl) (by decide) (by kernel_rfl) wz (vB r_5) (by kernel_rfl) ([(n_3,some (.cells 9 [(vS a_1.Id),(vS a_1.Sender),(vI a_1.Kind),(vL eS a_1.Refs),(vI a_1.At),(vI a_1.Until),(vI a_1.Weight),(vL Rect.enc a_1.Areas),(vS a_1.Text)])),(n_4,some (.cells 3 [(vS p_2.Player),(vI p_2.X),(vI p_2.Y)]))]:Hp) (by kernel_rfl) (ae (vB r_5) wz rfl (aj ?_))
 obtain rfl:=ah hF
 exact aB (aP (.inr rfl) [(vB r_5)] ⟨rfl,trivial⟩ rfl rfl rfl)
theorem zI {a_1:Alert} {endv_2:Int} {p_3:Post} {atv_4:Int} {r:Bool} (hF:mZ a_1 endv_2 p_3 atv_4=some r) :
  FnM Tryz.prog 104 [(.d (.agg (Alert.enc a_1))),(vI endv_2),(.d (.agg (Post.enc p_3))),(vI atv_4)] [] (vB r) []:=by
 refine FnM.of_wH ⟨Tryz.prog,29,[],[]⟩ rfl Tryz.func104 rfl rfl (Nat.le_of_ble_eq_true rfl) (by kernel_rfl) ?_
 unfold mZ at hF
 refine af (aa (fB 0 (.inl rfl) [(vS a_1.Id),(vS a_1.Sender),(vI a_1.Kind),(vL eS a_1.Refs),(vI a_1.At),(vI a_1.Until),(vI a_1.Weight),(vL Rect.enc a_1.Areas),(vS a_1.Text)] rfl rfl wz (fun n_5=>fB 0 (.inl rfl) [(vS p_3.Player),(vI p_3.X),(vI p_3.Y)] rfl rfl wz (fun n_6=>ae (vB false) wz rfl (aj (af ?_))))))
 obtain ⟨v_7,h_8,hF⟩:=bind_some hF
 refine aD (β:=Unit) (fun _=>([(8,(vB v_7))]:List (Nat×V))) (fun _=>([(n_5,some (.cells 9 [(vS a_1.Id),(vS a_1.Sender),(vI a_1.Kind),(vL eS a_1.Refs),(vI a_1.At),(vI a_1.Until),(vI a_1.Weight),(vL Rect.enc a_1.Areas),(vS a_1.Text)])),(n_6,some (.cells 3 [(vS p_3.Player),(vI p_3.X),(vI p_3.Y)]))]:Hp)) (fun _=>True) ?_ ?_
 ·refine aa (aG vz rfl 2 rfl wz (aC 0 0 il ft sz3 ag3 rfl rfl (vI a_1.Kind) rfl wz (ae (vB (a_1.Kind != 3)) wz rfl ?_)))
  rcases ak h_8 with⟨hc_9,h_8⟩ | ⟨hc_9,h_8⟩
  ·refine av rfl hc_9 wz (aG jU rfl 4 rfl wa (aC 0 0 il ft sz3 ag3 rfl rfl (vI a_1.At) rfl wa (ae (vI atv_4) wa rfl (ae (vB (decide (a_1.At≤atv_4))) wa rfl (ae (vB (decide (a_1.At≤atv_4))) wz rfl ?_)))))
   rcases ak h_8 with⟨hc_10,h_8⟩ | ⟨hc_10,h_8⟩
   ·refine av rfl hc_10 wz (aG jU rfl 4 rfl wa (aC 0 0 il ft sz3 ag3 rfl rfl (vI a_1.At) rfl wa (ae (vI endv_2) wa rfl (ae (vB (decide (a_1.At < endv_2))) wa rfl (ae (vB (decide (a_1.At < endv_2))) wz rfl ?_)))))
    rcases ak h_8 with⟨hc_11,h_8⟩ | ⟨hc_11,h_8⟩
    ·refine av rfl hc_11 wz (aC 0 0 il ft gX kC rfl rfl (.d (.agg (Alert.enc a_1))) rfl wa (aC 0 1 il ft wZ Ch rfl rfl (.d (.agg (Post.enc p_3))) rfl wa ?_))
     obtain ⟨r_12,hr_13,h_8⟩:=bind_some h_8
     refine aF (sH hr_13) rfl hb109 rfl rfl rfl rfl wa (ae (vB r_12) wz rfl (ae (vB r_12) wz rfl (aj ?_)))
     obtain rfl:=ah h_8
     exact cu
    ·refine av rfl hc_11 wz (ai wa (ai wa (ai wa (ae (vB false) wz rfl (ae (vB false) wz rfl (aj ?_))))))
     obtain rfl:=ah h_8
     exact cu
   ·refine av rfl hc_10 wz (ai wa (ai wa (ai wa (ai wa (ae (vB false) wz rfl (ae (vB false) wz rfl (ai wa (ai wa (ai wa (ae (vB false) wz rfl (ae (vB false) wz rfl (aj ?_))))))))))))
    obtain rfl:=ah h_8
    exact cu
  ·refine av rfl hc_9 wz (ai wa (ai wa (ai wa (ai wa (ae (vB false) wz rfl (ae (vB false) wz rfl (ai wa (ai wa (ai wa (ai wa (ae (vB false) wz rfl (ae (vB false) wz rfl (ai wa (ai wa (ai wa (ae (vB false) wz rfl (ae (vB false) wz rfl (aj ?_))))))))))))))))))
   obtain rfl:=ah h_8
   exact cu
 ·rintro ⟨⟩ _ sl_ H_ hp_ hq_
  refine aK _ hp_ hq_ ?_
  obtain rfl:=ah hF
  exact aB (aP (.inr rfl) [(vB v_7)] ⟨rfl,trivial⟩ rfl rfl rfl)
theorem yO {a_1:Debt} {b_2:Debt} {r:Int} (hF:kr a_1 b_2=some r) :
  FnM Tryz.prog 106 [(.d (.agg (Debt.enc a_1))),(.d (.agg (Debt.enc b_2)))] [] (vI r) []:=by
 refine FnM.of_wH ⟨Tryz.prog,17,[],[]⟩ rfl Tryz.func106 rfl rfl (Nat.le_of_ble_eq_true rfl) (by kernel_rfl) ?_
 unfold kr at hF
 refine af (aa (fB 0 (.inl rfl) [(vS a_1.Player),(vS a_1.Alert),(vI a_1.Due),(vI a_1.Got)] rfl rfl wz (fun n_3=>fB 0 (.inl rfl) [(vS b_2.Player),(vS b_2.Alert),(vI b_2.Due),(vI b_2.Got)] rfl rfl wz (fun n_4=>ae (vI 0) wz rfl (aj (af (bA (aG GI rfl 0 rfl wz (aC 1 0 (.inr (by kernel_rfl)) (fun _ _ ag=>trivial) sz9 ag9 rfl rfl (vS a_1.Player) rfl wz (aG GI rfl 0 rfl wz (aC 3 1 (.inr (by kernel_rfl)) (fun _ _ ag=>⟨.inl ⟨rfl,rfl⟩,trivial⟩) sz9 ag9 rfl rfl (vS b_2.Player) rfl wz ?_)))))))))))
 obtain ⟨r_5,hr_6,hF⟩:=bind_some hF
 refine aF (gq hr_6) rfl CG rfl rfl rfl rfl wz (aG G5 rfl 1 rfl wz (aC 6 0 (.inr (by kernel_rfl)) (fun _ _ ag=>⟨.inl ⟨rfl,rfl⟩,⟨.inl ⟨rfl,rfl⟩,trivial⟩⟩) sz9 ag9 rfl rfl (vS a_1.Alert) rfl wz (aG G5 rfl 1 rfl wz (aC 8 1 (.inr (by kernel_rfl)) (fun _ _ ag=>⟨.inl ⟨rfl,rfl⟩,⟨.inl ⟨rfl,rfl⟩,⟨.inl ⟨rfl,rfl⟩,trivial⟩⟩⟩) sz9 ag9 rfl rfl (vS b_2.Alert) rfl wz ?_))))
 obtain ⟨r_7,hr_8,hF⟩:=bind_some hF
 refine aF (gq hr_8) rfl CG rfl rfl rfl rfl wz (eQ (([r_5,r_7]:List Int).map eI) nM Di rfl rfl rfl rfl rfl wz ?_)
 obtain ⟨r_9,hr_10,hF⟩:=bind_some hF
 refine aF (oq hr_10) rfl HZ rfl rfl rfl rfl wz (ae (vI r_9) wz rfl (aj ?_))
 obtain rfl:=ah hF
 exact aB (aP (.inr rfl) [(vI r_9)] ⟨rfl,trivial⟩ rfl rfl rfl)
theorem nL {x r:(List Debt)} (hF:eT x=some r) :
  FnM Tryz.prog 105 [(dV (aH 0) 4 x),(.fn 106 [])] (([]:List Box)++gI 4 Debt.enc x) (.tup []) (([]:List Box).map some++gT x (gB 4 Debt.enc r)) :=
 IY (E:=Debt.enc) (F:=fun a b=>kr a b) rfl (fun _=>rfl) (fun a b r h=>yO h) hb106 (fun β _ enc hk h1 cf hO g cb blk off cap d w eg hcmp hH hblk hsz=>Tryz.slices_SortFunc_eq_f105 4 Tryz.isAgg96 Tryz.sizeOf96 enc hk h1 cf hO g cb blk off cap d w eg hcmp hH hblk hsz) (fun p cap fv w=>Tryz.slices_SortFunc_none_f105 (α:=Nat) p cap fv w) hF
theorem vk {l_1:(List Alert)} {posts_2:(List Post)} {r_3:(List Receipt)} {inv_4:Int} {atv_5:Int} {r:(List Debt)×Int} (hF:mF l_1 posts_2 r_3 inv_4 atv_5=some r) :
  FnM Tryz.prog 40 [(vL Alert.enc l_1),(vL Post.enc posts_2),(vL Receipt.enc r_3),(vI inv_4),(vI atv_5)] [] (.tup [(vL Debt.enc r.1),(vI r.2)]) []:=by
 refine FnM.of_wH ⟨Tryz.prog,122,[],[]⟩ rfl Tryz.func40 rfl rfl (Nat.le_of_ble_eq_true rfl) (by kernel_rfl) ?_
 unfold mF at hF
 refine af (aa (ae .nil wz rfl (ae (vI 0) wz rfl (aj (af (af (aa (ae (vL Alert.enc l_1) wz rfl (ae (vL Post.enc posts_2) wz rfl (ae (vL Receipt.enc r_3) wz rfl ?_))))))))))
 obtain ⟨r_6,hr_7,hF⟩:=bind_some hF
 refine aF (x8 hr_7) rfl hb100 rfl rfl rfl rfl wz (ae (vI r_6) wz rfl (aj (af (aa (ae (vI r_6) wz rfl (ae (vB (r_6 != 0)) wz rfl (aj ?_)))))))
 rcases ak hF with⟨hc_8,hF⟩ | ⟨hc_8,hF⟩
 ·refine ay rfl hc_8 (af (aa (ae (vI r_6) wz rfl (ae .nil wz rfl (ae (vI r_6) wz rfl (aj ?_))))))
  obtain rfl:=ah hF
  exact aB (aP (.inr rfl) [.nil,(vI r_6)] ⟨rfl,⟨rfl,trivial⟩⟩ rfl rfl rfl)
 ·refine ax rfl hc_8 (au (af (af ?_)))
  obtain ⟨v_9,h_10,hF⟩:=bind_some hF
  refine aD (β:=Unit) (fun _=>([(0,(vL Alert.enc l_1)),(1,(vL Post.enc posts_2)),(2,(vL Receipt.enc r_3)),(3,(vI inv_4)),(4,(vI atv_5)),(36,(vB v_9))]:List (Nat×V))) (fun _=>([]:Hp)) (fun _=>True) ?_ ?_
  ·refine aa (ae (vI inv_4) wz rfl ?_)
   obtain ⟨r_11,hr_12,h_10⟩:=bind_some h_10
   refine aF (aY hr_12) rfl pM rfl rfl rfl rfl wz ?_
   rcases ak h_10 with⟨hc_13,h_10⟩ | ⟨hc_13,h_10⟩
   ·refine av rfl hc_13 wz (ai wa (ai wa (ai wa (ae (vB true) wz rfl (aj ?_)))))
    obtain rfl:=ah h_10
    exact cu
   ·refine av rfl hc_13 wz (ae (vI atv_5) wa rfl ?_)
    obtain ⟨r_14,hr_15,h_10⟩:=bind_some h_10
    refine aF (eU hr_15) rfl xK rfl rfl rfl rfl wa (ae (vB (!r_14)) wa rfl (ae (vB (!r_14)) wz rfl (aj ?_)))
    obtain rfl:=ah h_10
    exact cu
  ·rintro ⟨⟩ _ sl_ H_ hp_ hq_
   refine aK _ hp_ hq_ ?_
   rcases ak hF with⟨hc_16,hF⟩ | ⟨hc_16,hF⟩
   ·refine ay rfl hc_16 (af (aa (ae .nil wz rfl (ae (vI 1) wz rfl (aj ?_)))))
    obtain rfl:=ah hF
    exact aB (aP (.inr rfl) [.nil,(vI 1)] ⟨rfl,⟨rfl,trivial⟩⟩ rfl rfl rfl)
   ·refine ax rfl hc_16 (au (af (aa (ae (vL Receipt.enc r_3) wz rfl (ae (vI atv_5) wz rfl ?_)))))
    obtain ⟨r_17,hr_18,hF⟩:=bind_some hF
    refine h_calln [] 1 (BN hr_18) rfl hb102 rfl (by kernel_rfl) (by kernel_rfl) (by kernel_rfl) (by kernel_rfl) (by kernel_rfl) (by kernel_rfl) (by kernel_rfl) (by decide) (by kernel_rfl) (by kernel_rfl) wz (fun nu_19=>(.map (nu_19 0))) (fun _=>by kernel_rfl) (fun nu_19=>([((nu_19 0),some (bM (fun x=>D.agg (Pair.enc x)) (D.int .i64) r_17))]:Hp)) (fun _=>by kernel_rfl) ?_
    intro nu_19
    refine ae (.map (nu_19 0)) wz rfl (aj (af (aa (ae (vL Alert.enc l_1) wz rfl ?_))))
    obtain ⟨r_20,hr_21,hF⟩:=bind_some hF
    refine aF (Ck hr_21) rfl hb103 rfl rfl rfl rfl wz (ae (vL eI r_20) wz rfl (aj (af (aa (ae .nil wz rfl (aj (af (af (aa (ae (vL Post.enc posts_2) wz rfl (bO Jw rfl wz (ae (vI 0) wz rfl (aj (lT (fun n_28 => ?_)))))))))))))))
    obtain ⟨o_33,hj_34,hF⟩:=bind_some hF
    obtain ⟨hn_26,hj_34⟩:=aW hj_34
    refine aD (β:=((List Debt))×Nm) (fun p=>(fun (s_27:(List Debt)) (n_30:Nm)=>([(15,(gV n_30 4 s_27))]:List (Nat×V))) p.1 p.2) (fun p=>(fun (s_27:(List Debt)) (n_30:Nm)=>([((nu_19 0),some (bM (fun x=>D.agg (Pair.enc x)) (D.int .i64) r_17)),(n_30,gB 4 Debt.enc s_27)]:Hp)) p.1 p.2) (fun p=>o_33 = .go p.1) ?_ ?_
    ·refine aA (aV (β:=Nat×(List Post)×((List Debt))×Nm) (fun p=>(fun (k_22:Nat) (l_23:List Post) (s_27:(List Debt)) (n_30:Nm)=>([(0,(vL Alert.enc l_1)),(3,(vI inv_4)),(4,(vI atv_5)),(13,(.map (nu_19 0))),(14,(vL eI r_20)),(15,(gV n_30 4 s_27)),(42,(vL Post.enc posts_2)),(43,(vI (posts_2.length:Int))),(44,(vI (k_22:Int)))]:List (Nat×V))) p.1 p.2.1 p.2.2.1 p.2.2.2) (fun p=>(fun (k_22:Nat) (l_23:List Post) (s_27:(List Debt)) (n_30:Nm)=>([((nu_19 0),some (bM (fun x=>D.agg (Pair.enc x)) (D.int .i64) r_17)),(n_30,gB 4 Debt.enc s_27)]:Hp)) p.1 p.2.1 p.2.2.1 p.2.2.2) (fun p=>forR (fun k x s=>kS l_1 r_20 atv_5 inv_4 r_17 k x s) p.2.1 p.1 p.2.2.1=some o_33∧(posts_2).drop p.1=p.2.1) (fun p=>p.2.1.length) (0,posts_2,([]:List Debt),n_28) ⟨hj_34,rfl⟩ rfl (aI rfl) ?_)
     rintro ⟨k_22,l_23,s_27,n_30⟩ ⟨hL_32,hD_25⟩
     dsimp only at hL_32 hD_25
     cases l_23 with
     | nil =>
      obtain rfl:=ah hL_32
      refine af (aa (ae (vB (decide ((k_22:Int) < (posts_2.length:Int)))) wz rfl (aj ?_)))
      refine af (ax rfl (drop_nil hD_25) (aS ?_))
      exact aO (s_27,n_30) rfl rfl (aI rfl)
     | cons x_24 l_23 =>
      obtain ⟨c_,hc_31,hL_32⟩:=bind_some hL_32
      refine af (aa (ae (vB (decide ((k_22:Int) < (posts_2.length:Int)))) wz rfl (aj ?_)))
      refine af (ay rfl (aX hD_25) (au ?_))
      unfold kS at hc_31
      refine af (aA (af (aa (dI Er rfl rfl (bC hD_25) rfl wz (bG wZ Ch rfl (.d (.agg (Post.enc x_24))) rfl wz (dh 0 (.inl rfl) z66 rfl wz (fun n_35=>fD 0 il ft 2 wZ rfl rfl [(vS x_24.Player),(vI x_24.X),(vI x_24.Y)] rfl wz (aj (af (aa (ae (vL Alert.enc l_1) wz rfl (bO FN rfl wz (ae (vI 0) wz rfl (aj ?_))))))))))))))
      obtain ⟨o_46,hj_47,hc_31⟩:=bind_some hc_31
      obtain ⟨hn_40,hj_47⟩:=aW hj_47
      refine aD (β:=((List Debt))×Nm) (fun p=>(fun (s_41:(List Debt)) (n_43:Nm)=>([(0,(vL Alert.enc l_1)),(3,(vI inv_4)),(4,(vI atv_5)),(13,(.map (nu_19 0))),(14,(vL eI r_20)),(15,(gV n_43 4 s_41)),(42,(vL Post.enc posts_2)),(43,(vI (posts_2.length:Int))),(44,(vI (k_22:Int)))]:List (Nat×V))) p.1 p.2) (fun p=>(fun (s_41:(List Debt)) (n_43:Nm)=>([((nu_19 0),some (bM (fun x=>D.agg (Pair.enc x)) (D.int .i64) r_17)),(n_43,gB 4 Debt.enc s_41),(n_35,some (.cells 3 [(vS x_24.Player),(vI x_24.X),(vI x_24.Y)]))]:Hp)) p.1 p.2) (fun p=>o_46 = .go p.1) ?_ ?_
      ·refine aA (aV (β:=Nat×(List Alert)×((List Debt))×Nm) (fun p=>(fun (k_36:Nat) (l_37:List Alert) (s_41:(List Debt)) (n_43:Nm)=>([(0,(vL Alert.enc l_1)),(3,(vI inv_4)),(4,(vI atv_5)),(13,(.map (nu_19 0))),(14,(vL eI r_20)),(15,(gV n_43 4 s_41)),(17,(.ref n_35 0 0)),(42,(vL Post.enc posts_2)),(43,(vI (posts_2.length:Int))),(44,(vI (k_22:Int))),(48,(vL Alert.enc l_1)),(49,(vI (l_1.length:Int))),(50,(vI (k_36:Int)))]:List (Nat×V))) p.1 p.2.1 p.2.2.1 p.2.2.2) (fun p=>(fun (k_36:Nat) (l_37:List Alert) (s_41:(List Debt)) (n_43:Nm)=>([((nu_19 0),some (bM (fun x=>D.agg (Pair.enc x)) (D.int .i64) r_17)),(n_43,gB 4 Debt.enc s_41),(n_35,some (.cells 3 [(vS x_24.Player),(vI x_24.X),(vI x_24.Y)]))]:Hp)) p.1 p.2.1 p.2.2.1 p.2.2.2) (fun p=>forR (fun k x s=>jA r_20 x_24 atv_5 inv_4 r_17 k x s) p.2.1 p.1 p.2.2.1=some o_46∧(l_1).drop p.1=p.2.1) (fun p=>p.2.1.length) (0,l_1,s_27,n_30) ⟨hj_47,rfl⟩ rfl (aI rfl) ?_)
       rintro ⟨k_36,l_37,s_41,n_43⟩ ⟨hL_45,hD_39⟩
       dsimp only at hL_45 hD_39
       cases l_37 with
       | nil =>
        obtain rfl:=ah hL_45
        refine af (aa (ae (vB (decide ((k_36:Int) < (l_1.length:Int)))) wz rfl (aj ?_)))
        refine af (ax rfl (drop_nil hD_39) (aS ?_))
        exact aO (s_41,n_43) rfl rfl (aI rfl)
       | cons x_38 l_37 =>
        obtain ⟨c_,hc_44,hL_45⟩:=bind_some hL_45
        refine af (aa (ae (vB (decide ((k_36:Int) < (l_1.length:Int)))) wz rfl (aj ?_)))
        refine af (ay rfl (aX hD_39) (au ?_))
        unfold jA at hc_44
        refine af (aA (af (aa (ae (vI (k_36:Int)) wz rfl (dI uF rfl rfl (bC hD_39) rfl wz (bG gX kC rfl (.d (.agg (Alert.enc x_38))) rfl wz (dh 0 (.inl rfl) FR rfl wz (fun n_48=>ae (vI (k_36:Int)) wz rfl (fD 0 il ft 3 gX rfl rfl [(vS x_38.Id),(vS x_38.Sender),(vI x_38.Kind),(vL eS x_38.Refs),(vI x_38.At),(vI x_38.Until),(vI x_38.Weight),(vL Rect.enc x_38.Areas),(vS x_38.Text)] rfl wz (aj (af (aa (aG jU rfl 4 rfl wz (aC 0 3 il ft sz3 ag3 rfl rfl (vI x_38.At) rfl wz (ae (vI inv_4) wz rfl (ae (vI (w64 (x_38.At + inv_4))) wz rfl (ae (vI (w64 (x_38.At + inv_4))) wz rfl (aj (af (af ?_))))))))))))))))))))
        obtain ⟨v_49,h_50,hc_44⟩:=bind_some hc_44
        refine aD (β:=Unit) (fun _=>([(0,(vL Alert.enc l_1)),(3,(vI inv_4)),(4,(vI atv_5)),(13,(.map (nu_19 0))),(14,(vL eI r_20)),(15,(gV n_43 4 s_41)),(17,(.ref n_35 0 0)),(19,(.ref n_48 0 0)),(20,(vI (w64 (x_38.At + inv_4)))),(42,(vL Post.enc posts_2)),(43,(vI (posts_2.length:Int))),(44,(vI (k_22:Int))),(48,(vL Alert.enc l_1)),(49,(vI (l_1.length:Int))),(50,(vI (k_36:Int))),(80,(vB v_49))]:List (Nat×V))) (fun _=>([((nu_19 0),some (bM (fun x=>D.agg (Pair.enc x)) (D.int .i64) r_17)),(n_43,gB 4 Debt.enc s_41),(n_35,some (.cells 3 [(vS x_24.Player),(vI x_24.X),(vI x_24.Y)])),(n_48,some (.cells 9 [(vS x_38.Id),(vS x_38.Sender),(vI x_38.Kind),(vL eS x_38.Refs),(vI x_38.At),(vI x_38.Until),(vI x_38.Weight),(vL Rect.enc x_38.Areas),(vS x_38.Text)]))]:Hp)) (fun _=>True) ?_ ?_
        ·refine bA (aC 0 3 (.inr (by kernel_rfl)) (fun _ _ ag=>trivial) gX kC rfl rfl (.d (.agg (Alert.enc x_38))) rfl wz (ae (vL eI r_20) wz rfl (ae (vI (k_36:Int)) wz rfl ?_)))
         obtain ⟨y_51,hy_52,h_50⟩:=bind_some h_50
         refine dI nM rfl rfl hy_52 rfl wz (bG sz3 ag3 rfl (vI y_51) rfl wz (aC 5 2 (.inr (by kernel_rfl)) (fun _ _ ag=>⟨.inl ⟨rfl,rfl⟩,trivial⟩) wZ Ch rfl rfl (.d (.agg (Post.enc x_24))) rfl wz (ae (vI atv_5) wz rfl ?_)))
         obtain ⟨r_53,hr_54,h_50⟩:=bind_some h_50
         refine aF (zI hr_54) rfl hb104 rfl rfl rfl rfl wz (ae (vB (!r_53)) wz rfl ?_)
         rcases ak h_50 with⟨hc_55,h_50⟩ | ⟨hc_55,h_50⟩
         ·refine av rfl hc_55 wz (ai wa (ai wa (ai wa (ae (vB true) wz rfl (ae (vB true) wz rfl (ai wa (ai wa (ai wa (ai wa (ai wa (ai wa (ae (vB true) wz rfl (aj ?_)))))))))))))
          obtain rfl:=ah h_50
          exact cu
         ·refine av rfl hc_55 wz (ae (vI (w64 (x_38.At + inv_4))) wa rfl (ae (vI atv_5) wa rfl (ae (vB (decide ((w64 (x_38.At + inv_4))≥atv_5))) wa rfl (ae (vB (decide ((w64 (x_38.At + inv_4))≥atv_5))) wz rfl ?_))))
          rcases ak h_50 with⟨hc_56,h_50⟩ | ⟨hc_56,h_50⟩
          ·refine av rfl hc_56 wz (ai wa (ai wa (ai wa (ai wa (ai wa (ai wa (ae (vB true) wz rfl (aj ?_))))))))
           obtain rfl:=ah h_50
           exact cu
          ·refine av rfl hc_56 wz (ae (vL eI r_20) wa rfl (ae (vI (k_36:Int)) wa rfl ?_))
           obtain ⟨y_57,hy_58,h_50⟩:=bind_some h_50
           refine dI nM rfl rfl hy_58 rfl wa (bG sz3 ag3 rfl (vI y_57) rfl wa (ae (vI (w64 (x_38.At + inv_4))) wa rfl (ae (vB (decide (y_57 < (w64 (x_38.At + inv_4))))) wa rfl (ae (vB (decide (y_57 < (w64 (x_38.At + inv_4))))) wz rfl (aj ?_)))))
           obtain rfl:=ah h_50
           exact cu
        ·rintro ⟨⟩ _ sl_ H_ hp_ hq_
         refine aK _ hp_ hq_ ?_
         rcases ak hc_44 with⟨hc_59,hc_44⟩ | ⟨hc_59,hc_44⟩
         ·refine ay rfl hc_59 (aS (aa (dY (bn hD_39 hn_40) wz rfl (ae (vI ((k_36 + 1:Nat):Int)) wz rfl (aj ?_)))))
          obtain rfl:=ah hc_44
          exact aU (k_36 + 1,l_37,s_41,n_43) ⟨hL_45,aR hD_39⟩ (Nat.lt_succ_self _) rfl (aI rfl)
         ·refine ax rfl hc_59 (au (af (aa (ae (.map (nu_19 0)) wz rfl (aG uh rfl 0 rfl wz (aC 0 2 il ft sz9 ag9 rfl rfl (vS x_24.Player) rfl wz (aG lD rfl 0 rfl wz (aC 0 3 il ft sz9 ag9 rfl rfl (vS x_38.Id) rfl wz (ae (.d (.agg (Pair.enc (⟨x_24.Player,x_38.Id⟩:Pair)))) wz (by kernel_rfl) (BD (eq:=(fun (a b:Pair)=>(eqS a.f_player b.f_player && (eqS a.f_alert b.f_alert && true)))) (kD:=(fun x=>D.agg (Pair.enc x))) (vD:=(D.int .i64)) (es:=r_17) (k:=(⟨x_24.Player,x_38.Id⟩:Pair)) (z:=0) 0 0 il ft (fun _ _=>rfl) J9 (by kernel_rfl) (by kernel_rfl) rfl rfl rfl (.tup [(vI ((mGet (fun (a b:Pair)=>(eqS a.f_player b.f_player && (eqS a.f_alert b.f_alert && true))) r_17 (⟨x_24.Player,x_38.Id⟩:Pair)).getD 0)),(vB ((mGet (fun (a b:Pair)=>(eqS a.f_player b.f_player && (eqS a.f_alert b.f_alert && true))) r_17 (⟨x_24.Player,x_38.Id⟩:Pair)).isSome))]) rfl wz (ae (.tup [(vI ((mGet (fun (a b:Pair)=>(eqS a.f_player b.f_player && (eqS a.f_alert b.f_alert && true))) r_17 (⟨x_24.Player,x_38.Id⟩:Pair)).getD 0)),(vB ((mGet (fun (a b:Pair)=>(eqS a.f_player b.f_player && (eqS a.f_alert b.f_alert && true))) r_17 (⟨x_24.Player,x_38.Id⟩:Pair)).isSome))]) wz rfl (ae (vI ((mGet (fun (a b:Pair)=>(eqS a.f_player b.f_player && (eqS a.f_alert b.f_alert && true))) r_17 (⟨x_24.Player,x_38.Id⟩:Pair)).getD 0)) wz rfl (ae (vB ((mGet (fun (a b:Pair)=>(eqS a.f_player b.f_player && (eqS a.f_alert b.f_alert && true))) r_17 (⟨x_24.Player,x_38.Id⟩:Pair)).isSome)) wz rfl (ae (vI ((mGet (fun (a b:Pair)=>(eqS a.f_player b.f_player && (eqS a.f_alert b.f_alert && true))) r_17 (⟨x_24.Player,x_38.Id⟩:Pair)).getD 0)) wz rfl (ae (vB ((mGet (fun (a b:Pair)=>(eqS a.f_player b.f_player && (eqS a.f_alert b.f_alert && true))) r_17 (⟨x_24.Player,x_38.Id⟩:Pair)).isSome)) wz rfl (aj (aA (af (aa (ae (vB ((mGet (fun (a b:Pair)=>(eqS a.f_player b.f_player && (eqS a.f_alert b.f_alert && true))) r_17 (⟨x_24.Player,x_38.Id⟩:Pair)).isSome)) wz rfl (ae (vB (!((mGet (fun (a b:Pair)=>(eqS a.f_player b.f_player && (eqS a.f_alert b.f_alert && true))) r_17 (⟨x_24.Player,x_38.Id⟩:Pair)).isSome))) wz rfl (ae (vB (!((mGet (fun (a b:Pair)=>(eqS a.f_player b.f_player && (eqS a.f_alert b.f_alert && true))) r_17 (⟨x_24.Player,x_38.Id⟩:Pair)).isSome))) wz rfl (aj ?_)))))))))))))))))))))))
          obtain ⟨v_60,h_61,hc_44⟩:=bind_some hc_44
          refine aD (β:=Nm) (fun (n_62:Nm)=>([(0,(vL Alert.enc l_1)),(3,(vI inv_4)),(4,(vI atv_5)),(13,(.map (nu_19 0))),(14,(vL eI r_20)),(15,(gV n_62 4 v_60)),(17,(.ref n_35 0 0)),(42,(vL Post.enc posts_2)),(43,(vI (posts_2.length:Int))),(44,(vI (k_22:Int))),(48,(vL Alert.enc l_1)),(49,(vI (l_1.length:Int))),(50,(vI (k_36:Int)))]:List (Nat×V))) (fun (n_62:Nm)=>([((nu_19 0),some (bM (fun x=>D.agg (Pair.enc x)) (D.int .i64) r_17)),(n_62,gB 4 Debt.enc v_60),(n_35,some (.cells 3 [(vS x_24.Player),(vI x_24.X),(vI x_24.Y)])),(n_48,some (.cells 9 [(vS x_38.Id),(vS x_38.Sender),(vI x_38.Kind),(vL eS x_38.Refs),(vI x_38.At),(vI x_38.Until),(vI x_38.Weight),(vL Rect.enc x_38.Areas),(vS x_38.Text)]))]:Hp)) (fun _=>True) ?_ ?_
          ·rcases ak h_61 with⟨hc_63,h_61⟩ | ⟨hc_63,h_61⟩
           ·refine ay rfl hc_63 (aa (ae (gV n_43 4 s_41) wz rfl (aG uh rfl 0 rfl wz (aC 0 2 il ft sz9 ag9 rfl rfl (vS x_24.Player) rfl wz (aG lD rfl 0 rfl wz (aC 0 3 il ft sz9 ag9 rfl rfl (vS x_38.Id) rfl wz (ae (vI (w64 (x_38.At + inv_4))) wz rfl (ae (.d (.agg (Debt.enc (⟨x_24.Player,x_38.Id,(w64 (x_38.At + inv_4)),(-1)⟩:Debt)))) wz (by kernel_rfl) (eQ (([(⟨x_24.Player,x_38.Id,(w64 (x_38.At + inv_4)),(-1)⟩:Debt)]:List Debt).map Debt.enc) es92 ez92 rfl rfl rfl rfl rfl wz ?_)))))))))
            obtain ⟨a_64,hz_65,h_61⟩:=bind_some h_61
            refine jT 0 il ft (i:=1) el92 el92 sz96 z96 rfl (by decide) by96 (by decide) (fun _=>rfl) rfl rfl rfl hz_65 wz (fun n_66=>ae (gV n_66 4 a_64) wz rfl (aj ?_))
            obtain rfl:=ah h_61
            exact aO n_66 trivial rfl (aI rfl)
           ·refine ax rfl hc_63 (af (aa (ae (vI ((mGet (fun (a b:Pair)=>(eqS a.f_player b.f_player && (eqS a.f_alert b.f_alert && true))) r_17 (⟨x_24.Player,x_38.Id⟩:Pair)).getD 0)) wz rfl (ae (vI (w64 (x_38.At + inv_4))) wz rfl (ae (vB (decide (((mGet (fun (a b:Pair)=>(eqS a.f_player b.f_player && (eqS a.f_alert b.f_alert && true))) r_17 (⟨x_24.Player,x_38.Id⟩:Pair)).getD 0) > (w64 (x_38.At + inv_4))))) wz rfl (ae (vB (decide (((mGet (fun (a b:Pair)=>(eqS a.f_player b.f_player && (eqS a.f_alert b.f_alert && true))) r_17 (⟨x_24.Player,x_38.Id⟩:Pair)).getD 0) > (w64 (x_38.At + inv_4))))) wz rfl (aj ?_)))))))
            rcases ak h_61 with⟨hc_67,h_61⟩ | ⟨hc_67,h_61⟩
            ·refine ay rfl hc_67 (aa (ae (gV n_43 4 s_41) wz rfl (aG uh rfl 0 rfl wz (aC 0 2 il ft sz9 ag9 rfl rfl (vS x_24.Player) rfl wz (aG lD rfl 0 rfl wz (aC 0 3 il ft sz9 ag9 rfl rfl (vS x_38.Id) rfl wz (ae (vI (w64 (x_38.At + inv_4))) wz rfl (ae (vI ((mGet (fun (a b:Pair)=>(eqS a.f_player b.f_player && (eqS a.f_alert b.f_alert && true))) r_17 (⟨x_24.Player,x_38.Id⟩:Pair)).getD 0)) wz rfl (ae (.d (.agg (Debt.enc (⟨x_24.Player,x_38.Id,(w64 (x_38.At + inv_4)),((mGet (fun (a b:Pair)=>(eqS a.f_player b.f_player && (eqS a.f_alert b.f_alert && true))) r_17 (⟨x_24.Player,x_38.Id⟩:Pair)).getD 0)⟩:Debt)))) wz (by kernel_rfl) (eQ (([(⟨x_24.Player,x_38.Id,(w64 (x_38.At + inv_4)),((mGet (fun (a b:Pair)=>(eqS a.f_player b.f_player && (eqS a.f_alert b.f_alert && true))) r_17 (⟨x_24.Player,x_38.Id⟩:Pair)).getD 0)⟩:Debt)]:List Debt).map Debt.enc) es92 ez92 rfl rfl rfl rfl rfl wz ?_))))))))))
             obtain ⟨a_68,hz_69,h_61⟩:=bind_some h_61
             refine jT 0 il ft (i:=1) el92 el92 sz96 z96 rfl (by decide) by96 (by decide) (fun _=>rfl) rfl rfl rfl hz_69 wz (fun n_70=>ae (gV n_70 4 a_68) wz rfl (aj ?_))
             obtain rfl:=ah h_61
             exact aO n_70 trivial rfl (aI rfl)
            ·refine ax rfl hc_67 (au ?_)
             obtain rfl:=ah h_61
             exact aO n_43 trivial rfl (aI rfl)
          ·rintro n_62 _ sl_ H_ hp_ hq_
           refine aK _ hp_ hq_ (aa (dY (bn hD_39 hn_40) wz rfl (ae (vI ((k_36 + 1:Nat):Int)) wz rfl (aj ?_))))
           obtain rfl:=ah hc_44
           exact aU (k_36 + 1,l_37,v_60,n_62) ⟨hL_45,aR hD_39⟩ (Nat.lt_succ_self _) rfl (aI rfl)
      ·rintro ⟨s_41,n_43⟩ ho_ sl_ H_ hp_ hq_
       subst ho_
       refine aK _ hp_ hq_ (aa (dY (bn hD_25 hn_26) wz rfl (ae (vI ((k_22 + 1:Nat):Int)) wz rfl (aj ?_))))
       obtain rfl:=ah hc_31
       exact aU (k_22 + 1,l_23,s_41,n_43) ⟨hL_32,aR hD_25⟩ (Nat.lt_succ_self _) rfl (aI rfl)
    ·rintro ⟨s_27,n_30⟩ ho_ sl_ H_ hp_ hq_
     subst ho_
     refine aK _ hp_ hq_ (af (aa (ae (gV n_30 4 s_27) wz rfl ?_)))
     obtain ⟨r_71,hr_72,hF⟩:=bind_some hF
     obtain ⟨_,hs_73,hF⟩:=bind_some hF
     replace hs_73:=oD hs_73
     refine pQ 0 [] 1 0 il ft (nL hr_72) rfl hb105 rfl rfl rfl (by kernel_rfl) rfl (.inl rfl) rfl (by kernel_rfl) (by kernel_rfl) (by kernel_rfl) (by kernel_rfl) rfl (by decide) (by kernel_rfl) pu (zh hs_73) wz ([((nu_19 0),some (bM (fun x=>D.agg (Pair.enc x)) (D.int .i64) r_17)),(n_30,gB 4 Debt.enc r_71)]:Hp) (by kernel_rfl) (fU (v':=(gV n_30 4 r_71)) 119 rfl (lc hs_73.symm) (fU (v':=(gV n_30 4 r_71)) 15 rfl (lc hs_73.symm) (aj (af (aa (ae (gV n_30 4 r_71) wz rfl (ae (gV n_30 4 r_71) wz rfl (ae (vI 0) wz rfl (aj (gM 1 rfl (dQ 10 1 rfl rfl (dQ 15 1 rfl rfl (dQ 119 1 rfl rfl (dQ 121 1 rfl rfl ?_))))))))))))))
     obtain rfl:=ah hF
     exact aB (aP (.inr rfl) [(vL Debt.enc r_71),(vI 0)] ⟨rfl,⟨rfl,trivial⟩⟩ rfl rfl rfl)
theorem tH {y_1:Alert} {p_2:Debt} {r:Bool} (hF:jl y_1 p_2=some r) :
  FnM Tryz.prog 42 [(.d (.agg (Alert.enc y_1))),(.ref (aH 0) 0 0)] [(.cells 4 [(vS p_2.Player),(vS p_2.Alert),(vI p_2.Due),(vI p_2.Got)])] (vB r) [some (.cells 4 [(vS p_2.Player),(vS p_2.Alert),(vI p_2.Due),(vI p_2.Got)])]:=by
 refine FnM.of_wH ⟨Tryz.prog,9,[],[]⟩ rfl Tryz.func42 rfl rfl (Nat.le_of_ble_eq_true rfl) (by kernel_rfl) ?_
 unfold jl at hF
 refine af (aa (fB 0 (.inl rfl) [(vS y_1.Id),(vS y_1.Sender),(vI y_1.Kind),(vL eS y_1.Refs),(vI y_1.At),(vI y_1.Until),(vI y_1.Weight),(vL Rect.enc y_1.Areas),(vS y_1.Text)] rfl rfl wz (fun n_3=>ae (vB false) wz rfl (aj (af (aa (aG lD rfl 0 rfl wz (aC 0 1 il ft sz9 ag9 rfl rfl (vS y_1.Id) rfl wz (aG G5 rfl 1 rfl wz (aC 0 0 il ft sz9 ag9 rfl rfl (vS p_2.Alert) rfl wz (ae (vB (sEq y_1.Id p_2.Alert)) wz rfl (ae (vB (sEq y_1.Id p_2.Alert)) wz rfl (aj ?_)))))))))))))
 obtain rfl:=ah hF
 exact aB (xC (.inr rfl) [(vB (sEq y_1.Id p_2.Alert))] _ [0] [aH 0] ⟨rfl,trivial⟩ (.cons (iZ rfl rfl) (.nil)) (by kernel_rfl) ⟨(by kernel_rfl),trivial⟩ (by decide) (by kernel_rfl))
theorem tL {y_1:Post} {p_2:Debt} {r:Bool} (hF:jm y_1 p_2=some r) :
  FnM Tryz.prog 44 [(.d (.agg (Post.enc y_1))),(.ref (aH 0) 0 0)] [(.cells 4 [(vS p_2.Player),(vS p_2.Alert),(vI p_2.Due),(vI p_2.Got)])] (vB r) [some (.cells 4 [(vS p_2.Player),(vS p_2.Alert),(vI p_2.Due),(vI p_2.Got)])]:=by
 refine FnM.of_wH ⟨Tryz.prog,9,[],[]⟩ rfl Tryz.func44 rfl rfl (Nat.le_of_ble_eq_true rfl) (by kernel_rfl) ?_
 unfold jm at hF
 refine af (aa (fB 0 (.inl rfl) [(vS y_1.Player),(vI y_1.X),(vI y_1.Y)] rfl rfl wz (fun n_3=>ae (vB false) wz rfl (aj (af (aa (aG uh rfl 0 rfl wz (aC 0 1 il ft sz9 ag9 rfl rfl (vS y_1.Player) rfl wz (aG GI rfl 0 rfl wz (aC 0 0 il ft sz9 ag9 rfl rfl (vS p_2.Player) rfl wz (ae (vB (sEq y_1.Player p_2.Player)) wz rfl (ae (vB (sEq y_1.Player p_2.Player)) wz rfl (aj ?_)))))))))))))
 obtain rfl:=ah hF
 exact aB (xC (.inr rfl) [(vB (sEq y_1.Player p_2.Player))] _ [0] [aH 0] ⟨rfl,trivial⟩ (.cons (iZ rfl rfl) (.nil)) (by kernel_rfl) ⟨(by kernel_rfl),trivial⟩ (by decide) (by kernel_rfl))
theorem lI {s_1:(List Post)} {f_2:Post→Option Bool} {r:Int} {gid:FuncId} {caps:List V} {Sin:List Box} (hfn:∀ x0 r,f_2 x0=some r→FnM Tryz.prog gid ([(.d (.agg (Post.enc x0)))]++caps) Sin (vB r) (Sin.map some)) (hbF:aJ Tryz.prog gid=true) (hcapF:caps.flatMap frz = []∧caps.map co0=caps) (hokF:okL Sin.length caps=true) (hsF:∀ b∈Sin,b.ok Sin.length=true) (hmF:∀ b∈Sin,b.mut=true) (hF:dE s_1 f_2=some r) :
  FnM Tryz.prog 43 [(vL Post.enc s_1),(.fn gid caps)] Sin (vI r) (Sin.map some):=by
 refine FnM.of_wH ⟨Tryz.prog,19,[],[]⟩ rfl Tryz.func43 rfl rfl (Nat.le_of_ble_eq_true rfl) (by kernel_rfl) ?_
 unfold dE at hF
 refine af (aa (ae (vI 0) wz rfl (aj (af (af (aa (ae (vL Post.enc s_1) wz rfl (bO Jw rfl wz (ae (vI 0) wz rfl (aj ?_))))))))))
 obtain ⟨o_11,hj_12,hF⟩:=bind_some hF
 obtain ⟨hn_7,hj_12⟩:=aW hj_12
 refine aD (β:=(Unit)) (fun (s_8:Unit)=>([]:List (Nat×V))) (fun (s_8:Unit)=>(lQ 0 Sin)) (fun p=>o_11 = .go p) ?_ ?_
 ·refine aA (aV (β:=Nat×(List Post)×(Unit)) (fun p=>(fun (k_3:Nat) (l_4:List Post) (s_8:Unit)=>([(0,(vL Post.enc s_1)),(1,(.fn gid caps)),(7,(vI (s_1.length:Int))),(8,(vI (k_3:Int)))]:List (Nat×V))) p.1 p.2.1 p.2.2) (fun p=>(fun (k_3:Nat) (l_4:List Post) (s_8:Unit)=>(lQ 0 Sin)) p.1 p.2.1 p.2.2) (fun p=>forR (fun k x s=>di f_2 k x s) p.2.1 p.1 p.2.2=some o_11∧(s_1).drop p.1=p.2.1) (fun p=>p.2.1.length) (0,s_1,()) ⟨hj_12,rfl⟩ rfl (nI _) ?_)
  rintro ⟨k_3,l_4,s_8⟩ ⟨hL_10,hD_6⟩
  dsimp only at hL_10 hD_6
  cases l_4 with
  | nil =>
   obtain rfl:=ah hL_10
   refine af (aa (ae (vB (decide ((k_3:Int) < (s_1.length:Int)))) wz rfl (aj ?_)))
   refine af (ax rfl (drop_nil hD_6) (aS ?_))
   exact aO (s_8) rfl rfl (nI _)
  | cons x_5 l_4 =>
   obtain ⟨c_,hc_9,hL_10⟩:=bind_some hL_10
   refine af (aa (ae (vB (decide ((k_3:Int) < (s_1.length:Int)))) wz rfl (aj ?_)))
   refine af (ay rfl (aX hD_6) (au ?_))
   unfold di at hc_9
   refine af (aA (af (aa (ae (vI (k_3:Int)) wz rfl (ae (vI (k_3:Int)) wz rfl (aj (af (aa (ae (.fn gid caps) wz rfl (ae (vL Post.enc s_1) wz rfl (ae (vI (k_3:Int)) wz rfl (dI Er rfl rfl (bC hD_6) rfl wz (bG wZ Ch rfl (.d (.agg (Post.enc x_5))) rfl wz ?_)))))))))))))
   obtain ⟨r_13,hr_14,hc_9⟩:=bind_some hc_9
   refine zZ (hfn _ _ hr_14) rfl hbF rfl rfl hcapF hokF hsF hmF rfl wz rfl (aj ?_)
   rcases ak hc_9 with⟨hc_15,hc_9⟩ | ⟨hc_15,hc_9⟩
   ·refine ay rfl hc_15 (af (aa (ae (vI (k_3:Int)) wz rfl (ae (vI (k_3:Int)) wz rfl (aj ?_)))))
    obtain rfl:=ah hc_9
    obtain rfl:=ah hL_10
    obtain rfl:=ah hF
    exact aB (Gw hsF (.inr rfl) [(vI (k_3:Int))] ⟨rfl,trivial⟩ rfl rfl rfl)
   ·refine ax rfl hc_15 (au (aa (dY (bn hD_6 hn_7) wz rfl (ae (vI ((k_3 + 1:Nat):Int)) wz rfl (aj ?_)))))
    obtain rfl:=ah hc_9
    exact aU (k_3 + 1,l_4,()) ⟨hL_10,aR hD_6⟩ (Nat.lt_succ_self _) rfl (nI _)
 ·rintro s_8 ho_ sl_ H_ hp_ hq_
  subst ho_
  refine aK _ hp_ hq_ (af (aa (ae (vI (-1)) wz rfl (aj ?_))))
  obtain rfl:=ah hF
  exact aB (Gw hsF (.inr rfl) [(vI (-1))] ⟨rfl,trivial⟩ rfl rfl rfl)
theorem rY {a_1:Alert} {p_2:Post} {r:Bool×Int} (hF:iy a_1 p_2=some r) :
  FnM Tryz.prog 45 [(.d (.agg (Alert.enc a_1))),(.d (.agg (Post.enc p_2)))] [] (.tup [(vB r.1),(vI r.2)]) []:=by
 refine FnM.of_wH ⟨Tryz.prog,18,[],[]⟩ rfl Tryz.func45 rfl rfl (Nat.le_of_ble_eq_true rfl) (by kernel_rfl) ?_
 unfold iy at hF
 refine af (aa (fB 0 (.inl rfl) [(vS a_1.Id),(vS a_1.Sender),(vI a_1.Kind),(vL eS a_1.Refs),(vI a_1.At),(vI a_1.Until),(vI a_1.Weight),(vL Rect.enc a_1.Areas),(vS a_1.Text)] rfl rfl wz (fun n_3=>fB 0 (.inl rfl) [(vS p_2.Player),(vI p_2.X),(vI p_2.Y)] rfl rfl wz (fun n_4=>ae (vB false) wz rfl (ae (vI 0) wz rfl (aj (af (af (aa (aC 0 0 il ft gX kC rfl rfl (.d (.agg (Alert.enc a_1))) rfl wz (eQ (([a_1]:List Alert).map Alert.enc) uF ez56 rfl rfl rfl rfl rfl wz (aC 0 1 il ft wZ Ch rfl rfl (.d (.agg (Post.enc p_2))) rfl wz (eQ (([p_2]:List Post).map Post.enc) Er ez63 rfl rfl rfl rfl rfl wz ?_)))))))))))))
 obtain ⟨r_5,hr_6,hF⟩:=bind_some hF
 refine aF (qJ hr_6) rfl hb83 rfl rfl rfl rfl wz (ae (vI r_5) wz rfl (aj (af (aa (ae (vI r_5) wz rfl (ae (vB (r_5 != 0)) wz rfl (aj ?_)))))))
 rcases ak hF with⟨hc_7,hF⟩ | ⟨hc_7,hF⟩
 ·refine ay rfl hc_7 (af (aa (ae (vI r_5) wz rfl (ae (vB false) wz rfl (ae (vI r_5) wz rfl (aj ?_))))))
  obtain rfl:=ah hF
  exact aB (aP (.inr rfl) [(vB false),(vI r_5)] ⟨rfl,⟨rfl,trivial⟩⟩ rfl rfl rfl)
 ·refine ax rfl hc_7 (au (af (aa (aC 0 0 il ft gX kC rfl rfl (.d (.agg (Alert.enc a_1))) rfl wz (aC 0 1 il ft wZ Ch rfl rfl (.d (.agg (Post.enc p_2))) rfl wz ?_)))))
  obtain ⟨r_8,hr_9,hF⟩:=bind_some hF
  refine aF (sH hr_9) rfl hb109 rfl rfl rfl rfl wz (ae (vB r_8) wz rfl (ae (vI 0) wz rfl (aj ?_)))
  obtain rfl:=ah hF
  exact aB (aP (.inr rfl) [(vB r_8),(vI 0)] ⟨rfl,⟨rfl,trivial⟩⟩ rfl rfl rfl)
theorem uN {l_1:(List Rect)} {r:Int} (hF:kG l_1=some r) :
  FnM Tryz.prog 151 [(vL Rect.enc l_1)] [] (vI r) []:=by
 refine FnM.of_wH ⟨Tryz.prog,21,[],[]⟩ rfl Tryz.func151 rfl rfl (Nat.le_of_ble_eq_true rfl) (by kernel_rfl) ?_
 unfold kG at hF
 refine af (aa (ae (vI 0) wz rfl (aj (af (af (aa (ae (vL Rect.enc l_1) wz rfl (bO yI rfl wz (ae (vB (decide ((l_1.length:Int) > 2000))) wz rfl (aj ?_))))))))))
 rcases ak hF with⟨hc_2,hF⟩ | ⟨hc_2,hF⟩
 ·refine ay rfl hc_2 (af (aa (ae (vI 2) wz rfl (aj ?_))))
  obtain rfl:=ah hF
  exact aB (aP (.inr rfl) [(vI 2)] ⟨rfl,trivial⟩ rfl rfl rfl)
 ·refine ax rfl hc_2 (au (af (af (aa (ae (vL Rect.enc l_1) wz rfl (bO yI rfl wz (ae (vI 0) wz rfl (aj ?_))))))))
  obtain ⟨o_11,hj_12,hF⟩:=bind_some hF
  obtain ⟨hn_7,hj_12⟩:=aW hj_12
  refine aD (β:=(Unit)) (fun (s_8:Unit)=>([]:List (Nat×V))) (fun (s_8:Unit)=>([]:Hp)) (fun p=>o_11 = .go p) ?_ ?_
  ·refine aA (aV (β:=Nat×(List Rect)×(Unit)) (fun p=>(fun (k_3:Nat) (l_4:List Rect) (s_8:Unit)=>([(9,(vL Rect.enc l_1)),(10,(vI (l_1.length:Int))),(11,(vI (k_3:Int)))]:List (Nat×V))) p.1 p.2.1 p.2.2) (fun p=>(fun (k_3:Nat) (l_4:List Rect) (s_8:Unit)=>([]:Hp)) p.1 p.2.1 p.2.2) (fun p=>forR (fun k x s=>kY k x s) p.2.1 p.1 p.2.2=some o_11∧(l_1).drop p.1=p.2.1) (fun p=>p.2.1.length) (0,l_1,()) ⟨hj_12,rfl⟩ rfl (aI rfl) ?_)
   rintro ⟨k_3,l_4,s_8⟩ ⟨hL_10,hD_6⟩
   dsimp only at hL_10 hD_6
   cases l_4 with
   | nil =>
    obtain rfl:=ah hL_10
    refine af (aa (ae (vB (decide ((k_3:Int) < (l_1.length:Int)))) wz rfl (aj ?_)))
    refine af (ax rfl (drop_nil hD_6) (aS ?_))
    exact aO (s_8) rfl rfl (aI rfl)
   | cons x_5 l_4 =>
    obtain ⟨c_,hc_9,hL_10⟩:=bind_some hL_10
    refine af (aa (ae (vB (decide ((k_3:Int) < (l_1.length:Int)))) wz rfl (aj ?_)))
    refine af (ay rfl (aX hD_6) (au ?_))
    unfold kY at hc_9
    refine af (aA (af (aa (dI Cj rfl rfl (bC hD_6) rfl wz (bG rF DK rfl (.d (.agg (Rect.enc x_5))) rfl wz (dh 0 (.inl rfl) z45 rfl wz (fun n_13=>fD 0 il ft 0 rF rfl rfl [(vI x_5.X),(vI x_5.Y),(vI x_5.W),(vI x_5.H)] rfl wz (aj (af (aa (aC 0 0 il ft rF DK rfl rfl (.d (.agg (Rect.enc x_5))) rfl wz ?_)))))))))))
    obtain ⟨r_14,hr_15,hc_9⟩:=bind_some hc_9
    refine aF (pJ hr_15) rfl hb73 rfl rfl rfl rfl wz (ae (vI r_14) wz rfl (aj (af (aa (ae (vI r_14) wz rfl (ae (vB (r_14 != 0)) wz rfl (aj ?_)))))))
    rcases ak hc_9 with⟨hc_16,hc_9⟩ | ⟨hc_16,hc_9⟩
    ·refine ay rfl hc_16 (af (aa (ae (vI r_14) wz rfl (ae (vI r_14) wz rfl (aj ?_)))))
     obtain rfl:=ah hc_9
     obtain rfl:=ah hL_10
     obtain rfl:=ah hF
     exact aB (aP (.inr rfl) [(vI r_14)] ⟨rfl,trivial⟩ rfl rfl rfl)
    ·refine ax rfl hc_16 (au (aa (dY (bn hD_6 hn_7) wz rfl (ae (vI ((k_3 + 1:Nat):Int)) wz rfl (aj ?_)))))
     obtain rfl:=ah hc_9
     exact aU (k_3 + 1,l_4,()) ⟨hL_10,aR hD_6⟩ (Nat.lt_succ_self _) rfl (aI rfl)
  ·rintro s_8 ho_ sl_ H_ hp_ hq_
   subst ho_
   refine aK _ hp_ hq_ (af (aa (ae (vI 0) wz rfl (aj ?_))))
   obtain rfl:=ah hF
   exact aB (aP (.inr rfl) [(vI 0)] ⟨rfl,trivial⟩ rfl rfl rfl)
theorem mq {n_1:Int} {r:Bool} (hF:fT n_1=some r) :
  FnM Tryz.prog 193 [.nil,(vI n_1)] [] (kV r (aH 0) 4 ([]:List Rect)) (kO r 4):=by
 refine FnM.of_wH ⟨Tryz.prog,27,[],[]⟩ rfl Tryz.func193 rfl rfl (Nat.le_of_ble_eq_true rfl) (by kernel_rfl) ?_
 unfold fT at hF
 refine af (aa (ae .nil wz rfl (aj (af (af (aa (ae (vI n_1) wz rfl (ae (vB (decide (n_1 < 0))) wz rfl (aj ?_)))))))))
 rcases ak hF with⟨hc_2,hF⟩ | ⟨hc_2,hF⟩
 ·refine ay rfl hc_2 (aa ?_)
  cases hF
 ·refine ax rfl hc_2 (au (af (af (aa (ae (vI n_1) wz rfl (ae .nil wz rfl (Ls C9 rfl wz (ae .nil wz rfl (J6 yI rfl wz (ae (vI (w64 (0 - 0))) wz rfl (ae (vI (w64 (n_1 - (w64 (0 - 0))))) wz rfl (ae (vI (w64 (n_1 - (w64 (0 - 0))))) wz rfl (aj (af (aa (ae (vI (w64 (n_1 - (w64 (0 - 0))))) wz rfl (ae (vB (decide ((w64 (n_1 - (w64 (0 - 0)))) > 0))) wz rfl (aj ?_))))))))))))))))))
  rcases ak hF with⟨hc_3,hF⟩ | ⟨hc_3,hF⟩
  ·refine ay rfl hc_3 (aa (ae .nil wz rfl (ae .nil wz rfl (Ls C9 rfl wz (ae .nil wz (by kernel_rfl) (ae (vI (w64 (n_1 - (w64 (0 - 0))))) wz rfl ?_))))))
   obtain ⟨_,hz_5,hF⟩:=bind_some hF
   refine h_appz (enc:=Rect.enc) 0 (.inl rfl) C9 (by kernel_rfl) rF z45 rfl (by decide) by45 rfl rfl hz_5 wz (fun n_4=>ae .nil wz rfl (J6 yI rfl wz (h_cutm (m:=0) yI rF rfl rfl rfl (Nat.zero_le _) wz (ae (.vs n_4 4 0 0) wz rfl (aj (af (aa (ae (.vs n_4 4 0 0) wz rfl (ae (.vs n_4 4 0 0) wz rfl (aj ?_))))))))))
   obtain rfl:=ah hF
   exact aB (finK (.inr rfl) 0 rfl rfl)
  ·refine ax rfl hc_3 (au (af (aa (ae .nil wz rfl (ae .nil wz rfl (aj ?_))))))
   obtain rfl:=ah hF
   exact aB (finK0 (.inr rfl) rfl)
theorem mg {slices_1:(List (List Rect))} {r:(List Rect)} (hF:dU slices_1=some r) :
  FnM Tryz.prog 145 [(vL (eL Rect.enc) slices_1)] [] (vL Rect.enc r) []:=by
 refine FnM.of_wH ⟨Tryz.prog,36,[],[]⟩ rfl Tryz.func145 rfl rfl (Nat.le_of_ble_eq_true rfl) (by kernel_rfl) ?_
 unfold dU at hF
 refine af (aa (ae .nil wz rfl (aj (af (aa (ae (vI 0) wz rfl (aj (af (af (aa (ae (vL (eL Rect.enc) slices_1) wz rfl (bO un260 rfl wz (ae (vI 0) wz rfl (aj ?_))))))))))))))
 obtain ⟨o_10,hj_11,hF⟩:=bind_some hF
 obtain ⟨hn_6,hj_11⟩:=aW hj_11
 refine aD (β:=(Int)) (fun (s_7:Int)=>([(0,(vL (eL Rect.enc) slices_1)),(3,(vI s_7))]:List (Nat×V))) (fun (s_7:Int)=>([]:Hp)) (fun p=>o_10 = .go p) ?_ ?_
 ·refine aA (aV (β:=Nat×(List (List Rect))×(Int)) (fun p=>(fun (k_2:Nat) (l_3:List (List Rect)) (s_7:Int)=>([(0,(vL (eL Rect.enc) slices_1)),(3,(vI s_7)),(9,(vL (eL Rect.enc) slices_1)),(10,(vI (slices_1.length:Int))),(11,(vI (k_2:Int)))]:List (Nat×V))) p.1 p.2.1 p.2.2) (fun p=>(fun (k_2:Nat) (l_3:List (List Rect)) (s_7:Int)=>([]:Hp)) p.1 p.2.1 p.2.2) (fun p=>forR (fun k x s=>fe k x s) p.2.1 p.1 p.2.2=some o_10∧(slices_1).drop p.1=p.2.1) (fun p=>p.2.1.length) (0,slices_1,0) ⟨hj_11,rfl⟩ rfl (aI rfl) ?_)
  rintro ⟨k_2,l_3,s_7⟩ ⟨hL_9,hD_5⟩
  dsimp only at hL_9 hD_5
  cases l_3 with
  | nil =>
   obtain rfl:=ah hL_9
   refine af (aa (ae (vB (decide ((k_2:Int) < (slices_1.length:Int)))) wz rfl (aj ?_)))
   refine af (ax rfl (drop_nil hD_5) (aS ?_))
   exact aO (s_7) rfl rfl (aI rfl)
  | cons x_4 l_3 =>
   obtain ⟨c_,hc_8,hL_9⟩:=bind_some hL_9
   refine af (aa (ae (vB (decide ((k_2:Int) < (slices_1.length:Int)))) wz rfl (aj ?_)))
   refine af (ay rfl (aX hD_5) (au ?_))
   unfold fe at hc_8
   refine af (aA (af (aa (dI JV rfl rfl (bC hD_5) rfl wz (bG FT Gi rfl (vL Rect.enc x_4) rfl wz (ae (vL Rect.enc x_4) wz rfl (aj (af (aa (ae (vI s_7) wz rfl (ae (vL Rect.enc x_4) wz rfl (bO yI rfl wz (ae (vI (w64 (s_7 + (x_4.length:Int)))) wz rfl (ae (vI (w64 (s_7 + (x_4.length:Int)))) wz rfl (aj (af (aa (ae (vI (w64 (s_7 + (x_4.length:Int)))) wz rfl (ae (vB (decide ((w64 (s_7 + (x_4.length:Int))) < 0))) wz rfl (aj ?_))))))))))))))))))))
   obtain ⟨v_12,h_13,hc_8⟩:=bind_some hc_8
   refine aD (β:=Unit) (fun _=>([(0,(vL (eL Rect.enc) slices_1)),(3,(vI (w64 (s_7 + (x_4.length:Int))))),(9,(vL (eL Rect.enc) slices_1)),(10,(vI (slices_1.length:Int))),(11,(vI (k_2:Int)))]:List (Nat×V))) (fun _=>([]:Hp)) (fun _=>True) ?_ ?_
   ·rcases ak h_13 with⟨hc_14,h_13⟩ | ⟨hc_14,h_13⟩
    ·refine ay rfl hc_14 (aa ?_)
     cases h_13
    ·refine ax rfl hc_14 (au ?_)
     obtain rfl:=ah h_13
     exact cu
   ·rintro ⟨⟩ _ sl_ H_ hp_ hq_
    refine aK _ hp_ hq_ (aa (dY (bn hD_5 hn_6) wz rfl (ae (vI ((k_2 + 1:Nat):Int)) wz rfl (aj ?_))))
    obtain rfl:=ah hc_8
    exact aU (k_2 + 1,l_3,(w64 (s_7 + (x_4.length:Int)))) ⟨hL_9,aR hD_5⟩ (Nat.lt_succ_self _) rfl (aI rfl)
 ·rintro s_7 ho_ sl_ H_ hp_ hq_
  subst ho_
  refine aK _ hp_ hq_ (af (aa (ae (vI s_7) wz rfl ?_)))
  obtain ⟨b_15,hr_16,hF⟩:=bind_some hF
  refine h_callk (enc:=Rect.enc) (mq hr_16) rfl hb193 (by kernel_rfl) rfl (by kernel_rfl) wz (fun n_17=>ae (kV b_15 n_17 4 ([]:List Rect)) wz rfl (aj (af (af (aa (ae (vL (eL Rect.enc) slices_1) wz rfl (bO un260 rfl wz (ae (vI 0) wz rfl (aj ?_)))))))))
  obtain ⟨o_28,hj_29,hF⟩:=bind_some hF
  obtain ⟨hn_22,hj_29⟩:=aW hj_29
  refine aD (β:=((List Rect))×Nm) (fun p=>(fun (s_23:(List Rect)) (n_25:Nm)=>([(6,(kV b_15 n_25 4 s_23))]:List (Nat×V))) p.1 p.2) (fun p=>(fun (s_23:(List Rect)) (n_25:Nm)=>([(n_25,kB b_15 4 Rect.enc s_23)]:Hp)) p.1 p.2) (fun p=>o_28 = .go p.1) ?_ ?_
  ·refine aA (aV (β:=Nat×(List (List Rect))×((List Rect))×Nm) (fun p=>(fun (k_18:Nat) (l_19:List (List Rect)) (s_23:(List Rect)) (n_25:Nm)=>([(6,(kV b_15 n_25 4 s_23)),(25,(vL (eL Rect.enc) slices_1)),(26,(vI (slices_1.length:Int))),(27,(vI (k_18:Int)))]:List (Nat×V))) p.1 p.2.1 p.2.2.1 p.2.2.2) (fun p=>(fun (k_18:Nat) (l_19:List (List Rect)) (s_23:(List Rect)) (n_25:Nm)=>([(n_25,kB b_15 4 Rect.enc s_23)]:Hp)) p.1 p.2.1 p.2.2.1 p.2.2.2) (fun p=>forR (fun k x s=>fo k x s) p.2.1 p.1 p.2.2.1=some o_28∧(slices_1).drop p.1=p.2.1) (fun p=>p.2.1.length) (0,slices_1,([]:List Rect),n_17) ⟨hj_29,rfl⟩ rfl (aI rfl) ?_)
   rintro ⟨k_18,l_19,s_23,n_25⟩ ⟨hL_27,hD_21⟩
   dsimp only at hL_27 hD_21
   cases l_19 with
   | nil =>
    obtain rfl:=ah hL_27
    refine af (aa (ae (vB (decide ((k_18:Int) < (slices_1.length:Int)))) wz rfl (aj ?_)))
    refine af (ax rfl (drop_nil hD_21) (aS ?_))
    exact aO (s_23,n_25) rfl rfl (aI rfl)
   | cons x_20 l_19 =>
    obtain ⟨c_,hc_26,hL_27⟩:=bind_some hL_27
    refine af (aa (ae (vB (decide ((k_18:Int) < (slices_1.length:Int)))) wz rfl (aj ?_)))
    refine af (ay rfl (aX hD_21) (au ?_))
    unfold fo at hc_26
    refine af (aA (af (aa (dI JV rfl rfl (bC hD_21) rfl wz (bG FT Gi rfl (vL Rect.enc x_20) rfl wz (ae (vL Rect.enc x_20) wz rfl (aj (aa (ae (kV b_15 n_25 4 s_23) wz rfl (ae (vL Rect.enc x_20) wz rfl ?_))))))))))
    obtain ⟨a_30,hz_31,hc_26⟩:=bind_some hc_26
    refine h_appk 0 il ft (i:=0) C9 C9 rF z45 rfl (by decide) by45 (by decide) (fun _=>rfl) rfl rfl rfl hz_31 wz (fun n_32=>ae (kV b_15 n_32 4 a_30) wz rfl (aj (aa (dY (bn hD_21 hn_22) wz rfl (ae (vI ((k_18 + 1:Nat):Int)) wz rfl (aj ?_))))))
    obtain rfl:=ah hc_26
    exact aU (k_18 + 1,l_19,a_30,n_32) ⟨hL_27,aR hD_21⟩ (Nat.lt_succ_self _) rfl (aI rfl)
  ·rintro ⟨s_23,n_25⟩ ho_ sl_ H_ hp_ hq_
   subst ho_
   refine aK _ hp_ hq_ (af (aa (ae (kV b_15 n_25 4 s_23) wz rfl (ae (kV b_15 n_25 4 s_23) wz rfl (aj (Lm 0 rfl (Ga 2 0 rfl rfl (Ga 6 0 rfl rfl (Ga 35 0 rfl rfl ?_)))))))))
   obtain rfl:=ah hF
   exact aB (aP (.inr rfl) [(vL Rect.enc s_23)] ⟨rfl,trivial⟩ rfl rfl rfl)
theorem qL {x r:(List Int)} (hF:dG x=some r) :
  FnM Tryz.prog 90 [(dV (aH 0) 1 x)] (([]:List Box)++gI 1 eI x) (.tup []) (([]:List Box).map some++gT x (gB 1 eI r)) :=
 Kl Tryz.slices_Sort_int Tryz.slices_Sort_int_none hF
end Go.Proofs.YtjhcehhmdmbleaaGreatDoor.Law

