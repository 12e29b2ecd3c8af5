/-
 The machine computes these plain functions (written by a program of ours).
-/
import Derived.Test.YthcdokkcamcnmaaGreatDoorFacts
import Derived.Test.YthcdokkcamcnmaaGreatDoorDefs
import Derived.Test.YthcdokkcamcnmaaGreatDoorPf3
import Derived.Test.YthcdokkcamcnmaaGreatDoorShelf
open Go Go.Eng Go.Proofs
namespace Go.Proofs.YthcdokkcamcnmaaGreatDoor.Law
set_option maxRecDepth 100000
set_option linter.unusedVariables false
set_option maxHeartbeats 1000000
theorem zu {l_1:(List Entry)} {p_2:Player} {wv_3:Window} {r:(List ByteArray)×Int} (hF:jE l_1 p_2 wv_3=some r) :
  FnM Tryz.prog 8 [(vL Entry.enc l_1),(.d (.agg (Player.enc p_2))),(.d (.agg (Window.enc wv_3)))] [] (.tup [(vL eS r.1),(vI r.2)]) []:=by
 refine FnM.of_wH ⟨Tryz.prog,69,[],[]⟩ rfl Tryz.func8 rfl rfl (lb_ rfl) (by kernel_rfl) ?_
 unfold jE at hF
 refine aj (bZ 0 (.inl rfl) (Player.v p_2) rfl rfl wz (λn_4=>bZ 0 (.inl rfl) [(vI wv_3.From),(vI wv_3.To)] rfl rfl wz (λn_5=>aa .nil (aa (vI 0) (af (au (aj (aa (vL Entry.enc l_1) (aA 0 0 il ft kQ mO rfl rfl (.d (.agg (Player.enc p_2))) rfl wz (aA 0 1 il ft eX iT rfl rfl (.d (.agg (Window.enc wv_3))) rfl wz ?_))))))))))
 obtain ⟨r_6,hr_7,hF⟩:=bind_some hF
 refine aF (jF hr_7) rfl hb32 rfl rfl rfl rfl wz (aa (vI r_6) (af (aj (aa (vI r_6) (aa (vB (r_6 != 0)) (af ?_))))))
 rcases ak hF with⟨hc_8,hF⟩|⟨hc_8,hF⟩
 ·refine aD rfl hc_8 (aj (aa (vI r_6) (aa .nil (aa (vI r_6) (af ?_)))))
  obtain rfl:=ae hF
  exact aC (aL [.nil,(vI r_6)] ⟨rfl,⟨rfl,trivial⟩⟩)
 ·refine aB rfl hc_8 (ay (aj (Ch 0 (.inl rfl) wz (λn_9=>zo (b':=some (bM D.str D.bool ([]:List (ByteArray×Bool)))) 2 rfl rfl (aa (.map n_9) (af (au (aj (aa (vL Entry.enc l_1) (aA 0 0 il ft kQ mO rfl rfl (.d (.agg (Player.enc p_2))) rfl wz (aA 0 1 il ft eX iT rfl rfl (.d (.agg (Window.enc wv_3))) rfl wz ?_)))))))))))
  obtain ⟨r_10,hr_11,hF⟩:=bind_some hF
  refine aF (j3 hr_11) rfl hb33 rfl rfl rfl rfl wz (bN BZ rfl wz (aa (vI 0) (af ?_)))
  obtain ⟨o_20,hj_21,hF⟩:=bind_some hF
  obtain ⟨hn_16,hj_21⟩:=bf hj_21
  refine cK (λ(s_17:(List (ByteArray×Bool)))=>[(0,(vL Entry.enc l_1)),(4,(.ref n_4 0 0)),(5,(.ref n_5 0 0)),(9,(.map n_9))]) (λ(s_17:(List (ByteArray×Bool)))=>[(n_4,some (.cells 4 (Player.v p_2))),(n_5,some (.cells 2 [(vI wv_3.From),(vI wv_3.To)])),(n_9,some (bM D.str D.bool s_17))]) (λ(k_12:Nat)=>(λ(s_17:(List (ByteArray×Bool)))=>[(0,(vL Entry.enc l_1)),(4,(.ref n_4 0 0)),(5,(.ref n_5 0 0)),(9,(.map n_9)),(26,(vL Slot_.enc r_10)),(27,(vI (r_10.length:Int))),(28,(vI (k_12:Int)))])) (λk x s=>lK k x s) o_20 r_10 ([]:List (ByteArray×Bool)) hj_21 rfl (aJ rfl) ?_ ?_
  ·rintro ⟨k_12,l_13,s_17⟩ ⟨hL_19,hD_15⟩
   dsimp only at hL_19 hD_15
   cases l_13 with
   | nil =>
    obtain rfl:=ae hL_19
    refine aj (aa (vB (decide ((k_12:Int)<(r_10.length:Int)))) (af ?_))
    refine au (aB rfl (drop_nil hD_15) (aU ?_))
    exact aV (s_17) rfl rfl (aJ rfl)
   | cons x_14 l_13 =>
    obtain ⟨c_,hc_18,hL_19⟩:=bind_some hL_19
    refine aj (aa (vB (decide ((k_12:Int)<(r_10.length:Int)))) (af ?_))
    refine au (aD rfl (bz hD_15) (ay ?_))
    unfold lK at hc_18
    refine au (aN (aj (eU zf rfl rfl (bH hD_15) rfl wz (bI yo IK rfl (.d (.agg (Slot_.enc x_14))) rfl wz (bR 0 (.inl rfl) z54 rfl wz (λn_22=>eH 0 il ft 3 yo rfl rfl (Slot_.v x_14) rfl wz (af (ax (aa (.map n_9) (aI uR rfl 2 rfl wz (aA 0 3 il ft sz9 ag9 rfl rfl (vS x_14.Entry) rfl wz (wm (eq:=eqS) (kD:=D.str) (vD:=D.bool) (es:=s_17) (k:=x_14.Entry) (v:=true) 0 2 il ft (λ_ _=>rfl) mt76 (by kernel_rfl) rfl rfl rfl rfl wz (af (ax (fJ (bE hD_15 hn_16) wz rfl (aa (vI ((k_12+1:Nat):Int)) (af ?_)))))))))))))))))
    obtain rfl:=ae hc_18
    exact aS (k_12+1,l_13,(oI eqS s_17 x_14.Entry true)) ⟨hL_19,aR hD_15⟩ (ls_ _) rfl (aJ rfl)
  ·rintro s_17 ho_ sl_ H_ hp_ hq_
   subst ho_
   refine aO _ hp_ hq_ (aj (aa .nil (af (au (aj (aa (vL Entry.enc l_1) (aA 0 0 il ft kQ mO rfl rfl (.d (.agg (Player.enc p_2))) rfl wz (aA 0 1 il ft eX iT rfl rfl (.d (.agg (Window.enc wv_3))) rfl wz ?_))))))))
   obtain ⟨r_23,hr_24,hF⟩:=bind_some hF
   refine aF (r9 hr_24) rfl hb34 rfl rfl rfl rfl wz (bN Cb rfl wz (aa (vI 0) (af (kz (λn_31 => ?_)))))
   obtain ⟨o_36,hj_37,hF⟩:=bind_some hF
   obtain ⟨hn_29,hj_37⟩:=bf hj_37
   refine jl (σ:=(List (ByteArray×Bool))×(List ByteArray)) (N:=Nm) (λp=>(λ(s_30:(List (ByteArray×Bool))×(List ByteArray)) (n_33:Nm)=>([(12,(gV n_33 1 s_30.2))]:SL_)) p.1 p.2) (λp=>(λ(s_30:(List (ByteArray×Bool))×(List ByteArray)) (n_33:Nm)=>([(n_4,some (.cells 4 (Player.v p_2))),(n_5,some (.cells 2 [(vI wv_3.From),(vI wv_3.To)])),(n_9,some (bM D.str D.bool s_30.1)),(n_33,gB 1 eS s_30.2)]:Hp)) p.1 p.2) (λ(k_25:Nat)=>(λp=>(λ(s_30:(List (ByteArray×Bool))×(List ByteArray)) (n_33:Nm)=>([(9,(.map n_9)),(12,(gV n_33 1 s_30.2)),(39,(vL Span.enc r_23)),(40,(vI (r_23.length:Int))),(41,(vI (k_25:Int)))]:SL_)) p.1 p.2)) (λk x s=>bO k x s) o_36 r_23 ((s_17,([]:List ByteArray)),n_31) hj_37 rfl (aJ rfl) ?_ ?_
   ·rintro ⟨k_25,l_26,s_30,n_33⟩ ⟨hL_35,hD_28⟩
    dsimp only at hL_35 hD_28
    cases l_26 with
    | nil =>
     obtain rfl:=ae hL_35
     refine aj (aa (vB (decide ((k_25:Int)<(r_23.length:Int)))) (af ?_))
     refine au (aB rfl (drop_nil hD_28) (aU ?_))
     exact aV (s_30,n_33) rfl rfl (aJ rfl)
    | cons x_27 l_26 =>
     obtain ⟨c_,hc_34,hL_35⟩:=bind_some hL_35
     refine aj (aa (vB (decide ((k_25:Int)<(r_23.length:Int)))) (af ?_))
     refine au (aD rfl (bz hD_28) (ay ?_))
     unfold bO at hc_34
     refine au (aN (aj (eU zw rfl rfl (bH hD_28) rfl wz (bI pg zy rfl (.d (.agg (Span.enc x_27))) rfl wz (bR 0 (.inl rfl) z80 rfl wz (λn_38=>eH 0 il ft 4 pg rfl rfl (Span.v x_27) (xm rfl (bK (mE _ _) (bK rfl (bK rfl rfl))) rfl rfl) wz (af (aj (aa (.map n_9) (aI yT rfl 0 rfl wz (aA 0 4 il ft JQ JE rfl rfl (.d (dP Entry.enc x_27.f_e)) rfl wz ?_)))))))))))
     obtain ⟨y_39,hy_40,hc_34⟩:=bind_some hc_34
     refine bL (v':=(.d (.ptr (Entry.enc y_39)))) 47 rfl (su (enc:=Entry.enc) (y:=y_39) hy_40) (aa (.d (.ptr (Entry.enc y_39))) (yg kg rfl (Entry.enc y_39) rfl rfl wz (bI sz9 ag9 rfl (vS y_39.Key) rfl wz (wB (eq:=eqS) (kD:=D.str) (vD:=D.bool) (es:=s_30.1) (k:=y_39.Key) (z:=false) 0 2 il ft (λ_ _=>rfl) mt76 (by kernel_rfl) (by kernel_rfl) rfl rfl rfl (vB ((iY eqS s_30.1 y_39.Key).getD false)) rfl wz (aa (vB (!((iY eqS s_30.1 y_39.Key).getD false))) (af ?_))))))
     obtain ⟨v_41,h_42,hc_34⟩:=bind_some hc_34
     refine jO (β:=Nm) (λ(n_43:Nm)=>([(9,(.map n_9)),(12,(gV n_43 1 v_41.2)),(39,(vL Span.enc r_23)),(40,(vI (r_23.length:Int))),(41,(vI (k_25:Int)))]:SL_)) (λ(n_43:Nm)=>([(n_4,some (.cells 4 (Player.v p_2))),(n_5,some (.cells 2 [(vI wv_3.From),(vI wv_3.To)])),(n_9,some (bM D.str D.bool v_41.1)),(n_43,gB 1 eS v_41.2),(n_38,some (.cells 3 (Span.v x_27)))]:Hp)) (λ_=>True) ?_ ?_
     ·rcases ak h_42 with⟨hc_44,h_42⟩|⟨hc_44,h_42⟩
      ·refine aD rfl hc_44 (aj (aa (.map n_9) (aI yT rfl 0 rfl wz (aA 0 4 il ft JQ JE rfl rfl (.d (dP Entry.enc x_27.f_e)) rfl wz ?_))))
       obtain ⟨y_45,hy_46,h_42⟩:=bind_some h_42
       refine bL (v':=(.d (.ptr (Entry.enc y_45)))) 55 rfl (su (enc:=Entry.enc) (y:=y_45) hy_46) (aa (.d (.ptr (Entry.enc y_45))) (yg kg rfl (Entry.enc y_45) rfl rfl wz (bI sz9 ag9 rfl (vS y_45.Key) rfl wz (wm (eq:=eqS) (kD:=D.str) (vD:=D.bool) (es:=s_30.1) (k:=y_45.Key) (v:=true) 0 2 il ft (λ_ _=>rfl) mt76 (by kernel_rfl) rfl rfl rfl rfl wz (af (ax (aa (gV n_33 1 s_30.2) (aI yT rfl 0 rfl wz (aA 0 4 il ft JQ JE rfl rfl (.d (dP Entry.enc x_27.f_e)) rfl wz ?_)))))))))
       obtain ⟨y_47,hy_48,h_42⟩:=bind_some h_42
       refine bL (v':=(.d (.ptr (Entry.enc y_47)))) 61 rfl (su (enc:=Entry.enc) (y:=y_47) hy_48) (aa (.d (.ptr (Entry.enc y_47))) (yg kg rfl (Entry.enc y_47) rfl rfl wz (bI sz9 ag9 rfl (vS y_47.Key) rfl wz (dU (([y_47.Key]:List ByteArray).map eS) mQ vR rfl rfl rfl rfl rfl wz ?_))))
       obtain ⟨a_49,hz_50,h_42⟩:=bind_some h_42
       refine kI 0 il ft (i:=3) Lj Lj sz9 z9 rfl (by decide) by9 (by decide) (λ_=>rfl) rfl rfl rfl hz_50 wz (λn_51=>aa (gV n_51 1 a_49) (af ?_))
       obtain rfl:=ae h_42
       exact aV n_51 trivial rfl (aJ rfl)
      ·refine aB rfl hc_44 (ay ?_)
       obtain rfl:=ae h_42
       exact aV n_33 trivial rfl (aJ rfl)
     ·rintro n_43 _ sl_ H_ hp_ hq_
      refine aO _ hp_ hq_ (ax (fJ (bE hD_28 hn_29) wz rfl (aa (vI ((k_25+1:Nat):Int)) (af ?_))))
      obtain rfl:=ae hc_34
      exact aS (k_25+1,l_26,(v_41.1,v_41.2),n_43) ⟨hL_35,aR hD_28⟩ (ls_ _) rfl (aJ rfl)
   ·rintro ⟨s_30,n_33⟩ ho_ sl_ H_ hp_ hq_
    subst ho_
    refine aO _ hp_ hq_ (aj (aa (gV n_33 1 s_30.2) (aa (gV n_33 1 s_30.2) (aa (vI 0) (af (iw 3 rfl (dJ 6 3 rfl rfl (dJ 12 3 rfl rfl (dJ 68 3 rfl rfl ?_)))))))))
    obtain rfl:=ae hF
    exact aC (aL [(vL eS s_30.2),(vI 0)] ⟨rfl,⟨rfl,trivial⟩⟩)
theorem Aw {l_1:(List Entry)} {p_2:Player} {wv_3:Window} {r:(List Window)×Int} (hF:jW l_1 p_2 wv_3=some r) :
  FnM Tryz.prog 9 [(vL Entry.enc l_1),(.d (.agg (Player.enc p_2))),(.d (.agg (Window.enc wv_3)))] [] (.tup [(vL Window.enc r.1),(vI r.2)]) []:=by
 refine FnM.of_wH ⟨Tryz.prog,38,[],[]⟩ rfl Tryz.func9 rfl rfl (lb_ rfl) (by kernel_rfl) ?_
 unfold jW at hF
 refine aj (bZ 0 (.inl rfl) (Player.v p_2) rfl rfl wz (λn_4=>bZ 0 (.inl rfl) [(vI wv_3.From),(vI wv_3.To)] rfl rfl wz (λn_5=>aa .nil (aa (vI 0) (af (au (aj (aa (vL Entry.enc l_1) (aA 0 0 il ft kQ mO rfl rfl (.d (.agg (Player.enc p_2))) rfl wz (aA 0 1 il ft eX iT rfl rfl (.d (.agg (Window.enc wv_3))) rfl wz ?_))))))))))
 obtain ⟨r_6,hr_7,hF⟩:=bind_some hF
 refine aF (jF hr_7) rfl hb32 rfl rfl rfl rfl wz (aa (vI r_6) (af (aj (aa (vI r_6) (aa (vB (r_6 != 0)) (af ?_))))))
 rcases ak hF with⟨hc_8,hF⟩|⟨hc_8,hF⟩
 ·refine aD rfl hc_8 (aj (aa (vI r_6) (aa .nil (aa (vI r_6) (af ?_)))))
  obtain rfl:=ae hF
  exact aC (aL [.nil,(vI r_6)] ⟨rfl,⟨rfl,trivial⟩⟩)
 ·refine aB rfl hc_8 (ay (aj (aa .nil (af (au (aj (aa (vL Entry.enc l_1) (aA 0 0 il ft kQ mO rfl rfl (.d (.agg (Player.enc p_2))) rfl wz (aA 0 1 il ft eX iT rfl rfl (.d (.agg (Window.enc wv_3))) rfl wz ?_)))))))))
  obtain ⟨r_9,hr_10,hF⟩:=bind_some hF
  refine aF (j3 hr_10) rfl hb33 rfl rfl rfl rfl wz (bN BZ rfl wz (aa (vI 0) (af (kz (λn_17 => ?_)))))
  obtain ⟨o_22,hj_23,hF⟩:=bind_some hF
  obtain ⟨hn_15,hj_23⟩:=bf hj_23
  refine jl (σ:=(List Window)) (N:=Nm) (λp=>(λ(s_16:List Window) (n_19:Nm)=>([(9,(gV n_19 2 s_16))]:SL_)) p.1 p.2) (λp=>(λ(s_16:List Window) (n_19:Nm)=>([(n_4,some (.cells 4 (Player.v p_2))),(n_5,some (.cells 2 [(vI wv_3.From),(vI wv_3.To)])),(n_19,gB 2 Window.enc s_16)]:Hp)) p.1 p.2) (λ(k_11:Nat)=>(λp=>(λ(s_16:List Window) (n_19:Nm)=>([(9,(gV n_19 2 s_16)),(22,(vL Slot_.enc r_9)),(23,(vI (r_9.length:Int))),(24,(vI (k_11:Int)))]:SL_)) p.1 p.2)) (λk x s=>fV k x s) o_22 r_9 (([]:List Window),n_17) hj_23 rfl (aJ rfl) ?_ ?_
  ·rintro ⟨k_11,l_12,s_16,n_19⟩ ⟨hL_21,hD_14⟩
   dsimp only at hL_21 hD_14
   cases l_12 with
   | nil =>
    obtain rfl:=ae hL_21
    refine aj (aa (vB (decide ((k_11:Int)<(r_9.length:Int)))) (af ?_))
    refine au (aB rfl (drop_nil hD_14) (aU ?_))
    exact aV (s_16,n_19) rfl rfl (aJ rfl)
   | cons x_13 l_12 =>
    obtain ⟨c_,hc_20,hL_21⟩:=bind_some hL_21
    refine aj (aa (vB (decide ((k_11:Int)<(r_9.length:Int)))) (af ?_))
    refine au (aD rfl (bz hD_14) (ay ?_))
    unfold fV at hc_20
    refine au (aN (aj (eU zf rfl rfl (bH hD_14) rfl wz (bI yo IK rfl (.d (.agg (Slot_.enc x_13))) rfl wz (bR 0 (.inl rfl) z54 rfl wz (λn_24=>eH 0 il ft 3 yo rfl rfl (Slot_.v x_13) rfl wz (af (aj (aI uR rfl 2 rfl wz (aA 0 3 il ft sz9 ag9 rfl rfl (vS x_13.Entry) rfl wz (aa (vB (sEq x_13.Entry (⟨#[]⟩:ByteArray))) (af ?_))))))))))))
    obtain ⟨v_25,h_26,hc_20⟩:=bind_some hc_20
    refine jO (β:=Nm) (λ(n_27:Nm)=>([(9,(gV n_27 2 v_25)),(22,(vL Slot_.enc r_9)),(23,(vI (r_9.length:Int))),(24,(vI (k_11:Int)))]:SL_)) (λ(n_27:Nm)=>([(n_4,some (.cells 4 (Player.v p_2))),(n_5,some (.cells 2 [(vI wv_3.From),(vI wv_3.To)])),(n_27,gB 2 Window.enc v_25),(n_24,some (.cells 3 (Slot_.v x_13)))]:Hp)) (λ_=>True) ?_ ?_
    ·rcases ak h_26 with⟨hc_28,h_26⟩|⟨hc_28,h_26⟩
     ·refine aD rfl hc_28 (ax (aa (gV n_19 2 s_16) (aI wG rfl 0 rfl wz (aA 0 3 il ft eX iT rfl rfl (.d (.agg (Window.enc x_13.Time))) rfl wz (dU (([x_13.Time]:List Window).map Window.enc) AU Ng rfl rfl rfl rfl rfl wz ?_)))))
      obtain ⟨a_29,hz_30,h_26⟩:=bind_some h_26
      refine kI 0 il ft (i:=2) Es Es eX z33 rfl (by decide) ME (by decide) (λ_=>rfl) rfl rfl rfl hz_30 wz (λn_31=>aa (gV n_31 2 a_29) (af ?_))
      obtain rfl:=ae h_26
      exact aV n_31 trivial rfl (aJ rfl)
     ·refine aB rfl hc_28 (ay ?_)
      obtain rfl:=ae h_26
      exact aV n_19 trivial rfl (aJ rfl)
    ·rintro n_27 _ sl_ H_ hp_ hq_
     refine aO _ hp_ hq_ (ax (fJ (bE hD_14 hn_15) wz rfl (aa (vI ((k_11+1:Nat):Int)) (af ?_))))
     obtain rfl:=ae hc_20
     exact aS (k_11+1,l_12,v_25,n_27) ⟨hL_21,aR hD_14⟩ (ls_ _) rfl (aJ rfl)
  ·rintro ⟨s_16,n_19⟩ ho_ sl_ H_ hp_ hq_
   subst ho_
   refine aO _ hp_ hq_ (aj (aa (gV n_19 2 s_16) (aa (gV n_19 2 s_16) (aa (vI 0) (af (iw 2 rfl (dJ 6 2 rfl rfl (dJ 9 2 rfl rfl (dJ 37 2 rfl rfl ?_)))))))))
   obtain rfl:=ae hF
   exact aC (aL [(vL Window.enc s_16),(vI 0)] ⟨rfl,⟨rfl,trivial⟩⟩)
theorem zb {l_1:(List Entry)} {r:(List (ByteArray×ByteArray))} (hF:l6 l_1=some r) :
  FnM Tryz.prog 35 [(vL Entry.enc l_1)] [] (.map (av 0)) [some (bM D.str D.str r)]:=by
 refine FnM.of_wH ⟨Tryz.prog,20,[],[]⟩ rfl Tryz.func35 rfl rfl (lb_ rfl) (by kernel_rfl) ?_
 unfold l6 at hF
 refine aj (aa .nilm (af (aj (Ch 0 (.inl rfl) wz (λn_2=>zo (b':=some (bM D.str D.str ([]:List (ByteArray×ByteArray)))) 0 rfl rfl (aa (.map n_2) (af (au (aj (aa (vL Entry.enc l_1) (bN yB rfl wz (aa (vI 0) (af ?_)))))))))))))
 obtain ⟨o_11,hj_12,hF⟩:=bind_some hF
 obtain ⟨hn_7,hj_12⟩:=bf hj_12
 refine cK (λ(s_8:(List (ByteArray×ByteArray)))=>[(3,(.map n_2))]) (λ(s_8:(List (ByteArray×ByteArray)))=>[(n_2,some (bM D.str D.str s_8))]) (λ(k_3:Nat)=>(λ(s_8:(List (ByteArray×ByteArray)))=>[(3,(.map n_2)),(7,(vL Entry.enc l_1)),(8,(vI (l_1.length:Int))),(9,(vI (k_3:Int)))])) (λk x s=>lJ k x s) o_11 l_1 ([]:List (ByteArray×ByteArray)) hj_12 rfl (aJ rfl) ?_ ?_
 ·rintro ⟨k_3,l_4,s_8⟩ ⟨hL_10,hD_6⟩
  dsimp only at hL_10 hD_6
  cases l_4 with
  | nil =>
   obtain rfl:=ae hL_10
   refine aj (aa (vB (decide ((k_3:Int)<(l_1.length:Int)))) (af ?_))
   refine au (aB rfl (drop_nil hD_6) (aU ?_))
   exact aV (s_8) rfl rfl (aJ rfl)
  | cons x_5 l_4 =>
   obtain ⟨c_,hc_9,hL_10⟩:=bind_some hL_10
   refine aj (aa (vB (decide ((k_3:Int)<(l_1.length:Int)))) (af ?_))
   refine au (aD rfl (bz hD_6) (ay ?_))
   unfold lJ at hc_9
   refine au (aN (aj (eU qh rfl rfl (bH hD_6) rfl wz (bI iZ kK rfl (.d (.agg (Entry.enc x_5))) rfl wz (bR 0 (.inl rfl) z68 rfl wz (λn_13=>eH 0 il ft 1 iZ rfl rfl (Entry.v x_5) rfl wz (af (ax (aa (.map n_2) (aI kg rfl 0 rfl wz (aA 0 1 il ft sz9 ag9 rfl rfl (vS x_5.Key) rfl wz (aI Eb rfl 1 rfl wz (aA 0 1 il ft sz9 ag9 rfl rfl (vS x_5.Item) rfl wz (wm (eq:=eqS) (kD:=D.str) (vD:=D.str) (es:=s_8) (k:=x_5.Key) (v:=x_5.Item) 0 0 il ft (λ_ _=>rfl) mt81 (by kernel_rfl) rfl rfl rfl rfl wz (af (ax (fJ (bE hD_6 hn_7) wz rfl (aa (vI ((k_3+1:Nat):Int)) (af ?_)))))))))))))))))))
   obtain rfl:=ae hc_9
   exact aS (k_3+1,l_4,(oI eqS s_8 x_5.Key x_5.Item)) ⟨hL_10,aR hD_6⟩ (ls_ _) rfl (aJ rfl)
 ·rintro s_8 ho_ sl_ H_ hp_ hq_
  subst ho_
  refine aO _ hp_ hq_ (aj (aa (.map n_2) (aa (.map n_2) (af ?_))))
  obtain rfl:=ae hF
  exact aC (qB (.inr rfl) [(.map n_2)] _ [0] [n_2] ⟨rfl,trivial⟩ (.cons (Ae _) .nil) (by kernel_rfl) ⟨(by kernel_rfl),trivial⟩ (by decide) (by kernel_rfl))
theorem Ca {m:(List (ByteArray×Int))} :
  FnM Tryz.prog 37 [(.map (av 0))] [(bM D.str (D.int .i64) m)] (.fn 71 [(.ref (av 1) 0 0)]) [some (bM D.str (D.int .i64) m),some (.cells 1 [(.map (av 0))])] :=
 MJ (λmb w=>Tryz.maps_Keys_37 mb w) _
theorem zk {m:(List (ByteArray×Int))} {r:List ByteArray} (hF:rQ m=some r) :
  FnM Tryz.prog 36 [(.fn 71 [(.ref (av 0) 0 0)])] [.cells 1 [(.map (av 1))],(bM D.str (D.int .i64) m)] (vL eS r) [some (.cells 1 [(.map (av 1))]),some (bM D.str (D.int .i64) m)] :=
 Dl (eV:=(D.int .i64)) rfl (by kernel_rfl) (λb nn Bm D0 w h1 h2 h3 h4 h5=>Tryz.sorted_Keys_71 b nn Bm D0 w h1 h2 h3 h4 h5) hF
theorem vH {x0:Int} {r:ByteArray} (hF:strconv_Itoa x0=some r) :
  FnM Tryz.prog 38 [(vI x0)] [] (vS r) [] :=
 itoa_ok Tryz.strconv_Itoa Jt hF
theorem Bb {l_1:(List Entry)} {p_2:Player} {wv_3:Window} {r:(List Pair)×Int} (hF:jV l_1 p_2 wv_3=some r) :
  FnM Tryz.prog 10 [(vL Entry.enc l_1),(.d (.agg (Player.enc p_2))),(.d (.agg (Window.enc wv_3)))] [] (.tup [(vL Pair.enc r.1),(vI r.2)]) []:=by
 refine FnM.of_wH ⟨Tryz.prog,72,[],[]⟩ rfl Tryz.func10 rfl rfl (lb_ rfl) (by kernel_rfl) ?_
 unfold jV at hF
 refine aj (bZ 0 (.inl rfl) (Player.v p_2) rfl rfl wz (λn_4=>bZ 0 (.inl rfl) [(vI wv_3.From),(vI wv_3.To)] rfl rfl wz (λn_5=>aa .nil (aa (vI 0) (af (au (aj (aa (vL Entry.enc l_1) (aA 0 0 il ft kQ mO rfl rfl (.d (.agg (Player.enc p_2))) rfl wz (aA 0 1 il ft eX iT rfl rfl (.d (.agg (Window.enc wv_3))) rfl wz ?_))))))))))
 obtain ⟨r_6,hr_7,hF⟩:=bind_some hF
 refine aF (jF hr_7) rfl hb32 rfl rfl rfl rfl wz (aa (vI r_6) (af (aj (aa (vI r_6) (aa (vB (r_6 != 0)) (af ?_))))))
 rcases ak hF with⟨hc_8,hF⟩|⟨hc_8,hF⟩
 ·refine aD rfl hc_8 (aj (aa (vI r_6) (aa .nil (aa (vI r_6) (af ?_)))))
  obtain rfl:=ae hF
  exact aC (aL [.nil,(vI r_6)] ⟨rfl,⟨rfl,trivial⟩⟩)
 ·refine aB rfl hc_8 (ay (aj (aa (vL Entry.enc l_1) ?_)))
  obtain ⟨r_9,hr_10,hF⟩:=bind_some hF
  refine K9 [] 1 (zb hr_10) rfl hb35 rfl (by kernel_rfl) (by kernel_rfl) (by kernel_rfl) (by kernel_rfl) (by kernel_rfl) (by kernel_rfl) (by kernel_rfl) (by decide) (by kernel_rfl) (by kernel_rfl) wz (λnu_11=>(.map (nu_11 0))) (λ_=>by kernel_rfl) (λnu_11=>([(n_4,some (.cells 4 (Player.v p_2))),(n_5,some (.cells 2 [(vI wv_3.From),(vI wv_3.To)])),((nu_11 0),some (bM D.str D.str r_9))]:Hp)) (λ_=>by kernel_rfl) ?_
  intro nu_11
  refine aa (.map (nu_11 0)) (af (aj (Ch 0 (.inl rfl) wz (λn_12=>zo (b':=some (bM D.str (D.int .i64) ([]:List (ByteArray×Int)))) 3 rfl rfl (aa (.map n_12) (af (au (aj (aa (vL Entry.enc l_1) (aA 0 0 il ft kQ mO rfl rfl (.d (.agg (Player.enc p_2))) rfl wz (aA 0 1 il ft eX iT rfl rfl (.d (.agg (Window.enc wv_3))) rfl wz ?_)))))))))))
  obtain ⟨r_13,hr_14,hF⟩:=bind_some hF
  refine aF (j3 hr_14) rfl hb33 rfl rfl rfl rfl wz (bN BZ rfl wz (aa (vI 0) (af ?_)))
  obtain ⟨o_23,hj_24,hF⟩:=bind_some hF
  obtain ⟨hn_19,hj_24⟩:=bf hj_24
  refine cK (λ(s_20:(List (ByteArray×Int)))=>[(10,(.map n_12))]) (λ(s_20:(List (ByteArray×Int)))=>[(n_4,some (.cells 4 (Player.v p_2))),(n_5,some (.cells 2 [(vI wv_3.From),(vI wv_3.To)])),((nu_11 0),some (bM D.str D.str r_9)),(n_12,some (bM D.str (D.int .i64) s_20))]) (λ(k_15:Nat)=>(λ(s_20:(List (ByteArray×Int)))=>[(9,(.map (nu_11 0))),(10,(.map n_12)),(29,(vL Slot_.enc r_13)),(30,(vI (r_13.length:Int))),(31,(vI (k_15:Int)))])) (λk x s=>jv r_9 k x s) o_23 r_13 ([]:List (ByteArray×Int)) hj_24 rfl (aJ rfl) ?_ ?_
  ·rintro ⟨k_15,l_16,s_20⟩ ⟨hL_22,hD_18⟩
   dsimp only at hL_22 hD_18
   cases l_16 with
   | nil =>
    obtain rfl:=ae hL_22
    refine aj (aa (vB (decide ((k_15:Int)<(r_13.length:Int)))) (af ?_))
    refine au (aB rfl (drop_nil hD_18) (aU ?_))
    exact aV (s_20) rfl rfl (aJ rfl)
   | cons x_17 l_16 =>
    obtain ⟨c_,hc_21,hL_22⟩:=bind_some hL_22
    refine aj (aa (vB (decide ((k_15:Int)<(r_13.length:Int)))) (af ?_))
    refine au (aD rfl (bz hD_18) (ay ?_))
    unfold jv at hc_21
    refine au (aN (aj (eU zf rfl rfl (bH hD_18) rfl wz (bI yo IK rfl (.d (.agg (Slot_.enc x_17))) rfl wz (bR 0 (.inl rfl) z54 rfl wz (λn_25=>eH 0 il ft 4 yo rfl rfl (Slot_.v x_17) rfl wz (af (aj (aI uR rfl 2 rfl wz (aA 0 4 il ft sz9 ag9 rfl rfl (vS x_17.Entry) rfl wz (aa (vB (sNe x_17.Entry (⟨#[]⟩:ByteArray))) (af ?_))))))))))))
    obtain ⟨v_26,h_27,hc_21⟩:=bind_some hc_21
    refine aQ [(9,(.map (nu_11 0))),(10,(.map n_12)),(29,(vL Slot_.enc r_13)),(30,(vI (r_13.length:Int))),(31,(vI (k_15:Int)))] [(n_4,some (.cells 4 (Player.v p_2))),(n_5,some (.cells 2 [(vI wv_3.From),(vI wv_3.To)])),((nu_11 0),some (bM D.str D.str r_9)),(n_12,some (bM D.str (D.int .i64) v_26)),(n_25,some (.cells 3 (Slot_.v x_17)))] ?_ ?_
    ·rcases ak h_27 with⟨hc_28,h_27⟩|⟨hc_28,h_27⟩
     ·refine aD rfl hc_28 (ax (aa (.map n_12) (aa (.map (nu_11 0)) (aI uR rfl 2 rfl wz (aA 0 4 il ft sz9 ag9 rfl rfl (vS x_17.Entry) rfl wz (wB (eq:=eqS) (kD:=D.str) (vD:=D.str) (es:=r_9) (k:=x_17.Entry) (z:=(⟨#[]⟩:ByteArray)) 0 2 il ft (λ_ _=>rfl) mt81 (by kernel_rfl) (by kernel_rfl) rfl rfl rfl (vS ((iY eqS r_9 x_17.Entry).getD (⟨#[]⟩:ByteArray))) rfl wz (wB (eq:=eqS) (kD:=D.str) (vD:=(D.int .i64)) (es:=s_20) (k:=((iY eqS r_9 x_17.Entry).getD (⟨#[]⟩:ByteArray))) (z:=0) 0 3 il ft (λ_ _=>rfl) Nr (by kernel_rfl) (by kernel_rfl) rfl rfl rfl (vI ((iY eqS s_20 ((iY eqS r_9 x_17.Entry).getD (⟨#[]⟩:ByteArray))).getD 0)) rfl wz (aI wG rfl 0 rfl wz (aI gN rfl 1 rfl wz (aA 0 4 il ft sz3 ag3 rfl rfl (vI x_17.Time.To) rfl wz (aI wG rfl 0 rfl wz (aI gm rfl 0 rfl wz (aA 0 4 il ft sz3 ag3 rfl rfl (vI x_17.Time.From) rfl wz (aa (vI (w64 (x_17.Time.To-x_17.Time.From))) (aa (vI (w64 (((iY eqS s_20 ((iY eqS r_9 x_17.Entry).getD (⟨#[]⟩:ByteArray))).getD 0)+(w64 (x_17.Time.To-x_17.Time.From))))) (wm (eq:=eqS) (kD:=D.str) (vD:=(D.int .i64)) (es:=s_20) (k:=((iY eqS r_9 x_17.Entry).getD (⟨#[]⟩:ByteArray))) (v:=(w64 (((iY eqS s_20 ((iY eqS r_9 x_17.Entry).getD (⟨#[]⟩:ByteArray))).getD 0)+(w64 (x_17.Time.To-x_17.Time.From))))) 0 3 il ft (λ_ _=>rfl) Nr (by kernel_rfl) rfl rfl rfl rfl wz (af ?_)))))))))))))))))
      obtain rfl:=ae h_27
      exact cu
     ·refine aB rfl hc_28 (ay ?_)
      obtain rfl:=ae h_27
      exact cu
    ·rintro ⟨⟩ _ sl_ H_ hp_ hq_
     refine aO _ hp_ hq_ (ax (fJ (bE hD_18 hn_19) wz rfl (aa (vI ((k_15+1:Nat):Int)) (af ?_))))
     obtain rfl:=ae hc_21
     exact aS (k_15+1,l_16,v_26) ⟨hL_22,aR hD_18⟩ (ls_ _) rfl (aJ rfl)
  ·rintro s_20 ho_ sl_ H_ hp_ hq_
   subst ho_
   refine aO _ hp_ hq_ (aj (aa .nil (af (au (aj (aa (.map n_12) (K9 [3] 1 (Ca (m:=s_20)) rfl hb37 rfl (by kernel_rfl) (by kernel_rfl) (by kernel_rfl) (by kernel_rfl) (by kernel_rfl) (by kernel_rfl) (by kernel_rfl) (by decide) (by kernel_rfl) (by kernel_rfl) wz (λnu_29=>(.fn 71 [(.ref (nu_29 0) 0 0)])) (λ_=>by kernel_rfl) (λnu_29=>([(n_4,some (.cells 4 (Player.v p_2))),(n_5,some (.cells 2 [(vI wv_3.From),(vI wv_3.To)])),((nu_11 0),some (bM D.str D.str r_9)),(n_12,some (bM D.str (D.int .i64) s_20)),((nu_29 0),some (.cells 1 [(.map n_12)]))]:Hp)) (λ_=>by kernel_rfl) ?_)))))))
   intro nu_29
   obtain ⟨r_30,hr_31,hF⟩:=bind_some hF
   refine bA 0 [4,3] il ft (zk hr_31) rfl hb36 rfl (by kernel_rfl) (by kernel_rfl) (by kernel_rfl) (by kernel_rfl) (by kernel_rfl) (by kernel_rfl) (by kernel_rfl) (by decide) (by kernel_rfl) wz (vL eS r_30) (by kernel_rfl) ([(n_4,some (.cells 4 (Player.v p_2))),(n_5,some (.cells 2 [(vI wv_3.From),(vI wv_3.To)])),((nu_11 0),some (bM D.str D.str r_9)),(n_12,some (bM D.str (D.int .i64) s_20)),((nu_29 0),some (.cells 1 [(.map n_12)]))]:Hp) (by kernel_rfl) (bN xI rfl wz (aa (vI 0) (af (kz (λn_39 => ?_)))))
   obtain ⟨o_44,hj_45,hF⟩:=bind_some hF
   obtain ⟨hn_37,hj_45⟩:=bf hj_45
   refine jl (σ:=(List Pair)) (N:=Nm) (λp=>(λ(s_38:List Pair) (n_41:Nm)=>([(13,(gV n_41 2 s_38))]:SL_)) p.1 p.2) (λp=>(λ(s_38:List Pair) (n_41:Nm)=>([(n_4,some (.cells 4 (Player.v p_2))),(n_5,some (.cells 2 [(vI wv_3.From),(vI wv_3.To)])),((nu_11 0),some (bM D.str D.str r_9)),(n_12,some (bM D.str (D.int .i64) s_20)),((nu_29 0),some (.cells 1 [(.map n_12)])),(n_41,gB 2 Pair.enc s_38)]:Hp)) p.1 p.2) (λ(k_33:Nat)=>(λp=>(λ(s_38:List Pair) (n_41:Nm)=>([(10,(.map n_12)),(13,(gV n_41 2 s_38)),(55,(vL eS r_30)),(56,(vI (r_30.length:Int))),(57,(vI (k_33:Int)))]:SL_)) p.1 p.2)) (λk x s=>jw s_20 k x s) o_44 r_30 (([]:List Pair),n_39) hj_45 rfl (aJ rfl) ?_ ?_
   ·rintro ⟨k_33,l_34,s_38,n_41⟩ ⟨hL_43,hD_36⟩
    dsimp only at hL_43 hD_36
    cases l_34 with
    | nil =>
     obtain rfl:=ae hL_43
     refine aj (aa (vB (decide ((k_33:Int)<(r_30.length:Int)))) (af ?_))
     refine au (aB rfl (drop_nil hD_36) (aU ?_))
     exact aV (s_38,n_41) rfl rfl (aJ rfl)
    | cons x_35 l_34 =>
     obtain ⟨c_,hc_42,hL_43⟩:=bind_some hL_43
     refine aj (aa (vB (decide ((k_33:Int)<(r_30.length:Int)))) (af ?_))
     refine au (aD rfl (bz hD_36) (ay ?_))
     unfold jw at hc_42
     refine au (aN (aj (eU mQ rfl rfl (bH hD_36) rfl wz (bI sz9 ag9 rfl (vS x_35) rfl wz (aa (vS x_35) (af (ax (aa (gV n_41 2 s_38) (aa (vS x_35) (aa (.map n_12) (aa (vS x_35) (wB (eq:=eqS) (kD:=D.str) (vD:=(D.int .i64)) (es:=s_20) (k:=x_35) (z:=0) 0 3 il ft (λ_ _=>rfl) Nr (by kernel_rfl) (by kernel_rfl) rfl rfl rfl (vI ((iY eqS s_20 x_35).getD 0)) rfl wz ?_))))))))))))
     obtain ⟨r_46,hr_47,hc_42⟩:=bind_some hc_42
     refine aF (vH hr_47) rfl hb38 rfl rfl rfl rfl wz (aK (.d (.agg (Pair.enc (⟨x_35,r_46⟩:Pair)))) wz (by kernel_rfl) (dU (([(⟨x_35,r_46⟩:Pair)]:List Pair).map Pair.enc) Ey ez44 rfl rfl rfl rfl rfl wz ?_))
     obtain ⟨a_48,hz_49,hc_42⟩:=bind_some hc_42
     refine kI 0 il ft (i:=5) el44 el44 Ej z62 rfl (by decide) by62 (by decide) (λ_=>rfl) rfl rfl rfl hz_49 wz (λn_50=>aa (gV n_50 2 a_48) (af (ax (fJ (bE hD_36 hn_37) wz rfl (aa (vI ((k_33+1:Nat):Int)) (af ?_))))))
     obtain rfl:=ae hc_42
     exact aS (k_33+1,l_34,a_48,n_50) ⟨hL_43,aR hD_36⟩ (ls_ _) rfl (aJ rfl)
   ·rintro ⟨s_38,n_41⟩ ho_ sl_ H_ hp_ hq_
    subst ho_
    refine aO _ hp_ hq_ (aj (aa (gV n_41 2 s_38) (aa (gV n_41 2 s_38) (aa (vI 0) (af (iw 5 rfl (dJ 6 5 rfl rfl (dJ 13 5 rfl rfl (dJ 71 5 rfl rfl ?_)))))))))
    obtain rfl:=ae hF
    exact aC (aL [(vL Pair.enc s_38),(vI 0)] ⟨rfl,⟨rfl,trivial⟩⟩)
theorem jJ {n_1:Int} {low_2:Int} {high_3:Int} {r:Bool} (hF:kL n_1 low_2 high_3=some r) :
  FnM Tryz.prog 41 [(vI n_1),(vI low_2),(vI high_3)] [] (vB r) []:=by
 refine FnM.of_wH ⟨Tryz.prog,15,[],[]⟩ rfl Tryz.func41 rfl rfl (lb_ rfl) (by kernel_rfl) ?_
 unfold kL at hF
 refine aj (aa (vB false) (af (au ?_)))
 obtain ⟨v_4,h_5,hF⟩:=bind_some hF
 refine aQ [(6,(vB v_4))] [] ?_ ?_
 ·refine ax (aa (vI low_2) (aa (vI n_1) (aa (vB (decide (low_2<=n_1))) ?_)))
  rcases ak h_5 with⟨hc_6,h_5⟩|⟨hc_6,h_5⟩
  ·refine aH rfl hc_6 wz (aK (vI n_1) wa rfl (aK (vI high_3) wa rfl (aK (vB (decide (n_1<=high_3))) wa rfl (aa (vB (decide (n_1<=high_3))) (aa (vB (decide (n_1<=high_3))) (af ?_))))))
   obtain rfl:=ae h_5
   exact cu
  ·refine aH rfl hc_6 wz (ah (ah (ah (aa (vB false) (aa (vB false) (af ?_))))))
   obtain rfl:=ae h_5
   exact cu
 ·rintro ⟨⟩ _ sl_ H_ hp_ hq_
  refine aO _ hp_ hq_ ?_
  obtain rfl:=ae hF
  exact aC (aL [(vB v_4)] ⟨rfl,trivial⟩)
theorem nQ {s_1:ByteArray} {c_2:Int} {r:Int} (hF:fU s_1 c_2=some r) :
  FnM Tryz.prog 147 [(vS s_1),(.d (.int .u8 c_2))] [] (vI r) []:=by
 refine FnM.of_wH ⟨Tryz.prog,8,[],[]⟩ rfl Tryz.func147 rfl rfl (lb_ rfl) (by kernel_rfl) ?_
 unfold fU at hF
 refine aj (aa (vI 0) (af (aj (aa (vS s_1) (aa (.d (.int .u8 c_2)) (h_ext (ext_ixB (f:=178) Tryz.func178 rfl rfl (by kernel_rfl) (by kernel_rfl) _ _) rfl nb178 rfl wz (aa (vI (ixB s_1 c_2)) (af ?_))))))))
 obtain rfl:=ae hF
 exact aC (aL [(vI (ixB s_1 c_2))] ⟨rfl,trivial⟩)
theorem wP {s_1:ByteArray} {c_2:Int} {r:Int} (hF:strings_IndexByte s_1 c_2=some r) :
  FnM Tryz.prog 102 [(vS s_1),(.d (.int .u8 c_2))] [] (vI r) []:=by
 refine FnM.of_wH ⟨Tryz.prog,8,[],[]⟩ rfl Tryz.func102 rfl rfl (lb_ rfl) (by kernel_rfl) ?_
 unfold strings_IndexByte at hF
 refine aj (aa (vI 0) (af (aj (aa (vS s_1) (aa (.d (.int .u8 c_2)) ?_)))))
 obtain ⟨r_3,hr_4,hF⟩:=bind_some hF
 refine aF (nQ hr_4) rfl hb147 rfl rfl rfl rfl wz (aa (vI r_3) (af ?_))
 obtain rfl:=ae hF
 exact aC (aL [(vI r_3)] ⟨rfl,trivial⟩)
theorem Br {s_1:ByteArray} {somev_2:ByteArray} {r:Bool} (hF:uj s_1 somev_2=some r) :
  FnM Tryz.prog 73 [(vS s_1),(vS somev_2)] [] (vB r) []:=by
 refine FnM.of_wH ⟨Tryz.prog,18,[],[]⟩ rfl Tryz.func73 rfl rfl (lb_ rfl) (by kernel_rfl) ?_
 unfold uj at hF
 refine aj (aa (vB false) (af (au (aj (aa (vS s_1) (F8 un9 rfl wz (aa (vI 0) (af ?_))))))))
 obtain ⟨o_11,hj_12,hF⟩:=bind_some hF
 obtain ⟨hn_7,hj_12⟩:=bf hj_12
 refine cK (λ(s_8:Unit)=>[]) (λ(s_8:Unit)=>[]) (λ(k_3:Nat)=>(λ(s_8:Unit)=>[(0,(vS s_1)),(1,(vS somev_2)),(7,(vI (s_1.size:Int))),(8,(vI (k_3:Int)))])) (λk x s=>nL s_1 somev_2 k x s) o_11 (List.range ((s_1.size:Int)).toNat) () hj_12 rfl (aJ rfl) ?_ ?_
 ·rintro ⟨k_3,l_4,s_8⟩ ⟨hL_10,hD_6⟩
  dsimp only at hL_10 hD_6
  cases l_4 with
  | nil =>
   obtain rfl:=ae hL_10
   refine aj (aa (vB (decide ((k_3:Int)<(s_1.size:Int)))) (af ?_))
   refine au (aB rfl (A7 hD_6) (aU ?_))
   exact aV (s_8) rfl rfl (aJ rfl)
  | cons x_5 l_4 =>
   obtain ⟨c_,hc_9,hL_10⟩:=bind_some hL_10
   refine aj (aa (vB (decide ((k_3:Int)<(s_1.size:Int)))) (af ?_))
   refine au (aD rfl (yZ hD_6) (ay ?_))
   unfold nL at hc_9
   refine au (aN (aj (aa (vI (k_3:Int)) (aa (vI (k_3:Int)) (af (aj (aa (vS somev_2) (aa (vS s_1) (aa (vI (k_3:Int)) ?_)))))))))
   obtain ⟨b_13,hy_14,hc_9⟩:=bind_some hc_9
   refine JR un9 rfl rfl hy_14 wz ?_
   obtain ⟨r_15,hr_16,hc_9⟩:=bind_some hc_9
   refine aF (wP hr_16) rfl hb102 rfl rfl rfl rfl wz (aa (vB (decide (r_15<0))) (af ?_))
   rcases ak hc_9 with⟨hc_17,hc_9⟩|⟨hc_17,hc_9⟩
   ·refine aD rfl hc_17 (aj (aa (vB false) (af ?_)))
    obtain rfl:=ae hc_9
    obtain rfl:=ae hL_10
    obtain rfl:=ae hF
    exact aC (aL [(vB false)] ⟨rfl,trivial⟩)
   ·refine aB rfl hc_17 (ay (ax (fJ (AP hD_6 hn_7) wz rfl (aa (vI ((k_3+1:Nat):Int)) (af ?_)))))
    obtain rfl:=ae hc_9
    exact aS (k_3+1,l_4,()) ⟨hL_10,aR hD_6⟩ (ls_ _) rfl (aJ rfl)
 ·rintro s_8 ho_ sl_ H_ hp_ hq_
  subst ho_
  refine aO _ hp_ hq_ (aj (aa (vB true) (af ?_)))
  obtain rfl:=ae hF
  exact aC (aL [(vB true)] ⟨rfl,trivial⟩)
theorem rz {s_1:ByteArray} {r:Bool} (hF:qx s_1=some r) :
  FnM Tryz.prog 40 [(vS s_1)] [] (vB r) []:=by
 refine FnM.of_wH ⟨Tryz.prog,15,[],[]⟩ rfl Tryz.func40 rfl rfl (lb_ rfl) (by kernel_rfl) ?_
 unfold qx at hF
 refine aj (aa (vB false) (af (au ?_)))
 obtain ⟨v_2,h_3,hF⟩:=bind_some hF
 refine aQ [(2,(vB v_2))] [] ?_ ?_
 ·refine ax (aa (vS s_1) (F8 un9 rfl wz ?_))
  obtain ⟨r_4,hr_5,h_3⟩:=bind_some h_3
  refine aF (jJ hr_5) rfl BH rfl rfl rfl rfl wz ?_
  rcases ak h_3 with⟨hc_6,h_3⟩|⟨hc_6,h_3⟩
  ·refine aH rfl hc_6 wz (aK (vS s_1) wa rfl ?_)
   obtain ⟨y_7,hy_8,h_3⟩:=bind_some h_3
   refine DC un9 rfl rfl hy_8 wa ?_
   obtain ⟨r_9,hr_10,h_3⟩:=bind_some h_3
   refine aF (Br hr_10) rfl hb73 rfl rfl rfl rfl wa (aa (vB r_9) ?_)
   rcases ak h_3 with⟨hc_11,h_3⟩|⟨hc_11,h_3⟩
   ·refine aH rfl hc_11 wz (aK (vS s_1) wa rfl ?_)
    obtain ⟨r_12,hr_13,h_3⟩:=bind_some h_3
    refine aF (Br hr_13) rfl hb73 rfl rfl rfl rfl wa (aa (vB r_12) (aa (vB r_12) (af ?_)))
    obtain rfl:=ae h_3
    exact cu
   ·refine aH rfl hc_11 wz (ah (ah (aa (vB false) (aa (vB false) (af ?_)))))
    obtain rfl:=ae h_3
    exact cu
  ·refine aH rfl hc_6 wz (ah (ah (ah (aa (vB false) (aa (vB false) (ah (ah (aa (vB false) (aa (vB false) (af ?_))))))))))
   obtain rfl:=ae h_3
   exact cu
 ·rintro ⟨⟩ _ sl_ H_ hp_ hq_
  refine aO _ hp_ hq_ ?_
  obtain rfl:=ae hF
  exact aC (aL [(vB v_2)] ⟨rfl,trivial⟩)
theorem yK {l_1:(List ByteArray)} {r:Int} (hF:nC l_1=some r) :
  FnM Tryz.prog 74 [(vL eS l_1)] [] (vI r) []:=by
 refine FnM.of_wH ⟨Tryz.prog,27,[],[]⟩ rfl Tryz.func74 rfl rfl (lb_ rfl) (by kernel_rfl) ?_
 unfold nC at hF
 refine aj (aa (vI 0) (af (au (aj (aa (vL eS l_1) (bN xI rfl wz (aa (vI 0) (af ?_))))))))
 obtain ⟨o_10,hj_11,hF⟩:=bind_some hF
 obtain ⟨hn_6,hj_11⟩:=bf hj_11
 refine cK (λ(s_7:Unit)=>[]) (λ(s_7:Unit)=>[]) (λ(k_2:Nat)=>(λ(s_7:Unit)=>[(0,(vL eS l_1)),(5,(vL eS l_1)),(6,(vI (l_1.length:Int))),(7,(vI (k_2:Int)))])) (λk x s=>kT l_1 k x s) o_10 l_1 () hj_11 rfl (aJ rfl) ?_ ?_
 ·rintro ⟨k_2,l_3,s_7⟩ ⟨hL_9,hD_5⟩
  dsimp only at hL_9 hD_5
  cases l_3 with
  | nil =>
   obtain rfl:=ae hL_9
   refine aj (aa (vB (decide ((k_2:Int)<(l_1.length:Int)))) (af ?_))
   refine au (aB rfl (drop_nil hD_5) (aU ?_))
   exact aV (s_7) rfl rfl (aJ rfl)
  | cons x_4 l_3 =>
   obtain ⟨c_,hc_8,hL_9⟩:=bind_some hL_9
   refine aj (aa (vB (decide ((k_2:Int)<(l_1.length:Int)))) (af ?_))
   refine au (aD rfl (bz hD_5) (ay ?_))
   unfold kT at hc_8
   refine au (aN (aj (aa (vI (k_2:Int)) (eU mQ rfl rfl (bH hD_5) rfl wz (bI sz9 ag9 rfl (vS x_4) rfl wz (aa (vI (k_2:Int)) (aa (vS x_4) (af (au (aj (aa (vS x_4) ?_)))))))))))
   obtain ⟨r_12,hr_13,hc_8⟩:=bind_some hc_8
   refine aF (rz hr_13) rfl Od rfl rfl rfl rfl wz (aa (vB (!r_12)) (af ?_))
   rcases ak hc_8 with⟨hc_14,hc_8⟩|⟨hc_14,hc_8⟩
   ·refine aD rfl hc_14 (aj (aa (vI 5) (af ?_)))
    obtain rfl:=ae hc_8
    obtain rfl:=ae hL_9
    obtain rfl:=ae hF
    exact aC (aL [(vI 5)] ⟨rfl,trivial⟩)
   ·refine aB rfl hc_14 (ay (au ?_))
    obtain ⟨v_15,h_16,hc_8⟩:=bind_some hc_8
    refine aQ [(0,(vL eS l_1)),(5,(vL eS l_1)),(6,(vI (l_1.length:Int))),(7,(vI (k_2:Int))),(25,(vB v_15))] [] ?_ ?_
    ·refine ax (aa (vI (k_2:Int)) (aa (vB (decide ((k_2:Int)>0))) ?_))
     rcases ak h_16 with⟨hc_17,h_16⟩|⟨hc_17,h_16⟩
     ·refine aH rfl hc_17 wz (aK (vS x_4) wa rfl (aK (vL eS l_1) wa rfl (aK (vI (k_2:Int)) wa rfl (aK (vI (w64 ((k_2:Int)-1))) wa rfl ?_))))
      obtain ⟨y_18,hy_19,h_16⟩:=bind_some h_16
      refine eU mQ rfl rfl hy_19 rfl wa (bI sz9 ag9 rfl (vS y_18) rfl wa (aK (vB (sLe x_4 y_18)) wa rfl (aa (vB (sLe x_4 y_18)) (af ?_))))
      obtain rfl:=ae h_16
      exact cu
     ·refine aH rfl hc_17 wz (ah (ah (ah (ah (ah (ah (ah (aa (vB false) (af ?_)))))))))
      obtain rfl:=ae h_16
      exact cu
    ·rintro ⟨⟩ _ sl_ H_ hp_ hq_
     refine aO _ hp_ hq_ ?_
     rcases ak hc_8 with⟨hc_20,hc_8⟩|⟨hc_20,hc_8⟩
     ·refine aD rfl hc_20 (aj (aa (vI 7) (af ?_)))
      obtain rfl:=ae hc_8
      obtain rfl:=ae hL_9
      obtain rfl:=ae hF
      exact aC (aL [(vI 7)] ⟨rfl,trivial⟩)
     ·refine aB rfl hc_20 (ay (ax (fJ (bE hD_5 hn_6) wz rfl (aa (vI ((k_2+1:Nat):Int)) (af ?_)))))
      obtain rfl:=ae hc_8
      exact aS (k_2+1,l_3,()) ⟨hL_9,aR hD_5⟩ (ls_ _) rfl (aJ rfl)
 ·rintro s_7 ho_ sl_ H_ hp_ hq_
  subst ho_
  refine aO _ hp_ hq_ (aj (aa (vI 0) (af ?_)))
  obtain rfl:=ae hF
  exact aC (aL [(vI 0)] ⟨rfl,trivial⟩)
theorem uh {l_1:(List ByteArray)} {r:Int} (hF:lw l_1=some r) :
  FnM Tryz.prog 42 [(vL eS l_1)] [] (vI r) []:=by
 refine FnM.of_wH ⟨Tryz.prog,8,[],[]⟩ rfl Tryz.func42 rfl rfl (lb_ rfl) (by kernel_rfl) ?_
 unfold lw at hF
 refine aj (aa (vI 0) (af (au (aj (aa (vL eS l_1) (bN xI rfl wz (aa (vB (decide ((l_1.length:Int)>20))) (af ?_))))))))
 rcases ak hF with⟨hc_2,hF⟩|⟨hc_2,hF⟩
 ·refine aD rfl hc_2 (aj (aa (vI 2) (af ?_)))
  obtain rfl:=ae hF
  exact aC (aL [(vI 2)] ⟨rfl,trivial⟩)
 ·refine aB rfl hc_2 (ay (aj (aa (vL eS l_1) ?_)))
  obtain ⟨r_3,hr_4,hF⟩:=bind_some hF
  refine aF (yK hr_4) rfl hb74 rfl rfl rfl rfl wz (aa (vI r_3) (af ?_))
  obtain rfl:=ae hF
  exact aC (aL [(vI r_3)] ⟨rfl,trivial⟩)
theorem Ac {e_1:Entry} {r:Int} (hF:l8 e_1=some r) :
  FnM Tryz.prog 39 [(.d (.agg (Entry.enc e_1)))] [] (vI r) []:=by
 refine FnM.of_wH ⟨Tryz.prog,94,[],[]⟩ rfl Tryz.func39 rfl rfl (lb_ rfl) (by kernel_rfl) ?_
 unfold l8 at hF
 refine aj (bZ 0 (.inl rfl) (Entry.v e_1) rfl rfl wz (λn_2=>aa (vI 0) (af (au (aN (au ?_))))))
 obtain ⟨v_3,h_4,hF⟩:=bind_some hF
 refine aQ [(1,(.ref n_2 0 0)),(5,(vB v_3))] [(n_2,some (.cells 13 (Entry.v e_1)))] ?_ ?_
 ·refine ax (aI kg rfl 0 rfl wz (aA 0 0 il ft sz9 ag9 rfl rfl (vS e_1.Key) rfl wz ?_))
  obtain ⟨r_5,hr_6,h_4⟩:=bind_some h_4
  refine aF (rz hr_6) rfl Od rfl rfl rfl rfl wz (aa (vB (!r_5)) ?_)
  rcases ak h_4 with⟨hc_7,h_4⟩|⟨hc_7,h_4⟩
  ·refine aH rfl hc_7 wz (ah (ah (ah (ah (aa (vB true) (aa (vB true) (af ?_)))))))
   obtain rfl:=ae h_4
   exact cu
  ·refine aH rfl hc_7 wz (aI Eb rfl 1 rfl wa (aA 0 0 il ft sz9 ag9 rfl rfl (vS e_1.Item) rfl wa ?_))
   obtain ⟨r_8,hr_9,h_4⟩:=bind_some h_4
   refine aF (rz hr_9) rfl Od rfl rfl rfl rfl wa (aK (vB (!r_8)) wa rfl (aa (vB (!r_8)) (aa (vB (!r_8)) (af ?_))))
   obtain rfl:=ae h_4
   exact cu
 ·rintro ⟨⟩ _ sl_ H_ hp_ hq_
  refine aO _ hp_ hq_ ?_
  rcases ak hF with⟨hc_10,hF⟩|⟨hc_10,hF⟩
  ·refine aD rfl hc_10 (aj (aa (vI 5) (af ?_)))
   obtain rfl:=ae hF
   exact aC (aL [(vI 5)] ⟨rfl,trivial⟩)
  ·refine aB rfl hc_10 (au ?_)
   obtain ⟨v_11,h_12,hF⟩:=bind_some hF
   refine aQ [(1,(.ref n_2 0 0)),(16,(vB v_11))] [(n_2,some (.cells 13 (Entry.v e_1)))] ?_ ?_
   ·refine ax (aI Oq rfl 2 rfl wz (aA 0 0 il ft sz3 ag3 rfl rfl (vI e_1.Version) rfl wz ?_))
    obtain ⟨r_13,hr_14,h_12⟩:=bind_some h_12
    refine aF (jJ hr_14) rfl BH rfl rfl rfl rfl wz (aa (vB (!r_13)) ?_)
    rcases ak h_12 with⟨hc_15,h_12⟩|⟨hc_15,h_12⟩
    ·refine aH rfl hc_15 wz (ah (ah (ah (ah (ah (ah (aa (vB true) (aa (vB true) (ah (ah (ah (aa (vB true) (aa (vB true) (ah (ah (ah (ah (aa (vB true) (aa (vB true) (ah (ah (ah (ah ?_)))))))))))))))))))))))
     refine aa (vB true) (aa (vB true) (af ?_))
     obtain rfl:=ae h_12
     exact cu
    ·refine aH rfl hc_15 wz (aI rf rfl 3 rfl wa (aA 0 0 il ft sz3 ag3 rfl rfl (vI e_1.First) rfl wa (aI ru rfl 4 rfl wa (aA 0 0 il ft sz3 ag3 rfl rfl (vI e_1.Last) rfl wa ?_))))
     obtain ⟨r_16,hr_17,h_12⟩:=bind_some h_12
     refine aF (jJ hr_17) rfl BH rfl rfl rfl rfl wa (aK (vB (!r_16)) wa rfl (aa (vB (!r_16)) ?_))
     rcases ak h_12 with⟨hc_18,h_12⟩|⟨hc_18,h_12⟩
     ·refine aH rfl hc_18 wz (ah (ah (ah (aa (vB true) (aa (vB true) (ah (ah (ah (ah (aa (vB true) (aa (vB true) (ah (ah (ah (ah (aa (vB true) (aa (vB true) (af ?_))))))))))))))))))
      obtain rfl:=ae h_12
      exact cu
     ·refine aH rfl hc_18 wz (aI ru rfl 4 rfl wa (aA 0 0 il ft sz3 ag3 rfl rfl (vI e_1.Last) rfl wa (aK (vB (decide (e_1.Last>4000))) wa rfl (aa (vB (decide (e_1.Last>4000))) ?_))))
      rcases ak h_12 with⟨hc_19,h_12⟩|⟨hc_19,h_12⟩
      ·refine aH rfl hc_19 wz (ah (ah (ah (ah (aa (vB true) (aa (vB true) (ah (ah (ah (ah (aa (vB true) (aa (vB true) (af ?_)))))))))))))
       obtain rfl:=ae h_12
       exact cu
      ·refine aH rfl hc_19 wz (aI Ec rfl 5 rfl wa (aA 0 0 il ft sz3 ag3 rfl rfl (vI e_1.Every) rfl wa ?_))
       obtain ⟨r_20,hr_21,h_12⟩:=bind_some h_12
       refine aF (jJ hr_21) rfl BH rfl rfl rfl rfl wa (aK (vB (!r_20)) wa rfl (aa (vB (!r_20)) ?_))
       rcases ak h_12 with⟨hc_22,h_12⟩|⟨hc_22,h_12⟩
       ·refine aH rfl hc_22 wz (ah (ah (ah (ah (aa (vB true) (aa (vB true) (af ?_)))))))
        obtain rfl:=ae h_12
        exact cu
       ·refine aH rfl hc_22 wz (aI Ef rfl 6 rfl wa (aA 0 0 il ft sz3 ag3 rfl rfl (vI e_1.Days) rfl wa ?_))
        obtain ⟨r_23,hr_24,h_12⟩:=bind_some h_12
        refine aF (jJ hr_24) rfl BH rfl rfl rfl rfl wa (aK (vB (!r_23)) wa rfl (aa (vB (!r_23)) (aa (vB (!r_23)) (af ?_))))
        obtain rfl:=ae h_12
        exact cu
   ·rintro ⟨⟩ _ sl_ H_ hp_ hq_
    refine aO _ hp_ hq_ ?_
    rcases ak hF with⟨hc_25,hF⟩|⟨hc_25,hF⟩
    ·refine aD rfl hc_25 (aj (aa (vI 1) (af ?_)))
     obtain rfl:=ae hF
     exact aC (aL [(vI 1)] ⟨rfl,trivial⟩)
    ·refine aB rfl hc_25 (aj (aI sZ rfl 7 rfl wz (aA 0 0 il ft sV vM rfl rfl (vL eI e_1.Except) rfl wz (bN qc rfl wz (aa (vB (decide ((e_1.Except.length:Int)>100))) (aa (vB (decide ((e_1.Except.length:Int)>100))) (af ?_)))))))
     rcases ak hF with⟨hc_26,hF⟩|⟨hc_26,hF⟩
     ·refine aD rfl hc_26 (aj (aa (vI 2) (af ?_)))
      obtain rfl:=ae hF
      exact aC (aL [(vI 2)] ⟨rfl,trivial⟩)
     ·refine aB rfl hc_26 (ay (au (aj (aI sZ rfl 7 rfl wz (aA 0 0 il ft sV vM rfl rfl (vL eI e_1.Except) rfl wz (bN qc rfl wz (aa (vI 0) (af ?_))))))))
      obtain ⟨o_35,hj_36,hF⟩:=bind_some hF
      obtain ⟨hn_31,hj_36⟩:=bf hj_36
      refine cK (λ(s_32:Unit)=>[(1,(.ref n_2 0 0))]) (λ(s_32:Unit)=>[(n_2,some (.cells 13 (Entry.v e_1)))]) (λ(k_27:Nat)=>(λ(s_32:Unit)=>[(1,(.ref n_2 0 0)),(52,(vL eI e_1.Except)),(53,(vI (e_1.Except.length:Int))),(54,(vI (k_27:Int)))])) (λk x s=>lM e_1 k x s) o_35 e_1.Except () hj_36 rfl (aJ rfl) ?_ ?_
      ·rintro ⟨k_27,l_28,s_32⟩ ⟨hL_34,hD_30⟩
       dsimp only at hL_34 hD_30
       cases l_28 with
       | nil =>
        obtain rfl:=ae hL_34
        refine aj (aa (vB (decide ((k_27:Int)<(e_1.Except.length:Int)))) (af ?_))
        refine au (aB rfl (drop_nil hD_30) (aU ?_))
        exact aV (s_32) rfl rfl (aJ rfl)
       | cons x_29 l_28 =>
        obtain ⟨c_,hc_33,hL_34⟩:=bind_some hL_34
        refine aj (aa (vB (decide ((k_27:Int)<(e_1.Except.length:Int)))) (af ?_))
        refine au (aD rfl (bz hD_30) (ay ?_))
        unfold lM at hc_33
        refine au (aN (aj (aa (vI (k_27:Int)) (eU iW rfl rfl (bH hD_30) rfl wz (bI sz3 ag3 rfl (vI x_29) rfl wz (aa (vI (k_27:Int)) (aa (vI x_29) (af (au (aj (aa (vI x_29) ?_)))))))))))
        obtain ⟨r_37,hr_38,hc_33⟩:=bind_some hc_33
        refine aF (jJ hr_38) rfl BH rfl rfl rfl rfl wz (aa (vB (!r_37)) (af ?_))
        rcases ak hc_33 with⟨hc_39,hc_33⟩|⟨hc_39,hc_33⟩
        ·refine aD rfl hc_39 (aj (aa (vI 1) (af ?_)))
         obtain rfl:=ae hc_33
         obtain rfl:=ae hL_34
         obtain rfl:=ae hF
         exact aC (aL [(vI 1)] ⟨rfl,trivial⟩)
        ·refine aB rfl hc_39 (ay (au ?_))
         obtain ⟨v_40,h_41,hc_33⟩:=bind_some hc_33
         refine aQ [(1,(.ref n_2 0 0)),(52,(vL eI e_1.Except)),(53,(vI (e_1.Except.length:Int))),(54,(vI (k_27:Int))),(73,(vB v_40))] [(n_2,some (.cells 13 (Entry.v e_1)))] ?_ ?_
         ·refine ax (aa (vI (k_27:Int)) (aa (vB (decide ((k_27:Int)>0))) ?_))
          rcases ak h_41 with⟨hc_42,h_41⟩|⟨hc_42,h_41⟩
          ·refine aH rfl hc_42 wz (aK (vI x_29) wa rfl (aI sZ rfl 7 rfl wa (aA 0 0 il ft sV vM rfl rfl (vL eI e_1.Except) rfl wa (aK (vI (k_27:Int)) wa rfl (aK (vI (w64 ((k_27:Int)-1))) wa rfl ?_)))))
           obtain ⟨y_43,hy_44,h_41⟩:=bind_some h_41
           refine eU iW rfl rfl hy_44 rfl wa (bI sz3 ag3 rfl (vI y_43) rfl wa (aK (vB (decide (x_29<=y_43))) wa rfl (aa (vB (decide (x_29<=y_43))) (af ?_))))
           obtain rfl:=ae h_41
           exact cu
          ·refine aH rfl hc_42 wz (ah (ah (ah (ah (ah (ah (ah (ah (aa (vB false) (af ?_))))))))))
           obtain rfl:=ae h_41
           exact cu
         ·rintro ⟨⟩ _ sl_ H_ hp_ hq_
          refine aO _ hp_ hq_ ?_
          rcases ak hc_33 with⟨hc_45,hc_33⟩|⟨hc_45,hc_33⟩
          ·refine aD rfl hc_45 (aj (aa (vI 7) (af ?_)))
           obtain rfl:=ae hc_33
           obtain rfl:=ae hL_34
           obtain rfl:=ae hF
           exact aC (aL [(vI 7)] ⟨rfl,trivial⟩)
          ·refine aB rfl hc_45 (ay (ax (fJ (bE hD_30 hn_31) wz rfl (aa (vI ((k_27+1:Nat):Int)) (af ?_)))))
           obtain rfl:=ae hc_33
           exact aS (k_27+1,l_28,()) ⟨hL_34,aR hD_30⟩ (ls_ _) rfl (aJ rfl)
      ·rintro s_32 ho_ sl_ H_ hp_ hq_
       subst ho_
       refine aO _ hp_ hq_ (au (au ?_))
       obtain ⟨v_46,h_47,hF⟩:=bind_some hF
       refine aQ [(1,(.ref n_2 0 0)),(90,(vB v_46))] [(n_2,some (.cells 13 (Entry.v e_1)))] ?_ ?_
       ·refine ax (aI yH rfl 8 rfl wz (aA 0 0 il ft sz3 ag3 rfl rfl (vI e_1.From) rfl wz ?_))
        obtain ⟨r_48,hr_49,h_47⟩:=bind_some h_47
        refine aF (jJ hr_49) rfl BH rfl rfl rfl rfl wz (aa (vB (!r_48)) ?_)
        rcases ak h_47 with⟨hc_50,h_47⟩|⟨hc_50,h_47⟩
        ·refine aH rfl hc_50 wz (ah (ah (ah (ah (aa (vB true) (aa (vB true) (ah (ah (ah (ah (aa (vB true) (af ?_))))))))))))
         obtain rfl:=ae h_47
         exact cu
        ·refine aH rfl hc_50 wz (aI CZ rfl 9 rfl wa (aA 0 0 il ft sz3 ag3 rfl rfl (vI e_1.To) rfl wa ?_))
         obtain ⟨r_51,hr_52,h_47⟩:=bind_some h_47
         refine aF (jJ hr_52) rfl BH rfl rfl rfl rfl wa (aK (vB (!r_51)) wa rfl (aa (vB (!r_51)) ?_))
         rcases ak h_47 with⟨hc_53,h_47⟩|⟨hc_53,h_47⟩
         ·refine aH rfl hc_53 wz (ah (ah (ah (ah (aa (vB true) (af ?_))))))
          obtain rfl:=ae h_47
          exact cu
         ·refine aH rfl hc_53 wz (aI ve rfl 10 rfl wa (aA 0 0 il ft sz3 ag3 rfl rfl (vI e_1.Prio) rfl wa ?_))
          obtain ⟨r_54,hr_55,h_47⟩:=bind_some h_47
          refine aF (jJ hr_55) rfl BH rfl rfl rfl rfl wa (aK (vB (!r_54)) wa rfl (aa (vB (!r_54)) (af ?_)))
          obtain rfl:=ae h_47
          exact cu
       ·rintro ⟨⟩ _ sl_ H_ hp_ hq_
        refine aO _ hp_ hq_ ?_
        rcases ak hF with⟨hc_56,hF⟩|⟨hc_56,hF⟩
        ·refine aD rfl hc_56 (aj (aa (vI 1) (af ?_)))
         obtain rfl:=ae hF
         exact aC (aL [(vI 1)] ⟨rfl,trivial⟩)
        ·refine aB rfl hc_56 (ay (aj (aI uV rfl 11 rfl wz (aA 0 0 il ft zS BP rfl rfl (vL eS e_1.Tags) rfl wz ?_))))
         obtain ⟨r_57,hr_58,hF⟩:=bind_some hF
         refine aF (uh hr_58) rfl hb42 rfl rfl rfl rfl wz (aa (vI r_57) (af ?_))
         obtain rfl:=ae hF
         exact aC (aL [(vI r_57)] ⟨rfl,trivial⟩)
theorem xJ {l_1:(List Entry)} {r:Int} (hF:ko l_1=some r) :
  FnM Tryz.prog 12 [(vL Entry.enc l_1)] [] (vI r) []:=by
 refine FnM.of_wH ⟨Tryz.prog,28,[],[]⟩ rfl Tryz.func12 rfl rfl (lb_ rfl) (by kernel_rfl) ?_
 unfold ko at hF
 refine aj (aa (vI 0) (af (au (aj (aa (vL Entry.enc l_1) (bN yB rfl wz (aa (vB (decide ((l_1.length:Int)>200))) (af ?_))))))))
 rcases ak hF with⟨hc_2,hF⟩|⟨hc_2,hF⟩
 ·refine aD rfl hc_2 (aj (aa (vI 2) (af ?_)))
  obtain rfl:=ae hF
  exact aC (aL [(vI 2)] ⟨rfl,trivial⟩)
 ·refine aB rfl hc_2 (ay (aj (aa (vS (⟨#[]⟩:ByteArray)) (af (au (aj (aa (vL Entry.enc l_1) (bN yB rfl wz (aa (vI 0) (af ?_))))))))))
  obtain ⟨o_11,hj_12,hF⟩:=bind_some hF
  obtain ⟨hn_7,hj_12⟩:=bf hj_12
  refine cK (λ(s_8:ByteArray)=>[]) (λ(s_8:ByteArray)=>[]) (λ(k_3:Nat)=>(λ(s_8:ByteArray)=>[(3,(vS s_8)),(10,(vL Entry.enc l_1)),(11,(vI (l_1.length:Int))),(12,(vI (k_3:Int)))])) (λk x s=>iH k x s) o_11 l_1 (⟨#[]⟩:ByteArray) hj_12 rfl (aJ rfl) ?_ ?_
  ·rintro ⟨k_3,l_4,s_8⟩ ⟨hL_10,hD_6⟩
   dsimp only at hL_10 hD_6
   cases l_4 with
   | nil =>
    obtain rfl:=ae hL_10
    refine aj (aa (vB (decide ((k_3:Int)<(l_1.length:Int)))) (af ?_))
    refine au (aB rfl (drop_nil hD_6) (aU ?_))
    exact aV (s_8) rfl rfl (aJ rfl)
   | cons x_5 l_4 =>
    obtain ⟨c_,hc_9,hL_10⟩:=bind_some hL_10
    refine aj (aa (vB (decide ((k_3:Int)<(l_1.length:Int)))) (af ?_))
    refine au (aD rfl (bz hD_6) (ay ?_))
    unfold iH at hc_9
    refine au (aN (aj (eU qh rfl rfl (bH hD_6) rfl wz (bI iZ kK rfl (.d (.agg (Entry.enc x_5))) rfl wz (bR 0 (.inl rfl) z68 rfl wz (λn_13=>eH 0 il ft 0 iZ rfl rfl (Entry.v x_5) rfl wz (af (au (aj (aA 0 0 il ft iZ kK rfl rfl (.d (.agg (Entry.enc x_5))) rfl wz ?_))))))))))
    obtain ⟨r_14,hr_15,hc_9⟩:=bind_some hc_9
    refine aF (Ac hr_15) rfl hb39 rfl rfl rfl rfl wz (aa (vI r_14) (af (aj (aa (vI r_14) (aa (vB (r_14 != 0)) (af ?_))))))
    rcases ak hc_9 with⟨hc_16,hc_9⟩|⟨hc_16,hc_9⟩
    ·refine aD rfl hc_16 (aj (aa (vI r_14) (aa (vI r_14) (af ?_))))
     obtain rfl:=ae hc_9
     obtain rfl:=ae hL_10
     obtain rfl:=ae hF
     exact aC (aL [(vI r_14)] ⟨rfl,trivial⟩)
    ·refine aB rfl hc_16 (ay (au (aj (aI kg rfl 0 rfl wz (aA 0 0 il ft sz9 ag9 rfl rfl (vS x_5.Key) rfl wz (aa (vS s_8) (aa (vB (sLe x_5.Key s_8)) (af ?_))))))))
     rcases ak hc_9 with⟨hc_17,hc_9⟩|⟨hc_17,hc_9⟩
     ·refine aD rfl hc_17 (aj (aa (vI 7) (af ?_)))
      obtain rfl:=ae hc_9
      obtain rfl:=ae hL_10
      obtain rfl:=ae hF
      exact aC (aL [(vI 7)] ⟨rfl,trivial⟩)
     ·refine aB rfl hc_17 (ay (ax (aI kg rfl 0 rfl wz (aA 0 0 il ft sz9 ag9 rfl rfl (vS x_5.Key) rfl wz (aa (vS x_5.Key) (af (ax (fJ (bE hD_6 hn_7) wz rfl (aa (vI ((k_3+1:Nat):Int)) (af ?_))))))))))
      obtain rfl:=ae hc_9
      exact aS (k_3+1,l_4,x_5.Key) ⟨hL_10,aR hD_6⟩ (ls_ _) rfl (aJ rfl)
  ·rintro s_8 ho_ sl_ H_ hp_ hq_
   subst ho_
   refine aO _ hp_ hq_ (aj (aa (vI 0) (af ?_)))
   obtain rfl:=ae hF
   exact aC (aL [(vI 0)] ⟨rfl,trivial⟩)
theorem yA {p_1:Player} {r:Int} (hF:lc p_1=some r) :
  FnM Tryz.prog 13 [(.d (.agg (Player.enc p_1)))] [] (vI r) []:=by
 refine FnM.of_wH ⟨Tryz.prog,22,[],[]⟩ rfl Tryz.func13 rfl rfl (lb_ rfl) (by kernel_rfl) ?_
 unfold lc at hF
 refine aj (bZ 0 (.inl rfl) (Player.v p_1) rfl rfl wz (λn_2=>aa (vI 0) (af (au (aN (au ?_))))))
 obtain ⟨v_3,h_4,hF⟩:=bind_some hF
 refine aQ [(1,(.ref n_2 0 0)),(3,(vB v_3))] [(n_2,some (.cells 4 (Player.v p_1)))] ?_ ?_
 ·refine ax (aI MP rfl 0 rfl wz (aA 0 0 il ft sz9 ag9 rfl rfl (vS p_1.Key) rfl wz ?_))
  obtain ⟨r_5,hr_6,h_4⟩:=bind_some h_4
  refine aF (rz hr_6) rfl Od rfl rfl rfl rfl wz (aa (vB (!r_5)) ?_)
  rcases ak h_4 with⟨hc_7,h_4⟩|⟨hc_7,h_4⟩
  ·refine aH rfl hc_7 wz (ah (ah (ah (ah (aa (vB true) (aa (vB true) (af ?_)))))))
   obtain rfl:=ae h_4
   exact cu
  ·refine aH rfl hc_7 wz (aI NN rfl 1 rfl wa (aA 0 0 il ft sz9 ag9 rfl rfl (vS p_1.Screen) rfl wa ?_))
   obtain ⟨r_8,hr_9,h_4⟩:=bind_some h_4
   refine aF (rz hr_9) rfl Od rfl rfl rfl rfl wa (aK (vB (!r_8)) wa rfl (aa (vB (!r_8)) (aa (vB (!r_8)) (af ?_))))
   obtain rfl:=ae h_4
   exact cu
 ·rintro ⟨⟩ _ sl_ H_ hp_ hq_
  refine aO _ hp_ hq_ ?_
  rcases ak hF with⟨hc_10,hF⟩|⟨hc_10,hF⟩
  ·refine aD rfl hc_10 (aj (aa (vI 5) (af ?_)))
   obtain rfl:=ae hF
   exact aC (aL [(vI 5)] ⟨rfl,trivial⟩)
  ·refine aB rfl hc_10 (aj (aI uX rfl 2 rfl wz (aA 0 0 il ft sz3 ag3 rfl rfl (vI p_1.Zone) rfl wz ?_)))
   obtain ⟨r_11,hr_12,hF⟩:=bind_some hF
   refine aF (jJ hr_12) rfl BH rfl rfl rfl rfl wz (aa (vB (!r_11)) (aa (vB (!r_11)) (af ?_)))
   rcases ak hF with⟨hc_13,hF⟩|⟨hc_13,hF⟩
   ·refine aD rfl hc_13 (aj (aa (vI 1) (af ?_)))
    obtain rfl:=ae hF
    exact aC (aL [(vI 1)] ⟨rfl,trivial⟩)
   ·refine aB rfl hc_13 (ay (aj (aI Gp rfl 3 rfl wz (aA 0 0 il ft zS BP rfl rfl (vL eS p_1.Tags) rfl wz ?_))))
    obtain ⟨r_14,hr_15,hF⟩:=bind_some hF
    refine aF (uh hr_15) rfl hb42 rfl rfl rfl rfl wz (aa (vI r_14) (af ?_))
    obtain rfl:=ae hF
    exact aC (aL [(vI r_14)] ⟨rfl,trivial⟩)
theorem yV {wv_1:Window} {r:Int} (hF:nE wv_1=some r) :
  FnM Tryz.prog 43 [(.d (.agg (Window.enc wv_1)))] [] (vI r) []:=by
 refine FnM.of_wH ⟨Tryz.prog,14,[],[]⟩ rfl Tryz.func43 rfl rfl (lb_ rfl) (by kernel_rfl) ?_
 unfold nE at hF
 refine aj (bZ 0 (.inl rfl) [(vI wv_1.From),(vI wv_1.To)] rfl rfl wz (λn_2=>aa (vI 0) (af (au (au ?_)))))
 obtain ⟨v_3,h_4,hF⟩:=bind_some hF
 refine aQ [(13,(vB v_3))] [(n_2,some (.cells 2 [(vI wv_1.From),(vI wv_1.To)]))] ?_ ?_
 ·refine ax (aI gm rfl 0 rfl wz (aA 0 0 il ft sz3 ag3 rfl rfl (vI wv_1.From) rfl wz (aI gN rfl 1 rfl wz (aA 0 0 il ft sz3 ag3 rfl rfl (vI wv_1.To) rfl wz ?_))))
  obtain ⟨r_5,hr_6,h_4⟩:=bind_some h_4
  refine aF (jJ hr_6) rfl BH rfl rfl rfl rfl wz (aa (vB (!r_5)) ?_)
  rcases ak h_4 with⟨hc_7,h_4⟩|⟨hc_7,h_4⟩
  ·refine aH rfl hc_7 wz (ah (ah (ah (aa (vB true) (af ?_)))))
   obtain rfl:=ae h_4
   exact cu
  ·refine aH rfl hc_7 wz (aI gN rfl 1 rfl wa (aA 0 0 il ft sz3 ag3 rfl rfl (vI wv_1.To) rfl wa (aK (vB (decide (wv_1.To>345686400000))) wa rfl (aa (vB (decide (wv_1.To>345686400000))) (af ?_)))))
   obtain rfl:=ae h_4
   exact cu
 ·rintro ⟨⟩ _ sl_ H_ hp_ hq_
  refine aO _ hp_ hq_ ?_
  rcases ak hF with⟨hc_8,hF⟩|⟨hc_8,hF⟩
  ·refine aD rfl hc_8 (aj (aa (vI 1) (af ?_)))
   obtain rfl:=ae hF
   exact aC (aL [(vI 1)] ⟨rfl,trivial⟩)
  ·refine aB rfl hc_8 (ay (aj (aa (vI 0) (af ?_))))
   obtain rfl:=ae hF
   exact aC (aL [(vI 0)] ⟨rfl,trivial⟩)
theorem AQ {wv_1:Window} {r:Int} (hF:nz wv_1=some r) :
  FnM Tryz.prog 14 [(.d (.agg (Window.enc wv_1)))] [] (vI r) []:=by
 refine FnM.of_wH ⟨Tryz.prog,15,[],[]⟩ rfl Tryz.func14 rfl rfl (lb_ rfl) (by kernel_rfl) ?_
 unfold nz at hF
 refine aj (bZ 0 (.inl rfl) [(vI wv_1.From),(vI wv_1.To)] rfl rfl wz (λn_2=>aa (vI 0) (af (au (aj (aA 0 0 il ft eX iT rfl rfl (.d (.agg (Window.enc wv_1))) rfl wz ?_))))))
 obtain ⟨r_3,hr_4,hF⟩:=bind_some hF
 refine aF (yV hr_4) rfl hb43 rfl rfl rfl rfl wz (aa (vI r_3) (af (aj (aa (vI r_3) (aa (vB (r_3 != 0)) (af ?_))))))
 rcases ak hF with⟨hc_5,hF⟩|⟨hc_5,hF⟩
 ·refine aD rfl hc_5 (aj (aa (vI r_3) (aa (vI r_3) (af ?_))))
  obtain rfl:=ae hF
  exact aC (aL [(vI r_3)] ⟨rfl,trivial⟩)
 ·refine aB rfl hc_5 (ay (au (aj (aI gN rfl 1 rfl wz (aA 0 0 il ft sz3 ag3 rfl rfl (vI wv_1.To) rfl wz (aI gm rfl 0 rfl wz (aA 0 0 il ft sz3 ag3 rfl rfl (vI wv_1.From) rfl wz (aa (vI (w64 (wv_1.To-wv_1.From))) (aa (vB (decide ((w64 (wv_1.To-wv_1.From))>34560000000))) (af ?_))))))))))
  rcases ak hF with⟨hc_6,hF⟩|⟨hc_6,hF⟩
  ·refine aD rfl hc_6 (aj (aa (vI 2) (af ?_)))
   obtain rfl:=ae hF
   exact aC (aL [(vI 2)] ⟨rfl,trivial⟩)
  ·refine aB rfl hc_6 (ay (aj (aa (vI 0) (af ?_))))
   obtain rfl:=ae hF
   exact aC (aL [(vI 0)] ⟨rfl,trivial⟩)
theorem Jf {l_1:(List Int)} {r:Int} (hF:wF l_1=some r) :
  FnM Tryz.prog 11 [(vL eI l_1)] [] (vI r) []:=by
 refine FnM.of_wH ⟨Tryz.prog,15,[],[]⟩ rfl Tryz.func11 rfl rfl (lb_ rfl) (by kernel_rfl) ?_
 unfold wF at hF
 refine aj (aa (vI 0) (af (au (aj (aa (vL eI l_1) (bN un89 rfl wz (aa (vI 0) (af ?_))))))))
 obtain ⟨o_10,hj_11,hF⟩:=bind_some hF
 obtain ⟨hn_6,hj_11⟩:=bf hj_11
 refine cK (λ(s_7:Unit)=>[]) (λ(s_7:Unit)=>[]) (λ(k_2:Nat)=>(λ(s_7:Unit)=>[(5,(vL eI l_1)),(6,(vI (l_1.length:Int))),(7,(vI (k_2:Int)))])) (λk x s=>pV k x s) o_10 l_1 () hj_11 rfl (aJ rfl) ?_ ?_
 ·rintro ⟨k_2,l_3,s_7⟩ ⟨hL_9,hD_5⟩
  dsimp only at hL_9 hD_5
  cases l_3 with
  | nil =>
   obtain rfl:=ae hL_9
   refine aj (aa (vB (decide ((k_2:Int)<(l_1.length:Int)))) (af ?_))
   refine au (aB rfl (drop_nil hD_5) (aU ?_))
   exact aV (s_7) rfl rfl (aJ rfl)
  | cons x_4 l_3 =>
   obtain ⟨c_,hc_8,hL_9⟩:=bind_some hL_9
   refine aj (aa (vB (decide ((k_2:Int)<(l_1.length:Int)))) (af ?_))
   refine au (aD rfl (bz hD_5) (ay ?_))
   unfold pV at hc_8
   refine au (aN (aj (eU es89 rfl rfl (bH hD_5) rfl wz (bI sz36 ag36 rfl (vI x_4) rfl wz (aa (vI x_4) (af (aj (aa (vI x_4) (aa (vB (x_4 != 0)) (af ?_))))))))))
   rcases ak hc_8 with⟨hc_12,hc_8⟩|⟨hc_12,hc_8⟩
   ·refine aD rfl hc_12 (aj (aa (vI x_4) (aa (vI x_4) (af ?_))))
    obtain rfl:=ae hc_8
    obtain rfl:=ae hL_9
    obtain rfl:=ae hF
    exact aC (aL [(vI x_4)] ⟨rfl,trivial⟩)
   ·refine aB rfl hc_12 (ay (ax (fJ (bE hD_5 hn_6) wz rfl (aa (vI ((k_2+1:Nat):Int)) (af ?_)))))
    obtain rfl:=ae hc_8
    exact aS (k_2+1,l_3,()) ⟨hL_9,aR hD_5⟩ (ls_ _) rfl (aJ rfl)
 ·rintro s_7 ho_ sl_ H_ hp_ hq_
  subst ho_
  refine aO _ hp_ hq_ (aj (aa (vI 0) (af ?_)))
  obtain rfl:=ae hF
  exact aC (aL [(vI 0)] ⟨rfl,trivial⟩)
theorem yE {e_1:Entry} {zone_2:Int} {wv_3:Window} {r:(List Window)} (hF:gK e_1 zone_2 wv_3=some r) :
  FnM Tryz.prog 68 [(.d (.agg (Entry.enc e_1))),(vI zone_2),(.d (.agg (Window.enc wv_3)))] [] (gV (av 0) 2 r) (([]:List Box).map some++gO 2 Window.enc r):=by
 refine FnM.of_wH ⟨Tryz.prog,72,[],[]⟩ rfl Tryz.func68 rfl rfl (lb_ rfl) (by kernel_rfl) ?_
 unfold gK at hF
 refine aj (bZ 0 (.inl rfl) (Entry.v e_1) rfl rfl wz (λn_4=>bZ 0 (.inl rfl) [(vI wv_3.From),(vI wv_3.To)] rfl rfl wz (λn_5=>aa .nil (af (aj (aa .nil (af (au (au ?_)))))))))
 obtain ⟨v_6,h_7,hF⟩:=bind_some hF
 refine aQ [(1,(vI zone_2)),(3,(.ref n_4 0 0)),(5,(.ref n_5 0 0)),(7,.nil),(20,(vB v_6))] [(n_4,some (.cells 13 (Entry.v e_1))),(n_5,some (.cells 2 [(vI wv_3.From),(vI wv_3.To)]))] ?_ ?_
 ·refine ax (aI Ce rfl 12 rfl wz (aA 0 0 il ft sz4 ag4 rfl rfl (vB e_1.Gone) rfl wz ?_))
  rcases ak h_7 with⟨hc_8,h_7⟩|⟨hc_8,h_7⟩
  ·refine aH rfl hc_8 wz (ah (ah (ah (ah (ah (aa (vB true) (af ?_)))))))
   obtain rfl:=ae h_7
   exact cu
  ·refine aH rfl hc_8 wz (aI gm rfl 0 rfl wa (aA 0 1 il ft sz3 ag3 rfl rfl (vI wv_3.From) rfl wa (aI gN rfl 1 rfl wa (aA 0 1 il ft sz3 ag3 rfl rfl (vI wv_3.To) rfl wa (aK (vB (decide (wv_3.From>=wv_3.To))) wa rfl (aa (vB (decide (wv_3.From>=wv_3.To))) (af ?_)))))))
   obtain rfl:=ae h_7
   exact cu
 ·rintro ⟨⟩ _ sl_ H_ hp_ hq_
  refine aO _ hp_ hq_ ?_
  rcases ak hF with⟨hc_9,hF⟩|⟨hc_9,hF⟩
  ·refine aD rfl hc_9 (aj (aa .nil (af (kz (λn_10 => ?_)))))
   obtain rfl:=ae hF
   exact aC (LQ (outs:=([]:List Box)) (.inr rfl) 2 rfl rfl rfl (by kernel_rfl) (by kernel_rfl))
  ·refine aB rfl hc_9 (ay (aj (aI gm rfl 0 rfl wz (aA 0 1 il ft sz3 ag3 rfl rfl (vI wv_3.From) rfl wz (aa (vI zone_2) (aa (vI (w64 (zone_2*60000))) (aa (vI (w64 (wv_3.From+(w64 (zone_2*60000))))) (aa (vI (w64 ((w64 (wv_3.From+(w64 (zone_2*60000)))).tdiv 86400000))) (aa (vI (w64 ((w64 ((w64 (wv_3.From+(w64 (zone_2*60000)))).tdiv 86400000))-2))) (aa (vI (w64 ((w64 ((w64 (wv_3.From+(w64 (zone_2*60000)))).tdiv 86400000))-2))) (af (aj (aI gN rfl 1 rfl wz (aA 0 1 il ft sz3 ag3 rfl rfl (vI wv_3.To) rfl wz (aa (vI zone_2) (aa (vI (w64 (zone_2*60000))) (aa (vI (w64 (wv_3.To+(w64 (zone_2*60000))))) (aa (vI (w64 ((w64 (wv_3.To+(w64 (zone_2*60000)))).tdiv 86400000))) (aa (vI (w64 ((w64 ((w64 (wv_3.To+(w64 (zone_2*60000)))).tdiv 86400000))+1))) (aa (vI (w64 ((w64 ((w64 (wv_3.To+(w64 (zone_2*60000)))).tdiv 86400000))+1))) (af (au (aj ?_)))))))))))))))))))))))
   refine aa (vI (w64 ((w64 ((w64 (wv_3.From+(w64 (zone_2*60000)))).tdiv 86400000))-2))) (aI rf rfl 3 rfl wz (aA 0 0 il ft sz3 ag3 rfl rfl (vI e_1.First) rfl wz (pO (vI (j5 (w64 ((w64 ((w64 (wv_3.From+(w64 (zone_2*60000)))).tdiv 86400000))-2)) e_1.First)) rfl (.inr rfl) wz (aa (vI (j5 (w64 ((w64 ((w64 (wv_3.From+(w64 (zone_2*60000)))).tdiv 86400000))-2)) e_1.First)) (af (kz (λn_17 => ?_)))))))
   obtain ⟨o_22,hj_23,hF⟩:=bind_some hF
   obtain ⟨nq_41,hj_23⟩:=dZ hj_23
   refine uE (σ:=(List Window)×Int) (N:=Nm) (λp=>(λ(s_16:(List Window)×Int) (n_19:Nm)=>([(7,(gV n_19 2 s_16.1))]:SL_)) p.1 p.2) (λp=>(λ(s_16:(List Window)×Int) (n_19:Nm)=>([(n_4,some (.cells 13 (Entry.v e_1))),(n_5,some (.cells 2 [(vI wv_3.From),(vI wv_3.To)])),(n_19,gB 2 Window.enc s_16.1)]:Hp)) p.1 p.2) (λ(k_11:Nat)=>(λp=>(λ(s_16:(List Window)×Int) (n_19:Nm)=>([(1,(vI zone_2)),(3,(.ref n_4 0 0)),(5,(.ref n_5 0 0)),(7,(gV n_19 2 s_16.1)),(9,(vI (w64 ((w64 ((w64 (wv_3.To+(w64 (zone_2*60000)))).tdiv 86400000))+1)))),(10,(vI s_16.2))]:SL_)) p.1 p.2)) (λs=>dL wv_3 zone_2 e_1 s) o_22 nq_41 ((([]:List Window),(j5 (w64 ((w64 ((w64 (wv_3.From+(w64 (zone_2*60000)))).tdiv 86400000))-2)) e_1.First)),n_17) hj_23 rfl (aJ rfl) ?_ ?_
   ·rintro ⟨k_11,s_16,n_19⟩ hL_21
    dsimp only at hL_21
    cases k_11 with
    | zero=>cases hL_21
    | succ k_11 =>
     obtain ⟨c_,hc_20,hL_21⟩:=bind_some hL_21
     unfold dL at hc_20
     refine au (aj (aa (vI s_16.2) (aa (vI (w64 ((w64 ((w64 (wv_3.To+(w64 (zone_2*60000)))).tdiv 86400000))+1))) (aI ru rfl 4 rfl wz (aA 0 0 il ft sz3 ag3 rfl rfl (vI e_1.Last) rfl wz (pO (vI (kG (w64 ((w64 ((w64 (wv_3.To+(w64 (zone_2*60000)))).tdiv 86400000))+1)) e_1.Last)) rfl (.inl rfl) wz (aa (vB (decide (s_16.2<=(kG (w64 ((w64 ((w64 (wv_3.To+(w64 (zone_2*60000)))).tdiv 86400000))+1)) e_1.Last)))) (af ?_))))))))
     rcases ak hc_20 with⟨hc_24,hc_20⟩|⟨hc_24,hc_20⟩
     ·refine aD rfl hc_24 (ay (au (aN (au (aj (aA 0 0 il ft iZ kK rfl rfl (.d (.agg (Entry.enc e_1))) rfl wz (aa (vI s_16.2) ?_)))))))
      obtain ⟨r_25,hr_26,hc_20⟩:=bind_some hc_20
      refine aF (sG hr_26) rfl hb97 rfl rfl rfl rfl wz (aa (vB (!r_25)) (af ?_))
      rcases ak hc_20 with⟨hc_27,hc_20⟩|⟨hc_27,hc_20⟩
      ·refine aD rfl hc_27 (aU (ax (aa (vI s_16.2) (aa (vI (w64 (s_16.2+1))) (aa (vI (w64 (s_16.2+1))) (af ?_))))))
       obtain rfl:=ae hc_20
       exact aS (k_11,(s_16.1,(w64 (s_16.2+1))),n_19) hL_21 (ls_ _) rfl (aJ rfl)
      ·refine aB rfl hc_27 (ay (aj (aA 0 0 il ft iZ kK rfl rfl (.d (.agg (Entry.enc e_1))) rfl wz (aa (vI zone_2) (aa (vI s_16.2) ?_)))))
       obtain ⟨r_28,hr_29,hc_20⟩:=bind_some hc_20
       refine aF (rq hr_29) rfl hb98 rfl rfl rfl rfl wz (bR 0 (.inl rfl) z33 rfl wz (λn_30=>eH 0 il ft 3 eX rfl rfl [(vI r_28.From),(vI r_28.To)] rfl wz (af (au ?_))))
       obtain ⟨v_31,h_32,hc_20⟩:=bind_some hc_20
       refine aQ [(1,(vI zone_2)),(3,(.ref n_4 0 0)),(5,(.ref n_5 0 0)),(7,(gV n_19 2 s_16.1)),(9,(vI (w64 ((w64 ((w64 (wv_3.To+(w64 (zone_2*60000)))).tdiv 86400000))+1)))),(10,(vI s_16.2)),(11,(.ref n_30 0 0)),(66,(vB v_31))] [(n_4,some (.cells 13 (Entry.v e_1))),(n_5,some (.cells 2 [(vI wv_3.From),(vI wv_3.To)])),(n_19,gB 2 Window.enc s_16.1),(n_30,some (.cells 2 [(vI r_28.From),(vI r_28.To)]))] ?_ ?_
       ·refine ax (aI gm rfl 0 rfl wz (aA 0 3 il ft sz3 ag3 rfl rfl (vI r_28.From) rfl wz (aI gN rfl 1 rfl wz (aA 0 1 il ft sz3 ag3 rfl rfl (vI wv_3.To) rfl wz (aa (vB (decide (r_28.From<wv_3.To))) ?_)))))
        rcases ak h_32 with⟨hc_33,h_32⟩|⟨hc_33,h_32⟩
        ·refine aH rfl hc_33 wz (aI gN rfl 1 rfl wa (aA 0 3 il ft sz3 ag3 rfl rfl (vI r_28.To) rfl wa (aI gm rfl 0 rfl wa (aA 0 1 il ft sz3 ag3 rfl rfl (vI wv_3.From) rfl wa (aK (vB (decide (r_28.To>wv_3.From))) wa rfl (aa (vB (decide (r_28.To>wv_3.From))) (af ?_)))))))
         obtain rfl:=ae h_32
         exact cu
        ·refine aH rfl hc_33 wz (ah (ah (ah (ah (ah (aa (vB false) (af ?_)))))))
         obtain rfl:=ae h_32
         exact cu
       ·rintro ⟨⟩ _ sl_ H_ hp_ hq_
        refine aO _ hp_ hq_ ?_
        obtain ⟨v_34,h_35,hc_20⟩:=bind_some hc_20
        refine jO (β:=Nm) (λ(n_36:Nm)=>([(1,(vI zone_2)),(3,(.ref n_4 0 0)),(5,(.ref n_5 0 0)),(7,(gV n_36 2 v_34)),(9,(vI (w64 ((w64 ((w64 (wv_3.To+(w64 (zone_2*60000)))).tdiv 86400000))+1)))),(10,(vI s_16.2))]:SL_)) (λ(n_36:Nm)=>([(n_4,some (.cells 13 (Entry.v e_1))),(n_5,some (.cells 2 [(vI wv_3.From),(vI wv_3.To)])),(n_36,gB 2 Window.enc v_34),(n_30,some (.cells 2 [(vI r_28.From),(vI r_28.To)]))]:Hp)) (λ_=>True) ?_ ?_
        ·rcases ak h_35 with⟨hc_37,h_35⟩|⟨hc_37,h_35⟩
         ·refine aD rfl hc_37 (ax (aa (gV n_19 2 s_16.1) (aA 0 3 il ft eX iT rfl rfl (.d (.agg (Window.enc r_28))) rfl wz (dU (([r_28]:List Window).map Window.enc) AU Ng rfl rfl rfl rfl rfl wz ?_))))
          obtain ⟨a_38,hz_39,h_35⟩:=bind_some h_35
          refine kI 0 il ft (i:=2) Es Es eX z33 rfl (by decide) ME (by decide) (λ_=>rfl) rfl rfl rfl hz_39 wz (λn_40=>aa (gV n_40 2 a_38) (af ?_))
          obtain rfl:=ae h_35
          exact aV n_40 trivial rfl (aJ rfl)
         ·refine aB rfl hc_37 (ay ?_)
          obtain rfl:=ae h_35
          exact aV n_19 trivial rfl (aJ rfl)
        ·rintro n_36 _ sl_ H_ hp_ hq_
         refine aO _ hp_ hq_ (ax (aa (vI s_16.2) (aa (vI (w64 (s_16.2+1))) (aa (vI (w64 (s_16.2+1))) (af ?_)))))
         obtain rfl:=ae hc_20
         exact aS (k_11,(v_34,(w64 (s_16.2+1))),n_36) hL_21 (ls_ _) rfl (aJ rfl)
     ·refine aB rfl hc_24 (aU ?_)
      obtain rfl:=ae hc_20
      obtain rfl:=ae hL_21
      exact aV ((s_16.1,s_16.2),n_19) rfl rfl (aJ rfl)
   ·rintro ⟨s_16,n_19⟩ ho_ sl_ H_ hp_ hq_
    subst ho_
    refine aO _ hp_ hq_ (aj (aa (gV n_19 2 s_16.1) (aa (gV n_19 2 s_16.1) (af ?_))))
    obtain rfl:=ae hF
    exact aC (LQ (outs:=([]:List Box)) (.inr rfl) 2 rfl rfl rfl (by kernel_rfl) (by kernel_rfl))
theorem zz {e_1:Entry} {zone_2:Int} {wv_3:Window} {r:(List Window)×Int} (hF:lY e_1 zone_2 wv_3=some r) :
  FnM Tryz.prog 44 [(.d (.agg (Entry.enc e_1))),(vI zone_2),(.d (.agg (Window.enc wv_3)))] [] (.tup [(vL Window.enc r.1),(vI r.2)]) []:=by
 refine FnM.of_wH ⟨Tryz.prog,45,[],[]⟩ rfl Tryz.func44 rfl rfl (lb_ rfl) (by kernel_rfl) ?_
 unfold lY at hF
 refine aj (bZ 0 (.inl rfl) (Entry.v e_1) rfl rfl wz (λn_4=>bZ 0 (.inl rfl) [(vI wv_3.From),(vI wv_3.To)] rfl rfl wz (λn_5=>aa .nil (aa (vI 0) (af (au (aj (aA 0 0 il ft iZ kK rfl rfl (.d (.agg (Entry.enc e_1))) rfl wz (dU (([e_1]:List Entry).map Entry.enc) qh ez26 rfl rfl rfl rfl rfl wz ?_)))))))))
 obtain ⟨r_6,hr_7,hF⟩:=bind_some hF
 refine aF (ng hr_7) rfl hb56 rfl rfl rfl rfl wz (aa (vI r_6) (af (aj (aa (vI r_6) (aa (vB (r_6 != 0)) (af ?_))))))
 rcases ak hF with⟨hc_8,hF⟩|⟨hc_8,hF⟩
 ·refine aD rfl hc_8 (aj (aa (vI r_6) (aa .nil (aa (vI r_6) (af ?_)))))
  obtain rfl:=ae hF
  exact aC (aL [.nil,(vI r_6)] ⟨rfl,⟨rfl,trivial⟩⟩)
 ·refine aB rfl hc_8 (ay (au (aj (aa (vI zone_2) ?_))))
  obtain ⟨r_9,hr_10,hF⟩:=bind_some hF
  refine aF (fO hr_10) rfl DV rfl rfl rfl rfl wz (af ?_)
  rcases ak hF with⟨hc_11,hF⟩|⟨hc_11,hF⟩
  ·refine aD rfl hc_11 (aj (aa .nil (aa (vI 1) (af ?_))))
   obtain rfl:=ae hF
   exact aC (aL [.nil,(vI 1)] ⟨rfl,⟨rfl,trivial⟩⟩)
  ·refine aB rfl hc_11 (ay (au (aj (aA 0 1 il ft eX iT rfl rfl (.d (.agg (Window.enc wv_3))) rfl wz ?_))))
   obtain ⟨r_12,hr_13,hF⟩:=bind_some hF
   refine aF (nP hr_13) rfl hb58 rfl rfl rfl rfl wz (aa (vI r_12) (af (aj (aa (vI r_12) (aa (vB (r_12 != 0)) (af ?_))))))
   rcases ak hF with⟨hc_14,hF⟩|⟨hc_14,hF⟩
   ·refine aD rfl hc_14 (aj (aa (vI r_12) (aa .nil (aa (vI r_12) (af ?_)))))
    obtain rfl:=ae hF
    exact aC (aL [.nil,(vI r_12)] ⟨rfl,⟨rfl,trivial⟩⟩)
   ·refine aB rfl hc_14 (ay (aj (aA 0 0 il ft iZ kK rfl rfl (.d (.agg (Entry.enc e_1))) rfl wz (aa (vI zone_2) (aA 0 1 il ft eX iT rfl rfl (.d (.agg (Window.enc wv_3))) rfl wz ?_)))))
    obtain ⟨r_15,hr_16,hF⟩:=bind_some hF
    refine Cj [] (yE hr_16) rfl hb68 rfl (by kernel_rfl) (by kernel_rfl) (by kernel_rfl) (by kernel_rfl) (by kernel_rfl) rfl (by decide) (by kernel_rfl) wz ([(n_4,some (.cells 13 (Entry.v e_1))),(n_5,some (.cells 2 [(vI wv_3.From),(vI wv_3.To)]))]:Hp) (λ_=>by kernel_rfl) (λn_18=>aa (gV n_18 2 r_15) (af (au (aj (aa (gV n_18 2 r_15) (yG El rfl wz (aa (vI 0) (af ?_))))))))
    obtain ⟨o_27,hj_28,hF⟩:=bind_some hF
    obtain ⟨hn_23,hj_28⟩:=bf hj_28
    refine cK (λ(s_24:List Window)=>[(10,(gV n_18 2 s_24))]) (λ(s_24:List Window)=>[(n_4,some (.cells 13 (Entry.v e_1))),(n_5,some (.cells 2 [(vI wv_3.From),(vI wv_3.To)])),(n_18,gB 2 Window.enc s_24)]) (λ(k_19:Nat)=>(λ(s_24:List Window)=>[(5,(.ref n_5 0 0)),(10,(gV n_18 2 s_24)),(30,(gV n_18 2 s_24)),(31,(vI (r_15.length:Int))),(32,(vI (k_19:Int)))])) (λk x s=>jk wv_3 k x s) o_27 (List.range ((r_15.length:Int)).toNat) r_15 hj_28 rfl (aJ rfl) ?_ ?_
    ·rintro ⟨k_19,l_20,s_24⟩ ⟨hL_26,hD_22⟩
     dsimp only at hL_26 hD_22
     cases l_20 with
     | nil =>
      obtain rfl:=ae hL_26
      refine aj (aa (vB (decide ((k_19:Int)<(r_15.length:Int)))) (af ?_))
      refine au (aB rfl (A7 hD_22) (aU ?_))
      exact aV (s_24) rfl rfl (aJ rfl)
     | cons x_21 l_20 =>
      obtain ⟨c_,hc_25,hL_26⟩:=bind_some hL_26
      refine aj (aa (vB (decide ((k_19:Int)<(r_15.length:Int)))) (af ?_))
      refine au (aD rfl (yZ hD_22) (ay ?_))
      unfold jk at hc_25
      refine au (aN (aj (aa (vI (k_19:Int)) ?_)))
      obtain ⟨_,hi_29,hc_25⟩:=bind_some hc_25
      refine uJ AU rfl rfl (jG hi_29) (gW hi_29) wz ?_
      obtain ⟨e_30,hy_31,hc_25⟩:=bind_some hc_25
      refine kC 0 2 il ft eX iT rfl rfl hy_31 (.d (.agg (Window.enc e_30))) rfl wz (bR 0 (.inl rfl) z33 rfl wz (λn_32=>aa (vI (k_19:Int)) (eH 0 il ft 3 eX rfl rfl [(vI e_30.From),(vI e_30.To)] rfl wz (af (ax (aa (gV n_18 2 s_24) (aa (vI (k_19:Int)) (aA 0 3 il ft eX iT rfl rfl (.d (.agg (Window.enc e_30))) rfl wz (aA 0 1 il ft eX iT rfl rfl (.d (.agg (Window.enc wv_3))) rfl wz ?_)))))))))
      obtain ⟨r_33,hr_34,hc_25⟩:=bind_some hc_25
      refine aF (vJ hr_34) rfl hb76 rfl rfl rfl rfl wz ?_
      obtain ⟨_,hi_35,hc_25⟩:=bind_some hc_25
      refine uJ AU rfl rfl (jG hi_35) (gW hi_35) wz ?_
      obtain ⟨e_36,hy_37,hc_25⟩:=bind_some hc_25
      refine lG 0 il ft 2 eX rfl rfl hy_37 r_33 rfl wz (bL (v':=(gV n_18 2 (s_24.set (0+((k_19:Int)).toNat) r_33))) 10 rfl (bU (by simp)) (bL (v':=(gV n_18 2 (s_24.set (0+((k_19:Int)).toNat) r_33))) 30 rfl (bU (by simp)) (bL (v':=(gV n_18 2 (s_24.set (0+((k_19:Int)).toNat) r_33))) 37 rfl (bU (by simp)) (af (ax (fJ (AP hD_22 hn_23) wz rfl (aa (vI ((k_19+1:Nat):Int)) (af ?_))))))))
      obtain rfl:=ae hc_25
      exact aS (k_19+1,l_20,(s_24.set (0+((k_19:Int)).toNat) r_33)) ⟨hL_26,aR hD_22⟩ (ls_ _) rfl (aJ rfl)
    ·rintro s_24 ho_ sl_ H_ hp_ hq_
     subst ho_
     refine aO _ hp_ hq_ (aj (aa (gV n_18 2 s_24) (aa (gV n_18 2 s_24) (aa (vI 0) (af (iw 2 rfl (dJ 6 2 rfl rfl (dJ 10 2 rfl rfl (dJ 44 2 rfl rfl ?_)))))))))
     obtain rfl:=ae hF
     exact aC (aL [(vL Window.enc s_24),(vI 0)] ⟨rfl,⟨rfl,trivial⟩⟩)
theorem zN {r:Bool} (hF:qF  = some r) :
  FnM Tryz.prog 15 [] [] (vB r) []:=by
 refine FnM.of_wH ⟨Tryz.prog,23,[],[]⟩ rfl Tryz.func15 rfl rfl (lb_ rfl) (by kernel_rfl) ?_
 unfold qF at hF
 refine aj (aa (vB false) (af (aj (aK (.agg [(vS (⟨#[97]⟩:ByteArray)),(vS (⟨#[98]⟩:ByteArray)),(vI 0),(vI 0),(vI 0),(vI 1),(vI 127),.nil,(vI 1),(vI 2),(vI 0),.nil,(vB false)]) wz (by kernel_rfl) (aK (.d (.agg (Window.enc (⟨0,86400000⟩:Window)))) wz (by kernel_rfl) ?_)))))
 obtain ⟨r_1,hr_2,hF⟩:=bind_some hF
 refine aF (zz hr_2) rfl hb44 rfl rfl rfl rfl wz (aa (.tup [(vL Window.enc r_1.1),(vI r_1.2)]) (aa (vL Window.enc r_1.1) (aa (vI r_1.2) (aa (vL Window.enc r_1.1) (aa (vI r_1.2) (af (au ?_)))))))
 obtain ⟨v_3,h_4,hF⟩:=bind_some hF
 refine aQ [(0,(vB v_3))] [] ?_ ?_
 ·refine ax (aa (vI r_1.2) (aa (vB (r_1.2==0)) ?_))
  rcases ak h_4 with⟨hc_5,h_4⟩|⟨hc_5,h_4⟩
  ·refine aH rfl hc_5 wz (aK (vL Window.enc r_1.1) wa rfl (bN El rfl wa (aK (vB ((r_1.1.length:Int)==1)) wa rfl (aa (vB ((r_1.1.length:Int)==1)) ?_))))
   rcases ak h_4 with⟨hc_6,h_4⟩|⟨hc_6,h_4⟩
   ·refine aH rfl hc_6 wz (aK (vL Window.enc r_1.1) wa rfl ?_)
    obtain ⟨y_7,hy_8,h_4⟩:=bind_some h_4
    refine eU AU rfl rfl hy_8 rfl wa (yg gm rfl [.int .i64 y_7.From,.int .i64 y_7.To] rfl rfl wa (bI sz3 ag3 rfl (vI y_7.From) rfl wa (aK (vB (y_7.From==60000)) wa rfl (aa (vB (y_7.From==60000)) (aa (vB (y_7.From==60000)) (af ?_))))))
    obtain rfl:=ae h_4
    exact cu
   ·refine aH rfl hc_6 wz (ah (ah (ah (ah (ah (aa (vB false) (aa (vB false) (af ?_))))))))
    obtain rfl:=ae h_4
    exact cu
  ·refine aH rfl hc_5 wz (ah (ah (ah (aa (vB false) (aa (vB false) (ah (ah (ah (ah (ah (aa (vB false) (aa (vB false) (af ?_)))))))))))))
   obtain rfl:=ae h_4
   exact cu
 ·rintro ⟨⟩ _ sl_ H_ hp_ hq_
  refine aO _ hp_ hq_ ?_
  obtain rfl:=ae hF
  exact aC (aL [(vB v_3)] ⟨rfl,trivial⟩)
theorem xX {e_1:Entry} {zone_2:Int} {d_3:Int} {r:Window} (hF:mo e_1 zone_2 d_3=some r) :
  FnM Tryz.prog 84 [(.d (.agg (Entry.enc e_1))),(vI zone_2),(vI d_3)] [] (.d (.agg (Window.enc r))) []:=by
 refine FnM.of_wH ⟨Tryz.prog,32,[],[]⟩ rfl Tryz.func84 rfl rfl (lb_ rfl) (by kernel_rfl) ?_
 unfold mo at hF
 refine aj (bZ 0 (.inl rfl) (Entry.v e_1) rfl rfl wz (λn_4=>bR 0 (.inl rfl) z33 rfl wz (λn_5=>af (aj (aI CZ rfl 9 rfl wz (aA 0 0 il ft sz3 ag3 rfl rfl (vI e_1.To) rfl wz (aa (vI e_1.To) (af (au (aj (aa (vI e_1.To) (aI yH rfl 8 rfl wz (aA 0 0 il ft sz3 ag3 rfl rfl (vI e_1.From) rfl wz (aa (vB (decide (e_1.To<=e_1.From))) (af ?_)))))))))))))))
 obtain ⟨v_6,h_7,hF⟩:=bind_some hF
 refine aQ [(1,(vI zone_2)),(2,(vI d_3)),(3,(.ref n_4 0 0)),(6,(.ref n_5 0 0)),(7,(vI v_6))] [(n_4,some (.cells 13 (Entry.v e_1))),(n_5,some (.cells 2 [(vI 0),(vI 0)]))] ?_ ?_
 ·rcases ak h_7 with⟨hc_8,h_7⟩|⟨hc_8,h_7⟩
  ·refine aD rfl hc_8 (ax (aa (vI e_1.To) (aa (vI (w64 (e_1.To+1440))) (aa (vI (w64 (e_1.To+1440))) (af ?_)))))
   obtain rfl:=ae h_7
   exact cu
  ·refine aB rfl hc_8 (ay ?_)
   obtain rfl:=ae h_7
   exact cu
 ·rintro ⟨⟩ _ sl_ H_ hp_ hq_
  refine aO _ hp_ hq_ (aj (aa (vI d_3) (aa (vI (w64 (d_3*86400000))) (aa (vI zone_2) (aa (vI (w64 (zone_2*60000))) (aa (vI (w64 ((w64 (d_3*86400000))-(w64 (zone_2*60000))))) (aa (vI (w64 ((w64 (d_3*86400000))-(w64 (zone_2*60000))))) (af (aj (aa (vI (w64 ((w64 (d_3*86400000))-(w64 (zone_2*60000))))) (aI yH rfl 8 rfl wz (aA 0 0 il ft sz3 ag3 rfl rfl (vI e_1.From) rfl wz (aa (vI (w64 (e_1.From*60000))) (aa (vI (w64 ((w64 ((w64 (d_3*86400000))-(w64 (zone_2*60000))))+(w64 (e_1.From*60000))))) (aa (vI (w64 ((w64 (d_3*86400000))-(w64 (zone_2*60000))))) (aa (vI v_6) (aa (vI (w64 (v_6*60000))) (aa (vI (w64 ((w64 ((w64 (d_3*86400000))-(w64 (zone_2*60000))))+(w64 (v_6*60000))))) (aK (.d (.agg (Window.enc (⟨(w64 ((w64 ((w64 (d_3*86400000))-(w64 (zone_2*60000))))+(w64 (e_1.From*60000)))),(w64 ((w64 ((w64 (d_3*86400000))-(w64 (zone_2*60000))))+(w64 (v_6*60000))))⟩:Window)))) wz (by kernel_rfl) (eH 0 il ft 1 eX rfl rfl [(vI (w64 ((w64 ((w64 (d_3*86400000))-(w64 (zone_2*60000))))+(w64 (e_1.From*60000))))),(vI (w64 ((w64 ((w64 (d_3*86400000))-(w64 (zone_2*60000))))+(w64 (v_6*60000)))))] rfl wz (af ?_)))))))))))))))))))))
  obtain rfl:=ae hF
  exact aC (aL [(.d (.agg (Window.enc (⟨(w64 ((w64 ((w64 (d_3*86400000))-(w64 (zone_2*60000))))+(w64 (e_1.From*60000)))),(w64 ((w64 ((w64 (d_3*86400000))-(w64 (zone_2*60000))))+(w64 (v_6*60000))))⟩:Window))))] ⟨⟨1,_,_,_,_,_,_,_,rfl,rfl,eX,iT,rfl⟩,trivial⟩)
theorem tZ {s_1:(List Int)} {v_2:Int} {r:Int} (hF:jR s_1 v_2=some r) :
  FnM Tryz.prog 159 [(vL eI s_1),(vI v_2)] [] (vI r) []:=by
 refine FnM.of_wH ⟨Tryz.prog,19,[],[]⟩ rfl Tryz.func159 rfl rfl (lb_ rfl) (by kernel_rfl) ?_
 unfold jR at hF
 refine aj (aa (vI 0) (af (au (aj (aa (vL eI s_1) (bN qc rfl wz (aa (vI 0) (af ?_))))))))
 obtain ⟨o_11,hj_12,hF⟩:=bind_some hF
 obtain ⟨hn_7,hj_12⟩:=bf hj_12
 refine cK (λ(s_8:Unit)=>[]) (λ(s_8:Unit)=>[]) (λ(k_3:Nat)=>(λ(s_8:Unit)=>[(0,(vL eI s_1)),(1,(vI v_2)),(7,(vI (s_1.length:Int))),(8,(vI (k_3:Int)))])) (λk x s=>fG v_2 k x s) o_11 s_1 () hj_12 rfl (aJ rfl) ?_ ?_
 ·rintro ⟨k_3,l_4,s_8⟩ ⟨hL_10,hD_6⟩
  dsimp only at hL_10 hD_6
  cases l_4 with
  | nil =>
   obtain rfl:=ae hL_10
   refine aj (aa (vB (decide ((k_3:Int)<(s_1.length:Int)))) (af ?_))
   refine au (aB rfl (drop_nil hD_6) (aU ?_))
   exact aV (s_8) rfl rfl (aJ rfl)
  | cons x_5 l_4 =>
   obtain ⟨c_,hc_9,hL_10⟩:=bind_some hL_10
   refine aj (aa (vB (decide ((k_3:Int)<(s_1.length:Int)))) (af ?_))
   refine au (aD rfl (bz hD_6) (ay ?_))
   unfold fG at hc_9
   refine au (aN (aj (aa (vI (k_3:Int)) (aa (vI (k_3:Int)) (af (aj (aa (vI v_2) (aa (vL eI s_1) (aa (vI (k_3:Int)) (eU iW rfl rfl (bH hD_6) rfl wz (bI sz3 ag3 rfl (vI x_5) rfl wz (aa (vB (v_2==x_5)) (af ?_)))))))))))))
   rcases ak hc_9 with⟨hc_13,hc_9⟩|⟨hc_13,hc_9⟩
   ·refine aD rfl hc_13 (aj (aa (vI (k_3:Int)) (aa (vI (k_3:Int)) (af ?_))))
    obtain rfl:=ae hc_9
    obtain rfl:=ae hL_10
    obtain rfl:=ae hF
    exact aC (aL [(vI (k_3:Int))] ⟨rfl,trivial⟩)
   ·refine aB rfl hc_13 (ay (ax (fJ (bE hD_6 hn_7) wz rfl (aa (vI ((k_3+1:Nat):Int)) (af ?_)))))
    obtain rfl:=ae hc_9
    exact aS (k_3+1,l_4,()) ⟨hL_10,aR hD_6⟩ (ls_ _) rfl (aJ rfl)
 ·rintro s_8 ho_ sl_ H_ hp_ hq_
  subst ho_
  refine aO _ hp_ hq_ (aj (aa (vI (-1)) (af ?_)))
  obtain rfl:=ae hF
  exact aC (aL [(vI (-1))] ⟨rfl,trivial⟩)
theorem q8 {s_1:(List Int)} {v_2:Int} {r:Bool} (hF:gQ s_1 v_2=some r) :
  FnM Tryz.prog 110 [(vL eI s_1),(vI v_2)] [] (vB r) []:=by
 refine FnM.of_wH ⟨Tryz.prog,9,[],[]⟩ rfl Tryz.func110 rfl rfl (lb_ rfl) (by kernel_rfl) ?_
 unfold gQ at hF
 refine aj (aa (vB false) (af (aj (aa (vL eI s_1) (aa (vI v_2) ?_)))))
 obtain ⟨r_3,hr_4,hF⟩:=bind_some hF
 refine aF (tZ hr_4) rfl hb159 rfl rfl rfl rfl wz (aa (vB (decide (r_3>=0))) (aa (vB (decide (r_3>=0))) (af ?_)))
 obtain rfl:=ae hF
 exact aC (aL [(vB (decide (r_3>=0)))] ⟨rfl,trivial⟩)
end Go.Proofs.YthcdokkcamcnmaaGreatDoor.Law

