/-
 The machine computes these plain functions (written by a program of ours).
-/
import Derived.Test.YthcdokkcamcnmaaGreatDoorFacts
import Derived.Test.YthcdokkcamcnmaaGreatDoorDefs
import Derived.Test.YthcdokkcamcnmaaGreatDoorPf2
import Derived.Test.YthcdokkcamcnmaaGreatDoorShelf
open Go Go.Eng Go.Proofs
namespace Go.Proofs.YthcdokkcamcnmaaGreatDoor.Law
set_option maxRecDepth 100000
set_option linter.unusedVariables false
set_option maxHeartbeats 1000000
theorem r9 {l_1:(List Entry)} {p_2:Player} {wv_3:Window} {r:(List Span)} (hF:iG l_1 p_2 wv_3=some r) :
  FnM Tryz.prog 34 [(vL Entry.enc l_1),(.d (.agg (Player.enc p_2))),(.d (.agg (Window.enc wv_3)))] [] (vL Span.enc r) []:=by
 refine FnM.of_wH ⟨Tryz.prog,47,[],[]⟩ rfl Tryz.func34 rfl rfl (lb_ rfl) (by kernel_rfl) ?_
 unfold iG at hF
 refine aj (bZ 0 (.inl rfl) (Player.v p_2) rfl rfl wz (λn_4=>bZ 0 (.inl rfl) [(vI wv_3.From),(vI wv_3.To)] rfl rfl wz (λn_5=>aa .nil (af (aj (aa .nil (af (au (aj (aa (vL Entry.enc l_1) (bN yB rfl wz (aa (vI 0) (af (kz (λn_12 => ?_)))))))))))))))
 obtain ⟨o_17,hj_18,hF⟩:=bind_some hF
 obtain ⟨hn_10,hj_18⟩:=bf hj_18
 refine jl (σ:=(List Span)) (N:=Nm) (λp=>(λ(s_11:List Span) (n_14:Nm)=>([(7,(gV n_14 3 s_11))]:SL_)) p.1 p.2) (λp=>(λ(s_11:List Span) (n_14:Nm)=>([(n_4,some (.cells 4 (Player.v p_2))),(n_5,some (.cells 2 [(vI wv_3.From),(vI wv_3.To)])),(n_14,gB 3 Span.enc s_11)]:Hp)) p.1 p.2) (λ(k_6:Nat)=>(λp=>(λ(s_11:List Span) (n_14:Nm)=>([(0,(vL Entry.enc l_1)),(4,(.ref n_4 0 0)),(5,(.ref n_5 0 0)),(7,(gV n_14 3 s_11)),(12,(vI (l_1.length:Int))),(13,(vI (k_6:Int)))]:SL_)) p.1 p.2)) (λk x s=>iE p_2 wv_3 l_1 k x s) o_17 l_1 (([]:List Span),n_12) hj_18 rfl (aJ rfl) ?_ ?_
 ·rintro ⟨k_6,l_7,s_11,n_14⟩ ⟨hL_16,hD_9⟩
  dsimp only at hL_16 hD_9
  cases l_7 with
  | nil =>
   obtain rfl:=ae hL_16
   refine aj (aa (vB (decide ((k_6:Int)<(l_1.length:Int)))) (af ?_))
   refine au (aB rfl (drop_nil hD_9) (aU ?_))
   exact aV (s_11,n_14) rfl rfl (aJ rfl)
  | cons x_8 l_7 =>
   obtain ⟨c_,hc_15,hL_16⟩:=bind_some hL_16
   refine aj (aa (vB (decide ((k_6:Int)<(l_1.length:Int)))) (af ?_))
   refine au (aD rfl (bz hD_9) (ay ?_))
   unfold iE at hc_15
   refine au (aN (aj (aa (vI (k_6:Int)) (aa (vI (k_6:Int)) (af (au (au (dA (aa (vL Entry.enc l_1) (aa (vI (k_6:Int)) (eU qh rfl rfl (bH hD_9) rfl wz (bI iZ kK rfl (.d (.agg (Entry.enc x_8))) rfl wz (aA 4 0 (.inr (by kernel_rfl)) (λ_ _ ag=>trivial) kQ mO rfl rfl (.d (.agg (Player.enc p_2))) rfl wz ?_)))))))))))))
   obtain ⟨r_19,hr_20,hc_15⟩:=bind_some hc_15
   refine aF (tV hr_20) rfl hb67 rfl rfl rfl rfl wz (aa (vB (!r_19)) (af ?_))
   rcases ak hc_15 with⟨hc_21,hc_15⟩|⟨hc_21,hc_15⟩
   ·refine aD rfl hc_21 (aU (ax (fJ (bE hD_9 hn_10) wz rfl (aa (vI ((k_6+1:Nat):Int)) (af ?_)))))
    obtain rfl:=ae hc_15
    exact aS (k_6+1,l_7,s_11,n_14) ⟨hL_16,aR hD_9⟩ (ls_ _) rfl (aJ rfl)
   ·refine aB rfl hc_21 (ay (au (dA (aa (vL Entry.enc l_1) (aa (vI (k_6:Int)) (eU qh rfl rfl (bH hD_9) rfl wz (bI iZ kK rfl (.d (.agg (Entry.enc x_8))) rfl wz (aI uX rfl 2 rfl wz (aA 5 0 (.inr (by kernel_rfl)) (λ_ _ ag=>trivial) sz3 ag3 rfl rfl (vI p_2.Zone) rfl wz (aA 6 1 (.inr (by kernel_rfl)) (λ_ _ ag=>⟨.inl ⟨rfl,rfl⟩,trivial⟩) eX iT rfl rfl (.d (.agg (Window.enc wv_3))) rfl wz ?_))))))))))
    obtain ⟨r_22,hr_23,hc_15⟩:=bind_some hc_15
    refine aF (rX hr_23) rfl hb68 rfl rfl rfl rfl wz (bN El rfl wz (aa (vI 0) (af ?_)))
    obtain ⟨o_34,hj_35,hc_15⟩:=bind_some hc_15
    obtain ⟨hn_28,hj_35⟩:=bf hj_35
    refine jl (σ:=(List Span)) (N:=Nm) (λp=>(λ(s_29:List Span) (n_31:Nm)=>([(0,(vL Entry.enc l_1)),(4,(.ref n_4 0 0)),(5,(.ref n_5 0 0)),(7,(gV n_31 3 s_29)),(12,(vI (l_1.length:Int))),(13,(vI (k_6:Int)))]:SL_)) p.1 p.2) (λp=>(λ(s_29:List Span) (n_31:Nm)=>([(n_4,some (.cells 4 (Player.v p_2))),(n_5,some (.cells 2 [(vI wv_3.From),(vI wv_3.To)])),(n_31,gB 3 Span.enc s_29)]:Hp)) p.1 p.2) (λ(k_24:Nat)=>(λp=>(λ(s_29:List Span) (n_31:Nm)=>([(0,(vL Entry.enc l_1)),(4,(.ref n_4 0 0)),(5,(.ref n_5 0 0)),(7,(gV n_31 3 s_29)),(8,(vI (k_6:Int))),(12,(vI (l_1.length:Int))),(13,(vI (k_6:Int))),(30,(vL Window.enc r_22)),(31,(vI (r_22.length:Int))),(32,(vI (k_24:Int)))]:SL_)) p.1 p.2)) (λk x s=>iA l_1 k_6 k x s) o_34 r_22 (s_11,n_14) hj_35 rfl (aJ rfl) ?_ ?_
    ·rintro ⟨k_24,l_25,s_29,n_31⟩ ⟨hL_33,hD_27⟩
     dsimp only at hL_33 hD_27
     cases l_25 with
     | nil =>
      obtain rfl:=ae hL_33
      refine aj (aa (vB (decide ((k_24:Int)<(r_22.length:Int)))) (af ?_))
      refine au (aB rfl (drop_nil hD_27) (aU ?_))
      exact aV (s_29,n_31) rfl rfl (aJ rfl)
     | cons x_26 l_25 =>
      obtain ⟨c_,hc_32,hL_33⟩:=bind_some hL_33
      refine aj (aa (vB (decide ((k_24:Int)<(r_22.length:Int)))) (af ?_))
      refine au (aD rfl (bz hD_27) (ay ?_))
      unfold iA at hc_32
      refine au (aN (aj (eU AU rfl rfl (bH hD_27) rfl wz (bI eX iT rfl (.d (.agg (Window.enc x_26))) rfl wz (bR 0 (.inl rfl) z33 rfl wz (λn_36=>eH 0 il ft 3 eX rfl rfl [(vI x_26.From),(vI x_26.To)] rfl wz (af (dA (aa (gV n_31 3 s_29) (aa (vL Entry.enc l_1) (aa (vI (k_6:Int)) ?_)))))))))))
      obtain ⟨y_37,hy_38,hc_32⟩:=bind_some hc_32
      refine eU qh rfl rfl hy_38 rfl wz (aA 4 3 (.inr (by kernel_rfl)) (λ_ _ ag=>trivial) eX iT rfl rfl (.d (.agg (Window.enc x_26))) rfl wz (aK (.d (.agg (Span.enc (⟨(some y_37),x_26⟩:Span)))) wz (by kernel_rfl) (dU (([(⟨(some y_37),x_26⟩:Span)]:List Span).map Span.enc) zw ez77 rfl rfl rfl rfl rfl wz ?_)))
      obtain ⟨a_39,hz_40,hc_32⟩:=bind_some hc_32
      refine kI 7 (.inr (by kernel_rfl)) (λ_ _ ag=>⟨.inr (.inr (by kernel_rfl)),trivial⟩) (i:=2) JU JU pg z80 rfl (by decide) by80 (by decide) (λ_=>rfl) rfl rfl rfl hz_40 wz (λn_41=>aa (gV n_41 3 a_39) (af (ax (fJ (bE hD_27 hn_28) wz rfl (aa (vI ((k_24+1:Nat):Int)) (af ?_))))))
      obtain rfl:=ae hc_32
      exact aS (k_24+1,l_25,a_39,n_41) ⟨hL_33,aR hD_27⟩ (ls_ _) rfl (aJ rfl)
    ·rintro ⟨s_29,n_31⟩ ho_ sl_ H_ hp_ hq_
     subst ho_
     refine aO _ hp_ hq_ (ax (fJ (bE hD_9 hn_10) wz rfl (aa (vI ((k_6+1:Nat):Int)) (af ?_))))
     obtain rfl:=ae hc_15
     exact aS (k_6+1,l_7,s_29,n_31) ⟨hL_16,aR hD_9⟩ (ls_ _) rfl (aJ rfl)
 ·rintro ⟨s_11,n_14⟩ ho_ sl_ H_ hp_ hq_
  subst ho_
  refine aO _ hp_ hq_ (aj (aa (gV n_14 3 s_11) (aa (gV n_14 3 s_11) (af (iw 2 rfl (dJ 6 2 rfl rfl (dJ 7 2 rfl rfl (dJ 46 2 rfl rfl ?_))))))))
  obtain rfl:=ae hF
  exact aC (aL [(vL Span.enc s_11)] ⟨rfl,trivial⟩)
section
variable [dM:DM]
theorem kM {x_1:Int} {y_2:Int} {r:Int} (hF:cmp_Compare_int x_1 y_2=some r) :
  FnM Tryz.prog 61 [(vI x_1),(vI y_2)] [] (vI r) []:=by
 refine FnM.of_wH ⟨Tryz.prog,20,[],[]⟩ rfl Tryz.func61 rfl rfl (lb_ rfl) (by kernel_rfl) ?_
 unfold cmp_Compare_int at hF
 refine aj (aa (vI 0) (af (aj (aa (vI x_1) ?_))))
 obtain ⟨r_3,hr_4,hF⟩:=bind_some hF
 refine aF (mK hr_4) rfl hb93 rfl rfl rfl rfl wz (aa (vB r_3) (af (aj (aa (vI y_2) ?_))))
 obtain ⟨r_5,hr_6,hF⟩:=bind_some hF
 refine aF (mK hr_6) rfl hb93 rfl rfl rfl rfl wz (aa (vB r_5) (af (au (aj (aa (vB r_3) (af ?_))))))
 rcases ak hF with⟨hc_7,hF⟩|⟨hc_7,hF⟩
 ·refine aD rfl hc_7 (au (aj (aa (vB r_5) (af ?_))))
  rcases ak hF with⟨hc_8,hF⟩|⟨hc_8,hF⟩
  ·refine aD rfl hc_8 (aj (aa (vI 0) (af ?_)))
   obtain rfl:=ae hF
   exact aC (aL [(vI 0)] ⟨rfl,trivial⟩)
  ·refine aB rfl hc_8 (ay (aj (aa (vI (-1)) (af ?_))))
   obtain rfl:=ae hF
   exact aC (aL [(vI (-1))] ⟨rfl,trivial⟩)
 ·refine aB rfl hc_7 (ay (au (aj (aa (vB r_5) (af ?_)))))
  rcases ak hF with⟨hc_9,hF⟩|⟨hc_9,hF⟩
  ·refine aD rfl hc_9 (aj (aa (vI 1) (af ?_)))
   obtain rfl:=ae hF
   exact aC (aL [(vI 1)] ⟨rfl,trivial⟩)
  ·refine aB rfl hc_9 (ay (au (aj (aa (vI x_1) (aa (vI y_2) (aa (vB (decide (x_1<y_2))) (af ?_)))))))
   rcases ak hF with⟨hc_10,hF⟩|⟨hc_10,hF⟩
   ·refine aD rfl hc_10 (aj (aa (vI (-1)) (af ?_)))
    obtain rfl:=ae hF
    exact aC (aL [(vI (-1))] ⟨rfl,trivial⟩)
   ·refine aB rfl hc_10 (ay (au (aj (aa (vI x_1) (aa (vI y_2) (aa (vB (decide (x_1>y_2))) (af ?_)))))))
    rcases ak hF with⟨hc_11,hF⟩|⟨hc_11,hF⟩
    ·refine aD rfl hc_11 (aj (aa (vI 1) (af ?_)))
     obtain rfl:=ae hF
     exact aC (aL [(vI 1)] ⟨rfl,trivial⟩)
    ·refine aB rfl hc_11 (ay (aj (aa (vI 0) (af ?_))))
     obtain rfl:=ae hF
     exact aC (aL [(vI 0)] ⟨rfl,trivial⟩)
end
section
variable [dM:DM]
theorem vK {a_1:Span} {b_2:Span} {r:Int} (hF:iQ a_1 b_2=some r) :
  FnM Tryz.prog 60 [(.d (.agg (Span.enc a_1))),(.d (.agg (Span.enc b_2)))] [] (vI r) []:=by
 refine FnM.of_wH ⟨Tryz.prog,12,[],[]⟩ rfl Tryz.func60 rfl rfl (lb_ rfl) (by kernel_rfl) ?_
 unfold iQ at hF
 refine aj (bZ 0 (.inl rfl) (Span.v a_1) rfl (bK (mE _ _) (bK rfl (bK rfl rfl))) wz (λn_3=>bZ 0 (.inl rfl) (Span.v b_2) rfl (bK (mE _ _) (bK rfl (bK rfl rfl))) wz (λn_4=>aa (vI 0) (af (aj (aI yu rfl 1 rfl wz (aI gm rfl 1 rfl wz (aA 0 0 il ft sz3 ag3 rfl rfl (vI a_1.f_time.From) rfl wz (aI yu rfl 1 rfl wz (aI gm rfl 1 rfl wz (aA 0 1 il ft sz3 ag3 rfl rfl (vI b_2.f_time.From) rfl wz ?_)))))))))))
 obtain ⟨r_5,hr_6,hF⟩:=bind_some hF
 refine aF (kM hr_6) rfl hb61 rfl rfl rfl rfl wz (aa (vI r_5) (af ?_))
 obtain rfl:=ae hF
 exact aC (aL [(vI r_5)] ⟨rfl,trivial⟩)
end
theorem mX {x r:(List Span)} (hF:gZ x=some r) :
  FnM Tryz.prog 59 [(dV (av 0) 3 x),(.fn 60 [])] (([]:List Box)++gI 3 Span.enc x) (.tup []) (([]:List Box).map some++gT x (gB 3 Span.enc r)) :=
 Mf (E:=Span.enc) (F:=λa b=>iQ a b) (λ_=>rfl) (λa b r h=>vK (dM:=dmT) h) hb60 (λβ _ enc hk h1 cf hO g cb blk off cap d w eg hcmp hH hblk hsz=>Tryz.slices_SortFunc_eq_f59 3 Tryz.isAgg80 Tryz.sizeOf80 enc hk h1 cf hO g cb blk off cap d w eg hcmp hH hblk hsz) (λp cap fv w=>Tryz.slices_SortFunc_none_f59 (α:=Nat) p cap fv w) hF
theorem yR {l_1:(List Entry)} {p_2:Player} {wv_3:Window} {r:(List Span)} (hF:iG l_1 p_2 wv_3=some r) :
  FnM Tryz.prog 34 [(vL Entry.enc l_1),(.d (.agg (Player.enc p_2))),(.d (.agg (Window.enc wv_3)))] [] (gV (av 0) 3 r) (([]:List Box).map some++gO 3 Span.enc r):=by
 refine FnM.of_wH ⟨Tryz.prog,47,[],[]⟩ rfl Tryz.func34 rfl rfl (lb_ rfl) (by kernel_rfl) ?_
 unfold iG at hF
 refine aj (bZ 0 (.inl rfl) (Player.v p_2) rfl rfl wz (λn_4=>bZ 0 (.inl rfl) [(vI wv_3.From),(vI wv_3.To)] rfl rfl wz (λn_5=>aa .nil (af (aj (aa .nil (af (au (aj (aa (vL Entry.enc l_1) (bN yB rfl wz (aa (vI 0) (af (kz (λn_12 => ?_)))))))))))))))
 obtain ⟨o_17,hj_18,hF⟩:=bind_some hF
 obtain ⟨hn_10,hj_18⟩:=bf hj_18
 refine jl (σ:=(List Span)) (N:=Nm) (λp=>(λ(s_11:List Span) (n_14:Nm)=>([(7,(gV n_14 3 s_11))]:SL_)) p.1 p.2) (λp=>(λ(s_11:List Span) (n_14:Nm)=>([(n_4,some (.cells 4 (Player.v p_2))),(n_5,some (.cells 2 [(vI wv_3.From),(vI wv_3.To)])),(n_14,gB 3 Span.enc s_11)]:Hp)) p.1 p.2) (λ(k_6:Nat)=>(λp=>(λ(s_11:List Span) (n_14:Nm)=>([(0,(vL Entry.enc l_1)),(4,(.ref n_4 0 0)),(5,(.ref n_5 0 0)),(7,(gV n_14 3 s_11)),(12,(vI (l_1.length:Int))),(13,(vI (k_6:Int)))]:SL_)) p.1 p.2)) (λk x s=>iE p_2 wv_3 l_1 k x s) o_17 l_1 (([]:List Span),n_12) hj_18 rfl (aJ rfl) ?_ ?_
 ·rintro ⟨k_6,l_7,s_11,n_14⟩ ⟨hL_16,hD_9⟩
  dsimp only at hL_16 hD_9
  cases l_7 with
  | nil =>
   obtain rfl:=ae hL_16
   refine aj (aa (vB (decide ((k_6:Int)<(l_1.length:Int)))) (af ?_))
   refine au (aB rfl (drop_nil hD_9) (aU ?_))
   exact aV (s_11,n_14) rfl rfl (aJ rfl)
  | cons x_8 l_7 =>
   obtain ⟨c_,hc_15,hL_16⟩:=bind_some hL_16
   refine aj (aa (vB (decide ((k_6:Int)<(l_1.length:Int)))) (af ?_))
   refine au (aD rfl (bz hD_9) (ay ?_))
   unfold iE at hc_15
   refine au (aN (aj (aa (vI (k_6:Int)) (aa (vI (k_6:Int)) (af (au (au (dA (aa (vL Entry.enc l_1) (aa (vI (k_6:Int)) (eU qh rfl rfl (bH hD_9) rfl wz (bI iZ kK rfl (.d (.agg (Entry.enc x_8))) rfl wz (aA 4 0 (.inr (by kernel_rfl)) (λ_ _ ag=>trivial) kQ mO rfl rfl (.d (.agg (Player.enc p_2))) rfl wz ?_)))))))))))))
   obtain ⟨r_19,hr_20,hc_15⟩:=bind_some hc_15
   refine aF (tV hr_20) rfl hb67 rfl rfl rfl rfl wz (aa (vB (!r_19)) (af ?_))
   rcases ak hc_15 with⟨hc_21,hc_15⟩|⟨hc_21,hc_15⟩
   ·refine aD rfl hc_21 (aU (ax (fJ (bE hD_9 hn_10) wz rfl (aa (vI ((k_6+1:Nat):Int)) (af ?_)))))
    obtain rfl:=ae hc_15
    exact aS (k_6+1,l_7,s_11,n_14) ⟨hL_16,aR hD_9⟩ (ls_ _) rfl (aJ rfl)
   ·refine aB rfl hc_21 (ay (au (dA (aa (vL Entry.enc l_1) (aa (vI (k_6:Int)) (eU qh rfl rfl (bH hD_9) rfl wz (bI iZ kK rfl (.d (.agg (Entry.enc x_8))) rfl wz (aI uX rfl 2 rfl wz (aA 5 0 (.inr (by kernel_rfl)) (λ_ _ ag=>trivial) sz3 ag3 rfl rfl (vI p_2.Zone) rfl wz (aA 6 1 (.inr (by kernel_rfl)) (λ_ _ ag=>⟨.inl ⟨rfl,rfl⟩,trivial⟩) eX iT rfl rfl (.d (.agg (Window.enc wv_3))) rfl wz ?_))))))))))
    obtain ⟨r_22,hr_23,hc_15⟩:=bind_some hc_15
    refine aF (rX hr_23) rfl hb68 rfl rfl rfl rfl wz (bN El rfl wz (aa (vI 0) (af ?_)))
    obtain ⟨o_34,hj_35,hc_15⟩:=bind_some hc_15
    obtain ⟨hn_28,hj_35⟩:=bf hj_35
    refine jl (σ:=(List Span)) (N:=Nm) (λp=>(λ(s_29:List Span) (n_31:Nm)=>([(0,(vL Entry.enc l_1)),(4,(.ref n_4 0 0)),(5,(.ref n_5 0 0)),(7,(gV n_31 3 s_29)),(12,(vI (l_1.length:Int))),(13,(vI (k_6:Int)))]:SL_)) p.1 p.2) (λp=>(λ(s_29:List Span) (n_31:Nm)=>([(n_4,some (.cells 4 (Player.v p_2))),(n_5,some (.cells 2 [(vI wv_3.From),(vI wv_3.To)])),(n_31,gB 3 Span.enc s_29)]:Hp)) p.1 p.2) (λ(k_24:Nat)=>(λp=>(λ(s_29:List Span) (n_31:Nm)=>([(0,(vL Entry.enc l_1)),(4,(.ref n_4 0 0)),(5,(.ref n_5 0 0)),(7,(gV n_31 3 s_29)),(8,(vI (k_6:Int))),(12,(vI (l_1.length:Int))),(13,(vI (k_6:Int))),(30,(vL Window.enc r_22)),(31,(vI (r_22.length:Int))),(32,(vI (k_24:Int)))]:SL_)) p.1 p.2)) (λk x s=>iA l_1 k_6 k x s) o_34 r_22 (s_11,n_14) hj_35 rfl (aJ rfl) ?_ ?_
    ·rintro ⟨k_24,l_25,s_29,n_31⟩ ⟨hL_33,hD_27⟩
     dsimp only at hL_33 hD_27
     cases l_25 with
     | nil =>
      obtain rfl:=ae hL_33
      refine aj (aa (vB (decide ((k_24:Int)<(r_22.length:Int)))) (af ?_))
      refine au (aB rfl (drop_nil hD_27) (aU ?_))
      exact aV (s_29,n_31) rfl rfl (aJ rfl)
     | cons x_26 l_25 =>
      obtain ⟨c_,hc_32,hL_33⟩:=bind_some hL_33
      refine aj (aa (vB (decide ((k_24:Int)<(r_22.length:Int)))) (af ?_))
      refine au (aD rfl (bz hD_27) (ay ?_))
      unfold iA at hc_32
      refine au (aN (aj (eU AU rfl rfl (bH hD_27) rfl wz (bI eX iT rfl (.d (.agg (Window.enc x_26))) rfl wz (bR 0 (.inl rfl) z33 rfl wz (λn_36=>eH 0 il ft 3 eX rfl rfl [(vI x_26.From),(vI x_26.To)] rfl wz (af (dA (aa (gV n_31 3 s_29) (aa (vL Entry.enc l_1) (aa (vI (k_6:Int)) ?_)))))))))))
      obtain ⟨y_37,hy_38,hc_32⟩:=bind_some hc_32
      refine eU qh rfl rfl hy_38 rfl wz (aA 4 3 (.inr (by kernel_rfl)) (λ_ _ ag=>trivial) eX iT rfl rfl (.d (.agg (Window.enc x_26))) rfl wz (aK (.d (.agg (Span.enc (⟨(some y_37),x_26⟩:Span)))) wz (by kernel_rfl) (dU (([(⟨(some y_37),x_26⟩:Span)]:List Span).map Span.enc) zw ez77 rfl rfl rfl rfl rfl wz ?_)))
      obtain ⟨a_39,hz_40,hc_32⟩:=bind_some hc_32
      refine kI 7 (.inr (by kernel_rfl)) (λ_ _ ag=>⟨.inr (.inr (by kernel_rfl)),trivial⟩) (i:=2) JU JU pg z80 rfl (by decide) by80 (by decide) (λ_=>rfl) rfl rfl rfl hz_40 wz (λn_41=>aa (gV n_41 3 a_39) (af (ax (fJ (bE hD_27 hn_28) wz rfl (aa (vI ((k_24+1:Nat):Int)) (af ?_))))))
      obtain rfl:=ae hc_32
      exact aS (k_24+1,l_25,a_39,n_41) ⟨hL_33,aR hD_27⟩ (ls_ _) rfl (aJ rfl)
    ·rintro ⟨s_29,n_31⟩ ho_ sl_ H_ hp_ hq_
     subst ho_
     refine aO _ hp_ hq_ (ax (fJ (bE hD_9 hn_10) wz rfl (aa (vI ((k_6+1:Nat):Int)) (af ?_))))
     obtain rfl:=ae hc_15
     exact aS (k_6+1,l_7,s_29,n_31) ⟨hL_16,aR hD_9⟩ (ls_ _) rfl (aJ rfl)
 ·rintro ⟨s_11,n_14⟩ ho_ sl_ H_ hp_ hq_
  subst ho_
  refine aO _ hp_ hq_ (aj (aa (gV n_14 3 s_11) (aa (gV n_14 3 s_11) (af ?_))))
  obtain rfl:=ae hF
  exact aC (LQ (outs:=([]:List Box)) (.inr rfl) 2 rfl rfl rfl (by kernel_rfl) (by kernel_rfl))
theorem vJ {t_1:Window} {wv_2:Window} {r:Window} (hF:oK t_1 wv_2=some r) :
  FnM Tryz.prog 76 [(.d (.agg (Window.enc t_1))),(.d (.agg (Window.enc wv_2)))] [] (.d (.agg (Window.enc r))) []:=by
 refine FnM.of_wH ⟨Tryz.prog,16,[],[]⟩ rfl Tryz.func76 rfl rfl (lb_ rfl) (by kernel_rfl) ?_
 unfold oK at hF
 refine aj (bZ 0 (.inl rfl) [(vI t_1.From),(vI t_1.To)] rfl rfl wz (λn_3=>bZ 0 (.inl rfl) [(vI wv_2.From),(vI wv_2.To)] rfl rfl wz (λn_4=>bR 0 (.inl rfl) z33 rfl wz (λn_5=>af (aj (aI gm rfl 0 rfl wz (aA 0 0 il ft sz3 ag3 rfl rfl (vI t_1.From) rfl wz (aI gm rfl 0 rfl wz (aA 0 1 il ft sz3 ag3 rfl rfl (vI wv_2.From) rfl wz (pO (vI (j5 t_1.From wv_2.From)) rfl (.inr rfl) wz (aI gN rfl 1 rfl wz (aA 0 0 il ft sz3 ag3 rfl rfl (vI t_1.To) rfl wz (aI gN rfl 1 rfl wz (aA 0 1 il ft sz3 ag3 rfl rfl (vI wv_2.To) rfl wz (pO (vI (kG t_1.To wv_2.To)) rfl (.inl rfl) wz (aK (.d (.agg (Window.enc (⟨(j5 t_1.From wv_2.From),(kG t_1.To wv_2.To)⟩:Window)))) wz (by kernel_rfl) (eH 0 il ft 2 eX rfl rfl [(vI (j5 t_1.From wv_2.From)),(vI (kG t_1.To wv_2.To))] rfl wz (af ?_))))))))))))))))))
 obtain rfl:=ae hF
 exact aC (aL [(.d (.agg (Window.enc (⟨(j5 t_1.From wv_2.From),(kG t_1.To wv_2.To)⟩:Window))))] ⟨⟨2,_,_,_,_,_,_,_,rfl,rfl,eX,iT,rfl⟩,trivial⟩)
theorem mP {x r:(List Int)} (hF:fZ x=some r) :
  FnM Tryz.prog 77 [(dV (av 0) 1 x)] (([]:List Box)++gI 1 eI x) (.tup []) (([]:List Box).map some++gT x (gB 1 eI r)) :=
 NY Tryz.slices_Sort_int Tryz.slices_Sort_int_none hF
theorem lh {s_1:(List Int)} {r:(List Int)} (hF:dH s_1=some r) :
  FnM Tryz.prog 78 [(dV (av 0) 1 s_1)] (([]:List Box)++gI 1 eI s_1) (vL eI r) (([]:List Box).map some++gT s_1 none):=by
 refine FnM.of_wHv ⟨Tryz.prog,61,[],[]⟩ rfl Tryz.func78 rfl rfl (lb_ rfl) (by kernel_rfl) ?_
 unfold dH at hF
 refine aj (aa .nil (af (au (aj (aa (dV (av 0) 1 s_1) (A9 qc rfl wz (aa (vB (decide ((s_1.length:Int)<2))) (af ?_))))))))
 rcases ak hF with⟨hc_2,hF⟩|⟨hc_2,hF⟩
 ·refine aD rfl hc_2 (aj (aa (dV (av 0) 1 s_1) (aa (dV (av 0) 1 s_1) (af (iw 0 rfl (yJ 0 0 rfl rfl (yJ 2 0 rfl rfl (yJ 6 0 rfl rfl (yJ 9 0 rfl rfl (Gi (i:=0) rfl ?_))))))))))
  obtain rfl:=ae hF
  exact aC (BJ (bs:=([]:List Box)) (os:=([]:List Box)) (xs:=s_1) (o:=none) (.inr rfl) [(vL eI s_1)] ⟨rfl,trivial⟩ rfl rfl rfl rfl rfl (by kernel_rfl) ze rfl)
 ·refine aB rfl hc_2 (ay (au (aj (aa (vI 1) (af ?_)))))
  obtain ⟨o_11,hj_12,hF⟩:=bind_some hF
  obtain ⟨nq_52,hj_12⟩:=dZ hj_12
  refine jh (λ(s_8:Int)=>[(0,(dV (av 0) 1 s_1))]) (λ(s_8:Int)=>[((av 0),gB 1 eI s_1)]) (λ(k_3:Nat)=>(λ(s_8:Int)=>[(0,(dV (av 0) 1 s_1)),(3,(vI s_8))])) (λs=>bB s_1 s) o_11 nq_52 1 hj_12 rfl (aJ rfl) ?_ ?_
  ·rintro ⟨k_3,s_8⟩ hL_10
   dsimp only at hL_10
   cases k_3 with
   | zero=>cases hL_10
   | succ k_3 =>
    obtain ⟨c_,hc_9,hL_10⟩:=bind_some hL_10
    unfold bB at hc_9
    refine au (aj (aa (vI s_8) (aa (dV (av 0) 1 s_1) (A9 qc rfl wz (aa (vB (decide (s_8<(s_1.length:Int)))) (af ?_))))))
    rcases ak hc_9 with⟨hc_13,hc_9⟩|⟨hc_13,hc_9⟩
    ·refine aD rfl hc_13 (ay (au (aN (au (dA (aa (dV (av 0) 1 s_1) (aa (vI s_8) ?_)))))))
     obtain ⟨_,hi_14,hc_9⟩:=bind_some hc_9
     refine mq iW rfl rfl (jG hi_14) (gW hi_14) wz ?_
     obtain ⟨e_15,hy_16,hc_9⟩:=bind_some hc_9
     refine kC 3 0 (.inr (by kernel_rfl)) (λ_ _ ag=>trivial) sz3 ag3 rfl rfl hy_16 (vI e_15) rfl wz (aa (dV (av 0) 1 s_1) (aa (vI s_8) (aa (vI (w64 (s_8-1))) ?_)))
     obtain ⟨_,hi_17,hc_9⟩:=bind_some hc_9
     refine mq iW rfl rfl (jG hi_17) (gW hi_17) wz ?_
     obtain ⟨e_18,hy_19,hc_9⟩:=bind_some hc_9
     refine kC 8 0 (.inr (by kernel_rfl)) (λ_ _ ag=>⟨.inl ⟨rfl,rfl⟩,trivial⟩) sz3 ag3 rfl rfl hy_19 (vI e_18) rfl wz (aa (vB (e_15==e_18)) (af ?_))
     rcases ak hc_9 with⟨hc_20,hc_9⟩|⟨hc_20,hc_9⟩
     ·refine aD rfl hc_20 (aj (aa (dV (av 0) 1 s_1) (aa (vI s_8) ?_)))
      obtain ⟨_,hn_21,hc_9⟩:=bind_some hc_9
      replace hn_21:=F5 hn_21
      refine bL (v':=(vV (av 0) 1 s_1)) 0 rfl (zQ hn_21) (bL (v':=(vV (av 0) 1 s_1)) 11 rfl (zQ hn_21) (bL (v':=(vV (av 0) 1 s_1)) 16 rfl (zQ hn_21) (bL (v':=(vV (av 0) 1 s_1)) 20 rfl (zQ hn_21) (bL (v':=(vV (av 0) 1 s_1)) 26 rfl (zQ hn_21) (zo 0 rfl (zm hn_21) ?_)))))
      obtain ⟨_,hr_22,hc_9⟩:=bind_some hc_9
      refine Ed qc sz3 rfl rfl hr_22 wz (aa (.vs (av 0) 1 ((s_8).toNat) (((s_1.length:Int)).toNat-(s_8).toNat)) (af (au (aj (aa (vI 1) (af ?_))))))
      obtain ⟨o_31,hj_32,hc_9⟩:=bind_some hc_9
      obtain ⟨nq_51,hj_32⟩:=dZ hj_32
      refine jh (λ(s_28:(List Int)×Int×Int)=>[(0,(vV (av 0) 1 s_28.1)),(3,(vI s_28.2.1))]) (λ(s_28:(List Int)×Int×Int)=>[((av 0),some (bV 1 eI s_28.1))]) (λ(k_23:Nat)=>(λ(s_28:(List Int)×Int×Int)=>[(0,(vV (av 0) 1 s_28.1)),(3,(vI s_28.2.1)),(4,(.vs (av 0) 1 ((s_8).toNat) (((s_1.length:Int)).toNat-(s_8).toNat))),(5,(vI s_28.2.2))])) (λs=>bW s_1 s_8 s) o_31 nq_51 (s_1,s_8,1) hj_32 rfl (aJ rfl) ?_ ?_
      ·rintro ⟨k_23,s_28⟩ hL_30
       dsimp only at hL_30
       cases k_23 with
       | zero=>cases hL_30
       | succ k_23 =>
        obtain ⟨c_,hc_29,hL_30⟩:=bind_some hL_30
        unfold bW at hc_29
        refine au (aj (aa (vI s_28.2.2) (aa (.vs (av 0) 1 ((s_8).toNat) (((s_1.length:Int)).toNat-(s_8).toNat)) (h_lenp qc rfl wz (aa (vB (decide (s_28.2.2<(((((s_1.length:Int)).toNat-(s_8).toNat):Nat):Int)))) (af ?_))))))
        rcases ak hc_29 with⟨hc_33,hc_29⟩|⟨hc_33,hc_29⟩
        ·refine aD rfl hc_33 (ay (au (aN (au (dA (aa (.vs (av 0) 1 ((s_8).toNat) (((s_1.length:Int)).toNat-(s_8).toNat)) (aa (vI s_28.2.2) ?_)))))))
         obtain ⟨_,hi_34,hc_29⟩:=bind_some hc_29
         refine zR iW rfl rfl (NL hi_34) (Ki hi_34) wz ?_
         obtain ⟨e_35,hy_36,hc_29⟩:=bind_some hc_29
         refine E8 3 0 (.inr (by kernel_rfl)) (λ_ _ ag=>trivial) sz3 ag3 rfl rfl hy_36 (vI e_35) rfl wz (aa (.vs (av 0) 1 ((s_8).toNat) (((s_1.length:Int)).toNat-(s_8).toNat)) (aa (vI s_28.2.2) (aa (vI (w64 (s_28.2.2-1))) ?_)))
         obtain ⟨_,hi_37,hc_29⟩:=bind_some hc_29
         refine zR iW rfl rfl (NL hi_37) (Ki hi_37) wz ?_
         obtain ⟨e_38,hy_39,hc_29⟩:=bind_some hc_29
         refine E8 8 0 (.inr (by kernel_rfl)) (λ_ _ ag=>⟨.inl ⟨rfl,rfl⟩,trivial⟩) sz3 ag3 rfl rfl hy_39 (vI e_38) rfl wz (aa (vB (e_35 != e_38)) (af ?_))
         obtain ⟨v_40,h_41,hc_29⟩:=bind_some hc_29
         refine aQ [(0,(vV (av 0) 1 v_40.1)),(3,(vI v_40.2)),(4,(.vs (av 0) 1 ((s_8).toNat) (((s_1.length:Int)).toNat-(s_8).toNat))),(5,(vI s_28.2.2))] [((av 0),some (bV 1 eI v_40.1))] ?_ ?_
         ·rcases ak h_41 with⟨hc_42,h_41⟩|⟨hc_42,h_41⟩
          ·refine aD rfl hc_42 (aj (aa (vV (av 0) 1 s_28.1) (aa (vI s_28.2.1) (aa (.vs (av 0) 1 ((s_8).toNat) (((s_1.length:Int)).toNat-(s_8).toNat)) (aa (vI s_28.2.2) ?_)))))
           obtain ⟨_,hi_43,h_41⟩:=bind_some h_41
           refine zR iW rfl rfl (NL hi_43) (Ki hi_43) wz ?_
           obtain ⟨e_44,hy_45,h_41⟩:=bind_some h_41
           refine E8 0 0 il ft sz3 ag3 rfl rfl hy_45 (vI e_44) rfl wz ?_
           obtain ⟨_,hi_46,h_41⟩:=bind_some h_41
           refine zR iW rfl rfl (jG hi_46) (gW hi_46) wz ?_
           obtain ⟨e_47,hy_48,h_41⟩:=bind_some h_41
           refine Mt 0 il ft 0 sz3 rfl rfl hy_48 e_44 rfl wz (bL (v':=(vV (av 0) 1 (s_28.1.set (0+(s_28.2.1).toNat) e_44))) 0 rfl (sN (by simp)) (bL (v':=(vV (av 0) 1 (s_28.1.set (0+(s_28.2.1).toNat) e_44))) 45 rfl (sN (by simp)) (af (ax (aa (vI s_28.2.1) (aa (vI (w64 (s_28.2.1+1))) (aa (vI (w64 (s_28.2.1+1))) (af ?_))))))))
           obtain rfl:=ae h_41
           exact cu
          ·refine aB rfl hc_42 (ay ?_)
           obtain rfl:=ae h_41
           exact cu
         ·rintro ⟨⟩ _ sl_ H_ hp_ hq_
          refine aO _ hp_ hq_ (ax (aa (vI s_28.2.2) (aa (vI (w64 (s_28.2.2+1))) (aa (vI (w64 (s_28.2.2+1))) (af ?_)))))
          obtain rfl:=ae hc_29
          exact aS (k_23,(v_40.1,v_40.2,(w64 (s_28.2.2+1)))) hL_30 (ls_ _) rfl (aJ rfl)
        ·refine aB rfl hc_33 (aU ?_)
         obtain rfl:=ae hc_29
         obtain rfl:=ae hL_30
         exact aV ((s_28.1,s_28.2.1,s_28.2.2)) rfl rfl (aJ rfl)
      ·rintro s_28 ho_ sl_ H_ hp_ hq_
       subst ho_
       refine aO _ hp_ hq_ (aj (aa (vV (av 0) 1 s_28.1) (aa (vI s_28.2.1) ?_)))
       obtain ⟨_,hr_49,hc_9⟩:=bind_some hc_9
       refine Ed qc sz3 rfl rfl hr_49 wz (KC (i:=0) 0 il ft 0 C9 sz3 z3 rfl rfl rfl (by decide) rfl (qy hr_49) rfl wz (bL (v':=(vV (av 0) 1 (s_28.1.take ((s_28.2.1).toNat)++List.replicate (((s_28.1.length:Int)).toNat-(s_28.2.1).toNat) 0++s_28.1.drop (((s_28.2.1).toNat)+(((s_28.1.length:Int)).toNat-(s_28.2.1).toNat))))) 0 rfl (sN (w9 (qy hr_49))) (bL (v':=(vV (av 0) 1 (s_28.1.take ((s_28.2.1).toNat)++List.replicate (((s_28.1.length:Int)).toNat-(s_28.2.1).toNat) 0++s_28.1.drop (((s_28.2.1).toNat)+(((s_28.1.length:Int)).toNat-(s_28.2.1).toNat))))) 54 rfl (sN (w9 (qy hr_49))) (af (aj (aa (vV (av 0) 1 (s_28.1.take ((s_28.2.1).toNat)++List.replicate (((s_28.1.length:Int)).toNat-(s_28.2.1).toNat) 0++s_28.1.drop (((s_28.2.1).toNat)+(((s_28.1.length:Int)).toNat-(s_28.2.1).toNat)))) (aa (vI s_28.2.1) ?_)))))))
       obtain ⟨_,hr_50,hc_9⟩:=bind_some hc_9
       refine Jb qc sz3 rfl rfl hr_50 wz (aa (.vs (av 0) 1 0 ((s_28.2.1).toNat)) (af (K7 0 rfl (Jg 0 0 rfl rfl (Ou 2 0 rfl rfl (qy hr_50) (Jg 54 0 rfl rfl (Jg 57 0 rfl rfl (Ou 59 0 rfl rfl (qy hr_50) (Gi (i:=0) rfl ?_)))))))))
       obtain rfl:=ae hc_9
       obtain rfl:=ae hL_10
       obtain rfl:=ae hF
       exact aC (BJ (bs:=([]:List Box)) (os:=([]:List Box)) (xs:=s_1) (o:=none) (.inr rfl) [(vL eI (cutL (s_28.1.take ((s_28.2.1).toNat)++List.replicate (((s_28.1.length:Int)).toNat-(s_28.2.1).toNat) 0++s_28.1.drop (((s_28.2.1).toNat)+(((s_28.1.length:Int)).toNat-(s_28.2.1).toNat))) 0 ((s_28.2.1).toNat)))] ⟨rfl,trivial⟩ rfl rfl rfl rfl rfl (by kernel_rfl) ze rfl)
     ·refine aB rfl hc_20 (ay (ax (aa (vI s_8) (aa (vI (w64 (s_8+1))) (aa (vI (w64 (s_8+1))) (af ?_))))))
      obtain rfl:=ae hc_9
      exact aS (k_3,(w64 (s_8+1))) hL_10 (ls_ _) rfl (aJ rfl)
    ·refine aB rfl hc_13 (aU ?_)
     obtain rfl:=ae hc_9
     obtain rfl:=ae hL_10
     exact aV (s_8) rfl rfl (aJ rfl)
  ·rintro s_8 ho_ sl_ H_ hp_ hq_
   subst ho_
   refine aO _ hp_ hq_ (aj (aa (dV (av 0) 1 s_1) (aa (dV (av 0) 1 s_1) (af (iw 0 rfl (yJ 0 0 rfl rfl (yJ 2 0 rfl rfl (yJ 60 0 rfl rfl (Gi (i:=0) rfl ?_)))))))))
   obtain rfl:=ae hF
   exact aC (BJ (bs:=([]:List Box)) (os:=([]:List Box)) (xs:=s_1) (o:=none) (.inr rfl) [(vL eI s_1)] ⟨rfl,trivial⟩ rfl rfl rfl rfl rfl (by kernel_rfl) ze rfl)
theorem zI {l_1:(List Entry)} {p_2:Player} {wv_3:Window} {r:(List Int)} (hF:lU l_1 p_2 wv_3=some r) :
  FnM Tryz.prog 62 [(vL Entry.enc l_1),(.d (.agg (Player.enc p_2))),(.d (.agg (Window.enc wv_3)))] [] (vL eI r) []:=by
 refine FnM.of_wH ⟨Tryz.prog,41,[15],[]⟩ rfl Tryz.func62 rfl rfl (lb_ rfl) (by kernel_rfl) ?_
 unfold lU at hF
 refine aj (bZ 0 (.inl rfl) (Player.v p_2) rfl rfl wz (λn_4=>bZ 0 (.inl rfl) [(vI wv_3.From),(vI wv_3.To)] rfl rfl wz (λn_5=>aa .nil (af (aj (aI gm rfl 0 rfl wz (aA 0 1 il ft sz3 ag3 rfl rfl (vI wv_3.From) rfl wz (aI gN rfl 1 rfl wz (aA 0 1 il ft sz3 ag3 rfl rfl (vI wv_3.To) rfl wz (MC 0 (.inl rfl) (([wv_3.From,wv_3.To]:List Int).map eI) iW qA rfl rfl rfl rfl rfl wz (λn_6=>aa (vV n_6 1 ([wv_3.From,wv_3.To]:List Int)) (af (au (aj (aa (vL Entry.enc l_1) (aA 0 0 il ft kQ mO rfl rfl (.d (.agg (Player.enc p_2))) rfl wz (aA 0 1 il ft eX iT rfl rfl (.d (.agg (Window.enc wv_3))) rfl wz ?_)))))))))))))))))
 obtain ⟨r_7,hr_8,hF⟩:=bind_some hF
 refine aF (r9 hr_8) rfl hb34 rfl rfl rfl rfl wz (bN Cb rfl wz (aa (vI 0) (af ?_)))
 obtain ⟨o_19,hj_20,hF⟩:=bind_some hF
 obtain ⟨hn_13,hj_20⟩:=bf hj_20
 refine jl (σ:=(List Int)) (N:=Nm) (λp=>(λ(s_14:List Int) (n_16:Nm)=>([(7,(vV n_16 1 s_14))]:SL_)) p.1 p.2) (λp=>(λ(s_14:List Int) (n_16:Nm)=>([(n_4,some (.cells 4 (Player.v p_2))),(n_5,some (.cells 2 [(vI wv_3.From),(vI wv_3.To)])),(n_16,some (bV 1 eI s_14))]:Hp)) p.1 p.2) (λ(k_9:Nat)=>(λp=>(λ(s_14:List Int) (n_16:Nm)=>([(5,(.ref n_5 0 0)),(7,(vV n_16 1 s_14)),(19,(vL Span.enc r_7)),(20,(vI (r_7.length:Int))),(21,(vI (k_9:Int)))]:SL_)) p.1 p.2)) (λk x s=>jM wv_3 k x s) o_19 r_7 (([wv_3.From,wv_3.To]:List Int),n_6) hj_20 rfl (aJ rfl) ?_ ?_
 ·rintro ⟨k_9,l_10,s_14,n_16⟩ ⟨hL_18,hD_12⟩
  dsimp only at hL_18 hD_12
  cases l_10 with
  | nil =>
   obtain rfl:=ae hL_18
   refine aj (aa (vB (decide ((k_9:Int)<(r_7.length:Int)))) (af ?_))
   refine au (aB rfl (drop_nil hD_12) (aU ?_))
   exact aV (s_14,n_16) rfl rfl (aJ rfl)
  | cons x_11 l_10 =>
   obtain ⟨c_,hc_17,hL_18⟩:=bind_some hL_18
   refine aj (aa (vB (decide ((k_9:Int)<(r_7.length:Int)))) (af ?_))
   refine au (aD rfl (bz hD_12) (ay ?_))
   unfold jM at hc_17
   refine au (aN (aj (eU zw rfl rfl (bH hD_12) rfl wz (bI pg zy rfl (.d (.agg (Span.enc x_11))) rfl wz (bR 0 (.inl rfl) z80 rfl wz (λn_21=>eH 0 il ft 3 pg rfl rfl (Span.v x_11) (xm rfl (bK (mE _ _) (bK rfl (bK rfl rfl))) rfl rfl) wz (af (aj (aI yu rfl 1 rfl wz (aA 0 3 il ft eX iT rfl rfl (.d (.agg (Window.enc x_11.f_time))) rfl wz (aA 0 1 il ft eX iT rfl rfl (.d (.agg (Window.enc wv_3))) rfl wz ?_)))))))))))
   obtain ⟨r_22,hr_23,hc_17⟩:=bind_some hc_17
   refine aF (vJ hr_23) rfl hb76 rfl rfl rfl rfl wz (bR 0 (.inl rfl) z33 rfl wz (λn_24=>eH 0 il ft 4 eX rfl rfl [(vI r_22.From),(vI r_22.To)] rfl wz (af (ax (aa (vV n_16 1 s_14) (aI gm rfl 0 rfl wz (aA 0 4 il ft sz3 ag3 rfl rfl (vI r_22.From) rfl wz (aI gN rfl 1 rfl wz (aA 0 4 il ft sz3 ag3 rfl rfl (vI r_22.To) rfl wz (dU (([r_22.From,r_22.To]:List Int).map eI) iW qA rfl rfl rfl rfl rfl wz ?_))))))))))
   obtain ⟨a_25,hz_26,hc_17⟩:=bind_some hc_17
   refine JW 0 il ft (i:=2) C9 C9 sz3 z3 rfl (by decide) by3 (by decide) (λ_=>rfl) rfl rfl rfl hz_26 wz (λn_27=>aa (vV n_27 1 a_25) (af (ax (fJ (bE hD_12 hn_13) wz rfl (aa (vI ((k_9+1:Nat):Int)) (af ?_))))))
   obtain rfl:=ae hc_17
   exact aS (k_9+1,l_10,a_25,n_27) ⟨hL_18,aR hD_12⟩ (ls_ _) rfl (aJ rfl)
 ·rintro ⟨s_14,n_16⟩ ho_ sl_ H_ hp_ hq_
  subst ho_
  refine aO _ hp_ hq_ (aj (aa (vV n_16 1 s_14) ?_))
  obtain ⟨_,hn_28,hF⟩:=bind_some hF
  replace hn_28:=F5 hn_28
  refine zo 2 rfl (zm hn_28).symm (bL (v':=(gV n_16 1 s_14)) 37 rfl (K8 hn_28) (bL (v':=(gV n_16 1 s_14)) 7 rfl (K8 hn_28) ?_))
  obtain ⟨r_29,hr_30,hF⟩:=bind_some hF
  obtain ⟨_,hs_31,hF⟩:=bind_some hF
  replace hs_31:=oG hs_31
  refine nG 0 [] 2 0 il ft (mP hr_30) rfl hb77 rfl rfl rfl (by kernel_rfl) rfl (.inl rfl) rfl (by kernel_rfl) (by kernel_rfl) (by kernel_rfl) (by kernel_rfl) rfl (by decide) (by kernel_rfl) oz (xP hs_31) wz ([(n_4,some (.cells 4 (Player.v p_2))),(n_5,some (.cells 2 [(vI wv_3.From),(vI wv_3.To)])),(n_16,gB 1 eI r_29)]:Hp) (by kernel_rfl) (bL (v':=(gV n_16 1 r_29)) 37 rfl (bU hs_31.symm) (bL (v':=(gV n_16 1 r_29)) 7 rfl (bU hs_31.symm) (af (aj (aa (gV n_16 1 r_29) ?_)))))
  obtain ⟨r_32,hr_33,hF⟩:=bind_some hF
  refine nG 0 [] 2 0 il ft (lh hr_33) rfl hb78 rfl rfl rfl (by kernel_rfl) rfl (.inl rfl) rfl (by kernel_rfl) (by kernel_rfl) (by kernel_rfl) (by kernel_rfl) rfl (by decide) (by kernel_rfl) ze (λ_=>rfl) wz ([(n_4,some (.cells 4 (Player.v p_2))),(n_5,some (.cells 2 [(vI wv_3.From),(vI wv_3.To)])),(n_16,none)]:Hp) (by kernel_rfl) (aa (vL eI r_32) (af ?_))
  obtain rfl:=ae hF
  exact aC (aL [(vL eI r_32)] ⟨rfl,trivial⟩)
theorem lI {s_1:Span} {p_2:(List Int)} {p_3:Int} {r:Bool} (hF:fM s_1 p_2 p_3=some r) :
  FnM Tryz.prog 64 [(.d (.agg (Span.enc s_1))),(.ref (av 0) 0 0),(.ref (av 1) 0 0)] [(.cells 1 [(vL eI p_2)]),(.cells 1 [(vI p_3)])] (vB r) [some (.cells 1 [(vL eI p_2)]),some (.cells 1 [(vI p_3)])]:=by
 refine FnM.of_wH ⟨Tryz.prog,13,[],[]⟩ rfl Tryz.func64 rfl rfl (lb_ rfl) (by kernel_rfl) ?_
 unfold fM at hF
 refine aj (bZ 0 (.inl rfl) (Span.v s_1) rfl (bK (mE _ _) (bK rfl (bK rfl rfl))) wz (λn_4=>aa (vB false) (af (au (dA (aI yu rfl 1 rfl wz (aI gN rfl 2 rfl wz (aA 2 2 (.inr (by kernel_rfl)) (λ_ _ ag=>trivial) sz3 ag3 rfl rfl (vI s_1.f_time.To) rfl wz (aA 3 0 (.inr (by kernel_rfl)) (λ_ _ ag=>⟨.inl ⟨rfl,rfl⟩,trivial⟩) sV vM rfl rfl (vL eI p_2) rfl wz (aA 4 1 (.inr (by kernel_rfl)) (λ_ _ ag=>⟨.inl ⟨rfl,rfl⟩,⟨.inl ⟨rfl,rfl⟩,trivial⟩⟩) sz3 ag3 rfl rfl (vI p_3) rfl wz ?_))))))))))
 obtain ⟨y_5,hy_6,hF⟩:=bind_some hF
 refine eU iW rfl rfl hy_6 rfl wz (bI sz3 ag3 rfl (vI y_5) rfl wz (aa (vB (decide (s_1.f_time.To<=y_5))) (aa (vB (decide (s_1.f_time.To<=y_5))) (af ?_))))
 obtain rfl:=ae hF
 exact aC (qB (.inr rfl) [(vB (decide (s_1.f_time.To<=y_5)))] _ [0,1] [av 0,av 1] ⟨rfl,trivial⟩ (.cons (iq rfl rfl) (.nil)) (by kernel_rfl) ⟨(by kernel_rfl),⟨(by kernel_rfl),trivial⟩⟩ (by decide) (by kernel_rfl))
theorem jD {s_1:(List Span)} {f2_3:(List Int)} {f2_4:Int} {r:Int} (hF:dN s_1 f2_3 f2_4=some r) :
  FnM Tryz.prog 94 [(vV (av 2) 3 s_1),(.fn 64 [(.ref (av 0) 0 0),(.ref (av 1) 0 0)])] (([(.cells 1 [(vL eI f2_3)]),(.cells 1 [(vI f2_4)])]:List Box)++[(bV 3 Span.enc s_1)]) (vI r) ((([(.cells 1 [(vL eI f2_3)]),(.cells 1 [(vI f2_4)])]:List Box)).map some++[some (bV 3 Span.enc s_1)]):=by
 refine FnM.of_wH ⟨Tryz.prog,19,[],[]⟩ rfl Tryz.func94 rfl rfl (lb_ rfl) (by kernel_rfl) ?_
 unfold dN at hF
 refine aj (aa (vI 0) (af (au (aj (aa (vV (av 2) 3 s_1) (Gz Cb rfl wz (aa (vI 0) (af ?_))))))))
 obtain ⟨o_13,hj_14,hF⟩:=bind_some hF
 obtain ⟨hn_9,hj_14⟩:=bf hj_14
 refine cK (λ(s_10:Unit)=>[]) (λ(s_10:Unit)=>[((av 0),some (.cells 1 [(vL eI f2_3)])),((av 1),some (.cells 1 [(vI f2_4)])),((av 2),some (bV 3 Span.enc s_1))]) (λ(k_5:Nat)=>(λ(s_10:Unit)=>[(0,(vV (av 2) 3 s_1)),(1,(.fn 64 [(.ref (av 0) 0 0),(.ref (av 1) 0 0)])),(7,(vI (s_1.length:Int))),(8,(vI (k_5:Int)))])) (λk x s=>dz s_1 f2_3 f2_4 k x s) o_13 (List.range ((s_1.length:Int)).toNat) () hj_14 rfl (aJ rfl) ?_ ?_
 ·rintro ⟨k_5,l_6,s_10⟩ ⟨hL_12,hD_8⟩
  dsimp only at hL_12 hD_8
  cases l_6 with
  | nil =>
   obtain rfl:=ae hL_12
   refine aj (aa (vB (decide ((k_5:Int)<(s_1.length:Int)))) (af ?_))
   refine au (aB rfl (A7 hD_8) (aU ?_))
   exact aV (s_10) rfl rfl (aJ rfl)
  | cons x_7 l_6 =>
   obtain ⟨c_,hc_11,hL_12⟩:=bind_some hL_12
   refine aj (aa (vB (decide ((k_5:Int)<(s_1.length:Int)))) (af ?_))
   refine au (aD rfl (yZ hD_8) (ay ?_))
   unfold dz at hc_11
   refine au (aN (aj (aa (vI (k_5:Int)) (aa (vI (k_5:Int)) (af (aj (aa (.fn 64 [(.ref (av 0) 0 0),(.ref (av 1) 0 0)]) (aa (vV (av 2) 3 s_1) (aa (vI (k_5:Int)) ?_)))))))))
   obtain ⟨_,hi_15,hc_11⟩:=bind_some hc_11
   refine zR zw rfl rfl (jG hi_15) (gW hi_15) wz ?_
   obtain ⟨e_16,hy_17,hc_11⟩:=bind_some hc_11
   refine E8 0 2 il ft pg zy rfl rfl hy_17 (.d (.agg (Span.enc e_16))) rfl wz ?_
   obtain ⟨r_18,hr_19,hc_11⟩:=bind_some hc_11
   refine bA 0 [0,1] il ft (lI hr_19) rfl hb64 rfl (by kernel_rfl) (by kernel_rfl) (by kernel_rfl) (by kernel_rfl) (by kernel_rfl) (by kernel_rfl) (by kernel_rfl) (by decide) (by kernel_rfl) wz (vB r_18) (by kernel_rfl) ([((av 0),some (.cells 1 [(vL eI f2_3)])),((av 1),some (.cells 1 [(vI f2_4)])),((av 2),some (bV 3 Span.enc s_1))]:Hp) (by kernel_rfl) (af ?_)
   rcases ak hc_11 with⟨hc_21,hc_11⟩|⟨hc_21,hc_11⟩
   ·refine aD rfl hc_21 (aj (aa (vI (k_5:Int)) (aa (vI (k_5:Int)) (af ?_))))
    obtain rfl:=ae hc_11
    obtain rfl:=ae hL_12
    obtain rfl:=ae hF
    exact aC (qB (.inr rfl) [(vI (k_5:Int))] _ [0,1,2] [av 0,av 1,av 2] ⟨rfl,trivial⟩ (.cons (iq rfl rfl) (.nil)) (by kernel_rfl) ⟨(by kernel_rfl),⟨(by kernel_rfl),⟨(by kernel_rfl),trivial⟩⟩⟩ (by decide) (by kernel_rfl))
   ·refine aB rfl hc_21 (ay (ax (fJ (AP hD_8 hn_9) wz rfl (aa (vI ((k_5+1:Nat):Int)) (af ?_)))))
    obtain rfl:=ae hc_11
    exact aS (k_5+1,l_6,()) ⟨hL_12,aR hD_8⟩ (ls_ _) rfl (aJ rfl)
 ·rintro s_10 ho_ sl_ H_ hp_ hq_
  subst ho_
  refine aO _ hp_ hq_ (aj (aa (vI (-1)) (af ?_)))
  obtain rfl:=ae hF
  exact aC (qB (.inr rfl) [(vI (-1))] _ [0,1,2] [av 0,av 1,av 2] ⟨rfl,trivial⟩ (.cons (iq rfl rfl) (.nil)) (by kernel_rfl) ⟨(by kernel_rfl),⟨(by kernel_rfl),⟨(by kernel_rfl),trivial⟩⟩⟩ (by decide) (by kernel_rfl))
theorem jr {s_1:(List Span)} {del2_3:(List Int)} {del2_4:Int} {r:(List Span)} (hF:bD s_1 del2_3 del2_4=some r) :
  FnM Tryz.prog 63 [(vV (av 2) 3 s_1),(.fn 64 [(.ref (av 0) 0 0),(.ref (av 1) 0 0)])] (([(.cells 1 [(vL eI del2_3)]),(.cells 1 [(vI del2_4)])]:List Box)++[(bV 3 Span.enc s_1)]) (vV (av 2) 3 r) ((([(.cells 1 [(vL eI del2_3)]),(.cells 1 [(vI del2_4)])]:List Box)).map some++[some (bV 3 Span.enc r)]):=by
 refine FnM.of_wH ⟨Tryz.prog,42,[],[]⟩ rfl Tryz.func63 rfl rfl (lb_ rfl) (by kernel_rfl) ?_
 unfold bD at hF
 refine aj (aa .nil (af (aj (aa (vV (av 2) 3 s_1) (aa (.fn 64 [(.ref (av 0) 0 0),(.ref (av 1) 0 0)]) ?_)))))
 obtain ⟨r_5,hr_6,hF⟩:=bind_some hF
 refine Hf 0 [0,1] 2 0 il ft (jD hr_6) rfl hb94 rfl rfl (by kernel_rfl) (by kernel_rfl) rfl rfl (by kernel_rfl) (by kernel_rfl) (by kernel_rfl) (by kernel_rfl) rfl (by decide) (by kernel_rfl) bV_ok wz (vI r_5) (by kernel_rfl) ([((av 0),some (.cells 1 [(vL eI del2_3)])),((av 1),some (.cells 1 [(vI del2_4)])),((av 2),some (bV 3 Span.enc s_1))]:Hp) (by kernel_rfl) (aa (vI r_5) (af (au (aj (aa (vI r_5) (aa (vB (r_5==(-1))) (af ?_)))))))
 rcases ak hF with⟨hc_7,hF⟩|⟨hc_7,hF⟩
 ·refine aD rfl hc_7 (aj (aa (vV (av 2) 3 s_1) (aa (vV (av 2) 3 s_1) (af ?_))))
  obtain rfl:=ae hF
  exact aC (qB (.inr rfl) [(vV (av 2) 3 s_1)] _ [0,1,2] [av 0,av 1,av 2] ⟨rfl,trivial⟩ (.cons (Ae _) (.nil)) (by kernel_rfl) ⟨(by kernel_rfl),⟨(by kernel_rfl),⟨(by kernel_rfl),trivial⟩⟩⟩ (by decide) (by kernel_rfl))
 ·refine aB rfl hc_7 (ay (au (aj (aa (vI r_5) (aa (vI (w64 (r_5+1))) (aa (vI (w64 (r_5+1))) (af ?_)))))))
  obtain ⟨o_16,hj_17,hF⟩:=bind_some hF
  obtain ⟨nq_34,hj_17⟩:=dZ hj_17
  refine jh (λ(s_13:(List Span)×Int×Int)=>[(0,(vV (av 2) 3 s_13.1)),(5,(vI s_13.2.1))]) (λ(s_13:(List Span)×Int×Int)=>[((av 0),some (.cells 1 [(vL eI del2_3)])),((av 1),some (.cells 1 [(vI del2_4)])),((av 2),some (bV 3 Span.enc s_13.1))]) (λ(k_8:Nat)=>(λ(s_13:(List Span)×Int×Int)=>[(0,(vV (av 2) 3 s_13.1)),(1,(.fn 64 [(.ref (av 0) 0 0),(.ref (av 1) 0 0)])),(5,(vI s_13.2.1)),(6,(vI s_13.2.2))])) (λs=>di del2_3 del2_4 s) o_16 nq_34 (s_1,r_5,(w64 (r_5+1))) hj_17 rfl (aJ rfl) ?_ ?_
  ·rintro ⟨k_8,s_13⟩ hL_15
   dsimp only at hL_15
   cases k_8 with
   | zero=>cases hL_15
   | succ k_8 =>
    obtain ⟨c_,hc_14,hL_15⟩:=bind_some hL_15
    unfold di at hc_14
    refine au (aj (aa (vI s_13.2.2) (aa (vV (av 2) 3 s_13.1) (Gz Cb rfl wz (aa (vB (decide (s_13.2.2<(s_13.1.length:Int)))) (af ?_))))))
    rcases ak hc_14 with⟨hc_18,hc_14⟩|⟨hc_18,hc_14⟩
    ·refine aD rfl hc_18 (ay (au (aN (aj (aa (vV (av 2) 3 s_13.1) (aa (vI s_13.2.2) ?_))))))
     obtain ⟨_,hi_19,hc_14⟩:=bind_some hc_14
     refine zR zw rfl rfl (jG hi_19) (gW hi_19) wz ?_
     obtain ⟨e_20,hy_21,hc_14⟩:=bind_some hc_14
     refine E8 0 2 il ft pg zy rfl rfl hy_21 (.d (.agg (Span.enc e_20))) rfl wz (bR 0 (.inl rfl) z80 rfl wz (λn_22=>eH 0 il ft 3 pg rfl rfl (Span.v e_20) (xm rfl (bK (mE _ _) (bK rfl (bK rfl rfl))) rfl rfl) wz (af (aj (aa (.fn 64 [(.ref (av 0) 0 0),(.ref (av 1) 0 0)]) (aA 0 3 il ft pg zy rfl rfl (.d (.agg (Span.enc e_20))) rfl wz ?_))))))
     obtain ⟨r_23,hr_24,hc_14⟩:=bind_some hc_14
     refine bA 0 [0,1] il ft (lI hr_24) rfl hb64 rfl (by kernel_rfl) (by kernel_rfl) (by kernel_rfl) (by kernel_rfl) (by kernel_rfl) (by kernel_rfl) (by kernel_rfl) (by decide) (by kernel_rfl) wz (vB r_23) (by kernel_rfl) ([((av 0),some (.cells 1 [(vL eI del2_3)])),((av 1),some (.cells 1 [(vI del2_4)])),((av 2),some (bV 3 Span.enc s_13.1)),(n_22,some (.cells 3 (Span.v e_20)))]:Hp) (by kernel_rfl) (aa (vB (!r_23)) (af ?_))
     obtain ⟨v_26,h_27,hc_14⟩:=bind_some hc_14
     refine aQ [(0,(vV (av 2) 3 v_26.1)),(1,(.fn 64 [(.ref (av 0) 0 0),(.ref (av 1) 0 0)])),(5,(vI v_26.2)),(6,(vI s_13.2.2))] [((av 0),some (.cells 1 [(vL eI del2_3)])),((av 1),some (.cells 1 [(vI del2_4)])),((av 2),some (bV 3 Span.enc v_26.1)),(n_22,some (.cells 3 (Span.v e_20)))] ?_ ?_
     ·rcases ak h_27 with⟨hc_28,h_27⟩|⟨hc_28,h_27⟩
      ·refine aD rfl hc_28 (aj (aa (vV (av 2) 3 s_13.1) (aa (vI s_13.2.1) (aA 0 3 il ft pg zy rfl rfl (.d (.agg (Span.enc e_20))) rfl wz ?_))))
       obtain ⟨_,hi_29,h_27⟩:=bind_some h_27
       refine zR zw rfl rfl (jG hi_29) (gW hi_29) wz ?_
       obtain ⟨e_30,hy_31,h_27⟩:=bind_some h_27
       refine Mt 0 il ft 2 pg rfl rfl hy_31 e_20 (stD_one rfl rfl (bK (mE _ _) (bK rfl (bK rfl rfl))) rfl rfl) wz (bL (v':=(vV (av 2) 3 (s_13.1.set (0+(s_13.2.1).toNat) e_20))) 0 rfl (sN (by simp)) (bL (v':=(vV (av 2) 3 (s_13.1.set (0+(s_13.2.1).toNat) e_20))) 17 rfl (sN (by simp)) (bL (v':=(vV (av 2) 3 (s_13.1.set (0+(s_13.2.1).toNat) e_20))) 22 rfl (sN (by simp)) (bL (v':=(vV (av 2) 3 (s_13.1.set (0+(s_13.2.1).toNat) e_20))) 30 rfl (sN (by simp)) (af (ax (aa (vI s_13.2.1) (aa (vI (w64 (s_13.2.1+1))) (aa (vI (w64 (s_13.2.1+1))) (af ?_))))))))))
       obtain rfl:=ae h_27
       exact cu
      ·refine aB rfl hc_28 (ay ?_)
       obtain rfl:=ae h_27
       exact cu
     ·rintro ⟨⟩ _ sl_ H_ hp_ hq_
      refine aO _ hp_ hq_ (ax (aa (vI s_13.2.2) (aa (vI (w64 (s_13.2.2+1))) (aa (vI (w64 (s_13.2.2+1))) (af ?_)))))
      obtain rfl:=ae hc_14
      exact aS (k_8,(v_26.1,v_26.2,(w64 (s_13.2.2+1)))) hL_15 (ls_ _) rfl (aJ rfl)
    ·refine aB rfl hc_18 (aU ?_)
     obtain rfl:=ae hc_14
     obtain rfl:=ae hL_15
     exact aV ((s_13.1,s_13.2.1,s_13.2.2)) rfl rfl (aJ rfl)
  ·rintro s_13 ho_ sl_ H_ hp_ hq_
   subst ho_
   refine aO _ hp_ hq_ (aj (aa (vV (av 2) 3 s_13.1) (aa (vI s_13.2.1) ?_)))
   obtain ⟨_,hr_32,hF⟩:=bind_some hF
   refine Ed Cb pg rfl rfl hr_32 wz (KC (i:=2) 0 il ft (⟨none,(⟨0,0⟩:Window)⟩:Span) JU pg z80 rfl rfl rfl (by decide) rfl (qy hr_32) rfl wz (bL (v':=(vV (av 2) 3 (s_13.1.take ((s_13.2.1).toNat)++List.replicate (((s_13.1.length:Int)).toNat-(s_13.2.1).toNat) (⟨none,(⟨0,0⟩:Window)⟩:Span)++s_13.1.drop (((s_13.2.1).toNat)+(((s_13.1.length:Int)).toNat-(s_13.2.1).toNat))))) 0 rfl (sN (w9 (qy hr_32))) (bL (v':=(vV (av 2) 3 (s_13.1.take ((s_13.2.1).toNat)++List.replicate (((s_13.1.length:Int)).toNat-(s_13.2.1).toNat) (⟨none,(⟨0,0⟩:Window)⟩:Span)++s_13.1.drop (((s_13.2.1).toNat)+(((s_13.1.length:Int)).toNat-(s_13.2.1).toNat))))) 36 rfl (sN (w9 (qy hr_32))) (af (aj (aa (vV (av 2) 3 (s_13.1.take ((s_13.2.1).toNat)++List.replicate (((s_13.1.length:Int)).toNat-(s_13.2.1).toNat) (⟨none,(⟨0,0⟩:Window)⟩:Span)++s_13.1.drop (((s_13.2.1).toNat)+(((s_13.1.length:Int)).toNat-(s_13.2.1).toNat)))) (aa (vI s_13.2.1) ?_)))))))
   obtain ⟨_,hr_33,hF⟩:=bind_some hF
   refine Jb Cb pg rfl rfl hr_33 wz (aa (.vs (av 2) 3 0 ((s_13.2.1).toNat)) (af (wH_re (v':=(vV (av 2) 3 ((s_13.1.take ((s_13.2.1).toNat)++List.replicate (((s_13.1.length:Int)).toNat-(s_13.2.1).toNat) (⟨none,(⟨0,0⟩:Window)⟩:Span)++s_13.1.drop (((s_13.2.1).toNat)+(((s_13.1.length:Int)).toNat-(s_13.2.1).toNat))).take ((s_13.2.1).toNat)))) 4 rfl (vV_take (qy hr_33)) (wH_shr 2 ((s_13.2.1).toNat) rfl ?_))))
   obtain rfl:=ae hF
   exact aC (qB (.inr rfl) [(vV (av 2) 3 ((s_13.1.take ((s_13.2.1).toNat)++List.replicate (((s_13.1.length:Int)).toNat-(s_13.2.1).toNat) (⟨none,(⟨0,0⟩:Window)⟩:Span)++s_13.1.drop (((s_13.2.1).toNat)+(((s_13.1.length:Int)).toNat-(s_13.2.1).toNat))).take ((s_13.2.1).toNat)))] _ [0,1,2] [av 0,av 1,av 2] ⟨rfl,trivial⟩ (.cons (Ae _) (.nil)) (by kernel_rfl) ⟨(by kernel_rfl),⟨(by kernel_rfl),⟨(by kernel_rfl),trivial⟩⟩⟩ (by decide) (by kernel_rfl))
theorem jK {s_1:(List Span)} {f_2:Span->Option Bool} {r:Int} {gid:FuncId} {caps:List V} {Sin:List Box} (hfn:∀x0 r,f_2 x0=some r->FnM Tryz.prog gid ([(.d (.agg (Span.enc x0)))]++caps) Sin (vB r) (Sin.map some)) (hbF:aG Tryz.prog gid=true) (hcapF:caps.flatMap frz=[]/\caps.map co0=caps) (hokF:okL Sin.length caps=true) (hsF:∀b∈Sin,b.ok Sin.length=true) (hmF:∀b∈Sin,b.mut=true) (hF:bJ s_1 f_2=some r) :
  FnM Tryz.prog 94 [(vL Span.enc s_1),(.fn gid caps)] Sin (vI r) (Sin.map some):=by
 refine FnM.of_wH ⟨Tryz.prog,19,[],[]⟩ rfl Tryz.func94 rfl rfl (lb_ rfl) (by kernel_rfl) ?_
 unfold bJ at hF
 refine aj (aa (vI 0) (af (au (aj (aa (vL Span.enc s_1) (bN Cb rfl wz (aa (vI 0) (af ?_))))))))
 obtain ⟨o_11,hj_12,hF⟩:=bind_some hF
 obtain ⟨hn_7,hj_12⟩:=bf hj_12
 refine cK (λ(s_8:Unit)=>[]) (λ(s_8:Unit)=>(oo 0 Sin)) (λ(k_3:Nat)=>(λ(s_8:Unit)=>[(0,(vL Span.enc s_1)),(1,(.fn gid caps)),(7,(vI (s_1.length:Int))),(8,(vI (k_3:Int)))])) (λk x s=>dK f_2 k x s) o_11 s_1 () hj_12 rfl (oL _) ?_ ?_
 ·rintro ⟨k_3,l_4,s_8⟩ ⟨hL_10,hD_6⟩
  dsimp only at hL_10 hD_6
  cases l_4 with
  | nil =>
   obtain rfl:=ae hL_10
   refine aj (aa (vB (decide ((k_3:Int)<(s_1.length:Int)))) (af ?_))
   refine au (aB rfl (drop_nil hD_6) (aU ?_))
   exact aV (s_8) rfl rfl (oL _)
  | cons x_5 l_4 =>
   obtain ⟨c_,hc_9,hL_10⟩:=bind_some hL_10
   refine aj (aa (vB (decide ((k_3:Int)<(s_1.length:Int)))) (af ?_))
   refine au (aD rfl (bz hD_6) (ay ?_))
   unfold dK at hc_9
   refine au (aN (aj (aa (vI (k_3:Int)) (aa (vI (k_3:Int)) (af (aj (aa (.fn gid caps) (aa (vL Span.enc s_1) (aa (vI (k_3:Int)) (eU zw rfl rfl (bH hD_6) rfl wz (bI pg zy rfl (.d (.agg (Span.enc x_5))) rfl wz ?_)))))))))))
   obtain ⟨r_13,hr_14,hc_9⟩:=bind_some hc_9
   refine zG (hfn _ _ hr_14) rfl hbF rfl rfl hcapF hokF hsF hmF rfl wz rfl (af ?_)
   rcases ak hc_9 with⟨hc_15,hc_9⟩|⟨hc_15,hc_9⟩
   ·refine aD rfl hc_15 (aj (aa (vI (k_3:Int)) (aa (vI (k_3:Int)) (af ?_))))
    obtain rfl:=ae hc_9
    obtain rfl:=ae hL_10
    obtain rfl:=ae hF
    exact aC (IB hsF (.inr rfl) [(vI (k_3:Int))] ⟨rfl,trivial⟩ rfl rfl rfl)
   ·refine aB rfl hc_15 (ay (ax (fJ (bE hD_6 hn_7) wz rfl (aa (vI ((k_3+1:Nat):Int)) (af ?_)))))
    obtain rfl:=ae hc_9
    exact aS (k_3+1,l_4,()) ⟨hL_10,aR hD_6⟩ (ls_ _) rfl (oL _)
 ·rintro s_8 ho_ sl_ H_ hp_ hq_
  subst ho_
  refine aO _ hp_ hq_ (aj (aa (vI (-1)) (af ?_)))
  obtain rfl:=ae hF
  exact aC (IB hsF (.inr rfl) [(vI (-1))] ⟨rfl,trivial⟩ rfl rfl rfl)
theorem jq {del2_3:(List Int)} {del2_4:Int} {r:Unit} (hF:bG del2_3 del2_4=some r) :
  FnM Tryz.prog 63 [.nil,(.fn 64 [(.ref (av 0) 0 0),(.ref (av 1) 0 0)])] [(.cells 1 [(vL eI del2_3)]),(.cells 1 [(vI del2_4)])] .nil [some (.cells 1 [(vL eI del2_3)]),some (.cells 1 [(vI del2_4)])]:=by
 refine FnM.of_wH ⟨Tryz.prog,42,[],[]⟩ rfl Tryz.func63 rfl rfl (lb_ rfl) (by kernel_rfl) ?_
 unfold bG at hF
 refine aj (aa .nil (af (aj (aa .nil (aa (.fn 64 [(.ref (av 0) 0 0),(.ref (av 1) 0 0)]) ?_)))))
 obtain ⟨r_5,hr_6,hF⟩:=bind_some hF
 refine bA 0 [0,1] il ft (jK (gid:=64) (caps:=[.ref (av 0) 0 0,.ref (av 1) 0 0]) (Sin:=[(.cells 1 [(vL eI del2_3)]),(.cells 1 [(vI del2_4)])]) (λ_ _ h_=>lI h_) hb64 ⟨rfl,rfl⟩ (by kernel_rfl) (Ju (by kernel_rfl)) (FX (by kernel_rfl)) hr_6) rfl hb94 rfl (by kernel_rfl) (by kernel_rfl) (by kernel_rfl) (by kernel_rfl) (by kernel_rfl) (by kernel_rfl) (by kernel_rfl) (by decide) (by kernel_rfl) wz (vI r_5) (by kernel_rfl) ([((av 0),some (.cells 1 [(vL eI del2_3)])),((av 1),some (.cells 1 [(vI del2_4)]))]:Hp) (by kernel_rfl) (aa (vI r_5) (af (au (aj (aa (vI r_5) (aa (vB (r_5==(-1))) (af ?_)))))))
 rcases ak hF with⟨hc_8,hF⟩|⟨hc_8,hF⟩
 ·refine aD rfl hc_8 (aj (aa .nil (aa .nil (af ?_))))
  obtain rfl:=ae hF
  exact aC (qB (.inr rfl) [.nil] _ [0,1] [av 0,av 1] ⟨rfl,trivial⟩ (.cons (Ae _) (.nil)) (by kernel_rfl) ⟨(by kernel_rfl),⟨(by kernel_rfl),trivial⟩⟩ (by decide) (by kernel_rfl))
 ·refine aB rfl hc_8 (ay (au (aj (aa (vI r_5) (aa (vI (w64 (r_5+1))) (aa (vI (w64 (r_5+1))) (af ?_)))))))
  obtain ⟨o_17,hj_18,hF⟩:=bind_some hF
  obtain ⟨nq_20,hj_18⟩:=dZ hj_18
  refine jh (λ(s_14:Unit)=>[(0,.nil),(5,(vI r_5))]) (λ(s_14:Unit)=>[((av 0),some (.cells 1 [(vL eI del2_3)])),((av 1),some (.cells 1 [(vI del2_4)]))]) (λ(k_9:Nat)=>(λ(s_14:Unit)=>[(0,.nil),(1,(.fn 64 [(.ref (av 0) 0 0),(.ref (av 1) 0 0)])),(5,(vI r_5)),(6,(vI (w64 (r_5+1))))])) (λs=>dh r_5 s) o_17 nq_20 () hj_18 rfl (aJ rfl) ?_ ?_
  ·rintro ⟨k_9,s_14⟩ hL_16
   dsimp only at hL_16
   cases k_9 with
   | zero=>cases hL_16
   | succ k_9 =>
    obtain ⟨c_,hc_15,hL_16⟩:=bind_some hL_16
    unfold dh at hc_15
    refine au (aj (aa (vI (w64 (r_5+1))) (aa .nil (h_lenn Cb rfl wz (aa (vB (decide ((w64 (r_5+1))<0))) (af ?_))))))
    rcases ak hc_15 with⟨hc_19,hc_15⟩|⟨hc_19,hc_15⟩
    ·refine aD rfl hc_19 (ay (au (aN (aj (aa .nil (aa (vI (w64 (r_5+1))) ?_))))))
     cases hc_15
    ·refine aB rfl hc_19 (aU ?_)
     obtain rfl:=ae hc_15
     obtain rfl:=ae hL_16
     exact aV (()) rfl rfl (aJ rfl)
  ·rintro s_14 ho_ sl_ H_ hp_ hq_
   subst ho_
   refine aO _ hp_ hq_ (aj (aa .nil (aa (vI r_5) ?_)))
   cases hF
theorem nU {a_1:ByteArray} {b_2:ByteArray} {r:Int} (hF:iR a_1 b_2=some r) :
  FnM Tryz.prog 88 [(vS a_1),(vS b_2)] [] (vI r) []:=by
 refine FnM.of_wH ⟨Tryz.prog,8,[],[]⟩ rfl Tryz.func88 rfl rfl (lb_ rfl) (by kernel_rfl) ?_
 unfold iR at hF
 refine aj (aa (vI 0) (af (aj (aa (vS a_1) (aa (vS b_2) (h_ext (MM (f:=121) Tryz.func121 rfl rfl (by kernel_rfl) (by kernel_rfl) _ _) rfl nb121 rfl wz (aa (vI (zg a_1 b_2)) (af ?_))))))))
 obtain rfl:=ae hF
 exact aC (aL [(vI (zg a_1 b_2))] ⟨rfl,trivial⟩)
theorem nK {a_1:ByteArray} {b_2:ByteArray} {r:Int} (hF:strings_Compare a_1 b_2=some r) :
  FnM Tryz.prog 53 [(vS a_1),(vS b_2)] [] (vI r) []:=by
 refine FnM.of_wH ⟨Tryz.prog,8,[],[]⟩ rfl Tryz.func53 rfl rfl (lb_ rfl) (by kernel_rfl) ?_
 unfold strings_Compare at hF
 refine aj (aa (vI 0) (af (aj (aa (vS a_1) (aa (vS b_2) ?_)))))
 obtain ⟨r_3,hr_4,hF⟩:=bind_some hF
 refine aF (nU hr_4) rfl hb88 rfl rfl rfl rfl wz (aa (vI r_3) (af ?_))
 obtain rfl:=ae hF
 exact aC (aL [(vI r_3)] ⟨rfl,trivial⟩)
theorem Et {vals_1:(List Int)} {r:Int} (hF:qN vals_1=some r) :
  FnM Tryz.prog 95 [(vL eI vals_1)] [] (vI r) []:=by
 refine FnM.of_wH ⟨Tryz.prog,18,[],[]⟩ rfl Tryz.func95 rfl rfl (lb_ rfl) (by kernel_rfl) ?_
 unfold qN at hF
 refine aj (aa (vI 0) (af (aj (aa (vI 0) (af (au (aj (aa (vL eI vals_1) (bN qc rfl wz (aa (vI 0) (af ?_)))))))))))
 obtain ⟨o_10,hj_11,hF⟩:=bind_some hF
 obtain ⟨hn_6,hj_11⟩:=bf hj_11
 refine cK (λ(s_7:Unit)=>[(3,(vI 0))]) (λ(s_7:Unit)=>[]) (λ(k_2:Nat)=>(λ(s_7:Unit)=>[(3,(vI 0)),(6,(vL eI vals_1)),(7,(vI (vals_1.length:Int))),(8,(vI (k_2:Int)))])) (λk x s=>pJ k x s) o_10 vals_1 () hj_11 rfl (aJ rfl) ?_ ?_
 ·rintro ⟨k_2,l_3,s_7⟩ ⟨hL_9,hD_5⟩
  dsimp only at hL_9 hD_5
  cases l_3 with
  | nil =>
   obtain rfl:=ae hL_9
   refine aj (aa (vB (decide ((k_2:Int)<(vals_1.length:Int)))) (af ?_))
   refine au (aB rfl (drop_nil hD_5) (aU ?_))
   exact aV (s_7) rfl rfl (aJ rfl)
  | cons x_4 l_3 =>
   obtain ⟨c_,hc_8,hL_9⟩:=bind_some hL_9
   refine aj (aa (vB (decide ((k_2:Int)<(vals_1.length:Int)))) (af ?_))
   refine au (aD rfl (bz hD_5) (ay ?_))
   unfold pJ at hc_8
   refine au (aN (aj (eU iW rfl rfl (bH hD_5) rfl wz (bI sz3 ag3 rfl (vI x_4) rfl wz (aa (vI x_4) (af (aj (aa (vI x_4) (aa (vI 0) (aa (vB (x_4 != 0)) (af ?_)))))))))))
   rcases ak hc_8 with⟨hc_12,hc_8⟩|⟨hc_12,hc_8⟩
   ·refine aD rfl hc_12 (aj (aa (vI x_4) (aa (vI x_4) (af ?_))))
    obtain rfl:=ae hc_8
    obtain rfl:=ae hL_9
    obtain rfl:=ae hF
    exact aC (aL [(vI x_4)] ⟨rfl,trivial⟩)
   ·refine aB rfl hc_12 (ay (ax (fJ (bE hD_5 hn_6) wz rfl (aa (vI ((k_2+1:Nat):Int)) (af ?_)))))
    obtain rfl:=ae hc_8
    exact aS (k_2+1,l_3,()) ⟨hL_9,aR hD_5⟩ (ls_ _) rfl (aJ rfl)
 ·rintro s_7 ho_ sl_ H_ hp_ hq_
  subst ho_
  refine aO _ hp_ hq_ (aj (aa (vI 0) (aa (vI 0) (af ?_))))
  obtain rfl:=ae hF
  exact aC (aL [(vI 0)] ⟨rfl,trivial⟩)
theorem xL {a_1:Span} {b_2:Span} {r:Int} (hF:iV a_1 b_2=some r) :
  FnM Tryz.prog 66 [(.d (.agg (Span.enc a_1))),(.d (.agg (Span.enc b_2)))] [] (vI r) []:=by
 refine FnM.of_wH ⟨Tryz.prog,36,[],[]⟩ rfl Tryz.func66 rfl rfl (lb_ rfl) (by kernel_rfl) ?_
 unfold iV at hF
 refine aj (bZ 0 (.inl rfl) (Span.v a_1) rfl (bK (mE _ _) (bK rfl (bK rfl rfl))) wz (λn_3=>bZ 0 (.inl rfl) (Span.v b_2) rfl (bK (mE _ _) (bK rfl (bK rfl rfl))) wz (λn_4=>aa (vI 0) (af (au (dA (aI yT rfl 0 rfl wz (aA 1 1 (.inr (by kernel_rfl)) (λ_ _ ag=>trivial) JQ JE rfl rfl (.d (dP Entry.enc b_2.f_e)) rfl wz ?_))))))))
 obtain ⟨y_5,hy_6,hF⟩:=bind_some hF
 refine bL (v':=(.d (.ptr (Entry.enc y_5)))) 6 rfl (su (enc:=Entry.enc) (y:=y_5) hy_6) (aa (.d (.ptr (Entry.enc y_5))) (yg ve rfl [.int .i64 y_5.Prio,dl eS y_5.Tags,.bool y_5.Gone] rfl rfl wz (bI sz3 ag3 rfl (vI y_5.Prio) rfl wz (aI yT rfl 0 rfl wz (aA 6 0 (.inr (by kernel_rfl)) (λ_ _ ag=>⟨.inl ⟨rfl,rfl⟩,trivial⟩) JQ JE rfl rfl (.d (dP Entry.enc a_1.f_e)) rfl wz ?_)))))
 obtain ⟨y_7,hy_8,hF⟩:=bind_some hF
 refine bL (v':=(.d (.ptr (Entry.enc y_7)))) 11 rfl (su (enc:=Entry.enc) (y:=y_7) hy_8) (aa (.d (.ptr (Entry.enc y_7))) (yg ve rfl [.int .i64 y_7.Prio,dl eS y_7.Tags,.bool y_7.Gone] rfl rfl wz (bI sz3 ag3 rfl (vI y_7.Prio) rfl wz ?_)))
 obtain ⟨r_9,hr_10,hF⟩:=bind_some hF
 refine aF (kM hr_10) rfl hb61 rfl rfl rfl rfl wz (aI yu rfl 1 rfl wz (aI gm rfl 1 rfl wz (aA 13 1 (.inr (by kernel_rfl)) (λ_ _ ag=>⟨.inl ⟨rfl,rfl⟩,⟨.inl ⟨rfl,rfl⟩,trivial⟩⟩) sz3 ag3 rfl rfl (vI b_2.f_time.From) rfl wz (aI yu rfl 1 rfl wz (aI gm rfl 1 rfl wz (aA 16 0 (.inr (by kernel_rfl)) (λ_ _ ag=>⟨.inl ⟨rfl,rfl⟩,⟨.inl ⟨rfl,rfl⟩,⟨.inl ⟨rfl,rfl⟩,trivial⟩⟩⟩) sz3 ag3 rfl rfl (vI a_1.f_time.From) rfl wz ?_))))))
 obtain ⟨r_11,hr_12,hF⟩:=bind_some hF
 refine aF (kM hr_12) rfl hb61 rfl rfl rfl rfl wz (aI yT rfl 0 rfl wz (aA 19 1 (.inr (by kernel_rfl)) (λ_ _ ag=>⟨.inl ⟨rfl,rfl⟩,⟨.inl ⟨rfl,rfl⟩,⟨.inl ⟨rfl,rfl⟩,⟨.inl ⟨rfl,rfl⟩,trivial⟩⟩⟩⟩) JQ JE rfl rfl (.d (dP Entry.enc b_2.f_e)) rfl wz ?_))
 obtain ⟨y_13,hy_14,hF⟩:=bind_some hF
 refine bL (v':=(.d (.ptr (Entry.enc y_13)))) 24 rfl (su (enc:=Entry.enc) (y:=y_13) hy_14) (aa (.d (.ptr (Entry.enc y_13))) (yg kg rfl (Entry.enc y_13) rfl rfl wz (bI sz9 ag9 rfl (vS y_13.Key) rfl wz (aI yT rfl 0 rfl wz (aA 24 0 (.inr (by kernel_rfl)) (λ_ _ ag=>⟨.inl ⟨rfl,rfl⟩,⟨.inl ⟨rfl,rfl⟩,⟨.inl ⟨rfl,rfl⟩,⟨.inl ⟨rfl,rfl⟩,⟨.inl ⟨rfl,rfl⟩,trivial⟩⟩⟩⟩⟩) JQ JE rfl rfl (.d (dP Entry.enc a_1.f_e)) rfl wz ?_)))))
 obtain ⟨y_15,hy_16,hF⟩:=bind_some hF
 refine bL (v':=(.d (.ptr (Entry.enc y_15)))) 29 rfl (su (enc:=Entry.enc) (y:=y_15) hy_16) (aa (.d (.ptr (Entry.enc y_15))) (yg kg rfl (Entry.enc y_15) rfl rfl wz (bI sz9 ag9 rfl (vS y_15.Key) rfl wz ?_)))
 obtain ⟨r_17,hr_18,hF⟩:=bind_some hF
 refine aF (nK hr_18) rfl hb53 rfl rfl rfl rfl wz (dU (([r_9,r_11,r_17]:List Int).map eI) iW qA rfl rfl rfl rfl rfl wz ?_)
 obtain ⟨r_19,hr_20,hF⟩:=bind_some hF
 refine aF (Et hr_20) rfl hb95 rfl rfl rfl rfl wz (aa (vI r_19) (af (aO (H0:=([(n_3,some (.cells 3 (Span.v a_1))),(n_4,some (.cells 3 (Span.v b_2)))]:Hp)) ([(4,(vI r_19))]:SL_) (by kernel_rfl) (DJ (by kernel_rfl)) ?_)))
 obtain rfl:=ae hF
 exact aC (aL [(vI r_19)] ⟨rfl,trivial⟩)
theorem jH {x_1:(List Span)} {r:Span} (hF:bn x_1=some r) :
  FnM Tryz.prog 65 [(dV (av 0) 3 x_1),(.fn 66 [])] (([]:List Box)++gI 3 Span.enc x_1) (.d (.agg (Span.enc r))) (([]:List Box).map some++gT x_1 (gB 3 Span.enc x_1)):=by
 refine FnM.of_wHv ⟨Tryz.prog,33,[],[]⟩ rfl Tryz.func65 rfl rfl (lb_ rfl) (by kernel_rfl) ?_
 unfold bn at hF
 refine aj (bR 0 (.inl rfl) z80 rfl wz (λn_3=>af (au (aj (aa (dV (av 0) 3 x_1) (A9 Cb rfl wz (aa (vB (decide ((x_1.length:Int)<1))) (af ?_))))))))
 obtain ⟨v_4,h_5,hF⟩:=bind_some hF
 refine aQ [(0,(dV (av 0) 3 x_1)),(1,(.fn 66 [])),(4,(.ref n_3 0 0))] [((av 0),gB 3 Span.enc x_1),(n_3,some (.cells 3 [(.d .nilp),(vI 0),(vI 0)]))] ?_ ?_
 ·rcases ak h_5 with⟨hc_6,h_5⟩|⟨hc_6,h_5⟩
  ·refine aD rfl hc_6 (ax ?_)
   cases h_5
  ·refine aB rfl hc_6 (ay ?_)
   obtain rfl:=ae h_5
   exact cu
 ·rintro ⟨⟩ _ sl_ H_ hp_ hq_
  refine aO _ hp_ hq_ (aj (aa (dV (av 0) 3 x_1) ?_))
  obtain ⟨_,hi_7,hF⟩:=bind_some hF
  refine mq zw rfl rfl (jG hi_7) (gW hi_7) wz ?_
  obtain ⟨e_8,hy_9,hF⟩:=bind_some hF
  refine kC 0 0 il ft pg zy rfl rfl hy_9 (.d (.agg (Span.enc e_8))) rfl wz (bR 0 (.inl rfl) z80 rfl wz (λn_10=>eH 0 il ft 2 pg rfl rfl (Span.v e_8) (xm rfl (bK (mE _ _) (bK rfl (bK rfl rfl))) rfl rfl) wz (af (au (aj (aa (vI 1) (af ?_)))))))
  obtain ⟨o_19,hj_20,hF⟩:=bind_some hF
  obtain ⟨nq_33,hj_20⟩:=dZ hj_20
  refine jh (λ(s_16:Int×(Option Entry)×Int×Int)=>[(4,(.ref n_3 0 0)),(5,(.ref n_10 0 0))]) (λ(s_16:Int×(Option Entry)×Int×Int)=>[((av 0),gB 3 Span.enc x_1),(n_3,some (.cells 3 [(.d .nilp),(vI 0),(vI 0)])),(n_10,some (.cells 3 [(.d (dP Entry.enc s_16.2.1)),(vI s_16.2.2.1),(vI s_16.2.2.2)]))]) (λ(k_11:Nat)=>(λ(s_16:Int×(Option Entry)×Int×Int)=>[(0,(dV (av 0) 3 x_1)),(1,(.fn 66 [])),(4,(.ref n_3 0 0)),(5,(.ref n_10 0 0)),(6,(vI s_16.1))])) (λs=>aZ x_1 s) o_19 nq_33 (1,e_8.f_e,e_8.f_time.From,e_8.f_time.To) hj_20 rfl (aJ rfl) ?_ ?_
  ·rintro ⟨k_11,s_16⟩ hL_18
   dsimp only at hL_18
   cases k_11 with
   | zero=>cases hL_18
   | succ k_11 =>
    obtain ⟨c_,hc_17,hL_18⟩:=bind_some hL_18
    unfold aZ at hc_17
    refine au (aj (aa (vI s_16.1) (aa (dV (av 0) 3 x_1) (A9 Cb rfl wz (aa (vB (decide (s_16.1<(x_1.length:Int)))) (af ?_))))))
    rcases ak hc_17 with⟨hc_21,hc_17⟩|⟨hc_21,hc_17⟩
    ·refine aD rfl hc_21 (ay (au (aN (au (dA (aa (.fn 66 []) (aa (dV (av 0) 3 x_1) (aa (vI s_16.1) ?_))))))))
     obtain ⟨_,hi_22,hc_17⟩:=bind_some hc_17
     refine mq zw rfl rfl (jG hi_22) (gW hi_22) wz ?_
     obtain ⟨e_23,hy_24,hc_17⟩:=bind_some hc_17
     refine kC 4 0 (.inr (by kernel_rfl)) (λ_ _ ag=>trivial) pg zy rfl rfl hy_24 (.d (.agg (Span.enc e_23))) rfl wz (aA 5 2 (.inr (by kernel_rfl)) (λ_ _ ag=>⟨.inl ⟨rfl,rfl⟩,trivial⟩) pg zy rfl rfl (.d (.agg (Span.enc (⟨s_16.2.1,(⟨s_16.2.2.1,s_16.2.2.2⟩:Window)⟩:Span)))) rfl wz ?_)
     obtain ⟨r_25,hr_26,hc_17⟩:=bind_some hc_17
     refine aF (xL hr_26) rfl hb66 rfl rfl rfl rfl wz (aa (vB (decide (r_25<0))) (af ?_))
     obtain ⟨v_27,h_28,hc_17⟩:=bind_some hc_17
     refine aQ [(0,(dV (av 0) 3 x_1)),(1,(.fn 66 [])),(4,(.ref n_3 0 0)),(5,(.ref n_10 0 0)),(6,(vI s_16.1))] [((av 0),gB 3 Span.enc x_1),(n_3,some (.cells 3 [(.d .nilp),(vI 0),(vI 0)])),(n_10,some (.cells 3 [(.d (dP Entry.enc v_27.1)),(vI v_27.2.1),(vI v_27.2.2)]))] ?_ ?_
     ·rcases ak h_28 with⟨hc_29,h_28⟩|⟨hc_29,h_28⟩
      ·refine aD rfl hc_29 (ax (aa (dV (av 0) 3 x_1) (aa (vI s_16.1) ?_)))
       obtain ⟨_,hi_30,h_28⟩:=bind_some h_28
       refine mq zw rfl rfl (jG hi_30) (gW hi_30) wz ?_
       obtain ⟨e_31,hy_32,h_28⟩:=bind_some h_28
       refine kC 0 0 il ft pg zy rfl rfl hy_32 (.d (.agg (Span.enc e_31))) rfl wz (eH 0 il ft 2 pg rfl rfl (Span.v e_31) (xm rfl (bK (mE _ _) (bK rfl (bK rfl rfl))) rfl rfl) wz (af ?_))
       obtain rfl:=ae h_28
       exact cu
      ·refine aB rfl hc_29 (ay ?_)
       obtain rfl:=ae h_28
       exact cu
     ·rintro ⟨⟩ _ sl_ H_ hp_ hq_
      refine aO _ hp_ hq_ (ax (aa (vI s_16.1) (aa (vI (w64 (s_16.1+1))) (aa (vI (w64 (s_16.1+1))) (af ?_)))))
      obtain rfl:=ae hc_17
      exact aS (k_11,((w64 (s_16.1+1)),v_27.1,v_27.2.1,v_27.2.2)) hL_18 (ls_ _) rfl (aJ rfl)
    ·refine aB rfl hc_21 (aU ?_)
     obtain rfl:=ae hc_17
     obtain rfl:=ae hL_18
     exact aV ((s_16.1,s_16.2.1,s_16.2.2.1,s_16.2.2.2)) rfl rfl (aJ rfl)
  ·rintro s_16 ho_ sl_ H_ hp_ hq_
   subst ho_
   refine aO _ hp_ hq_ (aj (aA 0 2 il ft pg zy rfl rfl (.d (.agg (Span.enc (⟨s_16.2.1,(⟨s_16.2.2.1,s_16.2.2.2⟩:Window)⟩:Span)))) rfl wz (eH 0 il ft 1 pg rfl rfl [(.d (dP Entry.enc s_16.2.1)),(vI s_16.2.2.1),(vI s_16.2.2.2)] (xm rfl (bK (mE _ _) (bK rfl (bK rfl rfl))) rfl rfl) wz (af ?_))))
   obtain rfl:=ae hF
   exact aC (BJ (bs:=([]:List Box)) (os:=([]:List Box)) (xs:=x_1) (o:=gB 3 Span.enc x_1) (.inr rfl) [(.d (.agg (Span.enc (⟨s_16.2.1,(⟨s_16.2.2.1,s_16.2.2.2⟩:Window)⟩:Span))))] ⟨⟨1,_,_,_,_,_,_,_,rfl,rfl,pg,zy,rfl⟩,trivial⟩ rfl rfl rfl rfl rfl (by kernel_rfl) oz rfl)
theorem j3 {l_1:(List Entry)} {p_2:Player} {wv_3:Window} {r:(List Slot_)} (hF:fq l_1 p_2 wv_3=some r) :
  FnM Tryz.prog 33 [(vL Entry.enc l_1),(.d (.agg (Player.enc p_2))),(.d (.agg (Window.enc wv_3)))] [] (vL Slot_.enc r) []:=by
 refine FnM.of_wH ⟨Tryz.prog,111,[],[]⟩ rfl Tryz.func33 rfl rfl (lb_ rfl) (by kernel_rfl) ?_
 unfold fq at hF
 refine aj (bZ 0 (.inl rfl) (Player.v p_2) rfl rfl wz (λn_4=>bZ 0 (.inl rfl) [(vI wv_3.From),(vI wv_3.To)] rfl rfl wz (λn_5=>aa .nil (af (aj (aa (vL Entry.enc l_1) (aA 0 0 il ft kQ mO rfl rfl (.d (.agg (Player.enc p_2))) rfl wz (aA 0 1 il ft eX iT rfl rfl (.d (.agg (Window.enc wv_3))) rfl wz ?_))))))))
 obtain ⟨r_6,hr_7,hF⟩:=bind_some hF
 refine Cj [] (yR hr_7) rfl hb34 rfl (by kernel_rfl) (by kernel_rfl) (by kernel_rfl) (by kernel_rfl) (by kernel_rfl) rfl (by decide) (by kernel_rfl) wz ([(n_4,some (.cells 4 (Player.v p_2))),(n_5,some (.cells 2 [(vI wv_3.From),(vI wv_3.To)]))]:Hp) (λ_=>by kernel_rfl) (λn_9=>aa (gV n_9 3 r_6) (af (aj (aa (gV n_9 3 r_6) ?_))))
 obtain ⟨r_10,hr_11,hF⟩:=bind_some hF
 obtain ⟨_,hs_12,hF⟩:=bind_some hF
 replace hs_12:=oG hs_12
 refine nG 0 [] 2 0 il ft (mX hr_11) rfl hb59 rfl rfl rfl (by kernel_rfl) rfl (.inl rfl) rfl (by kernel_rfl) (by kernel_rfl) (by kernel_rfl) (by kernel_rfl) rfl (by decide) (by kernel_rfl) oz (xP hs_12) wz ([(n_4,some (.cells 4 (Player.v p_2))),(n_5,some (.cells 2 [(vI wv_3.From),(vI wv_3.To)])),(n_9,gB 3 Span.enc r_10)]:Hp) (by kernel_rfl) (bL (v':=(gV n_9 3 r_10)) 18 rfl (bU hs_12.symm) (bL (v':=(gV n_9 3 r_10)) 19 rfl (bU hs_12.symm) (bL (v':=(gV n_9 3 r_10)) 7 rfl (bU hs_12.symm) (af (aj (aa (vL Entry.enc l_1) (aA 0 0 il ft kQ mO rfl rfl (.d (.agg (Player.enc p_2))) rfl wz (aA 0 1 il ft eX iT rfl rfl (.d (.agg (Window.enc wv_3))) rfl wz ?_))))))))
 obtain ⟨r_13,hr_14,hF⟩:=bind_some hF
 refine aF (zI hr_14) rfl hb62 rfl rfl rfl rfl wz (bR 0 (.inl rfl) z22 rfl wz (λn_15=>eH 0 il ft 3 sV rfl rfl [(vL eI r_13)] rfl wz (af (aj (aa .nil (af (aj (aa .nil (af (aj (aa (vI 0) (af (au (aj (bR 0 (.inl rfl) z3 rfl wz (λn_16=>eH 0 il ft 4 sz3 rfl rfl [(vI 0)] rfl wz (af (kz (λn_23=>kz (λn_24 => ?_))))))))))))))))))))
 obtain ⟨o_35,hj_36,hF⟩:=bind_some hF
 obtain ⟨nq_101,hj_36⟩:=dZ hj_36
 refine uE (σ:=(List Slot_)×(List Span)×Int×Int) (N:=Nm×Nm×Nm×Bool) (λp=>(λ(s_22:(List Slot_)×(List Span)×Int×Int) (n_29:Nm) (n_30:Nm) (n_31:Nm) (gb_32:Bool)=>([(9,(gV n_30 3 s_22.1))]:SL_)) p.1 p.2.1 p.2.2.1 p.2.2.2.1 p.2.2.2.2) (λp=>(λ(s_22:(List Slot_)×(List Span)×Int×Int) (n_29:Nm) (n_30:Nm) (n_31:Nm) (gb_32:Bool)=>([(n_4,some (.cells 4 (Player.v p_2))),(n_5,some (.cells 2 [(vI wv_3.From),(vI wv_3.To)])),(n_9,gB 3 Span.enc r_10),(n_15,some (.cells 1 [(vL eI r_13)])),(n_29,some (.cells 1 [(vI s_22.2.2.2)])),(n_30,gB 3 Slot_.enc s_22.1),(n_31,kB gb_32 3 Span.enc s_22.2.1)]:Hp)) p.1 p.2.1 p.2.2.1 p.2.2.2.1 p.2.2.2.2) (λ(k_17:Nat)=>(λp=>(λ(s_22:(List Slot_)×(List Span)×Int×Int) (n_29:Nm) (n_30:Nm) (n_31:Nm) (gb_32:Bool)=>([(7,(gV n_9 3 r_10)),(8,(.ref n_15 0 0)),(9,(gV n_30 3 s_22.1)),(10,(kV gb_32 n_31 3 s_22.2.1)),(11,(vI s_22.2.2.1)),(12,(.ref n_29 0 0))]:SL_)) p.1 p.2.1 p.2.2.1 p.2.2.2.1 p.2.2.2.2)) (λs=>gz r_13 r_10 s) o_35 nq_101 ((([]:List Slot_),([]:List Span),0,0),n_16,n_23,n_24,false) hj_36 rfl (aJ rfl) ?_ ?_
 ·rintro ⟨k_17,s_22,n_29,n_30,n_31,gb_32⟩ hL_34
  dsimp only at hL_34
  cases k_17 with
  | zero=>cases hL_34
  | succ k_17 =>
   obtain ⟨c_,hc_33,hL_34⟩:=bind_some hL_34
   unfold gz at hc_33
   refine au (aj (aA 0 4 il ft sz3 ag3 rfl rfl (vI s_22.2.2.2) rfl wz (aa (vI (w64 (s_22.2.2.2+1))) (aA 0 3 il ft sV vM rfl rfl (vL eI r_13) rfl wz (bN qc rfl wz (aa (vB (decide ((w64 (s_22.2.2.2+1))<(r_13.length:Int)))) (af ?_)))))))
   rcases ak hc_33 with⟨hc_37,hc_33⟩|⟨hc_37,hc_33⟩
   ·refine aD rfl hc_37 (ay (au (aN (au ?_))))
    obtain ⟨o_48,hj_49,hc_33⟩:=bind_some hc_33
    obtain ⟨nq_100,hj_49⟩:=dZ hj_49
    refine uE (σ:=(List Span)×Int) (N:=Nm) (λp=>(λ(s_43:(List Span)×Int) (n_45:Nm)=>([(7,(gV n_9 3 r_10)),(8,(.ref n_15 0 0)),(9,(gV n_30 3 s_22.1)),(10,(kV gb_32 n_45 3 s_43.1)),(11,(vI s_43.2)),(12,(.ref n_29 0 0))]:SL_)) p.1 p.2) (λp=>(λ(s_43:(List Span)×Int) (n_45:Nm)=>([(n_4,some (.cells 4 (Player.v p_2))),(n_5,some (.cells 2 [(vI wv_3.From),(vI wv_3.To)])),(n_9,gB 3 Span.enc r_10),(n_15,some (.cells 1 [(vL eI r_13)])),(n_29,some (.cells 1 [(vI s_22.2.2.2)])),(n_30,gB 3 Slot_.enc s_22.1),(n_45,kB gb_32 3 Span.enc s_43.1)]:Hp)) p.1 p.2) (λ(k_38:Nat)=>(λp=>(λ(s_43:(List Span)×Int) (n_45:Nm)=>([(7,(gV n_9 3 r_10)),(8,(.ref n_15 0 0)),(9,(gV n_30 3 s_22.1)),(10,(kV gb_32 n_45 3 s_43.1)),(11,(vI s_43.2)),(12,(.ref n_29 0 0))]:SL_)) p.1 p.2)) (λs=>gy r_10 r_13 s_22 s) o_48 nq_100 ((s_22.2.1,s_22.2.2.1),n_31) hj_49 rfl (aJ rfl) ?_ ?_
    ·rintro ⟨k_38,s_43,n_45⟩ hL_47
     dsimp only at hL_47
     cases k_38 with
     | zero=>cases hL_47
     | succ k_38 =>
      obtain ⟨c_,hc_46,hL_47⟩:=bind_some hL_47
      unfold gy at hc_46
      refine au (au ?_)
      obtain ⟨v_50,h_51,hc_46⟩:=bind_some hc_46
      refine aQ [(7,(gV n_9 3 r_10)),(8,(.ref n_15 0 0)),(9,(gV n_30 3 s_22.1)),(10,(kV gb_32 n_45 3 s_43.1)),(11,(vI s_43.2)),(12,(.ref n_29 0 0)),(48,(vB v_50))] [(n_4,some (.cells 4 (Player.v p_2))),(n_5,some (.cells 2 [(vI wv_3.From),(vI wv_3.To)])),(n_9,gB 3 Span.enc r_10),(n_15,some (.cells 1 [(vL eI r_13)])),(n_29,some (.cells 1 [(vI s_22.2.2.2)])),(n_30,gB 3 Slot_.enc s_22.1),(n_45,kB gb_32 3 Span.enc s_43.1)] ?_ ?_
      ·refine dA (aa (vI s_43.2) (aa (gV n_9 3 r_10) (yG Cb rfl wz (aa (vB (decide (s_43.2<(r_10.length:Int)))) ?_))))
       rcases ak h_51 with⟨hc_52,h_51⟩|⟨hc_52,h_51⟩
       ·refine aH rfl hc_52 wz (aK (gV n_9 3 r_10) wa rfl (aK (vI s_43.2) wa rfl ?_))
        obtain ⟨_,hi_53,h_51⟩:=bind_some h_51
        refine uJ zw rfl rfl (jG hi_53) (gW hi_53) wa (aI yu rfl 1 rfl wa (aI gm rfl 1 rfl wa ?_))
        obtain ⟨e_54,hy_55,h_51⟩:=bind_some h_51
        refine kC 10 2 (.inr (by kernel_rfl)) (λ_ _ ag=>trivial) sz3 ag3 rfl rfl hy_55 (vI e_54.f_time.From) rfl wa (aA 11 3 (.inr (by kernel_rfl)) (λ_ _ ag=>⟨.inl ⟨rfl,rfl⟩,trivial⟩) sV vM rfl rfl (vL eI r_13) rfl wa (aA 12 4 (.inr (by kernel_rfl)) (λ_ _ ag=>⟨.inl ⟨rfl,rfl⟩,⟨.inl ⟨rfl,rfl⟩,trivial⟩⟩) sz3 ag3 rfl rfl (vI s_22.2.2.2) rfl wa ?_))
        obtain ⟨y_56,hy_57,h_51⟩:=bind_some h_51
        refine eU iW rfl rfl hy_57 rfl wa (bI sz3 ag3 rfl (vI y_56) rfl wa (aK (vB (decide (e_54.f_time.From<=y_56))) wa rfl (aa (vB (decide (e_54.f_time.From<=y_56))) (af ?_))))
        obtain rfl:=ae h_51
        exact cu
       ·refine aH rfl hc_52 wz (ah (ah (ah (ah (ah (ah (ah (ah (ah (ah (ah (aa (vB false) (af ?_)))))))))))))
        obtain rfl:=ae h_51
        exact cu
      ·rintro ⟨⟩ _ sl_ H_ hp_ hq_
       refine aO _ hp_ hq_ ?_
       rcases ak hc_46 with⟨hc_58,hc_46⟩|⟨hc_58,hc_46⟩
       ·refine aD rfl hc_58 (ay (au (aN (ax (aa (kV gb_32 n_45 3 s_43.1) (aa (gV n_9 3 r_10) (aa (vI s_43.2) ?_)))))))
        obtain ⟨_,hi_59,hc_46⟩:=bind_some hc_46
        refine uJ zw rfl rfl (jG hi_59) (gW hi_59) wz ?_
        obtain ⟨e_60,hy_61,hc_46⟩:=bind_some hc_46
        refine kC 0 2 il ft pg zy rfl rfl hy_61 (.d (.agg (Span.enc e_60))) rfl wz (dU (([e_60]:List Span).map Span.enc) zw ez77 rfl (Oo rfl rfl (bK (mE _ _) (bK rfl (bK rfl rfl))) rfl) rfl rfl rfl wz ?_)
        obtain ⟨a_62,hz_63,hc_46⟩:=bind_some hc_46
        refine h_appk 0 il ft (i:=6) JU JU pg z80 rfl (by decide) by80 (by decide) (λ_=>rfl) rfl rfl rfl hz_63 wz (λn_64=>aa (kV gb_32 n_64 3 a_62) (af (ax (aa (vI s_43.2) (aa (vI (w64 (s_43.2+1))) (aa (vI (w64 (s_43.2+1))) (af ?_)))))))
        obtain rfl:=ae hc_46
        exact aS (k_38,(a_62,(w64 (s_43.2+1))),n_64) hL_47 (ls_ _) rfl (aJ rfl)
       ·refine aB rfl hc_58 (aU ?_)
        obtain rfl:=ae hc_46
        obtain rfl:=ae hL_47
        exact aV ((s_43.1,s_43.2),n_45) rfl rfl (aJ rfl)
    ·rintro ⟨s_43,n_45⟩ ho_ sl_ H_ hp_ hq_
     subst ho_
     refine aO _ hp_ hq_ (aj (aa (kV gb_32 n_45 3 s_43.1) (aa (.fn 64 [(.ref n_15 0 0),(.ref n_29 0 0)]) ?_)))
     obtain ⟨r_65,hr_66,hc_33⟩:=bind_some hc_33
     obtain ⟨_,hl_68,hc_33⟩:=bind_some hc_33
     obtain ⟨_,hr_67,hc_33⟩:=bind_some hc_33
     replace hl_68:=leL_le hl_68
     refine LG [3,4] 6 0 (jr hr_66) (jq hr_67) hl_68 (λ_ _=>rfl) rfl hb63 rfl rfl (by kernel_rfl) (by kernel_rfl) (by kernel_rfl) rfl rfl (by kernel_rfl) (by kernel_rfl) (by kernel_rfl) (by kernel_rfl) rfl rfl (by decide) wz ([(n_4,some (.cells 4 (Player.v p_2))),(n_5,some (.cells 2 [(vI wv_3.From),(vI wv_3.To)])),(n_9,gB 3 Span.enc r_10),(n_15,some (.cells 1 [(vL eI r_13)])),(n_29,some (.cells 1 [(vI s_22.2.2.2)])),(n_30,gB 3 Slot_.enc s_22.1),(n_45,kB (gb_32 || !s_43.1.isEmpty) 3 Span.enc r_65)]:Hp) (by kernel_rfl) (aa (kV (gb_32 || !s_43.1.isEmpty) n_45 3 r_65) (af (aj (aa (vS (⟨#[]⟩:ByteArray)) (af (au (aj (aa (kV (gb_32 || !s_43.1.isEmpty) n_45 3 r_65) (h_lenk Cb rfl wz (aa (vB (decide ((r_65.length:Int)>0))) (af ?_)))))))))))
     obtain ⟨v_69,h_70,hc_33⟩:=bind_some hc_33
     refine aQ [(7,(gV n_9 3 r_10)),(8,(.ref n_15 0 0)),(9,(gV n_30 3 s_22.1)),(10,(kV (gb_32 || !s_43.1.isEmpty) n_45 3 r_65)),(11,(vI s_43.2)),(12,(.ref n_29 0 0)),(13,(vS v_69))] [(n_4,some (.cells 4 (Player.v p_2))),(n_5,some (.cells 2 [(vI wv_3.From),(vI wv_3.To)])),(n_9,gB 3 Span.enc r_10),(n_15,some (.cells 1 [(vL eI r_13)])),(n_29,some (.cells 1 [(vI s_22.2.2.2)])),(n_30,gB 3 Slot_.enc s_22.1),(n_45,kB (gb_32 || !s_43.1.isEmpty) 3 Span.enc r_65)] ?_ ?_
     ·rcases ak h_70 with⟨hc_71,h_70⟩|⟨hc_71,h_70⟩
      ·refine aD rfl hc_71 (ax (aa (kV (gb_32 || !s_43.1.isEmpty) n_45 3 r_65) ?_))
       obtain ⟨_,hn_72,h_70⟩:=bind_some h_70
       replace hn_72:=F5 hn_72
       refine bL (v':=(gV n_45 3 r_65)) 10 rfl (Bp hn_72) (bL (v':=(gV n_45 3 r_65)) 60 rfl (Bp hn_72) (bL (v':=(gV n_45 3 r_65)) 61 rfl (Bp hn_72) (bL (v':=(gV n_45 3 r_65)) 64 rfl (Bp hn_72) (zo 6 rfl (kB_gB hn_72) ?_))))
       obtain ⟨r_73,hr_74,h_70⟩:=bind_some h_70
       refine nG 0 [] 6 0 il ft (jH hr_74) rfl hb65 rfl rfl rfl (by kernel_rfl) rfl (.inl rfl) rfl (by kernel_rfl) (by kernel_rfl) (by kernel_rfl) (by kernel_rfl) rfl (by decide) (by kernel_rfl) oz (xP rfl) wz ([(n_4,some (.cells 4 (Player.v p_2))),(n_5,some (.cells 2 [(vI wv_3.From),(vI wv_3.To)])),(n_9,gB 3 Span.enc r_10),(n_15,some (.cells 1 [(vL eI r_13)])),(n_29,some (.cells 1 [(vI s_22.2.2.2)])),(n_30,gB 3 Slot_.enc s_22.1),(n_45,gB 3 Span.enc r_65)]:Hp) (by kernel_rfl) (bL (v':=(kV (gb_32 || !s_43.1.isEmpty) n_45 3 r_65)) 10 rfl (Bp hn_72).symm (bL (v':=(kV (gb_32 || !s_43.1.isEmpty) n_45 3 r_65)) 60 rfl (Bp hn_72).symm (bL (v':=(kV (gb_32 || !s_43.1.isEmpty) n_45 3 r_65)) 61 rfl (Bp hn_72).symm (bL (v':=(kV (gb_32 || !s_43.1.isEmpty) n_45 3 r_65)) 64 rfl (Bp hn_72).symm (zo (b':=kB (gb_32 || !s_43.1.isEmpty) 3 Span.enc r_65) 6 rfl (kB_gB hn_72).symm (Ky fr80_0 rfl (.d (dP Entry.enc r_73.f_e)) rfl wz ?_))))))
       obtain ⟨y_75,hy_76,h_70⟩:=bind_some h_70
       refine bL (v':=(.d (.ptr (Entry.enc y_75)))) 66 rfl (su (enc:=Entry.enc) (y:=y_75) hy_76) (aa (.d (.ptr (Entry.enc y_75))) (yg kg rfl (Entry.enc y_75) rfl rfl wz (bI sz9 ag9 rfl (vS y_75.Key) rfl wz (aa (vS y_75.Key) (af ?_)))))
       obtain rfl:=ae h_70
       exact cu
      ·refine aB rfl hc_71 (ay ?_)
       obtain rfl:=ae h_70
       exact cu
     ·rintro ⟨⟩ _ sl_ H_ hp_ hq_
      refine aO _ hp_ hq_ (aj (aa (gV n_30 3 s_22.1) (yG BZ rfl wz (aa (vI (w64 ((s_22.1.length:Int)-1))) (aa (vI (w64 ((s_22.1.length:Int)-1))) (af (au ?_)))))))
      obtain ⟨v_77,h_78,hc_33⟩:=bind_some hc_33
      refine aQ [(7,(gV n_9 3 r_10)),(8,(.ref n_15 0 0)),(9,(gV n_30 3 s_22.1)),(10,(kV (gb_32 || !s_43.1.isEmpty) n_45 3 r_65)),(11,(vI s_43.2)),(12,(.ref n_29 0 0)),(13,(vS v_69)),(14,(vI (w64 ((s_22.1.length:Int)-1)))),(83,(vB v_77))] [(n_4,some (.cells 4 (Player.v p_2))),(n_5,some (.cells 2 [(vI wv_3.From),(vI wv_3.To)])),(n_9,gB 3 Span.enc r_10),(n_15,some (.cells 1 [(vL eI r_13)])),(n_29,some (.cells 1 [(vI s_22.2.2.2)])),(n_30,gB 3 Slot_.enc s_22.1),(n_45,kB (gb_32 || !s_43.1.isEmpty) 3 Span.enc r_65)] ?_ ?_
      ·refine ax (aa (vI (w64 ((s_22.1.length:Int)-1))) (aa (vB (decide ((w64 ((s_22.1.length:Int)-1))>=0))) ?_))
       rcases ak h_78 with⟨hc_79,h_78⟩|⟨hc_79,h_78⟩
       ·refine aH rfl hc_79 wz (aK (gV n_30 3 s_22.1) wa rfl (aK (vI (w64 ((s_22.1.length:Int)-1))) wa rfl ?_))
        obtain ⟨_,hi_80,h_78⟩:=bind_some h_78
        refine uJ zf rfl rfl (jG hi_80) (gW hi_80) wa (aI uR rfl 2 rfl wa ?_)
        obtain ⟨e_81,hy_82,h_78⟩:=bind_some h_78
        refine kC 0 5 il ft sz9 ag9 rfl rfl hy_82 (vS e_81.Entry) rfl wa (aK (vS v_69) wa rfl (aK (vB (sEq e_81.Entry v_69)) wa rfl (aa (vB (sEq e_81.Entry v_69)) (af ?_))))
        obtain rfl:=ae h_78
        exact cu
       ·refine aH rfl hc_79 wz (ah (ah (ah (ah (ah (ah (ah (aa (vB false) (af ?_)))))))))
        obtain rfl:=ae h_78
        exact cu
      ·rintro ⟨⟩ _ sl_ H_ hp_ hq_
       refine aO _ hp_ hq_ ?_
       obtain ⟨v_83,h_84,hc_33⟩:=bind_some hc_33
       refine jO (β:=Nm) (λ(n_85:Nm)=>([(7,(gV n_9 3 r_10)),(8,(.ref n_15 0 0)),(9,(gV n_85 3 v_83)),(10,(kV (gb_32 || !s_43.1.isEmpty) n_45 3 r_65)),(11,(vI s_43.2)),(12,(.ref n_29 0 0))]:SL_)) (λ(n_85:Nm)=>([(n_4,some (.cells 4 (Player.v p_2))),(n_5,some (.cells 2 [(vI wv_3.From),(vI wv_3.To)])),(n_9,gB 3 Span.enc r_10),(n_15,some (.cells 1 [(vL eI r_13)])),(n_29,some (.cells 1 [(vI s_22.2.2.2)])),(n_85,gB 3 Slot_.enc v_83),(n_45,kB (gb_32 || !s_43.1.isEmpty) 3 Span.enc r_65)]:Hp)) (λ_=>True) ?_ ?_
       ·rcases ak h_84 with⟨hc_86,h_84⟩|⟨hc_86,h_84⟩
        ·refine aD rfl hc_86 (ax (aa (gV n_30 3 s_22.1) (aa (vI (w64 ((s_22.1.length:Int)-1))) (aA 0 3 il ft sV vM rfl rfl (vL eI r_13) rfl wz (aA 0 4 il ft sz3 ag3 rfl rfl (vI s_22.2.2.2) rfl wz (aa (vI (w64 (s_22.2.2.2+1))) ?_))))))
         obtain ⟨y_87,hy_88,h_84⟩:=bind_some h_84
         refine eU iW rfl rfl hy_88 rfl wz (bI sz3 ag3 rfl (vI y_87) rfl wz ?_)
         obtain ⟨_,hi_89,h_84⟩:=bind_some h_84
         refine uJ zf rfl rfl (jG hi_89) (gW hi_89) wz (aI wG rfl 0 rfl wz (aI gN rfl 1 rfl wz ?_))
         obtain ⟨e_90,hy_91,h_84⟩:=bind_some h_84
         refine lG 0 il ft 5 sz3 rfl rfl hy_91 (⟨(⟨e_90.Time.From,y_87⟩:Window),e_90.Entry⟩:Slot_) rfl wz (bL (v':=(gV n_30 3 (s_22.1.set (0+((w64 ((s_22.1.length:Int)-1))).toNat) (⟨(⟨e_90.Time.From,y_87⟩:Window),e_90.Entry⟩:Slot_)))) 9 rfl (bU (by simp)) (bL (v':=(gV n_30 3 (s_22.1.set (0+((w64 ((s_22.1.length:Int)-1))).toNat) (⟨(⟨e_90.Time.From,y_87⟩:Window),e_90.Entry⟩:Slot_)))) 84 rfl (bU (by simp)) (af ?_)))
         obtain rfl:=ae h_84
         exact aV n_30 trivial rfl (aJ rfl)
        ·refine aB rfl hc_86 (dA (aa (gV n_30 3 s_22.1) (aA 1 3 (.inr (by kernel_rfl)) (λ_ _ ag=>trivial) sV vM rfl rfl (vL eI r_13) rfl wz (aA 2 4 (.inr (by kernel_rfl)) (λ_ _ ag=>⟨.inl ⟨rfl,rfl⟩,trivial⟩) sz3 ag3 rfl rfl (vI s_22.2.2.2) rfl wz ?_))))
         obtain ⟨y_92,hy_93,h_84⟩:=bind_some h_84
         refine eU iW rfl rfl hy_93 rfl wz (bI sz3 ag3 rfl (vI y_92) rfl wz (aA 5 3 (.inr (by kernel_rfl)) (λ_ _ ag=>⟨.inl ⟨rfl,rfl⟩,⟨.inl ⟨rfl,rfl⟩,trivial⟩⟩) sV vM rfl rfl (vL eI r_13) rfl wz (aA 6 4 (.inr (by kernel_rfl)) (λ_ _ ag=>⟨.inl ⟨rfl,rfl⟩,⟨.inl ⟨rfl,rfl⟩,⟨.inl ⟨rfl,rfl⟩,trivial⟩⟩⟩) sz3 ag3 rfl rfl (vI s_22.2.2.2) rfl wz (aa (vI (w64 (s_22.2.2.2+1))) ?_))))
         obtain ⟨y_94,hy_95,h_84⟩:=bind_some h_84
         refine eU iW rfl rfl hy_95 rfl wz (bI sz3 ag3 rfl (vI y_94) rfl wz (aK (.d (.agg (Window.enc (⟨y_92,y_94⟩:Window)))) wz (by kernel_rfl) (aa (vS v_69) (aK (.d (.agg (Slot_.enc (⟨(⟨y_92,y_94⟩:Window),v_69⟩:Slot_)))) wz (by kernel_rfl) (dU (([(⟨(⟨y_92,y_94⟩:Window),v_69⟩:Slot_)]:List Slot_).map Slot_.enc) zf ez35 rfl rfl rfl rfl rfl wz ?_)))))
         obtain ⟨a_96,hz_97,h_84⟩:=bind_some h_84
         refine kI 14 (.inr (by kernel_rfl)) (λ_ _ ag=>⟨.inr (.inl (Lh (Fx ag (i:=5) (j:=3) rfl rfl (by decide)))),⟨.inr (.inl (Lh (Fx ag (i:=5) (j:=4) rfl rfl (by decide)))),⟨.inr (.inl (Lh (Fx ag (i:=5) (j:=3) rfl rfl (by decide)))),⟨.inr (.inl (Lh (Fx ag (i:=5) (j:=4) rfl rfl (by decide)))),trivial⟩⟩⟩⟩) (i:=5) el35 el35 yo z54 rfl (by decide) by54 (by decide) (λ_=>rfl) rfl rfl rfl hz_97 wz (λn_98=>aa (gV n_98 3 a_96) (af ?_))
         obtain rfl:=ae h_84
         exact aV n_98 trivial rfl (aJ rfl)
       ·rintro n_85 _ sl_ H_ hp_ hq_
        refine aO _ hp_ hq_ (au (aj (aA 0 4 il ft sz3 ag3 rfl rfl (vI s_22.2.2.2) rfl wz (af (ax (bR 0 (.inl rfl) z3 rfl wz (λn_99=>eH 0 il ft 7 sz3 rfl rfl [(vI s_22.2.2.2)] rfl wz (af (ax (aA 0 7 il ft sz3 ag3 rfl rfl (vI s_22.2.2.2) rfl wz (aa (vI (w64 (s_22.2.2.2+1))) (eH 0 il ft 7 sz3 rfl rfl [(vI (w64 (s_22.2.2.2+1)))] rfl wz (af ?_)))))))))))))
        obtain rfl:=ae hc_33
        exact aS (k_17,(v_83,r_65,s_43.2,(w64 (s_22.2.2.2+1))),n_99,n_85,n_45,(gb_32 || !s_43.1.isEmpty)) hL_34 (ls_ _) rfl (M3 [0,1,2,3,7,5,6] (by decide) rfl)
   ·refine aB rfl hc_37 (aU ?_)
    obtain rfl:=ae hc_33
    obtain rfl:=ae hL_34
    exact aV ((s_22.1,s_22.2.1,s_22.2.2.1,s_22.2.2.2),n_29,n_30,n_31,gb_32) rfl rfl (aJ rfl)
 ·rintro ⟨s_22,n_29,n_30,n_31,gb_32⟩ ho_ sl_ H_ hp_ hq_
  subst ho_
  refine aO _ hp_ hq_ (aj (aa (gV n_30 3 s_22.1) (aa (gV n_30 3 s_22.1) (af (iw 5 rfl (dJ 6 5 rfl rfl (dJ 9 5 rfl rfl (dJ 110 5 rfl rfl ?_))))))))
  obtain rfl:=ae hF
  exact aC (aL [(vL Slot_.enc s_22.1)] ⟨rfl,trivial⟩)
theorem xN {l_1:(List Entry)} {p_2:Player} {wv_3:Window} {r:(List Slot_)×Int} (hF:iP l_1 p_2 wv_3=some r) :
  FnM Tryz.prog 7 [(vL Entry.enc l_1),(.d (.agg (Player.enc p_2))),(.d (.agg (Window.enc wv_3)))] [] (.tup [(vL Slot_.enc r.1),(vI r.2)]) []:=by
 refine FnM.of_wH ⟨Tryz.prog,20,[],[]⟩ rfl Tryz.func7 rfl rfl (lb_ rfl) (by kernel_rfl) ?_
 unfold iP at hF
 refine aj (bZ 0 (.inl rfl) (Player.v p_2) rfl rfl wz (λn_4=>bZ 0 (.inl rfl) [(vI wv_3.From),(vI wv_3.To)] rfl rfl wz (λn_5=>aa .nil (aa (vI 0) (af (au (aj (aa (vL Entry.enc l_1) (aA 0 0 il ft kQ mO rfl rfl (.d (.agg (Player.enc p_2))) rfl wz (aA 0 1 il ft eX iT rfl rfl (.d (.agg (Window.enc wv_3))) rfl wz ?_))))))))))
 obtain ⟨r_6,hr_7,hF⟩:=bind_some hF
 refine aF (jF hr_7) rfl hb32 rfl rfl rfl rfl wz (aa (vI r_6) (af (aj (aa (vI r_6) (aa (vB (r_6 != 0)) (af ?_))))))
 rcases ak hF with⟨hc_8,hF⟩|⟨hc_8,hF⟩
 ·refine aD rfl hc_8 (aj (aa (vI r_6) (aa .nil (aa (vI r_6) (af ?_)))))
  obtain rfl:=ae hF
  exact aC (aL [.nil,(vI r_6)] ⟨rfl,⟨rfl,trivial⟩⟩)
 ·refine aB rfl hc_8 (ay (aj (aa (vL Entry.enc l_1) (aA 0 0 il ft kQ mO rfl rfl (.d (.agg (Player.enc p_2))) rfl wz (aA 0 1 il ft eX iT rfl rfl (.d (.agg (Window.enc wv_3))) rfl wz ?_)))))
  obtain ⟨r_9,hr_10,hF⟩:=bind_some hF
  refine aF (j3 hr_10) rfl hb33 rfl rfl rfl rfl wz (aa (vL Slot_.enc r_9) (aa (vI 0) (af ?_)))
  obtain rfl:=ae hF
  exact aC (aL [(vL Slot_.enc r_9),(vI 0)] ⟨rfl,⟨rfl,trivial⟩⟩)
end Go.Proofs.YthcdokkcamcnmaaGreatDoor.Law

