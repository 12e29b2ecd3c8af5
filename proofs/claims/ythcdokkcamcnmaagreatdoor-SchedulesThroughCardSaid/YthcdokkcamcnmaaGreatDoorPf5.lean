/-
 The machine computes these plain functions (written by a program of ours).
-/
import Derived.Test.YthcdokkcamcnmaaGreatDoorFacts
import Derived.Test.YthcdokkcamcnmaaGreatDoorDefs
import Derived.Test.YthcdokkcamcnmaaGreatDoorPf4
open Go Go.Eng Go.Proofs
namespace Go.Proofs.YthcdokkcamcnmaaGreatDoor.Law
set_option maxRecDepth 100000
set_option linter.unusedVariables false
set_option maxHeartbeats 1000000
theorem z8 {e_1:Entry} {d_2:Int} {r:Bool} (hF:mJ e_1 d_2=some r) :
  FnM Tryz.prog 85 [(.d (.agg (Entry.enc e_1))),(vI d_2)] [] (vB r) []:=by
 refine FnM.of_wH ⟨Tryz.prog,37,[],[]⟩ rfl Tryz.func85 rfl rfl (lb_ rfl) (by kernel_rfl) ?_
 unfold mJ at hF
 refine aj (bZ 0 (.inl rfl) (Entry.v e_1) rfl rfl wz (λn_3=>aa (vB false) (af (au ?_))))
 obtain ⟨v_4,h_5,hF⟩:=bind_some hF
 refine aQ [(4,(vB v_4))] [(n_3,some (.cells 13 (Entry.v e_1)))] ?_ ?_
 ·refine ax (aa (vI d_2) (aI rf rfl 3 rfl wz (aA 0 0 il ft sz3 ag3 rfl rfl (vI e_1.First) rfl wz (aI ru rfl 4 rfl wz (aA 0 0 il ft sz3 ag3 rfl rfl (vI e_1.Last) rfl wz ?_)))))
  obtain ⟨r_6,hr_7,h_5⟩:=bind_some h_5
  refine aF (jJ hr_7) rfl BH rfl rfl rfl rfl wz ?_
  rcases ak h_5 with⟨hc_8,h_5⟩|⟨hc_8,h_5⟩
  ·refine aH rfl hc_8 wz (aK (vI d_2) wa rfl (aI rf rfl 3 rfl wa (aA 0 0 il ft sz3 ag3 rfl rfl (vI e_1.First) rfl wa (aK (vI (w64 (d_2-e_1.First))) wa rfl (aI Ec rfl 5 rfl wa (aA 0 0 il ft sz3 ag3 rfl rfl (vI e_1.Every) rfl wa ?_))))))
   obtain ⟨q_9,hz_10,h_5⟩:=bind_some h_5
   refine Iz rfl rfl hz_10 wa (aK (vB (q_9==0)) wa rfl (aa (vB (q_9==0)) ?_))
   rcases ak h_5 with⟨hc_11,h_5⟩|⟨hc_11,h_5⟩
   ·refine aH rfl hc_11 wz (aI Ef rfl 6 rfl wa (aA 0 0 il ft sz3 ag3 rfl rfl (vI e_1.Days) rfl wa (aK (vI d_2) wa rfl (aK (vI (d_2.tmod 7)) wa rfl ?_))))
    obtain ⟨q_12,hz_13,h_5⟩:=bind_some h_5
    refine Fv rfl rfl hz_13 wa (aK (vI (xK .i64 q_12 1)) wa rfl (aK (vB ((xK .i64 q_12 1)==1)) wa rfl (aa (vB ((xK .i64 q_12 1)==1)) ?_)))
    rcases ak h_5 with⟨hc_14,h_5⟩|⟨hc_14,h_5⟩
    ·refine aH rfl hc_14 wz (aI sZ rfl 7 rfl wa (aA 0 0 il ft sV vM rfl rfl (vL eI e_1.Except) rfl wa (aK (vI d_2) wa rfl ?_)))
     obtain ⟨r_15,hr_16,h_5⟩:=bind_some h_5
     refine aF (q8 hr_16) rfl hb110 rfl rfl rfl rfl wa (aK (vB (!r_15)) wa rfl (aa (vB (!r_15)) (aa (vB (!r_15)) (af ?_))))
     obtain rfl:=ae h_5
     exact cu
    ·refine aH rfl hc_14 wz (ah (ah (ah (ah (ah (aa (vB false) (aa (vB false) (af ?_))))))))
     obtain rfl:=ae h_5
     exact cu
   ·refine aH rfl hc_11 wz (ah (ah (ah (ah (ah (ah (ah (aa (vB false) (aa (vB false) (ah (ah (ah (ah (ah (aa (vB false) (aa (vB false) (af ?_)))))))))))))))))
    obtain rfl:=ae h_5
    exact cu
  ·refine aH rfl hc_8 wz (ah (ah (ah (ah (ah (ah (ah (ah (aa (vB false) (aa (vB false) (ah (ah (ah (ah (ah (ah (ah (aa (vB false) (aa (vB false) (ah (ah (ah (ah ?_)))))))))))))))))))))))
   refine ah (aa (vB false) (aa (vB false) (af ?_)))
   obtain rfl:=ae h_5
   exact cu
 ·rintro ⟨⟩ _ sl_ H_ hp_ hq_
  refine aO _ hp_ hq_ ?_
  obtain rfl:=ae hF
  exact aC (aL [(vB v_4)] ⟨rfl,trivial⟩)
theorem wD {e_1:Entry} {zone_2:Int} {wv_3:Window} {r:(List Window)} (hF:nO e_1 zone_2 wv_3=some r) :
  FnM Tryz.prog 50 [(.d (.agg (Entry.enc e_1))),(vI zone_2),(.d (.agg (Window.enc wv_3)))] [] (vL Window.enc r) []:=by
 refine FnM.of_wH ⟨Tryz.prog,54,[],[]⟩ rfl Tryz.func50 rfl rfl (lb_ rfl) (by kernel_rfl) ?_
 unfold nO at hF
 refine aj (bZ 0 (.inl rfl) (Entry.v e_1) rfl rfl wz (λn_4=>bZ 0 (.inl rfl) [(vI wv_3.From),(vI wv_3.To)] rfl rfl wz (λn_5=>aa .nil (af (aj (aa .nil (af (au (aj (aI rf rfl 3 rfl wz (aA 0 0 il ft sz3 ag3 rfl rfl (vI e_1.First) rfl wz (aa (vI e_1.First) (af (kz (λn_12 => ?_)))))))))))))))
 obtain ⟨o_17,hj_18,hF⟩:=bind_some hF
 obtain ⟨nq_36,hj_18⟩:=dZ hj_18
 refine uE (σ:=(List Window)×Int) (N:=Nm) (λp=>(λ(s_11:(List Window)×Int) (n_14:Nm)=>([(7,(gV n_14 2 s_11.1))]:SL_)) p.1 p.2) (λp=>(λ(s_11:(List Window)×Int) (n_14:Nm)=>([(n_4,some (.cells 13 (Entry.v e_1))),(n_5,some (.cells 2 [(vI wv_3.From),(vI wv_3.To)])),(n_14,gB 2 Window.enc s_11.1)]:Hp)) p.1 p.2) (λ(k_6:Nat)=>(λp=>(λ(s_11:(List Window)×Int) (n_14:Nm)=>([(1,(vI zone_2)),(3,(.ref n_4 0 0)),(5,(.ref n_5 0 0)),(7,(gV n_14 2 s_11.1)),(8,(vI s_11.2))]:SL_)) p.1 p.2)) (λs=>j6 e_1 zone_2 wv_3 s) o_17 nq_36 ((([]:List Window),e_1.First),n_12) hj_18 rfl (aJ rfl) ?_ ?_
 ·rintro ⟨k_6,s_11,n_14⟩ hL_16
  dsimp only at hL_16
  cases k_6 with
  | zero=>cases hL_16
  | succ k_6 =>
   obtain ⟨c_,hc_15,hL_16⟩:=bind_some hL_16
   unfold j6 at hc_15
   refine au (aj (aa (vI s_11.2) (aI ru rfl 4 rfl wz (aA 0 0 il ft sz3 ag3 rfl rfl (vI e_1.Last) rfl wz (aa (vB (decide (s_11.2<=e_1.Last))) (af ?_))))))
   rcases ak hc_15 with⟨hc_19,hc_15⟩|⟨hc_19,hc_15⟩
   ·refine aD rfl hc_19 (ay (au (aN (aj (aA 0 0 il ft iZ kK rfl rfl (.d (.agg (Entry.enc e_1))) rfl wz (aa (vI zone_2) (aa (vI s_11.2) ?_)))))))
    obtain ⟨r_20,hr_21,hc_15⟩:=bind_some hc_15
    refine aF (xX hr_21) rfl hb84 rfl rfl rfl rfl wz (bR 0 (.inl rfl) z33 rfl wz (λn_22=>eH 0 il ft 3 eX rfl rfl [(vI r_20.From),(vI r_20.To)] rfl wz (af (au (dA (aI gm rfl 0 rfl wz (aA 1 3 (.inr (by kernel_rfl)) (λ_ _ ag=>trivial) sz3 ag3 rfl rfl (vI r_20.From) rfl wz (aI gm rfl 0 rfl wz (aA 3 1 (.inr (by kernel_rfl)) (λ_ _ ag=>⟨.inl ⟨rfl,rfl⟩,trivial⟩) sz3 ag3 rfl rfl (vI wv_3.From) rfl wz (pO (vI (j5 r_20.From wv_3.From)) rfl (.inr rfl) wz (aI gN rfl 1 rfl wz (aA 6 3 (.inr (by kernel_rfl)) (λ_ _ ag=>⟨.inl ⟨rfl,rfl⟩,⟨.inl ⟨rfl,rfl⟩,trivial⟩⟩) sz3 ag3 rfl rfl (vI r_20.To) rfl wz (aI gN rfl 1 rfl wz (aA 8 1 (.inr (by kernel_rfl)) (λ_ _ ag=>⟨.inl ⟨rfl,rfl⟩,⟨.inl ⟨rfl,rfl⟩,⟨.inl ⟨rfl,rfl⟩,trivial⟩⟩⟩) sz3 ag3 rfl rfl (vI wv_3.To) rfl wz (pO (vI (kG r_20.To wv_3.To)) rfl (.inl rfl) wz (aI gm rfl 0 rfl wz (eH 11 (.inr (by kernel_rfl)) (λ_ _ ag=>⟨.inr (.inr (by kernel_rfl)),⟨.inr (.inr (by kernel_rfl)),⟨.inr (.inr (by kernel_rfl)),⟨.inr (.inl (Lh (Fx ag (i:=3) (j:=1) rfl rfl (by decide)))),trivial⟩⟩⟩⟩) 3 sz3 rfl rfl [(vI (j5 r_20.From wv_3.From)),(vI r_20.To)] rfl wz (aI gN rfl 1 rfl wz (eH 13 (.inr (by kernel_rfl)) (λ_ _ ag=>⟨.inr (.inr (by kernel_rfl)),⟨.inr (.inr (by kernel_rfl)),⟨.inr (.inr (by kernel_rfl)),⟨.inr (.inr (by kernel_rfl)),⟨.inr (.inr (by kernel_rfl)),trivial⟩⟩⟩⟩⟩) 3 sz3 rfl rfl [(vI (j5 r_20.From wv_3.From)),(vI (kG r_20.To wv_3.To))] rfl wz (af (au ?_)))))))))))))))))))))
    obtain ⟨v_23,h_24,hc_15⟩:=bind_some hc_15
    refine aQ [(1,(vI zone_2)),(3,(.ref n_4 0 0)),(5,(.ref n_5 0 0)),(7,(gV n_14 2 s_11.1)),(8,(vI s_11.2)),(9,(.ref n_22 0 0)),(48,(vB v_23))] [(n_4,some (.cells 13 (Entry.v e_1))),(n_5,some (.cells 2 [(vI wv_3.From),(vI wv_3.To)])),(n_14,gB 2 Window.enc s_11.1),(n_22,some (.cells 2 [(vI (j5 r_20.From wv_3.From)),(vI (kG r_20.To wv_3.To))]))] ?_ ?_
    ·refine ax (aI Ce rfl 12 rfl wz (aA 0 0 il ft sz4 ag4 rfl rfl (vB e_1.Gone) rfl wz (aa (vB (!e_1.Gone)) ?_)))
     rcases ak h_24 with⟨hc_25,h_24⟩|⟨hc_25,h_24⟩
     ·refine aH rfl hc_25 wz (aA 0 0 il ft iZ kK rfl rfl (.d (.agg (Entry.enc e_1))) rfl wa (aK (vI s_11.2) wa rfl ?_))
      obtain ⟨r_26,hr_27,h_24⟩:=bind_some h_24
      refine aF (z8 hr_27) rfl hb85 rfl rfl rfl rfl wa (aa (vB r_26) ?_)
      rcases ak h_24 with⟨hc_28,h_24⟩|⟨hc_28,h_24⟩
      ·refine aH rfl hc_28 wz (aI gm rfl 0 rfl wa (aA 0 3 il ft sz3 ag3 rfl rfl (vI (j5 r_20.From wv_3.From)) rfl wa (aI gN rfl 1 rfl wa (aA 0 3 il ft sz3 ag3 rfl rfl (vI (kG r_20.To wv_3.To)) rfl wa (aK (vB (decide ((j5 r_20.From wv_3.From)<(kG r_20.To wv_3.To)))) wa rfl (aa (vB (decide ((j5 r_20.From wv_3.From)<(kG r_20.To wv_3.To)))) (af ?_)))))))
       obtain rfl:=ae h_24
       exact cu
      ·refine aH rfl hc_28 wz (ah (ah (ah (ah (ah (aa (vB false) (af ?_)))))))
       obtain rfl:=ae h_24
       exact cu
     ·refine aH rfl hc_25 wz (ah (ah (ah (aa (vB false) (aa (vB false) (ah (ah (ah (ah (ah (aa (vB false) (af ?_))))))))))))
      obtain rfl:=ae h_24
      exact cu
    ·rintro ⟨⟩ _ sl_ H_ hp_ hq_
     refine aO _ hp_ hq_ ?_
     obtain ⟨v_29,h_30,hc_15⟩:=bind_some hc_15
     refine jO (β:=Nm) (λ(n_31:Nm)=>([(1,(vI zone_2)),(3,(.ref n_4 0 0)),(5,(.ref n_5 0 0)),(7,(gV n_31 2 v_29)),(8,(vI s_11.2))]:SL_)) (λ(n_31:Nm)=>([(n_4,some (.cells 13 (Entry.v e_1))),(n_5,some (.cells 2 [(vI wv_3.From),(vI wv_3.To)])),(n_31,gB 2 Window.enc v_29),(n_22,some (.cells 2 [(vI (j5 r_20.From wv_3.From)),(vI (kG r_20.To wv_3.To))]))]:Hp)) (λ_=>True) ?_ ?_
     ·rcases ak h_30 with⟨hc_32,h_30⟩|⟨hc_32,h_30⟩
      ·refine aD rfl hc_32 (ax (aa (gV n_14 2 s_11.1) (aA 0 3 il ft eX iT rfl rfl (.d (.agg (Window.enc (⟨(j5 r_20.From wv_3.From),(kG r_20.To wv_3.To)⟩:Window)))) rfl wz (dU (([(⟨(j5 r_20.From wv_3.From),(kG r_20.To wv_3.To)⟩:Window)]:List Window).map Window.enc) AU Ng rfl rfl rfl rfl rfl wz ?_))))
       obtain ⟨a_33,hz_34,h_30⟩:=bind_some h_30
       refine kI 0 il ft (i:=2) Es Es eX z33 rfl (by decide) ME (by decide) (λ_=>rfl) rfl rfl rfl hz_34 wz (λn_35=>aa (gV n_35 2 a_33) (af ?_))
       obtain rfl:=ae h_30
       exact aV n_35 trivial rfl (aJ rfl)
      ·refine aB rfl hc_32 (ay ?_)
       obtain rfl:=ae h_30
       exact aV n_14 trivial rfl (aJ rfl)
     ·rintro n_31 _ sl_ H_ hp_ hq_
      refine aO _ hp_ hq_ (ax (aa (vI s_11.2) (aa (vI (w64 (s_11.2+1))) (aa (vI (w64 (s_11.2+1))) (af ?_)))))
      obtain rfl:=ae hc_15
      exact aS (k_6,(v_29,(w64 (s_11.2+1))),n_31) hL_16 (ls_ _) rfl (aJ rfl)
   ·refine aB rfl hc_19 (aU ?_)
    obtain rfl:=ae hc_15
    obtain rfl:=ae hL_16
    exact aV ((s_11.1,s_11.2),n_14) rfl rfl (aJ rfl)
 ·rintro ⟨s_11,n_14⟩ ho_ sl_ H_ hp_ hq_
  subst ho_
  refine aO _ hp_ hq_ (aj (aa (gV n_14 2 s_11.1) (aa (gV n_14 2 s_11.1) (af (iw 2 rfl (dJ 6 2 rfl rfl (dJ 7 2 rfl rfl (dJ 53 2 rfl rfl ?_))))))))
  obtain rfl:=ae hF
  exact aC (aL [(vL Window.enc s_11.1)] ⟨rfl,trivial⟩)
theorem Ez {l_1:(List Entry)} {zone_2:Int} {wv_3:Window} {r:(List Int)} (hF:qW l_1 zone_2 wv_3=some r) :
  FnM Tryz.prog 45 [(vL Entry.enc l_1),(vI zone_2),(.d (.agg (Window.enc wv_3)))] [] (vL eI r) []:=by
 refine FnM.of_wH ⟨Tryz.prog,45,[16],[]⟩ rfl Tryz.func45 rfl rfl (lb_ rfl) (by kernel_rfl) ?_
 unfold qW at hF
 refine aj (bZ 0 (.inl rfl) [(vI wv_3.From),(vI wv_3.To)] rfl rfl wz (λn_4=>aa .nil (af (aj (aI gm rfl 0 rfl wz (aA 0 0 il ft sz3 ag3 rfl rfl (vI wv_3.From) rfl wz (aI gN rfl 1 rfl wz (aA 0 0 il ft sz3 ag3 rfl rfl (vI wv_3.To) rfl wz (MC 0 (.inl rfl) (([wv_3.From,wv_3.To]:List Int).map eI) iW qA rfl rfl rfl rfl rfl wz (λn_5=>aa (vV n_5 1 ([wv_3.From,wv_3.To]:List Int)) (af (au (aj (aa (vL Entry.enc l_1) (bN yB rfl wz (aa (vI 0) (af ?_)))))))))))))))))
 obtain ⟨o_16,hj_17,hF⟩:=bind_some hF
 obtain ⟨hn_10,hj_17⟩:=bf hj_17
 refine jl (σ:=(List Int)) (N:=Nm) (λp=>(λ(s_11:List Int) (n_13:Nm)=>([(7,(vV n_13 1 s_11))]:SL_)) p.1 p.2) (λp=>(λ(s_11:List Int) (n_13:Nm)=>([(n_4,some (.cells 2 [(vI wv_3.From),(vI wv_3.To)])),(n_13,some (bV 1 eI s_11))]:Hp)) p.1 p.2) (λ(k_6:Nat)=>(λp=>(λ(s_11:List Int) (n_13:Nm)=>([(1,(vI zone_2)),(5,(.ref n_4 0 0)),(7,(vV n_13 1 s_11)),(17,(vL Entry.enc l_1)),(18,(vI (l_1.length:Int))),(19,(vI (k_6:Int)))]:SL_)) p.1 p.2)) (λk x s=>lD zone_2 wv_3 k x s) o_16 l_1 (([wv_3.From,wv_3.To]:List Int),n_5) hj_17 rfl (aJ rfl) ?_ ?_
 ·rintro ⟨k_6,l_7,s_11,n_13⟩ ⟨hL_15,hD_9⟩
  dsimp only at hL_15 hD_9
  cases l_7 with
  | nil =>
   obtain rfl:=ae hL_15
   refine aj (aa (vB (decide ((k_6:Int)<(l_1.length:Int)))) (af ?_))
   refine au (aB rfl (drop_nil hD_9) (aU ?_))
   exact aV (s_11,n_13) rfl rfl (aJ rfl)
  | cons x_8 l_7 =>
   obtain ⟨c_,hc_14,hL_15⟩:=bind_some hL_15
   refine aj (aa (vB (decide ((k_6:Int)<(l_1.length:Int)))) (af ?_))
   refine au (aD rfl (bz hD_9) (ay ?_))
   unfold lD at hc_14
   refine au (aN (aj (eU qh rfl rfl (bH hD_9) rfl wz (bI iZ kK rfl (.d (.agg (Entry.enc x_8))) rfl wz (bR 0 (.inl rfl) z68 rfl wz (λn_18=>eH 0 il ft 2 iZ rfl rfl (Entry.v x_8) rfl wz (af (aj (aA 0 2 il ft iZ kK rfl rfl (.d (.agg (Entry.enc x_8))) rfl wz (aa (vI zone_2) (aA 0 0 il ft eX iT rfl rfl (.d (.agg (Window.enc wv_3))) rfl wz ?_)))))))))))
   obtain ⟨r_19,hr_20,hc_14⟩:=bind_some hc_14
   refine aF (wD hr_20) rfl hb50 rfl rfl rfl rfl wz (bN El rfl wz (aa (vI 0) (af ?_)))
   obtain ⟨o_31,hj_32,hc_14⟩:=bind_some hc_14
   obtain ⟨hn_25,hj_32⟩:=bf hj_32
   refine jl (σ:=(List Int)) (N:=Nm) (λp=>(λ(s_26:List Int) (n_28:Nm)=>([(1,(vI zone_2)),(5,(.ref n_4 0 0)),(7,(vV n_28 1 s_26)),(17,(vL Entry.enc l_1)),(18,(vI (l_1.length:Int))),(19,(vI (k_6:Int)))]:SL_)) p.1 p.2) (λp=>(λ(s_26:List Int) (n_28:Nm)=>([(n_4,some (.cells 2 [(vI wv_3.From),(vI wv_3.To)])),(n_28,some (bV 1 eI s_26)),(n_18,some (.cells 13 (Entry.v x_8)))]:Hp)) p.1 p.2) (λ(k_21:Nat)=>(λp=>(λ(s_26:List Int) (n_28:Nm)=>([(1,(vI zone_2)),(5,(.ref n_4 0 0)),(7,(vV n_28 1 s_26)),(17,(vL Entry.enc l_1)),(18,(vI (l_1.length:Int))),(19,(vI (k_6:Int))),(26,(vL Window.enc r_19)),(27,(vI (r_19.length:Int))),(28,(vI (k_21:Int)))]:SL_)) p.1 p.2)) (λk x s=>nA k x s) o_31 r_19 (s_11,n_13) hj_32 rfl (aJ rfl) ?_ ?_
   ·rintro ⟨k_21,l_22,s_26,n_28⟩ ⟨hL_30,hD_24⟩
    dsimp only at hL_30 hD_24
    cases l_22 with
    | nil =>
     obtain rfl:=ae hL_30
     refine aj (aa (vB (decide ((k_21:Int)<(r_19.length:Int)))) (af ?_))
     refine au (aB rfl (drop_nil hD_24) (aU ?_))
     exact aV (s_26,n_28) rfl rfl (aJ rfl)
    | cons x_23 l_22 =>
     obtain ⟨c_,hc_29,hL_30⟩:=bind_some hL_30
     refine aj (aa (vB (decide ((k_21:Int)<(r_19.length:Int)))) (af ?_))
     refine au (aD rfl (bz hD_24) (ay ?_))
     unfold nA at hc_29
     refine au (aN (aj (eU AU rfl rfl (bH hD_24) rfl wz (bI eX iT rfl (.d (.agg (Window.enc x_23))) rfl wz (bR 0 (.inl rfl) z33 rfl wz (λn_33=>eH 0 il ft 3 eX rfl rfl [(vI x_23.From),(vI x_23.To)] rfl wz (af (ax (aa (vV n_28 1 s_26) (aI gm rfl 0 rfl wz (aA 0 3 il ft sz3 ag3 rfl rfl (vI x_23.From) rfl wz (aI gN rfl 1 rfl wz (aA 0 3 il ft sz3 ag3 rfl rfl (vI x_23.To) rfl wz (dU (([x_23.From,x_23.To]:List Int).map eI) iW qA rfl rfl rfl rfl rfl wz ?_))))))))))))))
     obtain ⟨a_34,hz_35,hc_29⟩:=bind_some hc_29
     refine JW 0 il ft (i:=1) C9 C9 sz3 z3 rfl (by decide) by3 (by decide) (λ_=>rfl) rfl rfl rfl hz_35 wz (λn_36=>aa (vV n_36 1 a_34) (af (ax (fJ (bE hD_24 hn_25) wz rfl (aa (vI ((k_21+1:Nat):Int)) (af ?_))))))
     obtain rfl:=ae hc_29
     exact aS (k_21+1,l_22,a_34,n_36) ⟨hL_30,aR hD_24⟩ (ls_ _) rfl (aJ rfl)
   ·rintro ⟨s_26,n_28⟩ ho_ sl_ H_ hp_ hq_
    subst ho_
    refine aO _ hp_ hq_ (ax (fJ (bE hD_9 hn_10) wz rfl (aa (vI ((k_6+1:Nat):Int)) (af ?_))))
    obtain rfl:=ae hc_14
    exact aS (k_6+1,l_7,s_26,n_28) ⟨hL_15,aR hD_9⟩ (ls_ _) rfl (aJ rfl)
 ·rintro ⟨s_11,n_13⟩ ho_ sl_ H_ hp_ hq_
  subst ho_
  refine aO _ hp_ hq_ (aj (aa (vV n_13 1 s_11) ?_))
  obtain ⟨_,hn_37,hF⟩:=bind_some hF
  replace hn_37:=F5 hn_37
  refine zo 1 rfl (zm hn_37).symm (bL (v':=(gV n_13 1 s_11)) 41 rfl (K8 hn_37) (bL (v':=(gV n_13 1 s_11)) 7 rfl (K8 hn_37) ?_))
  obtain ⟨r_38,hr_39,hF⟩:=bind_some hF
  obtain ⟨_,hs_40,hF⟩:=bind_some hF
  replace hs_40:=oG hs_40
  refine nG 0 [] 1 0 il ft (mP hr_39) rfl hb77 rfl rfl rfl (by kernel_rfl) rfl (.inl rfl) rfl (by kernel_rfl) (by kernel_rfl) (by kernel_rfl) (by kernel_rfl) rfl (by decide) (by kernel_rfl) oz (xP hs_40) wz ([(n_4,some (.cells 2 [(vI wv_3.From),(vI wv_3.To)])),(n_13,gB 1 eI r_38)]:Hp) (by kernel_rfl) (bL (v':=(gV n_13 1 r_38)) 41 rfl (bU hs_40.symm) (bL (v':=(gV n_13 1 r_38)) 7 rfl (bU hs_40.symm) (af (aj (aa (gV n_13 1 r_38) ?_)))))
  obtain ⟨r_41,hr_42,hF⟩:=bind_some hF
  refine nG 0 [] 1 0 il ft (lh hr_42) rfl hb78 rfl rfl rfl (by kernel_rfl) rfl (.inl rfl) rfl (by kernel_rfl) (by kernel_rfl) (by kernel_rfl) (by kernel_rfl) rfl (by decide) (by kernel_rfl) ze (λ_=>rfl) wz ([(n_4,some (.cells 2 [(vI wv_3.From),(vI wv_3.To)])),(n_13,none)]:Hp) (by kernel_rfl) (aa (vL eI r_41) (af ?_))
  obtain rfl:=ae hF
  exact aC (aL [(vL eI r_41)] ⟨rfl,trivial⟩)
theorem GQ {a_1:Int} {b_2:Int} {r:Int} (hF:uy a_1 b_2=some r) :
  FnM Tryz.prog 157 [(vI a_1),(vI b_2)] [] (vI r) []:=by
 refine FnM.of_wH ⟨Tryz.prog,16,[],[]⟩ rfl Tryz.func157 rfl rfl (lb_ rfl) (by kernel_rfl) ?_
 unfold uy at hF
 refine aj (aa (vI 0) (af (au (aj (aa (vI a_1) (aa (vI b_2) ?_))))))
 obtain ⟨q_3,hz_4,hF⟩:=bind_some hF
 refine Iz rfl rfl hz_4 wz (aa (vB (decide (q_3<0))) (af ?_))
 rcases ak hF with⟨hc_5,hF⟩|⟨hc_5,hF⟩
 ·refine aD rfl hc_5 (aj (aa (vI a_1) (aa (vI b_2) ?_)))
  obtain ⟨q_6,hz_7,hF⟩:=bind_some hF
  refine NC rfl rfl hz_7 wz (aa (vI (w64 (q_6-1))) (aa (vI (w64 (q_6-1))) (af ?_)))
  obtain rfl:=ae hF
  exact aC (aL [(vI (w64 (q_6-1)))] ⟨rfl,trivial⟩)
 ·refine aB rfl hc_5 (ay (aj (aa (vI a_1) (aa (vI b_2) ?_))))
  obtain ⟨q_8,hz_9,hF⟩:=bind_some hF
  refine NC rfl rfl hz_9 wz (aa (vI q_8) (af ?_))
  obtain rfl:=ae hF
  exact aC (aL [(vI q_8)] ⟨rfl,trivial⟩)
theorem uL {e_1:Entry} {zone_2:Int} {atv_3:Int} {r:Int×Bool} (hF:oZ e_1 zone_2 atv_3=some r) :
  FnM Tryz.prog 104 [(.d (.agg (Entry.enc e_1))),(vI zone_2),(vI atv_3)] [] (.tup [(vI r.1),(vB r.2)]) []:=by
 refine FnM.of_wH ⟨Tryz.prog,53,[],[]⟩ rfl Tryz.func104 rfl rfl (lb_ rfl) (by kernel_rfl) ?_
 unfold oZ at hF
 refine aj (bZ 0 (.inl rfl) (Entry.v e_1) rfl rfl wz (λn_4=>aa (vI 0) (aa (vB false) (af (aj (aa (vI atv_3) (aa (vI zone_2) (aa (vI (w64 (zone_2*60000))) (aa (vI (w64 (atv_3+(w64 (zone_2*60000))))) ?_)))))))))
 obtain ⟨r_5,hr_6,hF⟩:=bind_some hF
 refine aF (GQ hr_6) rfl hb157 rfl rfl rfl rfl wz (aa (vI r_5) (af (au (aj (aa (vI r_5) (aa (vI (w64 (r_5-1))) (aa (vI r_5) (dU (([(w64 (r_5-1)),r_5]:List Int).map eI) iW qA rfl rfl rfl rfl rfl wz (bN qc rfl wz (aa (vI 0) (af ?_)))))))))))
 obtain ⟨o_15,hj_16,hF⟩:=bind_some hF
 obtain ⟨hn_11,hj_16⟩:=bf hj_16
 refine cK (λ(s_12:Unit)=>[]) (λ(s_12:Unit)=>[(n_4,some (.cells 13 (Entry.v e_1)))]) (λ(k_7:Nat)=>(λ(s_12:Unit)=>[(1,(vI zone_2)),(2,(vI atv_3)),(3,(.ref n_4 0 0)),(20,(vL eI ([(w64 (r_5-1)),r_5]:List Int))),(21,(vI (([(w64 (r_5-1)),r_5]:List Int).length:Int))),(22,(vI (k_7:Int)))])) (λk x s=>oD e_1 zone_2 atv_3 k x s) o_15 ([(w64 (r_5-1)),r_5]:List Int) () hj_16 rfl (aJ rfl) ?_ ?_
 ·rintro ⟨k_7,l_8,s_12⟩ ⟨hL_14,hD_10⟩
  dsimp only at hL_14 hD_10
  cases l_8 with
  | nil =>
   obtain rfl:=ae hL_14
   refine aj (aa (vB (decide ((k_7:Int)<(([(w64 (r_5-1)),r_5]:List Int).length:Int)))) (af ?_))
   refine au (aB rfl (drop_nil hD_10) (aU ?_))
   exact aV (s_12) rfl rfl (aJ rfl)
  | cons x_9 l_8 =>
   obtain ⟨c_,hc_13,hL_14⟩:=bind_some hL_14
   refine aj (aa (vB (decide ((k_7:Int)<(([(w64 (r_5-1)),r_5]:List Int).length:Int)))) (af ?_))
   refine au (aD rfl (bz hD_10) (ay ?_))
   unfold oD at hc_13
   refine au (aN (aj (eU iW rfl rfl (bH hD_10) rfl wz (bI sz3 ag3 rfl (vI x_9) rfl wz (aa (vI x_9) (af (aj (aA 0 0 il ft iZ kK rfl rfl (.d (.agg (Entry.enc e_1))) rfl wz (aa (vI zone_2) (aa (vI x_9) ?_))))))))))
   obtain ⟨r_17,hr_18,hc_13⟩:=bind_some hc_13
   refine aF (xX hr_18) rfl hb84 rfl rfl rfl rfl wz (bR 0 (.inl rfl) z33 rfl wz (λn_19=>eH 0 il ft 1 eX rfl rfl [(vI r_17.From),(vI r_17.To)] rfl wz (af (au ?_))))
   obtain ⟨v_20,h_21,hc_13⟩:=bind_some hc_13
   refine aQ [(1,(vI zone_2)),(2,(vI atv_3)),(3,(.ref n_4 0 0)),(11,(.ref n_19 0 0)),(20,(vL eI ([(w64 (r_5-1)),r_5]:List Int))),(21,(vI (([(w64 (r_5-1)),r_5]:List Int).length:Int))),(22,(vI (k_7:Int))),(49,(vB v_20))] [(n_4,some (.cells 13 (Entry.v e_1))),(n_19,some (.cells 2 [(vI r_17.From),(vI r_17.To)]))] ?_ ?_
   ·refine ax (aI Ce rfl 12 rfl wz (aA 0 0 il ft sz4 ag4 rfl rfl (vB e_1.Gone) rfl wz (aa (vB (!e_1.Gone)) ?_)))
    rcases ak h_21 with⟨hc_22,h_21⟩|⟨hc_22,h_21⟩
    ·refine aH rfl hc_22 wz (aA 0 0 il ft iZ kK rfl rfl (.d (.agg (Entry.enc e_1))) rfl wa (aK (vI x_9) wa rfl ?_))
     obtain ⟨r_23,hr_24,h_21⟩:=bind_some h_21
     refine aF (z8 hr_24) rfl hb85 rfl rfl rfl rfl wa (aa (vB r_23) ?_)
     rcases ak h_21 with⟨hc_25,h_21⟩|⟨hc_25,h_21⟩
     ·refine aH rfl hc_25 wz (aI gm rfl 0 rfl wa (aA 0 1 il ft sz3 ag3 rfl rfl (vI r_17.From) rfl wa (aK (vI atv_3) wa rfl (aK (vB (decide (r_17.From<=atv_3))) wa rfl (aa (vB (decide (r_17.From<=atv_3))) ?_)))))
      rcases ak h_21 with⟨hc_26,h_21⟩|⟨hc_26,h_21⟩
      ·refine aH rfl hc_26 wz (aK (vI atv_3) wa rfl (aI gN rfl 1 rfl wa (aA 0 1 il ft sz3 ag3 rfl rfl (vI r_17.To) rfl wa (aK (vB (decide (atv_3<r_17.To))) wa rfl (aa (vB (decide (atv_3<r_17.To))) (af ?_))))))
       obtain rfl:=ae h_21
       exact cu
      ·refine aH rfl hc_26 wz (ah (ah (ah (ah (aa (vB false) (af ?_))))))
       obtain rfl:=ae h_21
       exact cu
     ·refine aH rfl hc_25 wz (ah (ah (ah (ah (aa (vB false) (aa (vB false) (ah (ah (ah (ah (aa (vB false) (af ?_))))))))))))
      obtain rfl:=ae h_21
      exact cu
    ·refine aH rfl hc_22 wz (ah (ah (ah (aa (vB false) (aa (vB false) (ah (ah (ah (ah (aa (vB false) (aa (vB false) (ah (ah (ah (ah (aa (vB false) (af ?_)))))))))))))))))
     obtain rfl:=ae h_21
     exact cu
   ·rintro ⟨⟩ _ sl_ H_ hp_ hq_
    refine aO _ hp_ hq_ ?_
    rcases ak hc_13 with⟨hc_27,hc_13⟩|⟨hc_27,hc_13⟩
    ·refine aD rfl hc_27 (aj (aI gm rfl 0 rfl wz (aA 0 1 il ft sz3 ag3 rfl rfl (vI r_17.From) rfl wz (aa (vI r_17.From) (aa (vB true) (af ?_))))))
     obtain rfl:=ae hc_13
     obtain rfl:=ae hL_14
     obtain rfl:=ae hF
     exact aC (aL [(vI r_17.From),(vB true)] ⟨rfl,⟨rfl,trivial⟩⟩)
    ·refine aB rfl hc_27 (ay (ax (fJ (bE hD_10 hn_11) wz rfl (aa (vI ((k_7+1:Nat):Int)) (af ?_)))))
     obtain rfl:=ae hc_13
     exact aS (k_7+1,l_8,()) ⟨hL_14,aR hD_10⟩ (ls_ _) rfl (aJ rfl)
 ·rintro s_12 ho_ sl_ H_ hp_ hq_
  subst ho_
  refine aO _ hp_ hq_ (aj (aa (vI 0) (aa (vB false) (af ?_))))
  obtain rfl:=ae hF
  exact aC (aL [(vI 0),(vB false)] ⟨rfl,⟨rfl,trivial⟩⟩)
theorem pQ {s_1:(List ByteArray)} {v_2:ByteArray} {r:Int} (hF:ik s_1 v_2=some r) :
  FnM Tryz.prog 109 [(vL eS s_1),(vS v_2)] [] (vI r) []:=by
 refine FnM.of_wH ⟨Tryz.prog,19,[],[]⟩ rfl Tryz.func109 rfl rfl (lb_ rfl) (by kernel_rfl) ?_
 unfold ik at hF
 refine aj (aa (vI 0) (af (au (aj (aa (vL eS s_1) (bN xI rfl wz (aa (vI 0) (af ?_))))))))
 obtain ⟨o_11,hj_12,hF⟩:=bind_some hF
 obtain ⟨hn_7,hj_12⟩:=bf hj_12
 refine cK (λ(s_8:Unit)=>[]) (λ(s_8:Unit)=>[]) (λ(k_3:Nat)=>(λ(s_8:Unit)=>[(0,(vL eS s_1)),(1,(vS v_2)),(7,(vI (s_1.length:Int))),(8,(vI (k_3:Int)))])) (λk x s=>dC v_2 k x s) o_11 s_1 () hj_12 rfl (aJ rfl) ?_ ?_
 ·rintro ⟨k_3,l_4,s_8⟩ ⟨hL_10,hD_6⟩
  dsimp only at hL_10 hD_6
  cases l_4 with
  | nil =>
   obtain rfl:=ae hL_10
   refine aj (aa (vB (decide ((k_3:Int)<(s_1.length:Int)))) (af ?_))
   refine au (aB rfl (drop_nil hD_6) (aU ?_))
   exact aV (s_8) rfl rfl (aJ rfl)
  | cons x_5 l_4 =>
   obtain ⟨c_,hc_9,hL_10⟩:=bind_some hL_10
   refine aj (aa (vB (decide ((k_3:Int)<(s_1.length:Int)))) (af ?_))
   refine au (aD rfl (bz hD_6) (ay ?_))
   unfold dC at hc_9
   refine au (aN (aj (aa (vI (k_3:Int)) (aa (vI (k_3:Int)) (af (aj (aa (vS v_2) (aa (vL eS s_1) (aa (vI (k_3:Int)) (eU mQ rfl rfl (bH hD_6) rfl wz (bI sz9 ag9 rfl (vS x_5) rfl wz (aa (vB (sEq v_2 x_5)) (af ?_)))))))))))))
   rcases ak hc_9 with⟨hc_13,hc_9⟩|⟨hc_13,hc_9⟩
   ·refine aD rfl hc_13 (aj (aa (vI (k_3:Int)) (aa (vI (k_3:Int)) (af ?_))))
    obtain rfl:=ae hc_9
    obtain rfl:=ae hL_10
    obtain rfl:=ae hF
    exact aC (aL [(vI (k_3:Int))] ⟨rfl,trivial⟩)
   ·refine aB rfl hc_13 (ay (ax (fJ (bE hD_6 hn_7) wz rfl (aa (vI ((k_3+1:Nat):Int)) (af ?_)))))
    obtain rfl:=ae hc_9
    exact aS (k_3+1,l_4,()) ⟨hL_10,aR hD_6⟩ (ls_ _) rfl (aJ rfl)
 ·rintro s_8 ho_ sl_ H_ hp_ hq_
  subst ho_
  refine aO _ hp_ hq_ (aj (aa (vI (-1)) (af ?_)))
  obtain rfl:=ae hF
  exact aC (aL [(vI (-1))] ⟨rfl,trivial⟩)
theorem oq {s_1:(List ByteArray)} {v_2:ByteArray} {r:Bool} (hF:eG s_1 v_2=some r) :
  FnM Tryz.prog 83 [(vL eS s_1),(vS v_2)] [] (vB r) []:=by
 refine FnM.of_wH ⟨Tryz.prog,9,[],[]⟩ rfl Tryz.func83 rfl rfl (lb_ rfl) (by kernel_rfl) ?_
 unfold eG at hF
 refine aj (aa (vB false) (af (aj (aa (vL eS s_1) (aa (vS v_2) ?_)))))
 obtain ⟨r_3,hr_4,hF⟩:=bind_some hF
 refine aF (pQ hr_4) rfl hb109 rfl rfl rfl rfl wz (aa (vB (decide (r_3>=0))) (aa (vB (decide (r_3>=0))) (af ?_)))
 obtain rfl:=ae hF
 exact aC (aL [(vB (decide (r_3>=0)))] ⟨rfl,trivial⟩)
theorem BS {t_1:ByteArray} {p_2:Player} {r:Bool} (hF:oC t_1 p_2=some r) :
  FnM Tryz.prog 82 [(vS t_1),(.ref (av 0) 0 0)] [(.cells 4 (Player.v p_2))] (vB r) [some (.cells 4 (Player.v p_2))]:=by
 refine FnM.of_wH ⟨Tryz.prog,9,[],[]⟩ rfl Tryz.func82 rfl rfl (lb_ rfl) (by kernel_rfl) ?_
 unfold oC at hF
 refine aj (aa (vB false) (af (aj (aI Gp rfl 3 rfl wz (aA 0 0 il ft zS BP rfl rfl (vL eS p_2.Tags) rfl wz (aa (vS t_1) ?_))))))
 obtain ⟨r_3,hr_4,hF⟩:=bind_some hF
 refine aF (oq hr_4) rfl hb83 rfl rfl rfl rfl wz (aa (vB (!r_3)) (aa (vB (!r_3)) (af ?_)))
 obtain rfl:=ae hF
 exact aC (qB (.inr rfl) [(vB (!r_3))] _ [0] [av 0] ⟨rfl,trivial⟩ (.cons (iq rfl rfl) (.nil)) (by kernel_rfl) ⟨(by kernel_rfl),trivial⟩ (by decide) (by kernel_rfl))
theorem nT {s_1:(List ByteArray)} {f_2:ByteArray->Option Bool} {r:Int} {gid:FuncId} {caps:List V} {Sin:List Box} (hfn:∀x0 r,f_2 x0=some r->FnM Tryz.prog gid ([(vS x0)]++caps) Sin (vB r) (Sin.map some)) (hbF:aG Tryz.prog gid=true) (hcapF:caps.flatMap frz=[]/\caps.map co0=caps) (hokF:okL Sin.length caps=true) (hsF:∀b∈Sin,b.ok Sin.length=true) (hmF:∀b∈Sin,b.mut=true) (hF:fT s_1 f_2=some r) :
  FnM Tryz.prog 108 [(vL eS s_1),(.fn gid caps)] Sin (vI r) (Sin.map some):=by
 refine FnM.of_wH ⟨Tryz.prog,19,[],[]⟩ rfl Tryz.func108 rfl rfl (lb_ rfl) (by kernel_rfl) ?_
 unfold fT at hF
 refine aj (aa (vI 0) (af (au (aj (aa (vL eS s_1) (bN xI rfl wz (aa (vI 0) (af ?_))))))))
 obtain ⟨o_11,hj_12,hF⟩:=bind_some hF
 obtain ⟨hn_7,hj_12⟩:=bf hj_12
 refine cK (λ(s_8:Unit)=>[]) (λ(s_8:Unit)=>(oo 0 Sin)) (λ(k_3:Nat)=>(λ(s_8:Unit)=>[(0,(vL eS s_1)),(1,(.fn gid caps)),(7,(vI (s_1.length:Int))),(8,(vI (k_3:Int)))])) (λk x s=>bQ f_2 k x s) o_11 s_1 () hj_12 rfl (oL _) ?_ ?_
 ·rintro ⟨k_3,l_4,s_8⟩ ⟨hL_10,hD_6⟩
  dsimp only at hL_10 hD_6
  cases l_4 with
  | nil =>
   obtain rfl:=ae hL_10
   refine aj (aa (vB (decide ((k_3:Int)<(s_1.length:Int)))) (af ?_))
   refine au (aB rfl (drop_nil hD_6) (aU ?_))
   exact aV (s_8) rfl rfl (oL _)
  | cons x_5 l_4 =>
   obtain ⟨c_,hc_9,hL_10⟩:=bind_some hL_10
   refine aj (aa (vB (decide ((k_3:Int)<(s_1.length:Int)))) (af ?_))
   refine au (aD rfl (bz hD_6) (ay ?_))
   unfold bQ at hc_9
   refine au (aN (aj (aa (vI (k_3:Int)) (aa (vI (k_3:Int)) (af (aj (aa (.fn gid caps) (aa (vL eS s_1) (aa (vI (k_3:Int)) (eU mQ rfl rfl (bH hD_6) rfl wz (bI sz9 ag9 rfl (vS x_5) rfl wz ?_)))))))))))
   obtain ⟨r_13,hr_14,hc_9⟩:=bind_some hc_9
   refine zG (hfn _ _ hr_14) rfl hbF rfl rfl hcapF hokF hsF hmF rfl wz rfl (af ?_)
   rcases ak hc_9 with⟨hc_15,hc_9⟩|⟨hc_15,hc_9⟩
   ·refine aD rfl hc_15 (aj (aa (vI (k_3:Int)) (aa (vI (k_3:Int)) (af ?_))))
    obtain rfl:=ae hc_9
    obtain rfl:=ae hL_10
    obtain rfl:=ae hF
    exact aC (IB hsF (.inr rfl) [(vI (k_3:Int))] ⟨rfl,trivial⟩ rfl rfl rfl)
   ·refine aB rfl hc_15 (ay (ax (fJ (bE hD_6 hn_7) wz rfl (aa (vI ((k_3+1:Nat):Int)) (af ?_)))))
    obtain rfl:=ae hc_9
    exact aS (k_3+1,l_4,()) ⟨hL_10,aR hD_6⟩ (ls_ _) rfl (oL _)
 ·rintro s_8 ho_ sl_ H_ hp_ hq_
  subst ho_
  refine aO _ hp_ hq_ (aj (aa (vI (-1)) (af ?_)))
  obtain rfl:=ae hF
  exact aC (IB hsF (.inr rfl) [(vI (-1))] ⟨rfl,trivial⟩ rfl rfl rfl)
theorem mV {s_1:(List ByteArray)} {f_2:ByteArray->Option Bool} {r:Bool} {gid:FuncId} {caps:List V} {Sin:List Box} (hfn:∀x0 r,f_2 x0=some r->FnM Tryz.prog gid ([(vS x0)]++caps) Sin (vB r) (Sin.map some)) (hbF:aG Tryz.prog gid=true) (hcapF:caps.flatMap frz=[]/\caps.map co0=caps) (hokF:okL Sin.length caps=true) (hsF:∀b∈Sin,b.ok Sin.length=true) (hmF:∀b∈Sin,b.mut=true) (hF:dG s_1 f_2=some r) :
  FnM Tryz.prog 81 [(vL eS s_1),(.fn gid caps)] Sin (vB r) (Sin.map some):=by
 refine FnM.of_wH ⟨Tryz.prog,9,[],[]⟩ rfl Tryz.func81 rfl rfl (lb_ rfl) (by kernel_rfl) ?_
 unfold dG at hF
 refine aj (aa (vB false) (af (aj (aa (vL eS s_1) (aa (.fn gid caps) ?_)))))
 obtain ⟨r_3,hr_4,hF⟩:=bind_some hF
 refine zG (nT (gid:=gid) (caps:=caps) (Sin:=Sin) hfn hbF hcapF hokF hsF hmF hr_4) rfl hb108 rfl rfl ⟨rfl,rfl⟩ (by simp [okL,okV,hokF]) hsF hmF rfl wz rfl (aa (vB (decide (r_3>=0))) (aa (vB (decide (r_3>=0))) (af ?_)))
 obtain rfl:=ae hF
 exact aC (IB hsF (.inr rfl) [(vB (decide (r_3>=0)))] ⟨rfl,trivial⟩ rfl rfl rfl)
theorem xQ {e_1:Entry} {p_2:Player} {r:Bool} (hF:o6 e_1 p_2=some r) :
  FnM Tryz.prog 49 [(.d (.agg (Entry.enc e_1))),(.d (.agg (Player.enc p_2)))] [] (vB r) []:=by
 refine FnM.of_wH ⟨Tryz.prog,10,[],[]⟩ rfl Tryz.func49 rfl rfl (lb_ rfl) (by kernel_rfl) ?_
 unfold o6 at hF
 refine aj (bZ 0 (.inl rfl) (Entry.v e_1) rfl rfl wz (λn_3=>bZ 0 (.inl rfl) (Player.v p_2) rfl rfl wz (λn_4=>aa (vB false) (af (aj (aI uV rfl 11 rfl wz (aA 0 0 il ft zS BP rfl rfl (vL eS e_1.Tags) rfl wz (aa (.fn 82 [(.ref n_4 0 0)]) ?_))))))))
 obtain ⟨r_5,hr_6,hF⟩:=bind_some hF
 refine bA 0 [1] il ft (mV (gid:=82) (caps:=[.ref (av 0) 0 0]) (Sin:=[(.cells 4 (Player.v p_2))]) (λ_ _ h_=>BS h_) hb82 ⟨rfl,rfl⟩ (by kernel_rfl) (Ju (by kernel_rfl)) (FX (by kernel_rfl)) hr_6) rfl hb81 rfl (by kernel_rfl) (by kernel_rfl) (by kernel_rfl) (by kernel_rfl) (by kernel_rfl) (by kernel_rfl) (by kernel_rfl) (by decide) (by kernel_rfl) wz (vB r_5) (by kernel_rfl) ([(n_3,some (.cells 13 (Entry.v e_1))),(n_4,some (.cells 4 (Player.v p_2)))]:Hp) (by kernel_rfl) (aa (vB (!r_5)) (aa (vB (!r_5)) (af ?_)))
 obtain rfl:=ae hF
 exact aC (aL [(vB (!r_5))] ⟨rfl,trivial⟩)
theorem rT {s1_1:(List Int)} {s2_2:(List Int)} {r:Int} (hF:iy s1_1 s2_2=some r) :
  FnM Tryz.prog 107 [(vL eI s1_1),(vL eI s2_2)] [] (vI r) []:=by
 refine FnM.of_wH ⟨Tryz.prog,36,[],[]⟩ rfl Tryz.func107 rfl rfl (lb_ rfl) (by kernel_rfl) ?_
 unfold iy at hF
 refine aj (aa (vI 0) (af (au (aj (aa (vL eI s1_1) (bN qc rfl wz (aa (vI 0) (af ?_))))))))
 obtain ⟨o_11,hj_12,hF⟩:=bind_some hF
 obtain ⟨hn_7,hj_12⟩:=bf hj_12
 refine cK (λ(s_8:Unit)=>[(0,(vL eI s1_1)),(1,(vL eI s2_2))]) (λ(s_8:Unit)=>[]) (λ(k_3:Nat)=>(λ(s_8:Unit)=>[(0,(vL eI s1_1)),(1,(vL eI s2_2)),(9,(vL eI s1_1)),(10,(vI (s1_1.length:Int))),(11,(vI (k_3:Int)))])) (λk x s=>dI s2_2 k x s) o_11 s1_1 () hj_12 rfl (aJ rfl) ?_ ?_
 ·rintro ⟨k_3,l_4,s_8⟩ ⟨hL_10,hD_6⟩
  dsimp only at hL_10 hD_6
  cases l_4 with
  | nil =>
   obtain rfl:=ae hL_10
   refine aj (aa (vB (decide ((k_3:Int)<(s1_1.length:Int)))) (af ?_))
   refine au (aB rfl (drop_nil hD_6) (aU ?_))
   exact aV (s_8) rfl rfl (aJ rfl)
  | cons x_5 l_4 =>
   obtain ⟨c_,hc_9,hL_10⟩:=bind_some hL_10
   refine aj (aa (vB (decide ((k_3:Int)<(s1_1.length:Int)))) (af ?_))
   refine au (aD rfl (bz hD_6) (ay ?_))
   unfold dI at hc_9
   refine au (aN (aj (aa (vI (k_3:Int)) (eU iW rfl rfl (bH hD_6) rfl wz (bI sz3 ag3 rfl (vI x_5) rfl wz (aa (vI (k_3:Int)) (aa (vI x_5) (af (au (aj (aa (vI (k_3:Int)) (aa (vL eI s2_2) (bN qc rfl wz (aa (vB (decide ((k_3:Int)>=(s2_2.length:Int)))) (af ?_)))))))))))))))
   rcases ak hc_9 with⟨hc_13,hc_9⟩|⟨hc_13,hc_9⟩
   ·refine aD rfl hc_13 (aj (aa (vI 1) (af ?_)))
    obtain rfl:=ae hc_9
    obtain rfl:=ae hL_10
    obtain rfl:=ae hF
    exact aC (aL [(vI 1)] ⟨rfl,trivial⟩)
   ·refine aB rfl hc_13 (ay (aj (aa (vL eI s2_2) (aa (vI (k_3:Int)) ?_))))
    obtain ⟨y_14,hy_15,hc_9⟩:=bind_some hc_9
    refine eU iW rfl rfl hy_15 rfl wz (bI sz3 ag3 rfl (vI y_14) rfl wz (aa (vI y_14) (af (aj (aa (vI x_5) (aa (vI y_14) ?_))))))
    obtain ⟨r_16,hr_17,hc_9⟩:=bind_some hc_9
    refine aF (kM hr_17) rfl hb61 rfl rfl rfl rfl wz (aa (vI r_16) (af (aj (aa (vI r_16) (aa (vB (r_16 != 0)) (af ?_))))))
    rcases ak hc_9 with⟨hc_18,hc_9⟩|⟨hc_18,hc_9⟩
    ·refine aD rfl hc_18 (aj (aa (vI r_16) (aa (vI r_16) (af ?_))))
     obtain rfl:=ae hc_9
     obtain rfl:=ae hL_10
     obtain rfl:=ae hF
     exact aC (aL [(vI r_16)] ⟨rfl,trivial⟩)
    ·refine aB rfl hc_18 (ay (ax (fJ (bE hD_6 hn_7) wz rfl (aa (vI ((k_3+1:Nat):Int)) (af ?_)))))
     obtain rfl:=ae hc_9
     exact aS (k_3+1,l_4,()) ⟨hL_10,aR hD_6⟩ (ls_ _) rfl (aJ rfl)
 ·rintro s_8 ho_ sl_ H_ hp_ hq_
  subst ho_
  refine aO _ hp_ hq_ (au (aj (aa (vL eI s1_1) (bN qc rfl wz (aa (vL eI s2_2) (bN qc rfl wz (aa (vB (decide ((s1_1.length:Int)<(s2_2.length:Int)))) (af ?_))))))))
  rcases ak hF with⟨hc_19,hF⟩|⟨hc_19,hF⟩
  ·refine aD rfl hc_19 (aj (aa (vI (-1)) (af ?_)))
   obtain rfl:=ae hF
   exact aC (aL [(vI (-1))] ⟨rfl,trivial⟩)
  ·refine aB rfl hc_19 (ay (aj (aa (vI 0) (af ?_))))
   obtain rfl:=ae hF
   exact aC (aL [(vI 0)] ⟨rfl,trivial⟩)
theorem Dm {a_1:Entry} {b_2:Entry} {p_3:Player} {p_4:Int} {r:Int} (hF:nN a_1 b_2 p_3 p_4=some r) :
  FnM Tryz.prog 106 [(.d (.agg (Entry.enc a_1))),(.d (.agg (Entry.enc b_2))),(.ref (av 0) 0 0),(.ref (av 1) 0 0)] [(.cells 4 (Player.v p_3)),(.cells 1 [(vI p_4)])] (vI r) [some (.cells 4 (Player.v p_3)),some (.cells 1 [(vI p_4)])]:=by
 refine FnM.of_wH ⟨Tryz.prog,45,[],[]⟩ rfl Tryz.func106 rfl rfl (lb_ rfl) (by kernel_rfl) ?_
 unfold nN at hF
 refine aj (bZ 0 (.inl rfl) (Entry.v a_1) rfl rfl wz (λn_5=>bZ 0 (.inl rfl) (Entry.v b_2) rfl rfl wz (λn_6=>aa (vI 0) (af (aj (aA 0 2 il ft iZ kK rfl rfl (.d (.agg (Entry.enc a_1))) rfl wz (aI uX rfl 2 rfl wz (aA 0 0 il ft sz3 ag3 rfl rfl (vI p_3.Zone) rfl wz (aA 0 1 il ft sz3 ag3 rfl rfl (vI p_4) rfl wz ?_)))))))))
 obtain ⟨r_7,hr_8,hF⟩:=bind_some hF
 refine aF (uL hr_8) rfl Oj rfl rfl rfl rfl wz (aa (.tup [(vI r_7.1),(vB r_7.2)]) (aa (vI r_7.1) (aa (vB r_7.2) (aa (vI r_7.1) (aa (vB r_7.2) (af (aj (aA 0 3 il ft iZ kK rfl rfl (.d (.agg (Entry.enc b_2))) rfl wz (aI uX rfl 2 rfl wz (aA 0 0 il ft sz3 ag3 rfl rfl (vI p_3.Zone) rfl wz (aA 0 1 il ft sz3 ag3 rfl rfl (vI p_4) rfl wz ?_)))))))))))
 obtain ⟨r_9,hr_10,hF⟩:=bind_some hF
 refine aF (uL hr_10) rfl Oj rfl rfl rfl rfl wz (aa (.tup [(vI r_9.1),(vB r_9.2)]) (aa (vI r_9.1) (aa (vB r_9.2) (aa (vI r_9.1) (aa (vB r_9.2) (af (au (aj (aI ve rfl 10 rfl wz (aA 0 3 il ft sz3 ag3 rfl rfl (vI b_2.Prio) rfl wz (aa (vI r_9.1) (dU (([b_2.Prio,r_9.1]:List Int).map eI) iW qA rfl rfl rfl rfl rfl wz (aI ve rfl 10 rfl wz (aA 0 2 il ft sz3 ag3 rfl rfl (vI a_1.Prio) rfl wz (aa (vI r_7.1) (dU (([a_1.Prio,r_7.1]:List Int).map eI) iW qA rfl rfl rfl rfl rfl wz ?_))))))))))))))))
 obtain ⟨r_11,hr_12,hF⟩:=bind_some hF
 refine aF (rT hr_12) rfl hb107 rfl rfl rfl rfl wz (aa (vI r_11) (af (aO (H0:=([((av 0),some (.cells 4 (Player.v p_3))),((av 1),some (.cells 1 [(vI p_4)])),(n_5,some (.cells 13 (Entry.v a_1))),(n_6,some (.cells 13 (Entry.v b_2)))]:Hp)) ([(4,(.ref n_5 0 0)),(5,(.ref n_6 0 0)),(11,(vI r_11))]:SL_) (by kernel_rfl) (DJ (by kernel_rfl)) (aj (aa (vI r_11) (aa (vB (r_11 != 0)) (af ?_)))))))
 rcases ak hF with⟨hc_13,hF⟩|⟨hc_13,hF⟩
 ·refine aD rfl hc_13 (aj (aa (vI r_11) (aa (vI r_11) (af ?_))))
  obtain rfl:=ae hF
  exact aC (qB (.inr rfl) [(vI r_11)] _ [0,1] [av 0,av 1] ⟨rfl,trivial⟩ (.cons (iq rfl rfl) (.nil)) (by kernel_rfl) ⟨(by kernel_rfl),⟨(by kernel_rfl),trivial⟩⟩ (by decide) (by kernel_rfl))
 ·refine aB rfl hc_13 (ay (aj (aI kg rfl 0 rfl wz (aA 0 3 il ft sz9 ag9 rfl rfl (vS b_2.Key) rfl wz (aI kg rfl 0 rfl wz (aA 0 2 il ft sz9 ag9 rfl rfl (vS a_1.Key) rfl wz ?_))))))
  obtain ⟨r_14,hr_15,hF⟩:=bind_some hF
  refine aF (nK hr_15) rfl hb53 rfl rfl rfl rfl wz (aa (vI r_14) (af ?_))
  obtain rfl:=ae hF
  exact aC (qB (.inr rfl) [(vI r_14)] _ [0,1] [av 0,av 1] ⟨rfl,trivial⟩ (.cons (iq rfl rfl) (.nil)) (by kernel_rfl) ⟨(by kernel_rfl),⟨(by kernel_rfl),trivial⟩⟩ (by decide) (by kernel_rfl))
theorem yS {x_1:Int} {r:Int} (hF:qj x_1=some r) :
  FnM Tryz.prog 120 [(.d (.int .u64 x_1))] [] (vI r) []:=by
 refine FnM.of_wH ⟨Tryz.prog,25,[],[]⟩ rfl Tryz.func120 rfl rfl (lb_ rfl) (by kernel_rfl) ?_
 unfold qj at hF
 refine aj (aa (vI 0) (af (au (aj (aa (.d (.int .u64 x_1)) (aa (vB (decide (x_1>=4294967296))) (af ?_)))))))
 obtain ⟨v_2,h_3,hF⟩:=bind_some hF
 refine aQ [(0,(.d (.int .u64 v_2.1))),(2,(vI v_2.2))] [] ?_ ?_
 ·rcases ak h_3 with⟨hc_4,h_3⟩|⟨hc_4,h_3⟩
  ·refine aD rfl hc_4 (aj (aa (.d (.int .u64 x_1)) ?_))
   obtain ⟨q_5,hz_6,h_3⟩:=bind_some h_3
   refine Fv rfl rfl hz_6 wz (aa (.d (.int .u64 q_5)) (af (ax (aa (vI 32) (af ?_)))))
   obtain rfl:=ae h_3
   exact cu
  ·refine aB rfl hc_4 (ay ?_)
   obtain rfl:=ae h_3
   exact cu
 ·rintro ⟨⟩ _ sl_ H_ hp_ hq_
  refine aO _ hp_ hq_ (au (aj (aa (.d (.int .u64 v_2.1)) (aa (vB (decide (v_2.1>=65536))) (af ?_)))))
  obtain ⟨v_7,h_8,hF⟩:=bind_some hF
  refine aQ [(0,(.d (.int .u64 v_7.1))),(2,(vI v_7.2))] [] ?_ ?_
  ·rcases ak h_8 with⟨hc_9,h_8⟩|⟨hc_9,h_8⟩
   ·refine aD rfl hc_9 (aj (aa (.d (.int .u64 v_2.1)) ?_))
    obtain ⟨q_10,hz_11,h_8⟩:=bind_some h_8
    refine Fv rfl rfl hz_11 wz (aa (.d (.int .u64 q_10)) (af (ax (aa (vI v_2.2) (aa (vI (w64 (v_2.2+16))) (aa (vI (w64 (v_2.2+16))) (af ?_)))))))
    obtain rfl:=ae h_8
    exact cu
   ·refine aB rfl hc_9 (ay ?_)
    obtain rfl:=ae h_8
    exact cu
  ·rintro ⟨⟩ _ sl_ H_ hp_ hq_
   refine aO _ hp_ hq_ (au (aj (aa (.d (.int .u64 v_7.1)) (aa (vB (decide (v_7.1>=256))) (af ?_)))))
   obtain ⟨v_12,h_13,hF⟩:=bind_some hF
   refine aQ [(0,(.d (.int .u64 v_12.1))),(2,(vI v_12.2))] [] ?_ ?_
   ·rcases ak h_13 with⟨hc_14,h_13⟩|⟨hc_14,h_13⟩
    ·refine aD rfl hc_14 (aj (aa (.d (.int .u64 v_7.1)) ?_))
     obtain ⟨q_15,hz_16,h_13⟩:=bind_some h_13
     refine Fv rfl rfl hz_16 wz (aa (.d (.int .u64 q_15)) (af (ax (aa (vI v_7.2) (aa (vI (w64 (v_7.2+8))) (aa (vI (w64 (v_7.2+8))) (af ?_)))))))
     obtain rfl:=ae h_13
     exact cu
    ·refine aB rfl hc_14 (ay ?_)
     obtain rfl:=ae h_13
     exact cu
   ·rintro ⟨⟩ _ sl_ H_ hp_ hq_
    refine aO _ hp_ hq_ (aj (aa (vI v_12.2) (aa (.d (.int .u64 v_12.1)) (wT un149 un5 rfl wz ?_))))
    obtain ⟨b_17,hy_18,hF⟩:=bind_some hF
    refine JR un9 rfl rfl hy_18 wz (wT un5 un3 rfl wz (aa (vI (w64 (v_12.2+(w64 (b_17.toNat:Int))))) (aa (vI (w64 (v_12.2+(w64 (b_17.toNat:Int))))) (af ?_))))
    obtain rfl:=ae hF
    exact aC (aL [(vI (w64 (v_12.2+(w64 (b_17.toNat:Int)))))] ⟨rfl,trivial⟩)
theorem ut {x_1:Int} {r:Int} (hF:jU x_1=some r) :
  FnM Tryz.prog 87 [(.d (.int .u64 x_1))] [] (vI r) []:=by
 refine FnM.of_wH ⟨Tryz.prog,8,[],[]⟩ rfl Tryz.func87 rfl rfl (lb_ rfl) (by kernel_rfl) ?_
 unfold jU at hF
 refine aj (aa (vI 0) (af (au (aB rfl rfl (ay (aj (aa (.d (.int .u64 x_1)) ?_)))))))
 obtain ⟨r_2,hr_3,hF⟩:=bind_some hF
 refine aF (yS hr_3) rfl hb120 rfl rfl rfl rfl wz (aa (vI r_2) (af ?_))
 obtain rfl:=ae hF
 exact aC (aL [(vI r_2)] ⟨rfl,trivial⟩)
theorem kF {data_1:(List Entry)} {a_2:Int} {b_3:Int} {cmp4_5:Player} {cmp4_6:Int} {r:(List Entry)} (hF:fw data_1 a_2 b_3 cmp4_5 cmp4_6=some r) :
  FnM Tryz.prog 182 [(dV (av 2) 13 data_1),(vI a_2),(vI b_3),(.fn 106 [(.ref (av 0) 0 0),(.ref (av 1) 0 0)])] (([(.cells 4 (Player.v cmp4_5)),(.cells 1 [(vI cmp4_6)])]:List Box)++gI 13 Entry.enc data_1) (.tup []) (([(.cells 4 (Player.v cmp4_5)),(.cells 1 [(vI cmp4_6)])]:List Box).map some++gT data_1 (gB 13 Entry.enc r)):=by
 refine FnM.of_wHv ⟨Tryz.prog,53,[],[]⟩ rfl Tryz.func182 rfl rfl (lb_ rfl) (by kernel_rfl) ?_
 unfold fw at hF
 refine aj (aa (vI a_2) (aa (vI (w64 (a_2+1))) (aa (vI (w64 (a_2+1))) (af ?_))))
 obtain ⟨o_15,hj_16,hF⟩:=bind_some hF
 obtain ⟨nq_54,hj_16⟩:=dZ hj_16
 refine jh (λ(s_12:(List Entry)×Int)=>[]) (λ(s_12:(List Entry)×Int)=>[((av 0),some (.cells 4 (Player.v cmp4_5))),((av 1),some (.cells 1 [(vI cmp4_6)])),((av 2),gB 13 Entry.enc s_12.1)]) (λ(k_7:Nat)=>(λ(s_12:(List Entry)×Int)=>[(0,(dV (av 2) 13 s_12.1)),(1,(vI a_2)),(2,(vI b_3)),(3,(.fn 106 [(.ref (av 0) 0 0),(.ref (av 1) 0 0)])),(8,(vI s_12.2))])) (λs=>eD b_3 a_2 cmp4_5 cmp4_6 s) o_15 nq_54 (data_1,(w64 (a_2+1))) hj_16 rfl (aJ rfl) ?_ ?_
 ·rintro ⟨k_7,s_12⟩ hL_14
  dsimp only at hL_14
  cases k_7 with
  | zero=>cases hL_14
  | succ k_7 =>
   obtain ⟨c_,hc_13,hL_14⟩:=bind_some hL_14
   unfold eD at hc_13
   refine au (aj (aa (vI s_12.2) (aa (vI b_3) (aa (vB (decide (s_12.2<b_3))) (af ?_)))))
   rcases ak hc_13 with⟨hc_17,hc_13⟩|⟨hc_17,hc_13⟩
   ·refine aD rfl hc_17 (ay (au (aN (aj (aa (vI s_12.2) (aa (vI s_12.2) (af ?_)))))))
    obtain ⟨o_26,hj_27,hc_13⟩:=bind_some hc_13
    obtain ⟨nq_53,hj_27⟩:=dZ hj_27
    refine jh (λ(s_23:(List Entry)×Int)=>[(0,(dV (av 2) 13 s_23.1)),(1,(vI a_2)),(2,(vI b_3)),(3,(.fn 106 [(.ref (av 0) 0 0),(.ref (av 1) 0 0)])),(8,(vI s_12.2))]) (λ(s_23:(List Entry)×Int)=>[((av 0),some (.cells 4 (Player.v cmp4_5))),((av 1),some (.cells 1 [(vI cmp4_6)])),((av 2),gB 13 Entry.enc s_23.1)]) (λ(k_18:Nat)=>(λ(s_23:(List Entry)×Int)=>[(0,(dV (av 2) 13 s_23.1)),(1,(vI a_2)),(2,(vI b_3)),(3,(.fn 106 [(.ref (av 0) 0 0),(.ref (av 1) 0 0)])),(8,(vI s_12.2)),(9,(vI s_23.2))])) (λs=>eu a_2 cmp4_5 cmp4_6 s) o_26 nq_53 (s_12.1,s_12.2) hj_27 rfl (aJ rfl) ?_ ?_
    ·rintro ⟨k_18,s_23⟩ hL_25
     dsimp only at hL_25
     cases k_18 with
     | zero=>cases hL_25
     | succ k_18 =>
      obtain ⟨c_,hc_24,hL_25⟩:=bind_some hL_25
      unfold eu at hc_24
      refine au (au ?_)
      obtain ⟨v_28,h_29,hc_24⟩:=bind_some hc_24
      refine aQ [(0,(dV (av 2) 13 s_23.1)),(1,(vI a_2)),(2,(vI b_3)),(3,(.fn 106 [(.ref (av 0) 0 0),(.ref (av 1) 0 0)])),(8,(vI s_12.2)),(9,(vI s_23.2)),(34,(vB v_28))] [((av 0),some (.cells 4 (Player.v cmp4_5))),((av 1),some (.cells 1 [(vI cmp4_6)])),((av 2),gB 13 Entry.enc s_23.1)] ?_ ?_
      ·refine dA (aa (vI s_23.2) (aa (vI a_2) (aa (vB (decide (s_23.2>a_2))) ?_)))
       rcases ak h_29 with⟨hc_30,h_29⟩|⟨hc_30,h_29⟩
       ·refine aH rfl hc_30 wz (aK (.fn 106 [(.ref (av 0) 0 0),(.ref (av 1) 0 0)]) wa rfl (aK (dV (av 2) 13 s_23.1) wa rfl (aK (vI s_23.2) wa rfl ?_)))
        obtain ⟨_,hi_31,h_29⟩:=bind_some h_29
        refine mq qh rfl rfl (jG hi_31) (gW hi_31) wa ?_
        obtain ⟨e_32,hy_33,h_29⟩:=bind_some h_29
        refine kC 8 2 (.inr (by kernel_rfl)) (λ_ _ ag=>trivial) iZ kK rfl rfl hy_33 (.d (.agg (Entry.enc e_32))) rfl wa (aK (dV (av 2) 13 s_23.1) wa rfl (aK (vI s_23.2) wa rfl (aK (vI (w64 (s_23.2-1))) wa rfl ?_)))
        obtain ⟨_,hi_34,h_29⟩:=bind_some h_29
        refine mq qh rfl rfl (jG hi_34) (gW hi_34) wa ?_
        obtain ⟨e_35,hy_36,h_29⟩:=bind_some h_29
        refine kC 13 2 (.inr (by kernel_rfl)) (λ_ _ ag=>⟨.inl ⟨rfl,rfl⟩,trivial⟩) iZ kK rfl rfl hy_36 (.d (.agg (Entry.enc e_35))) rfl wa ?_
        obtain ⟨r_37,hr_38,h_29⟩:=bind_some h_29
        refine h_callr 14 [0,1] (.inr (by kernel_rfl)) (λ_ _ ag=>by exact⟨.inl ⟨rfl,rfl⟩,⟨.inl ⟨rfl,rfl⟩,trivial⟩⟩) (Dm hr_38) rfl hb106 rfl (by kernel_rfl) (by kernel_rfl) (by kernel_rfl) (by kernel_rfl) (by kernel_rfl) (by kernel_rfl) (by decide) wa (vI r_37) (by kernel_rfl) (aK (vB (decide (r_37<0))) wa rfl (aa (vB (decide (r_37<0))) (af ?_)))
        obtain rfl:=ae h_29
        exact cu
       ·refine aH rfl hc_30 wz (ah (ah (ah (ah (ah (ah (ah (ah (ah (ah (ah (ah (aa (vB false) (af ?_))))))))))))))
        obtain rfl:=ae h_29
        exact cu
      ·rintro ⟨⟩ _ sl_ H_ hp_ hq_
       refine aO _ hp_ hq_ ?_
       rcases ak hc_24 with⟨hc_40,hc_24⟩|⟨hc_40,hc_24⟩
       ·refine aD rfl hc_40 (ay (au (aN (dA (aa (dV (av 2) 13 s_23.1) (aa (vI s_23.2) (aa (dV (av 2) 13 s_23.1) (aa (vI s_23.2) (aa (vI (w64 (s_23.2-1))) (aa (dV (av 2) 13 s_23.1) (aa (vI s_23.2) (aa (vI (w64 (s_23.2-1))) ?_))))))))))))
        obtain ⟨_,hi_41,hc_24⟩:=bind_some hc_24
        refine mq qh rfl rfl (jG hi_41) (gW hi_41) wz ?_
        obtain ⟨e_42,hy_43,hc_24⟩:=bind_some hc_24
        refine kC 9 2 (.inr (by kernel_rfl)) (λ_ _ ag=>trivial) iZ kK rfl rfl hy_43 (.d (.agg (Entry.enc e_42))) rfl wz (aa (dV (av 2) 13 s_23.1) (aa (vI s_23.2) ?_))
        obtain ⟨_,hi_44,hc_24⟩:=bind_some hc_24
        refine mq qh rfl rfl (jG hi_44) (gW hi_44) wz ?_
        obtain ⟨e_45,hy_46,hc_24⟩:=bind_some hc_24
        refine kC 13 2 (.inr (by kernel_rfl)) (λ_ _ ag=>⟨.inl ⟨rfl,rfl⟩,trivial⟩) iZ kK rfl rfl hy_46 (.d (.agg (Entry.enc e_45))) rfl wz ?_
        obtain ⟨_,hi_47,hc_24⟩:=bind_some hc_24
        refine mq qh rfl rfl (jG hi_47) (gW hi_47) wz ?_
        obtain ⟨e_48,hy_49,hc_24⟩:=bind_some hc_24
        refine lG 15 (.inr (by kernel_rfl)) (λ_ _ ag=>⟨.inr (.inr (by kernel_rfl)),⟨.inr (.inr (by kernel_rfl)),trivial⟩⟩) 2 iZ rfl rfl hy_49 e_42 rfl wz (bL (v':=(dV (av 2) 13 (s_23.1.set (0+(s_23.2).toNat) e_42))) 0 rfl (gX (by simp)) (bL (v':=(dV (av 2) 13 (s_23.1.set (0+(s_23.2).toNat) e_42))) 37 rfl (gX (by simp)) (bL (v':=(dV (av 2) 13 (s_23.1.set (0+(s_23.2).toNat) e_42))) 39 rfl (gX (by simp)) (bL (v':=(dV (av 2) 13 (s_23.1.set (0+(s_23.2).toNat) e_42))) 42 rfl (gX (by simp)) (bL (v':=(dV (av 2) 13 (s_23.1.set (0+(s_23.2).toNat) e_42))) 47 rfl (gX (by simp)) ?_)))))
        obtain ⟨_,hi_50,hc_24⟩:=bind_some hc_24
        refine mq qh rfl rfl (jG hi_50) (gW hi_50) wz ?_
        obtain ⟨e_51,hy_52,hc_24⟩:=bind_some hc_24
        refine lG 17 (.inr (by kernel_rfl)) (λ_ _ ag=>⟨.inr (.inr (by kernel_rfl)),⟨.inr (.inr (by kernel_rfl)),⟨.inr (.inr (by kernel_rfl)),trivial⟩⟩⟩) 2 iZ rfl rfl hy_52 e_45 rfl wz (bL (v':=(dV (av 2) 13 ((s_23.1.set (0+(s_23.2).toNat) e_42).set (0+((w64 (s_23.2-1))).toNat) e_45))) 0 rfl (gX (by simp)) (bL (v':=(dV (av 2) 13 ((s_23.1.set (0+(s_23.2).toNat) e_42).set (0+((w64 (s_23.2-1))).toNat) e_45))) 37 rfl (gX (by simp)) (bL (v':=(dV (av 2) 13 ((s_23.1.set (0+(s_23.2).toNat) e_42).set (0+((w64 (s_23.2-1))).toNat) e_45))) 39 rfl (gX (by simp)) (bL (v':=(dV (av 2) 13 ((s_23.1.set (0+(s_23.2).toNat) e_42).set (0+((w64 (s_23.2-1))).toNat) e_45))) 42 rfl (gX (by simp)) (bL (v':=(dV (av 2) 13 ((s_23.1.set (0+(s_23.2).toNat) e_42).set (0+((w64 (s_23.2-1))).toNat) e_45))) 47 rfl (gX (by simp)) (af (ax (aa (vI s_23.2) (aa (vI (w64 (s_23.2-1))) (aa (vI (w64 (s_23.2-1))) (af ?_)))))))))))
        obtain rfl:=ae hc_24
        exact aS (k_18,(((s_23.1.set (0+(s_23.2).toNat) e_42).set (0+((w64 (s_23.2-1))).toNat) e_45),(w64 (s_23.2-1)))) hL_25 (ls_ _) rfl (aJ rfl)
       ·refine aB rfl hc_40 (aU ?_)
        obtain rfl:=ae hc_24
        obtain rfl:=ae hL_25
        exact aV ((s_23.1,s_23.2)) rfl rfl (aJ rfl)
    ·rintro s_23 ho_ sl_ H_ hp_ hq_
     subst ho_
     refine aO _ hp_ hq_ (ax (aa (vI s_12.2) (aa (vI (w64 (s_12.2+1))) (aa (vI (w64 (s_12.2+1))) (af ?_)))))
     obtain rfl:=ae hc_13
     exact aS (k_7,(s_23.1,(w64 (s_12.2+1)))) hL_14 (ls_ _) rfl (aJ rfl)
   ·refine aB rfl hc_17 (aU ?_)
    obtain rfl:=ae hc_13
    obtain rfl:=ae hL_14
    exact aV ((s_12.1,s_12.2)) rfl rfl (aJ rfl)
 ·rintro s_12 ho_ sl_ H_ hp_ hq_
  subst ho_
  show wS _ _ _ _ _ _ _ _
  obtain rfl:=ae hF
  exact Ck (H0:=([((av 0),some (.cells 4 (Player.v cmp4_5))),((av 1),some (.cells 1 [(vI cmp4_6)])),((av 2),gB 13 Entry.enc s_12.1)]:Hp)) (sl':=envS []) hq_ (BJ (bs:=([(.cells 4 (Player.v cmp4_5)),(.cells 1 [(vI cmp4_6)])]:List Box)) (os:=([(.cells 4 (Player.v cmp4_5)),(.cells 1 [(vI cmp4_6)])]:List Box)) (xs:=data_1) (o:=gB 13 Entry.enc s_12.1) (.inl rfl) [] trivial rfl rfl rfl rfl rfl (by kernel_rfl) oz rfl)
theorem mF {data_1:(List Entry)} {a_2:Int} {b_3:Int} {limit_4:Int} {cmp5_6:Player} {cmp5_7:Int} {r:(List Entry)} (hF:gM data_1 a_2 b_3 limit_4 cmp5_6 cmp5_7=some r) :
  FnM Tryz.prog 158 [(dV (av 2) 13 data_1),(vI a_2),(vI b_3),(vI limit_4),(.fn 106 [(.ref (av 0) 0 0),(.ref (av 1) 0 0)])] (([(.cells 4 (Player.v cmp5_6)),(.cells 1 [(vI cmp5_7)])]:List Box)++gI 13 Entry.enc data_1) (.tup []) (([(.cells 4 (Player.v cmp5_6)),(.cells 1 [(vI cmp5_7)])]:List Box).map some++gT data_1 (gB 13 Entry.enc r)):=by
 refine FnM.of_wHv ⟨Tryz.prog,148,[],[]⟩ rfl Tryz.func158 rfl rfl (lb_ rfl) (by kernel_rfl) ?_
 unfold gM at hF
 refine aj (aa (vB true) (af (aj (aa (vB true) (af ?_)))))
 obtain ⟨o_16,hj_17,hF⟩:=bind_some hF
 obtain ⟨nq_23,hj_17⟩:=dZ hj_17
 refine jh (λ(s_13:Unit)=>[]) (λ(s_13:Unit)=>[((av 0),some (.cells 4 (Player.v cmp5_6))),((av 1),some (.cells 1 [(vI cmp5_7)])),((av 2),gB 13 Entry.enc data_1)]) (λ(k_8:Nat)=>(λ(s_13:Unit)=>[(0,(dV (av 2) 13 data_1)),(1,(vI a_2)),(2,(vI b_3)),(3,(vI limit_4)),(4,(.fn 106 [(.ref (av 0) 0 0),(.ref (av 1) 0 0)])),(10,(vB true)),(11,(vB true))])) (λs=>gp b_3 a_2 data_1 cmp5_6 cmp5_7 limit_4 s) o_16 nq_23 () hj_17 rfl (aJ rfl) ?_ ?_
 ·rintro ⟨k_8,s_13⟩ hL_15
  dsimp only at hL_15
  cases k_8 with
  | zero=>cases hL_15
  | succ k_8 =>
   obtain ⟨c_,hc_14,hL_15⟩:=bind_some hL_15
   unfold gp at hc_14
   refine aN (aj (aa (vI b_3) (aa (vI a_2) (aa (vI (w64 (b_3-a_2))) (aa (vI (w64 (b_3-a_2))) (af (au (aj (aa (vI (w64 (b_3-a_2))) (aa (vB (decide ((w64 (b_3-a_2))<=12))) (af ?_)))))))))))
   rcases ak hc_14 with⟨hc_18,hc_14⟩|⟨hc_18,hc_14⟩
   ·refine aD rfl hc_18 (aj (aa (dV (av 2) 13 data_1) (aa (vI a_2) (aa (vI b_3) (aa (.fn 106 [(.ref (av 0) 0 0),(.ref (av 1) 0 0)]) ?_)))))
    obtain ⟨r_19,hr_20,hc_14⟩:=bind_some hc_14
    obtain ⟨_,hs_21,hc_14⟩:=bind_some hc_14
    replace hs_21:=oG hs_21
    refine nG 0 [0,1] 2 0 il ft (kF hr_20) rfl hb182 rfl rfl rfl (by kernel_rfl) rfl (.inr (.inl rfl)) rfl (by kernel_rfl) (by kernel_rfl) (by kernel_rfl) (by kernel_rfl) rfl (by decide) (by kernel_rfl) oz (xP hs_21) wz ([((av 0),some (.cells 4 (Player.v cmp5_6))),((av 1),some (.cells 1 [(vI cmp5_7)])),((av 2),gB 13 Entry.enc r_19)]:Hp) (by kernel_rfl) (bL (v':=(dV (av 2) 13 r_19)) 0 rfl (gX hs_21.symm) (bL (v':=(dV (av 2) 13 r_19)) 26 rfl (gX hs_21.symm) (af ?_)))
    obtain rfl:=ae hc_14
    obtain rfl:=ae hL_15
    obtain rfl:=ae hF
    exact aC (BJ (bs:=([(.cells 4 (Player.v cmp5_6)),(.cells 1 [(vI cmp5_7)])]:List Box)) (os:=([(.cells 4 (Player.v cmp5_6)),(.cells 1 [(vI cmp5_7)])]:List Box)) (xs:=data_1) (o:=gB 13 Entry.enc r_19) (.inr rfl) [] trivial rfl rfl rfl rfl rfl (by kernel_rfl) oz rfl)
   ·refine aB rfl hc_18 (ay (au (aj (aa (vI limit_4) (aa (vB (limit_4==0)) (af ?_))))))
    rcases ak hc_14 with⟨hc_22,hc_14⟩|⟨hc_22,hc_14⟩
    ·refine aD rfl hc_22 (aj (aa (dV (av 2) 13 data_1) (aa (vI a_2) (aa (vI b_3) (aa (.fn 106 [(.ref (av 0) 0 0),(.ref (av 1) 0 0)]) ?_)))))
     cases hc_14
    ·refine aB rfl hc_22 (ay (au (aj (aa (vB true) (aa (vB false) (af (aB rfl rfl (ay (aj (aa (dV (av 2) 13 data_1) (aa (vI a_2) (aa (vI b_3) (aa (.fn 106 [(.ref (av 0) 0 0),(.ref (av 1) 0 0)]) ?_)))))))))))))
     cases hc_14
 ·rintro s_13 ho_ sl_ H_ hp_ hq_
  subst ho_
  show wS _ _ _ _ _ _ _ _
  obtain rfl:=ae hF
  exact Ck (H0:=([((av 0),some (.cells 4 (Player.v cmp5_6))),((av 1),some (.cells 1 [(vI cmp5_7)])),((av 2),gB 13 Entry.enc data_1)]:Hp)) (sl':=envS []) hq_ (BJ (bs:=([(.cells 4 (Player.v cmp5_6)),(.cells 1 [(vI cmp5_7)])]:List Box)) (os:=([(.cells 4 (Player.v cmp5_6)),(.cells 1 [(vI cmp5_7)])]:List Box)) (xs:=data_1) (o:=gB 13 Entry.enc data_1) (.inl rfl) [] trivial rfl rfl rfl rfl rfl (by kernel_rfl) oz rfl)
theorem lu {x_1:(List Entry)} {cmp2_3:Player} {cmp2_4:Int} {r:(List Entry)} (hF:dQ x_1 cmp2_3 cmp2_4=some r) :
  FnM Tryz.prog 105 [(dV (av 2) 13 x_1),(.fn 106 [(.ref (av 0) 0 0),(.ref (av 1) 0 0)])] (([(.cells 4 (Player.v cmp2_3)),(.cells 1 [(vI cmp2_4)])]:List Box)++gI 13 Entry.enc x_1) (.tup []) (([(.cells 4 (Player.v cmp2_3)),(.cells 1 [(vI cmp2_4)])]:List Box).map some++gT x_1 (gB 13 Entry.enc r)):=by
 refine FnM.of_wHv ⟨Tryz.prog,14,[],[]⟩ rfl Tryz.func105 rfl rfl (lb_ rfl) (by kernel_rfl) ?_
 unfold dQ at hF
 refine aj (aa (dV (av 2) 13 x_1) (A9 yB rfl wz (aa (vI (x_1.length:Int)) (af (ax (aa (dV (av 2) 13 x_1) (aa (vI (x_1.length:Int)) (aa (vI (x_1.length:Int)) (wT un3 Fh rfl wz ?_)))))))))
 obtain ⟨r_5,hr_6,hF⟩:=bind_some hF
 refine aF (ut hr_6) rfl hb87 rfl rfl rfl rfl wz (aa (.fn 106 [(.ref (av 0) 0 0),(.ref (av 1) 0 0)]) ?_)
 obtain ⟨r_7,hr_8,hF⟩:=bind_some hF
 obtain ⟨_,hs_9,hF⟩:=bind_some hF
 replace hs_9:=oG hs_9
 refine nG 0 [0,1] 2 0 il ft (mF hr_8) rfl hb158 rfl rfl rfl (by kernel_rfl) rfl (.inr (.inl rfl)) rfl (by kernel_rfl) (by kernel_rfl) (by kernel_rfl) (by kernel_rfl) rfl (by decide) (by kernel_rfl) oz (xP hs_9) wz ([((av 0),some (.cells 4 (Player.v cmp2_3))),((av 1),some (.cells 1 [(vI cmp2_4)])),((av 2),gB 13 Entry.enc r_7)]:Hp) (by kernel_rfl) (bL (v':=(dV (av 2) 13 r_7)) 0 rfl (gX hs_9.symm) (bL (v':=(dV (av 2) 13 r_7)) 5 rfl (gX hs_9.symm) (bL (v':=(dV (av 2) 13 r_7)) 7 rfl (gX hs_9.symm) (af ?_))))
 show wS _ _ _ _ _ _ _ _
 obtain rfl:=ae hF
 exact BJ (bs:=([(.cells 4 (Player.v cmp2_3)),(.cells 1 [(vI cmp2_4)])]:List Box)) (os:=([(.cells 4 (Player.v cmp2_3)),(.cells 1 [(vI cmp2_4)])]:List Box)) (xs:=x_1) (o:=gB 13 Entry.enc r_7) (.inl rfl) [] trivial rfl rfl rfl rfl rfl (by kernel_rfl) oz rfl
theorem GR {l_1:(List Entry)} {p_2:Player} {atv_3:Int} {r:(List Entry)} (hF:uD l_1 p_2 atv_3=some r) :
  FnM Tryz.prog 79 [(vL Entry.enc l_1),(.d (.agg (Player.enc p_2))),(vI atv_3)] [] (vL Entry.enc r) []:=by
 refine FnM.of_wH ⟨Tryz.prog,41,[],[]⟩ rfl Tryz.func79 rfl rfl (lb_ rfl) (by kernel_rfl) ?_
 unfold uD at hF
 refine aj (bZ 0 (.inl rfl) (Player.v p_2) rfl rfl wz (λn_4=>bZ 0 (.inl rfl) [(vI atv_3)] rfl rfl wz (λn_5=>aa .nil (af (aj (aa .nil (af (au (aj (aa (vL Entry.enc l_1) (bN yB rfl wz (aa (vI 0) (af (kz (λn_12 => ?_)))))))))))))))
 obtain ⟨o_17,hj_18,hF⟩:=bind_some hF
 obtain ⟨hn_10,hj_18⟩:=bf hj_18
 refine jl (σ:=(List Entry)) (N:=Nm) (λp=>(λ(s_11:List Entry) (n_14:Nm)=>([(4,(.ref n_4 0 0)),(5,(.ref n_5 0 0)),(7,(gV n_14 13 s_11))]:SL_)) p.1 p.2) (λp=>(λ(s_11:List Entry) (n_14:Nm)=>([(n_4,some (.cells 4 (Player.v p_2))),(n_5,some (.cells 1 [(vI atv_3)])),(n_14,gB 13 Entry.enc s_11)]:Hp)) p.1 p.2) (λ(k_6:Nat)=>(λp=>(λ(s_11:List Entry) (n_14:Nm)=>([(4,(.ref n_4 0 0)),(5,(.ref n_5 0 0)),(7,(gV n_14 13 s_11)),(12,(vL Entry.enc l_1)),(13,(vI (l_1.length:Int))),(14,(vI (k_6:Int)))]:SL_)) p.1 p.2)) (λk x s=>oO p_2 atv_3 k x s) o_17 l_1 (([]:List Entry),n_12) hj_18 rfl (aJ rfl) ?_ ?_
 ·rintro ⟨k_6,l_7,s_11,n_14⟩ ⟨hL_16,hD_9⟩
  dsimp only at hL_16 hD_9
  cases l_7 with
  | nil =>
   obtain rfl:=ae hL_16
   refine aj (aa (vB (decide ((k_6:Int)<(l_1.length:Int)))) (af ?_))
   refine au (aB rfl (drop_nil hD_9) (aU ?_))
   exact aV (s_11,n_14) rfl rfl (aJ rfl)
  | cons x_8 l_7 =>
   obtain ⟨c_,hc_15,hL_16⟩:=bind_some hL_16
   refine aj (aa (vB (decide ((k_6:Int)<(l_1.length:Int)))) (af ?_))
   refine au (aD rfl (bz hD_9) (ay ?_))
   unfold oO at hc_15
   refine au (aN (aj (eU qh rfl rfl (bH hD_9) rfl wz (bI iZ kK rfl (.d (.agg (Entry.enc x_8))) rfl wz (bR 0 (.inl rfl) z68 rfl wz (λn_19=>eH 0 il ft 3 iZ rfl rfl (Entry.v x_8) rfl wz (af (aj (aA 0 3 il ft iZ kK rfl rfl (.d (.agg (Entry.enc x_8))) rfl wz (aI uX rfl 2 rfl wz (aA 0 0 il ft sz3 ag3 rfl rfl (vI p_2.Zone) rfl wz (aA 0 1 il ft sz3 ag3 rfl rfl (vI atv_3) rfl wz ?_))))))))))))
   obtain ⟨r_20,hr_21,hc_15⟩:=bind_some hc_15
   refine aF (uL hr_21) rfl Oj rfl rfl rfl rfl wz (aa (.tup [(vI r_20.1),(vB r_20.2)]) (aa (vI r_20.1) (aa (vB r_20.2) (aa (vI r_20.1) (aa (vB r_20.2) (af (au ?_)))))))
   obtain ⟨v_22,h_23,hc_15⟩:=bind_some hc_15
   refine aQ [(4,(.ref n_4 0 0)),(5,(.ref n_5 0 0)),(7,(gV n_14 13 s_11)),(9,(.ref n_19 0 0)),(12,(vL Entry.enc l_1)),(13,(vI (l_1.length:Int))),(14,(vI (k_6:Int))),(31,(vB v_22))] [(n_4,some (.cells 4 (Player.v p_2))),(n_5,some (.cells 1 [(vI atv_3)])),(n_14,gB 13 Entry.enc s_11),(n_19,some (.cells 13 (Entry.v x_8)))] ?_ ?_
   ·refine ax (aa (vB r_20.2) ?_)
    rcases ak h_23 with⟨hc_24,h_23⟩|⟨hc_24,h_23⟩
    ·refine aH rfl hc_24 wz (aA 0 3 il ft iZ kK rfl rfl (.d (.agg (Entry.enc x_8))) rfl wa (aA 0 0 il ft kQ mO rfl rfl (.d (.agg (Player.enc p_2))) rfl wa ?_))
     obtain ⟨r_25,hr_26,h_23⟩:=bind_some h_23
     refine aF (xQ hr_26) rfl hb49 rfl rfl rfl rfl wa (aa (vB r_25) (af ?_))
     obtain rfl:=ae h_23
     exact cu
    ·refine aH rfl hc_24 wz (ah (ah (ah (aa (vB false) (af ?_)))))
     obtain rfl:=ae h_23
     exact cu
   ·rintro ⟨⟩ _ sl_ H_ hp_ hq_
    refine aO _ hp_ hq_ ?_
    obtain ⟨v_27,h_28,hc_15⟩:=bind_some hc_15
    refine jO (β:=Nm) (λ(n_29:Nm)=>([(4,(.ref n_4 0 0)),(5,(.ref n_5 0 0)),(7,(gV n_29 13 v_27)),(12,(vL Entry.enc l_1)),(13,(vI (l_1.length:Int))),(14,(vI (k_6:Int)))]:SL_)) (λ(n_29:Nm)=>([(n_4,some (.cells 4 (Player.v p_2))),(n_5,some (.cells 1 [(vI atv_3)])),(n_29,gB 13 Entry.enc v_27),(n_19,some (.cells 13 (Entry.v x_8)))]:Hp)) (λ_=>True) ?_ ?_
    ·rcases ak h_28 with⟨hc_30,h_28⟩|⟨hc_30,h_28⟩
     ·refine aD rfl hc_30 (ax (aa (gV n_14 13 s_11) (aA 0 3 il ft iZ kK rfl rfl (.d (.agg (Entry.enc x_8))) rfl wz (dU (([x_8]:List Entry).map Entry.enc) qh ez26 rfl rfl rfl rfl rfl wz ?_))))
      obtain ⟨a_31,hz_32,h_28⟩:=bind_some h_28
      refine kI 0 il ft (i:=2) el26 el26 iZ z68 rfl (by decide) by68 (by decide) (λ_=>rfl) rfl rfl rfl hz_32 wz (λn_33=>aa (gV n_33 13 a_31) (af ?_))
      obtain rfl:=ae h_28
      exact aV n_33 trivial rfl (aJ rfl)
     ·refine aB rfl hc_30 (ay ?_)
      obtain rfl:=ae h_28
      exact aV n_14 trivial rfl (aJ rfl)
    ·rintro n_29 _ sl_ H_ hp_ hq_
     refine aO _ hp_ hq_ (ax (fJ (bE hD_9 hn_10) wz rfl (aa (vI ((k_6+1:Nat):Int)) (af ?_))))
     obtain rfl:=ae hc_15
     exact aS (k_6+1,l_7,v_27,n_29) ⟨hL_16,aR hD_9⟩ (ls_ _) rfl (aJ rfl)
 ·rintro ⟨s_11,n_14⟩ ho_ sl_ H_ hp_ hq_
  subst ho_
  refine aO _ hp_ hq_ (aj (aa (gV n_14 13 s_11) (aa (.fn 106 [(.ref n_4 0 0),(.ref n_5 0 0)]) ?_)))
  obtain ⟨r_34,hr_35,hF⟩:=bind_some hF
  obtain ⟨_,hs_36,hF⟩:=bind_some hF
  replace hs_36:=oG hs_36
  refine nG 0 [0,1] 2 0 il ft (lu hr_35) rfl hb105 rfl rfl rfl (by kernel_rfl) rfl (.inl rfl) rfl (by kernel_rfl) (by kernel_rfl) (by kernel_rfl) (by kernel_rfl) rfl (by decide) (by kernel_rfl) oz (xP hs_36) wz ([(n_4,some (.cells 4 (Player.v p_2))),(n_5,some (.cells 1 [(vI atv_3)])),(n_14,gB 13 Entry.enc r_34)]:Hp) (by kernel_rfl) (bL (v':=(gV n_14 13 r_34)) 37 rfl (bU hs_36.symm) (bL (v':=(gV n_14 13 r_34)) 7 rfl (bU hs_36.symm) (af (aj (aa (gV n_14 13 r_34) (aa (gV n_14 13 r_34) (af (iw 2 rfl (dJ 6 2 rfl rfl (dJ 7 2 rfl rfl (dJ 37 2 rfl rfl (dJ 40 2 rfl rfl ?_))))))))))))
  obtain rfl:=ae hF
  exact aC (aL [(vL Entry.enc r_34)] ⟨rfl,trivial⟩)
theorem Ik {l_1:(List Entry)} {p_2:Player} {atv_3:Int} {r:Entry} (hF:vX l_1 p_2 atv_3=some r) :
  FnM Tryz.prog 46 [(vL Entry.enc l_1),(.d (.agg (Player.enc p_2))),(vI atv_3)] [] (.d (.agg (Entry.enc r))) []:=by
 refine FnM.of_wH ⟨Tryz.prog,19,[],[]⟩ rfl Tryz.func46 rfl rfl (lb_ rfl) (by kernel_rfl) ?_
 unfold vX at hF
 refine aj (bZ 0 (.inl rfl) (Player.v p_2) rfl rfl wz (λn_4=>bR 0 (.inl rfl) z68 rfl wz (λn_5=>af (au (aj (aa (vL Entry.enc l_1) (aA 0 0 il ft kQ mO rfl rfl (.d (.agg (Player.enc p_2))) rfl wz (aa (vI atv_3) ?_))))))))
 obtain ⟨r_6,hr_7,hF⟩:=bind_some hF
 refine aF (GR hr_7) rfl hb79 rfl rfl rfl rfl wz (aa (vL Entry.enc r_6) (af (aj (aa (vL Entry.enc r_6) (bN yB rfl wz (aa (vB (decide ((r_6.length:Int)>0))) (af ?_)))))))
 rcases ak hF with⟨hc_8,hF⟩|⟨hc_8,hF⟩
 ·refine aD rfl hc_8 (aj (aa (vL Entry.enc r_6) ?_))
  obtain ⟨y_9,hy_10,hF⟩:=bind_some hF
  refine eU qh rfl rfl hy_10 rfl wz (bI iZ kK rfl (.d (.agg (Entry.enc y_9))) rfl wz (eH 0 il ft 1 iZ rfl rfl (Entry.v y_9) rfl wz (af ?_)))
  obtain rfl:=ae hF
  exact aC (aL [(.d (.agg (Entry.enc y_9)))] ⟨⟨1,_,_,_,_,_,_,_,rfl,rfl,iZ,kK,rfl⟩,trivial⟩)
 ·refine aB rfl hc_8 (ay (aj (aK (.agg [(vS (⟨#[]⟩:ByteArray)),(vS (⟨#[]⟩:ByteArray)),(vI 0),(vI 0),(vI 0),(vI 0),(vI 0),.nil,(vI 0),(vI 0),(vI 0),.nil,(vB false)]) wz (by kernel_rfl) (eH 0 il ft 1 iZ rfl rfl [(vS (⟨#[]⟩:ByteArray)),(vS (⟨#[]⟩:ByteArray)),(vI 0),(vI 0),(vI 0),(vI 0),(vI 0),.nil,(vI 0),(vI 0),(vI 0),.nil,(vB false)] rfl wz (af ?_)))))
  obtain rfl:=ae hF
  exact aC (aL [(.agg [(vS (⟨#[]⟩:ByteArray)),(vS (⟨#[]⟩:ByteArray)),(vI 0),(vI 0),(vI 0),(vI 0),(vI 0),.nil,(vI 0),(vI 0),(vI 0),.nil,(vB false)])] ⟨⟨1,_,_,_,_,_,_,_,rfl,rfl,iZ,kK,rfl⟩,trivial⟩)
theorem mD {l_1:(List Entry)} {p_2:Player} {wv_3:Window} {r:(List Slot_)} (hF:ic l_1 p_2 wv_3=some r) :
  FnM Tryz.prog 17 [(vL Entry.enc l_1),(.d (.agg (Player.enc p_2))),(.d (.agg (Window.enc wv_3)))] [] (vL Slot_.enc r) []:=by
 refine FnM.of_wH ⟨Tryz.prog,71,[],[]⟩ rfl Tryz.func17 rfl rfl (lb_ rfl) (by kernel_rfl) ?_
 unfold ic at hF
 refine aj (bZ 0 (.inl rfl) (Player.v p_2) rfl rfl wz (λn_4=>bZ 0 (.inl rfl) [(vI wv_3.From),(vI wv_3.To)] rfl rfl wz (λn_5=>aa .nil (af (aj (aa .nil (af (aj (aa (vL Entry.enc l_1) (aI uX rfl 2 rfl wz (aA 0 0 il ft sz3 ag3 rfl rfl (vI p_2.Zone) rfl wz (aA 0 1 il ft eX iT rfl rfl (.d (.agg (Window.enc wv_3))) rfl wz ?_))))))))))))
 obtain ⟨r_6,hr_7,hF⟩:=bind_some hF
 refine aF (Ez hr_7) rfl hb45 rfl rfl rfl rfl wz (aa (vL eI r_6) (af (au (aj (aa (vI 1) (af (kz (λn_14 => ?_))))))))
 obtain ⟨o_19,hj_20,hF⟩:=bind_some hF
 obtain ⟨nq_45,hj_20⟩:=dZ hj_20
 refine uE (σ:=(List Slot_)×Int) (N:=Nm) (λp=>(λ(s_13:(List Slot_)×Int) (n_16:Nm)=>([(7,(gV n_16 3 s_13.1))]:SL_)) p.1 p.2) (λp=>(λ(s_13:(List Slot_)×Int) (n_16:Nm)=>([(n_4,some (.cells 4 (Player.v p_2))),(n_5,some (.cells 2 [(vI wv_3.From),(vI wv_3.To)])),(n_16,gB 3 Slot_.enc s_13.1)]:Hp)) p.1 p.2) (λ(k_8:Nat)=>(λp=>(λ(s_13:(List Slot_)×Int) (n_16:Nm)=>([(0,(vL Entry.enc l_1)),(4,(.ref n_4 0 0)),(7,(gV n_16 3 s_13.1)),(8,(vL eI r_6)),(9,(vI s_13.2))]:SL_)) p.1 p.2)) (λs=>jo r_6 l_1 p_2 s) o_19 nq_45 ((([]:List Slot_),1),n_14) hj_20 rfl (aJ rfl) ?_ ?_
 ·rintro ⟨k_8,s_13,n_16⟩ hL_18
  dsimp only at hL_18
  cases k_8 with
  | zero=>cases hL_18
  | succ k_8 =>
   obtain ⟨c_,hc_17,hL_18⟩:=bind_some hL_18
   unfold jo at hc_17
   refine au (aj (aa (vI s_13.2) (aa (vL eI r_6) (bN qc rfl wz (aa (vB (decide (s_13.2<(r_6.length:Int)))) (af ?_))))))
   rcases ak hc_17 with⟨hc_21,hc_17⟩|⟨hc_21,hc_17⟩
   ·refine aD rfl hc_21 (ay (au (aN (au (dA (aa (vL Entry.enc l_1) (aA 1 0 (.inr (by kernel_rfl)) (λ_ _ ag=>trivial) kQ mO rfl rfl (.d (.agg (Player.enc p_2))) rfl wz (aa (vL eI r_6) (aa (vI s_13.2) (aa (vI (w64 (s_13.2-1))) ?_))))))))))
    obtain ⟨y_22,hy_23,hc_17⟩:=bind_some hc_17
    refine eU iW rfl rfl hy_23 rfl wz (bI sz3 ag3 rfl (vI y_22) rfl wz ?_)
    obtain ⟨r_24,hr_25,hc_17⟩:=bind_some hc_17
    refine aF (Ik hr_25) rfl hb46 rfl rfl rfl rfl wz (Ky fr68_0 rfl (vS r_24.Key) rfl wz (aa (vS r_24.Key) (af (au (aj (aa (gV n_16 3 s_13.1) (yG BZ rfl wz (aa (vI (w64 ((s_13.1.length:Int)-1))) (aa (vI (w64 ((s_13.1.length:Int)-1))) (af (au ?_)))))))))))
    obtain ⟨v_26,h_27,hc_17⟩:=bind_some hc_17
    refine aQ [(0,(vL Entry.enc l_1)),(4,(.ref n_4 0 0)),(7,(gV n_16 3 s_13.1)),(8,(vL eI r_6)),(9,(vI s_13.2)),(10,(vS r_24.Key)),(11,(vI (w64 ((s_13.1.length:Int)-1)))),(45,(vB v_26))] [(n_4,some (.cells 4 (Player.v p_2))),(n_5,some (.cells 2 [(vI wv_3.From),(vI wv_3.To)])),(n_16,gB 3 Slot_.enc s_13.1)] ?_ ?_
    ·refine ax (aa (vI (w64 ((s_13.1.length:Int)-1))) (aa (vB (decide ((w64 ((s_13.1.length:Int)-1))>=0))) ?_))
     rcases ak h_27 with⟨hc_28,h_27⟩|⟨hc_28,h_27⟩
     ·refine aH rfl hc_28 wz (aK (gV n_16 3 s_13.1) wa rfl (aK (vI (w64 ((s_13.1.length:Int)-1))) wa rfl ?_))
      obtain ⟨_,hi_29,h_27⟩:=bind_some h_27
      refine uJ zf rfl rfl (jG hi_29) (gW hi_29) wa (aI uR rfl 2 rfl wa ?_)
      obtain ⟨e_30,hy_31,h_27⟩:=bind_some h_27
      refine kC 0 2 il ft sz9 ag9 rfl rfl hy_31 (vS e_30.Entry) rfl wa (aK (vS r_24.Key) wa rfl (aK (vB (sEq e_30.Entry r_24.Key)) wa rfl (aa (vB (sEq e_30.Entry r_24.Key)) (af ?_))))
      obtain rfl:=ae h_27
      exact cu
     ·refine aH rfl hc_28 wz (ah (ah (ah (ah (ah (ah (ah (aa (vB false) (af ?_)))))))))
      obtain rfl:=ae h_27
      exact cu
    ·rintro ⟨⟩ _ sl_ H_ hp_ hq_
     refine aO _ hp_ hq_ ?_
     rcases ak hc_17 with⟨hc_32,hc_17⟩|⟨hc_32,hc_17⟩
     ·refine aD rfl hc_32 (aj (aa (gV n_16 3 s_13.1) (aa (vI (w64 ((s_13.1.length:Int)-1))) (aa (vL eI r_6) (aa (vI s_13.2) ?_)))))
      obtain ⟨y_33,hy_34,hc_17⟩:=bind_some hc_17
      refine eU iW rfl rfl hy_34 rfl wz (bI sz3 ag3 rfl (vI y_33) rfl wz ?_)
      obtain ⟨_,hi_35,hc_17⟩:=bind_some hc_17
      refine uJ zf rfl rfl (jG hi_35) (gW hi_35) wz (aI wG rfl 0 rfl wz (aI gN rfl 1 rfl wz ?_))
      obtain ⟨e_36,hy_37,hc_17⟩:=bind_some hc_17
      refine lG 0 il ft 2 sz3 rfl rfl hy_37 (⟨(⟨e_36.Time.From,y_33⟩:Window),e_36.Entry⟩:Slot_) rfl wz (bL (v':=(gV n_16 3 (s_13.1.set (0+((w64 ((s_13.1.length:Int)-1))).toNat) (⟨(⟨e_36.Time.From,y_33⟩:Window),e_36.Entry⟩:Slot_)))) 7 rfl (bU (by simp)) (bL (v':=(gV n_16 3 (s_13.1.set (0+((w64 ((s_13.1.length:Int)-1))).toNat) (⟨(⟨e_36.Time.From,y_33⟩:Window),e_36.Entry⟩:Slot_)))) 46 rfl (bU (by simp)) (af (aU (ax (aa (vI s_13.2) (aa (vI (w64 (s_13.2+1))) (aa (vI (w64 (s_13.2+1))) (af ?_)))))))))
      obtain rfl:=ae hc_17
      exact aS (k_8,((s_13.1.set (0+((w64 ((s_13.1.length:Int)-1))).toNat) (⟨(⟨e_36.Time.From,y_33⟩:Window),e_36.Entry⟩:Slot_)),(w64 (s_13.2+1))),n_16) hL_18 (ls_ _) rfl (aJ rfl)
     ·refine aB rfl hc_32 (ay (dA (aa (gV n_16 3 s_13.1) (aa (vL eI r_6) (aa (vI s_13.2) (aa (vI (w64 (s_13.2-1))) ?_))))))
      obtain ⟨y_38,hy_39,hc_17⟩:=bind_some hc_17
      refine eU iW rfl rfl hy_39 rfl wz (bI sz3 ag3 rfl (vI y_38) rfl wz (aa (vL eI r_6) (aa (vI s_13.2) ?_)))
      obtain ⟨y_40,hy_41,hc_17⟩:=bind_some hc_17
      refine eU iW rfl rfl hy_41 rfl wz (bI sz3 ag3 rfl (vI y_40) rfl wz (aK (.d (.agg (Window.enc (⟨y_38,y_40⟩:Window)))) wz (by kernel_rfl) (aa (vS r_24.Key) (aK (.d (.agg (Slot_.enc (⟨(⟨y_38,y_40⟩:Window),r_24.Key⟩:Slot_)))) wz (by kernel_rfl) (dU (([(⟨(⟨y_38,y_40⟩:Window),r_24.Key⟩:Slot_)]:List Slot_).map Slot_.enc) zf ez35 rfl rfl rfl rfl rfl wz ?_)))))
      obtain ⟨a_42,hz_43,hc_17⟩:=bind_some hc_17
      refine kI 14 (.inr (by kernel_rfl)) (λ_ _ ag=>trivial) (i:=2) el35 el35 yo z54 rfl (by decide) by54 (by decide) (λ_=>rfl) rfl rfl rfl hz_43 wz (λn_44=>aa (gV n_44 3 a_42) (af (ax (aa (vI s_13.2) (aa (vI (w64 (s_13.2+1))) (aa (vI (w64 (s_13.2+1))) (af ?_)))))))
      obtain rfl:=ae hc_17
      exact aS (k_8,(a_42,(w64 (s_13.2+1))),n_44) hL_18 (ls_ _) rfl (aJ rfl)
   ·refine aB rfl hc_21 (aU ?_)
    obtain rfl:=ae hc_17
    obtain rfl:=ae hL_18
    exact aV ((s_13.1,s_13.2),n_16) rfl rfl (aJ rfl)
 ·rintro ⟨s_13,n_16⟩ ho_ sl_ H_ hp_ hq_
  subst ho_
  refine aO _ hp_ hq_ (aj (aa (gV n_16 3 s_13.1) (aa (gV n_16 3 s_13.1) (af (iw 2 rfl (dJ 6 2 rfl rfl (dJ 7 2 rfl rfl (dJ 70 2 rfl rfl ?_))))))))
  obtain rfl:=ae hF
  exact aC (aL [(vL Slot_.enc s_13.1)] ⟨rfl,trivial⟩)
theorem nW {s1_1:(List Slot_)} {s2_2:(List Slot_)} {r:Bool} (hF:dY s1_1 s2_2=some r) :
  FnM Tryz.prog 16 [(vL Slot_.enc s1_1),(vL Slot_.enc s2_2)] [] (vB r) []:=by
 refine FnM.of_wH ⟨Tryz.prog,26,[],[]⟩ rfl Tryz.func16 rfl rfl (lb_ rfl) (by kernel_rfl) ?_
 unfold dY at hF
 refine aj (aa (vB false) (af (au (aj (aa (vL Slot_.enc s1_1) (bN BZ rfl wz (aa (vL Slot_.enc s2_2) (bN BZ rfl wz (aa (vB ((s1_1.length:Int) != (s2_2.length:Int))) (af ?_))))))))))
 rcases ak hF with⟨hc_3,hF⟩|⟨hc_3,hF⟩
 ·refine aD rfl hc_3 (aj (aa (vB false) (af ?_)))
  obtain rfl:=ae hF
  exact aC (aL [(vB false)] ⟨rfl,trivial⟩)
 ·refine aB rfl hc_3 (ay (au (aj (aa (vL Slot_.enc s1_1) (bN BZ rfl wz (aa (vI 0) (af ?_)))))))
  obtain ⟨o_12,hj_13,hF⟩:=bind_some hF
  obtain ⟨hn_8,hj_13⟩:=bf hj_13
  refine cK (λ(s_9:Unit)=>[]) (λ(s_9:Unit)=>[]) (λ(k_4:Nat)=>(λ(s_9:Unit)=>[(0,(vL Slot_.enc s1_1)),(1,(vL Slot_.enc s2_2)),(12,(vI (s1_1.length:Int))),(13,(vI (k_4:Int)))])) (λk x s=>dF s2_2 k x s) o_12 s1_1 () hj_13 rfl (aJ rfl) ?_ ?_
  ·rintro ⟨k_4,l_5,s_9⟩ ⟨hL_11,hD_7⟩
   dsimp only at hL_11 hD_7
   cases l_5 with
   | nil =>
    obtain rfl:=ae hL_11
    refine aj (aa (vB (decide ((k_4:Int)<(s1_1.length:Int)))) (af ?_))
    refine au (aB rfl (drop_nil hD_7) (aU ?_))
    exact aV (s_9) rfl rfl (aJ rfl)
   | cons x_6 l_5 =>
    obtain ⟨c_,hc_10,hL_11⟩:=bind_some hL_11
    refine aj (aa (vB (decide ((k_4:Int)<(s1_1.length:Int)))) (af ?_))
    refine au (aD rfl (bz hD_7) (ay ?_))
    unfold dF at hc_10
    refine au (aN (aj (aa (vI (k_4:Int)) (aa (vI (k_4:Int)) (af (au (dA (aa (vL Slot_.enc s1_1) (aa (vI (k_4:Int)) (eU zf rfl rfl (bH hD_7) rfl wz (bI yo IK rfl (.d (.agg (Slot_.enc x_6))) rfl wz (aa (vL Slot_.enc s2_2) (aa (vI (k_4:Int)) ?_)))))))))))))
    obtain ⟨y_14,hy_15,hc_10⟩:=bind_some hc_10
    refine eU zf rfl rfl hy_15 rfl wz (bI yo IK rfl (.d (.agg (Slot_.enc y_14))) rfl wz (aK (vB (!(((x_6.Time.From==y_14.Time.From)&&((x_6.Time.To==y_14.Time.To)&&true))&&((x_6.Entry.toList==y_14.Entry.toList)&&true)))) wz (by kernel_rfl) (af ?_)))
    rcases ak hc_10 with⟨hc_16,hc_10⟩|⟨hc_16,hc_10⟩
    ·refine aD rfl hc_16 (aj (aa (vB false) (af ?_)))
     obtain rfl:=ae hc_10
     obtain rfl:=ae hL_11
     obtain rfl:=ae hF
     exact aC (aL [(vB false)] ⟨rfl,trivial⟩)
    ·refine aB rfl hc_16 (ay (ax (fJ (bE hD_7 hn_8) wz rfl (aa (vI ((k_4+1:Nat):Int)) (af ?_)))))
     obtain rfl:=ae hc_10
     exact aS (k_4+1,l_5,()) ⟨hL_11,aR hD_7⟩ (ls_ _) rfl (aJ rfl)
  ·rintro s_9 ho_ sl_ H_ hp_ hq_
   subst ho_
   refine aO _ hp_ hq_ (aj (aa (vB true) (af ?_)))
   obtain rfl:=ae hF
   exact aC (aL [(vB true)] ⟨rfl,trivial⟩)
theorem Ap {x_1:Slot_} {p_2:Entry} {r:Bool} (hF:pF x_1 p_2=some r) :
  FnM Tryz.prog 48 [(.d (.agg (Slot_.enc x_1))),(.ref (av 0) 0 0)] [(.cells 13 (Entry.v p_2))] (vB r) [some (.cells 13 (Entry.v p_2))]:=by
 refine FnM.of_wH ⟨Tryz.prog,9,[],[]⟩ rfl Tryz.func48 rfl rfl (lb_ rfl) (by kernel_rfl) ?_
 unfold pF at hF
 refine aj (bZ 0 (.inl rfl) (Slot_.v x_1) rfl rfl wz (λn_3=>aa (vB false) (af (aj (aI uR rfl 2 rfl wz (aA 0 1 il ft sz9 ag9 rfl rfl (vS x_1.Entry) rfl wz (aI kg rfl 0 rfl wz (aA 0 0 il ft sz9 ag9 rfl rfl (vS p_2.Key) rfl wz (aa (vB (sEq x_1.Entry p_2.Key)) (aa (vB (sEq x_1.Entry p_2.Key)) (af ?_)))))))))))
 obtain rfl:=ae hF
 exact aC (qB (.inr rfl) [(vB (sEq x_1.Entry p_2.Key))] _ [0] [av 0] ⟨rfl,trivial⟩ (.cons (iq rfl rfl) (.nil)) (by kernel_rfl) ⟨(by kernel_rfl),trivial⟩ (by decide) (by kernel_rfl))
theorem mI {s_1:(List Slot_)} {f_2:Slot_->Option Bool} {r:Int} {gid:FuncId} {caps:List V} {Sin:List Box} (hfn:∀x0 r,f_2 x0=some r->FnM Tryz.prog gid ([(.d (.agg (Slot_.enc x0)))]++caps) Sin (vB r) (Sin.map some)) (hbF:aG Tryz.prog gid=true) (hcapF:caps.flatMap frz=[]/\caps.map co0=caps) (hokF:okL Sin.length caps=true) (hsF:∀b∈Sin,b.ok Sin.length=true) (hmF:∀b∈Sin,b.mut=true) (hF:eO s_1 f_2=some r) :
  FnM Tryz.prog 80 [(vL Slot_.enc s_1),(.fn gid caps)] Sin (vI r) (Sin.map some):=by
 refine FnM.of_wH ⟨Tryz.prog,19,[],[]⟩ rfl Tryz.func80 rfl rfl (lb_ rfl) (by kernel_rfl) ?_
 unfold eO at hF
 refine aj (aa (vI 0) (af (au (aj (aa (vL Slot_.enc s_1) (bN BZ rfl wz (aa (vI 0) (af ?_))))))))
 obtain ⟨o_11,hj_12,hF⟩:=bind_some hF
 obtain ⟨hn_7,hj_12⟩:=bf hj_12
 refine cK (λ(s_8:Unit)=>[]) (λ(s_8:Unit)=>(oo 0 Sin)) (λ(k_3:Nat)=>(λ(s_8:Unit)=>[(0,(vL Slot_.enc s_1)),(1,(.fn gid caps)),(7,(vI (s_1.length:Int))),(8,(vI (k_3:Int)))])) (λk x s=>dS f_2 k x s) o_11 s_1 () hj_12 rfl (oL _) ?_ ?_
 ·rintro ⟨k_3,l_4,s_8⟩ ⟨hL_10,hD_6⟩
  dsimp only at hL_10 hD_6
  cases l_4 with
  | nil =>
   obtain rfl:=ae hL_10
   refine aj (aa (vB (decide ((k_3:Int)<(s_1.length:Int)))) (af ?_))
   refine au (aB rfl (drop_nil hD_6) (aU ?_))
   exact aV (s_8) rfl rfl (oL _)
  | cons x_5 l_4 =>
   obtain ⟨c_,hc_9,hL_10⟩:=bind_some hL_10
   refine aj (aa (vB (decide ((k_3:Int)<(s_1.length:Int)))) (af ?_))
   refine au (aD rfl (bz hD_6) (ay ?_))
   unfold dS at hc_9
   refine au (aN (aj (aa (vI (k_3:Int)) (aa (vI (k_3:Int)) (af (aj (aa (.fn gid caps) (aa (vL Slot_.enc s_1) (aa (vI (k_3:Int)) (eU zf rfl rfl (bH hD_6) rfl wz (bI yo IK rfl (.d (.agg (Slot_.enc x_5))) rfl wz ?_)))))))))))
   obtain ⟨r_13,hr_14,hc_9⟩:=bind_some hc_9
   refine zG (hfn _ _ hr_14) rfl hbF rfl rfl hcapF hokF hsF hmF rfl wz rfl (af ?_)
   rcases ak hc_9 with⟨hc_15,hc_9⟩|⟨hc_15,hc_9⟩
   ·refine aD rfl hc_15 (aj (aa (vI (k_3:Int)) (aa (vI (k_3:Int)) (af ?_))))
    obtain rfl:=ae hc_9
    obtain rfl:=ae hL_10
    obtain rfl:=ae hF
    exact aC (IB hsF (.inr rfl) [(vI (k_3:Int))] ⟨rfl,trivial⟩ rfl rfl rfl)
   ·refine aB rfl hc_15 (ay (ax (fJ (bE hD_6 hn_7) wz rfl (aa (vI ((k_3+1:Nat):Int)) (af ?_)))))
    obtain rfl:=ae hc_9
    exact aS (k_3+1,l_4,()) ⟨hL_10,aR hD_6⟩ (ls_ _) rfl (oL _)
 ·rintro s_8 ho_ sl_ H_ hp_ hq_
  subst ho_
  refine aO _ hp_ hq_ (aj (aa (vI (-1)) (af ?_)))
  obtain rfl:=ae hF
  exact aC (IB hsF (.inr rfl) [(vI (-1))] ⟨rfl,trivial⟩ rfl rfl rfl)
theorem lH {s_1:(List Slot_)} {f_2:Slot_->Option Bool} {r:Bool} {gid:FuncId} {caps:List V} {Sin:List Box} (hfn:∀x0 r,f_2 x0=some r->FnM Tryz.prog gid ([(.d (.agg (Slot_.enc x0)))]++caps) Sin (vB r) (Sin.map some)) (hbF:aG Tryz.prog gid=true) (hcapF:caps.flatMap frz=[]/\caps.map co0=caps) (hokF:okL Sin.length caps=true) (hsF:∀b∈Sin,b.ok Sin.length=true) (hmF:∀b∈Sin,b.mut=true) (hF:bT s_1 f_2=some r) :
  FnM Tryz.prog 47 [(vL Slot_.enc s_1),(.fn gid caps)] Sin (vB r) (Sin.map some):=by
 refine FnM.of_wH ⟨Tryz.prog,9,[],[]⟩ rfl Tryz.func47 rfl rfl (lb_ rfl) (by kernel_rfl) ?_
 unfold bT at hF
 refine aj (aa (vB false) (af (aj (aa (vL Slot_.enc s_1) (aa (.fn gid caps) ?_)))))
 obtain ⟨r_3,hr_4,hF⟩:=bind_some hF
 refine zG (mI (gid:=gid) (caps:=caps) (Sin:=Sin) hfn hbF hcapF hokF hsF hmF hr_4) rfl hb80 rfl rfl ⟨rfl,rfl⟩ (by simp [okL,okV,hokF]) hsF hmF rfl wz rfl (aa (vB (decide (r_3>=0))) (aa (vB (decide (r_3>=0))) (af ?_)))
 obtain rfl:=ae hF
 exact aC (IB hsF (.inr rfl) [(vB (decide (r_3>=0)))] ⟨rfl,trivial⟩ rfl rfl rfl)
theorem D8 {l_1:(List Entry)} {p_2:Player} {wv_3:Window} {r:(List ByteArray)} (hF:qf l_1 p_2 wv_3=some r) :
  FnM Tryz.prog 19 [(vL Entry.enc l_1),(.d (.agg (Player.enc p_2))),(.d (.agg (Window.enc wv_3)))] [] (vL eS r) []:=by
 refine FnM.of_wH ⟨Tryz.prog,48,[],[]⟩ rfl Tryz.func19 rfl rfl (lb_ rfl) (by kernel_rfl) ?_
 unfold qf at hF
 refine aj (bZ 0 (.inl rfl) (Player.v p_2) rfl rfl wz (λn_4=>bZ 0 (.inl rfl) [(vI wv_3.From),(vI wv_3.To)] rfl rfl wz (λn_5=>aa .nil (af (aj (aa .nil (af (aj (aa (vL Entry.enc l_1) (aA 0 0 il ft kQ mO rfl rfl (.d (.agg (Player.enc p_2))) rfl wz (aA 0 1 il ft eX iT rfl rfl (.d (.agg (Window.enc wv_3))) rfl wz ?_)))))))))))
 obtain ⟨r_6,hr_7,hF⟩:=bind_some hF
 refine aF (mD hr_7) rfl hb17 rfl rfl rfl rfl wz (aa (vL Slot_.enc r_6) (af (au (aj (aa (vL Entry.enc l_1) (bN yB rfl wz (aa (vI 0) (af (kz (λn_14 => ?_))))))))))
 obtain ⟨o_19,hj_20,hF⟩:=bind_some hF
 obtain ⟨hn_12,hj_20⟩:=bf hj_20
 refine jl (σ:=(List ByteArray)) (N:=Nm) (λp=>(λ(s_13:List ByteArray) (n_16:Nm)=>([(7,(gV n_16 1 s_13))]:SL_)) p.1 p.2) (λp=>(λ(s_13:List ByteArray) (n_16:Nm)=>([(n_4,some (.cells 4 (Player.v p_2))),(n_5,some (.cells 2 [(vI wv_3.From),(vI wv_3.To)])),(n_16,gB 1 eS s_13)]:Hp)) p.1 p.2) (λ(k_8:Nat)=>(λp=>(λ(s_13:List ByteArray) (n_16:Nm)=>([(4,(.ref n_4 0 0)),(5,(.ref n_5 0 0)),(7,(gV n_16 1 s_13)),(8,(vL Slot_.enc r_6)),(16,(vL Entry.enc l_1)),(17,(vI (l_1.length:Int))),(18,(vI (k_8:Int)))]:SL_)) p.1 p.2)) (λk x s=>lX r_6 p_2 wv_3 k x s) o_19 l_1 (([]:List ByteArray),n_14) hj_20 rfl (aJ rfl) ?_ ?_
 ·rintro ⟨k_8,l_9,s_13,n_16⟩ ⟨hL_18,hD_11⟩
  dsimp only at hL_18 hD_11
  cases l_9 with
  | nil =>
   obtain rfl:=ae hL_18
   refine aj (aa (vB (decide ((k_8:Int)<(l_1.length:Int)))) (af ?_))
   refine au (aB rfl (drop_nil hD_11) (aU ?_))
   exact aV (s_13,n_16) rfl rfl (aJ rfl)
  | cons x_10 l_9 =>
   obtain ⟨c_,hc_17,hL_18⟩:=bind_some hL_18
   refine aj (aa (vB (decide ((k_8:Int)<(l_1.length:Int)))) (af ?_))
   refine au (aD rfl (bz hD_11) (ay ?_))
   unfold lX at hc_17
   refine au (aN (aj (eU qh rfl rfl (bH hD_11) rfl wz (bI iZ kK rfl (.d (.agg (Entry.enc x_10))) rfl wz (bR 0 (.inl rfl) z68 rfl wz (λn_21=>eH 0 il ft 3 iZ rfl rfl (Entry.v x_10) rfl wz (af (aj (aa (vL Slot_.enc r_6) (aa (.fn 48 [(.ref n_21 0 0)]) ?_))))))))))
   obtain ⟨r_22,hr_23,hc_17⟩:=bind_some hc_17
   refine bA 0 [3] il ft (lH (gid:=48) (caps:=[.ref (av 0) 0 0]) (Sin:=[(.cells 13 (Entry.v x_10))]) (λ_ _ h_=>Ap h_) hb48 ⟨rfl,rfl⟩ (by kernel_rfl) (Ju (by kernel_rfl)) (FX (by kernel_rfl)) hr_23) rfl hb47 rfl (by kernel_rfl) (by kernel_rfl) (by kernel_rfl) (by kernel_rfl) (by kernel_rfl) (by kernel_rfl) (by kernel_rfl) (by decide) (by kernel_rfl) wz (vB r_22) (by kernel_rfl) ([(n_4,some (.cells 4 (Player.v p_2))),(n_5,some (.cells 2 [(vI wv_3.From),(vI wv_3.To)])),(n_16,gB 1 eS s_13),(n_21,some (.cells 13 (Entry.v x_10)))]:Hp) (by kernel_rfl) (aa (vB r_22) (af (au ?_)))
   obtain ⟨v_25,h_26,hc_17⟩:=bind_some hc_17
   refine aQ [(4,(.ref n_4 0 0)),(5,(.ref n_5 0 0)),(7,(gV n_16 1 s_13)),(8,(vL Slot_.enc r_6)),(10,(.ref n_21 0 0)),(16,(vL Entry.enc l_1)),(17,(vI (l_1.length:Int))),(18,(vI (k_8:Int))),(40,(vB v_25))] [(n_4,some (.cells 4 (Player.v p_2))),(n_5,some (.cells 2 [(vI wv_3.From),(vI wv_3.To)])),(n_16,gB 1 eS s_13),(n_21,some (.cells 13 (Entry.v x_10)))] ?_ ?_
   ·refine ax (aA 0 3 il ft iZ kK rfl rfl (.d (.agg (Entry.enc x_10))) rfl wz (aA 0 0 il ft kQ mO rfl rfl (.d (.agg (Player.enc p_2))) rfl wz ?_))
    obtain ⟨r_27,hr_28,h_26⟩:=bind_some h_26
    refine aF (xQ hr_28) rfl hb49 rfl rfl rfl rfl wz ?_
    rcases ak h_26 with⟨hc_29,h_26⟩|⟨hc_29,h_26⟩
    ·refine aH rfl hc_29 wz (aA 0 3 il ft iZ kK rfl rfl (.d (.agg (Entry.enc x_10))) rfl wa (aI uX rfl 2 rfl wa (aA 0 0 il ft sz3 ag3 rfl rfl (vI p_2.Zone) rfl wa (aA 0 1 il ft eX iT rfl rfl (.d (.agg (Window.enc wv_3))) rfl wa ?_))))
     obtain ⟨r_30,hr_31,h_26⟩:=bind_some h_26
     refine aF (wD hr_31) rfl hb50 rfl rfl rfl rfl wa (bN El rfl wa (aK (vB (decide ((r_30.length:Int)>0))) wa rfl (aa (vB (decide ((r_30.length:Int)>0))) ?_)))
     rcases ak h_26 with⟨hc_32,h_26⟩|⟨hc_32,h_26⟩
     ·refine aH rfl hc_32 wz (aK (vB r_22) wa rfl (aK (vB (!r_22)) wa rfl (aa (vB (!r_22)) (af ?_))))
      obtain rfl:=ae h_26
      exact cu
     ·refine aH rfl hc_32 wz (ah (ah (aa (vB false) (af ?_))))
      obtain rfl:=ae h_26
      exact cu
    ·refine aH rfl hc_29 wz (ah (ah (ah (ah (ah (ah (ah (aa (vB false) (aa (vB false) (ah (ah (aa (vB false) (af ?_)))))))))))))
     obtain rfl:=ae h_26
     exact cu
   ·rintro ⟨⟩ _ sl_ H_ hp_ hq_
    refine aO _ hp_ hq_ ?_
    obtain ⟨v_33,h_34,hc_17⟩:=bind_some hc_17
    refine jO (β:=Nm) (λ(n_35:Nm)=>([(4,(.ref n_4 0 0)),(5,(.ref n_5 0 0)),(7,(gV n_35 1 v_33)),(8,(vL Slot_.enc r_6)),(16,(vL Entry.enc l_1)),(17,(vI (l_1.length:Int))),(18,(vI (k_8:Int)))]:SL_)) (λ(n_35:Nm)=>([(n_4,some (.cells 4 (Player.v p_2))),(n_5,some (.cells 2 [(vI wv_3.From),(vI wv_3.To)])),(n_35,gB 1 eS v_33),(n_21,some (.cells 13 (Entry.v x_10)))]:Hp)) (λ_=>True) ?_ ?_
    ·rcases ak h_34 with⟨hc_36,h_34⟩|⟨hc_36,h_34⟩
     ·refine aD rfl hc_36 (ax (aa (gV n_16 1 s_13) (aI kg rfl 0 rfl wz (aA 0 3 il ft sz9 ag9 rfl rfl (vS x_10.Key) rfl wz (dU (([x_10.Key]:List ByteArray).map eS) mQ vR rfl rfl rfl rfl rfl wz ?_)))))
      obtain ⟨a_37,hz_38,h_34⟩:=bind_some h_34
      refine kI 0 il ft (i:=2) Lj Lj sz9 z9 rfl (by decide) by9 (by decide) (λ_=>rfl) rfl rfl rfl hz_38 wz (λn_39=>aa (gV n_39 1 a_37) (af ?_))
      obtain rfl:=ae h_34
      exact aV n_39 trivial rfl (aJ rfl)
     ·refine aB rfl hc_36 (ay ?_)
      obtain rfl:=ae h_34
      exact aV n_16 trivial rfl (aJ rfl)
    ·rintro n_35 _ sl_ H_ hp_ hq_
     refine aO _ hp_ hq_ (ax (fJ (bE hD_11 hn_12) wz rfl (aa (vI ((k_8+1:Nat):Int)) (af ?_))))
     obtain rfl:=ae hc_17
     exact aS (k_8+1,l_9,v_33,n_35) ⟨hL_18,aR hD_11⟩ (ls_ _) rfl (aJ rfl)
 ·rintro ⟨s_13,n_16⟩ ho_ sl_ H_ hp_ hq_
  subst ho_
  refine aO _ hp_ hq_ (aj (aa (gV n_16 1 s_13) (aa (gV n_16 1 s_13) (af (iw 2 rfl (dJ 6 2 rfl rfl (dJ 7 2 rfl rfl (dJ 47 2 rfl rfl ?_))))))))
  obtain rfl:=ae hF
  exact aC (aL [(vL eS s_13)] ⟨rfl,trivial⟩)
theorem pW {s1_1:(List ByteArray)} {s2_2:(List ByteArray)} {r:Bool} (hF:fI s1_1 s2_2=some r) :
  FnM Tryz.prog 18 [(vL eS s1_1),(vL eS s2_2)] [] (vB r) []:=by
 refine FnM.of_wH ⟨Tryz.prog,26,[],[]⟩ rfl Tryz.func18 rfl rfl (lb_ rfl) (by kernel_rfl) ?_
 unfold fI at hF
 refine aj (aa (vB false) (af (au (aj (aa (vL eS s1_1) (bN xI rfl wz (aa (vL eS s2_2) (bN xI rfl wz (aa (vB ((s1_1.length:Int) != (s2_2.length:Int))) (af ?_))))))))))
 rcases ak hF with⟨hc_3,hF⟩|⟨hc_3,hF⟩
 ·refine aD rfl hc_3 (aj (aa (vB false) (af ?_)))
  obtain rfl:=ae hF
  exact aC (aL [(vB false)] ⟨rfl,trivial⟩)
 ·refine aB rfl hc_3 (ay (au (aj (aa (vL eS s1_1) (bN xI rfl wz (aa (vI 0) (af ?_)))))))
  obtain ⟨o_12,hj_13,hF⟩:=bind_some hF
  obtain ⟨hn_8,hj_13⟩:=bf hj_13
  refine cK (λ(s_9:Unit)=>[]) (λ(s_9:Unit)=>[]) (λ(k_4:Nat)=>(λ(s_9:Unit)=>[(0,(vL eS s1_1)),(1,(vL eS s2_2)),(12,(vI (s1_1.length:Int))),(13,(vI (k_4:Int)))])) (λk x s=>eF s2_2 k x s) o_12 s1_1 () hj_13 rfl (aJ rfl) ?_ ?_
  ·rintro ⟨k_4,l_5,s_9⟩ ⟨hL_11,hD_7⟩
   dsimp only at hL_11 hD_7
   cases l_5 with
   | nil =>
    obtain rfl:=ae hL_11
    refine aj (aa (vB (decide ((k_4:Int)<(s1_1.length:Int)))) (af ?_))
    refine au (aB rfl (drop_nil hD_7) (aU ?_))
    exact aV (s_9) rfl rfl (aJ rfl)
   | cons x_6 l_5 =>
    obtain ⟨c_,hc_10,hL_11⟩:=bind_some hL_11
    refine aj (aa (vB (decide ((k_4:Int)<(s1_1.length:Int)))) (af ?_))
    refine au (aD rfl (bz hD_7) (ay ?_))
    unfold eF at hc_10
    refine au (aN (aj (aa (vI (k_4:Int)) (aa (vI (k_4:Int)) (af (au (dA (aa (vL eS s1_1) (aa (vI (k_4:Int)) (eU mQ rfl rfl (bH hD_7) rfl wz (bI sz9 ag9 rfl (vS x_6) rfl wz (aa (vL eS s2_2) (aa (vI (k_4:Int)) ?_)))))))))))))
    obtain ⟨y_14,hy_15,hc_10⟩:=bind_some hc_10
    refine eU mQ rfl rfl hy_15 rfl wz (bI sz9 ag9 rfl (vS y_14) rfl wz (aa (vB (sNe x_6 y_14)) (af ?_)))
    rcases ak hc_10 with⟨hc_16,hc_10⟩|⟨hc_16,hc_10⟩
    ·refine aD rfl hc_16 (aj (aa (vB false) (af ?_)))
     obtain rfl:=ae hc_10
     obtain rfl:=ae hL_11
     obtain rfl:=ae hF
     exact aC (aL [(vB false)] ⟨rfl,trivial⟩)
    ·refine aB rfl hc_16 (ay (ax (fJ (bE hD_7 hn_8) wz rfl (aa (vI ((k_4+1:Nat):Int)) (af ?_)))))
     obtain rfl:=ae hc_10
     exact aS (k_4+1,l_5,()) ⟨hL_11,aR hD_7⟩ (ls_ _) rfl (aJ rfl)
  ·rintro s_9 ho_ sl_ H_ hp_ hq_
   subst ho_
   refine aO _ hp_ hq_ (aj (aa (vB true) (af ?_)))
   obtain rfl:=ae hF
   exact aC (aL [(vB true)] ⟨rfl,trivial⟩)
end Go.Proofs.YthcdokkcamcnmaaGreatDoor.Law

