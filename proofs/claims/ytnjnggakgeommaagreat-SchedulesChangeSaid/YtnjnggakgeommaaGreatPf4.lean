/-
 The machine computes these plain functions (written by a program of ours).
-/
import Derived.Test.YtnjnggakgeommaaGreatFacts
import Derived.Test.YtnjnggakgeommaaGreatDefs
import Derived.Test.YtnjnggakgeommaaGreatPf3
open Go Go.Eng Go.Proofs
namespace Go.Proofs.YtnjnggakgeommaaGreat.Law
set_option maxRecDepth 100000
set_option linter.unusedVariables false
set_option maxHeartbeats 1000000
theorem jG {x_1:(List Span)} {r:Span} (hF:aZ x_1=some r) :
  FnM Tryz.prog 58 [(dV (av 0) 3 x_1),(.fn 59 [])] (([]:List Box)++gI 3 Span.enc x_1) (.d (.agg (Span.enc r))) (([]:List Box).map some++gT x_1 (gB 3 Span.enc x_1)):=by
 refine FnM.of_wHv ⟨Tryz.prog,33,[],[]⟩ rfl Tryz.func58 rfl rfl (lb_ rfl) (by kernel_rfl) ?_
 unfold aZ at hF
 refine af (aa (bR 0 (.inl rfl) z90 rfl wz (λn_3=>aj (af (af (aa (ae (dV (av 0) 3 x_1) wz rfl (De Cq rfl wz (ae (vB (decide ((x_1.length:Int)<1))) wz rfl (aj ?_))))))))))
 obtain ⟨v_4,h_5,hF⟩:=bind_some hF
 refine aG (β:=Unit) (λ_=>([(0,(dV (av 0) 3 x_1)),(1,(.fn 59 [])),(4,(.ref n_3 0 0))]:SL_)) (λ_=>([((av 0),gB 3 Span.enc x_1),(n_3,some (.cells 3 [(.d .nilp),(vI 0),(vI 0)]))]:Hp)) (λ_=>True) ?_ ?_
 ·rcases au h_5 with⟨hc_6,h_5⟩|⟨hc_6,h_5⟩
  ·refine aB rfl hc_6 (aa ?_)
   cases h_5
  ·refine aA rfl hc_6 (ax ?_)
   obtain rfl:=ah h_5
   exact cu
 ·rintro ⟨⟩ _ sl_ H_ hp_ hq_
  refine aN _ hp_ hq_ (af (aa (ae (dV (av 0) 3 x_1) wz rfl ?_)))
  obtain ⟨_,hi_7,hF⟩:=bind_some hF
  refine qj zu rfl rfl (jQ hi_7) (iq hi_7) wz ?_
  obtain ⟨e_8,hy_9,hF⟩:=bind_some hF
  refine lS 0 0 il ft pI zS rfl rfl hy_9 (.d (.agg (Span.enc e_8))) rfl wz (bR 0 (.inl rfl) z90 rfl wz (λn_10=>eu 0 il ft 2 pI rfl rfl [(.d (dP Entry.enc e_8.f_e)),(vI e_8.f_time.From),(vI e_8.f_time.To)] (yH rfl (bP (mU _ _) (bP rfl (bP rfl rfl))) rfl rfl) wz (aj (af (af (aa (ae (vI 1) wz rfl (aj ?_))))))))
  obtain ⟨o_19,hj_20,hF⟩:=bind_some hF
  obtain ⟨nq_33,hj_20⟩:=ek hj_20
  refine aG (β:=(Int×(Option Entry)×Int×Int)) (λ(s_16:Int×(Option Entry)×Int×Int)=>([(4,(.ref n_3 0 0)),(5,(.ref n_10 0 0))]:SL_)) (λ(s_16:Int×(Option Entry)×Int×Int)=>([((av 0),gB 3 Span.enc x_1),(n_3,some (.cells 3 [(.d .nilp),(vI 0),(vI 0)])),(n_10,some (.cells 3 [(.d (dP Entry.enc s_16.2.1)),(vI s_16.2.2.1),(vI s_16.2.2.2)]))]:Hp)) (λp=>o_19 = .go p) ?_ ?_
  ·refine aD (aX (β:=Nat×(Int×(Option Entry)×Int×Int)) (λp=>(λ(k_11:Nat) (s_16:Int×(Option Entry)×Int×Int)=>([(0,(dV (av 0) 3 x_1)),(1,(.fn 59 [])),(4,(.ref n_3 0 0)),(5,(.ref n_10 0 0)),(6,(vI s_16.1))]:SL_)) p.1 p.2) (λp=>(λ(k_11:Nat) (s_16:Int×(Option Entry)×Int×Int)=>([((av 0),gB 3 Span.enc x_1),(n_3,some (.cells 3 [(.d .nilp),(vI 0),(vI 0)])),(n_10,some (.cells 3 [(.d (dP Entry.enc s_16.2.1)),(vI s_16.2.2.1),(vI s_16.2.2.2)]))]:Hp)) p.1 p.2) (λp=>cO (λs=>aV x_1 s) p.1 p.2=some o_19) (λp=>p.1) (nq_33,(1,e_8.f_e,e_8.f_time.From,e_8.f_time.To)) hj_20 rfl (aK rfl) ?_)
   rintro ⟨k_11,s_16⟩ hL_18
   dsimp only at hL_18
   cases k_11 with
   | zero=>cases hL_18
   | succ k_11 =>
    obtain ⟨c_,hc_17,hL_18⟩:=bind_some hL_18
    unfold aV at hc_17
    refine af (af (aa (ae (vI s_16.1) wz rfl (ae (dV (av 0) 3 x_1) wz rfl (De Cq rfl wz (ae (vB (decide (s_16.1<(x_1.length:Int)))) wz rfl (aj ?_)))))))
    rcases au hc_17 with⟨hc_21,hc_17⟩|⟨hc_21,hc_17⟩
    ·refine aB rfl hc_21 (ax (af (aD (af (bN (ae (.fn 59 []) wz rfl (ae (dV (av 0) 3 x_1) wz rfl (ae (vI s_16.1) wz rfl ?_))))))))
     obtain ⟨_,hi_22,hc_17⟩:=bind_some hc_17
     refine qj zu rfl rfl (jQ hi_22) (iq hi_22) wz ?_
     obtain ⟨e_23,hy_24,hc_17⟩:=bind_some hc_17
     refine lS 4 0 (.inr (by kernel_rfl)) (λ_ _ ag=>trivial) pI zS rfl rfl hy_24 (.d (.agg (Span.enc e_23))) rfl wz (ay 5 2 (.inr (by kernel_rfl)) (λ_ _ ag=>⟨.inl ⟨rfl,rfl⟩,trivial⟩) pI zS rfl rfl (.d (.agg (Span.enc (⟨s_16.2.1,(⟨s_16.2.2.1,s_16.2.2.2⟩:Window)⟩:Span)))) rfl wz ?_)
     obtain ⟨r_25,hr_26,hc_17⟩:=bind_some hc_17
     refine aF (wR hr_26) rfl hb59 rfl rfl rfl rfl wz (ae (vB (decide (r_25<0))) wz rfl (aj ?_))
     obtain ⟨v_27,h_28,hc_17⟩:=bind_some hc_17
     refine aG (β:=Unit) (λ_=>([(0,(dV (av 0) 3 x_1)),(1,(.fn 59 [])),(4,(.ref n_3 0 0)),(5,(.ref n_10 0 0)),(6,(vI s_16.1))]:SL_)) (λ_=>([((av 0),gB 3 Span.enc x_1),(n_3,some (.cells 3 [(.d .nilp),(vI 0),(vI 0)])),(n_10,some (.cells 3 [(.d (dP Entry.enc v_27.1)),(vI v_27.2.1),(vI v_27.2.2)]))]:Hp)) (λ_=>True) ?_ ?_
     ·rcases au h_28 with⟨hc_29,h_28⟩|⟨hc_29,h_28⟩
      ·refine aB rfl hc_29 (aa (ae (dV (av 0) 3 x_1) wz rfl (ae (vI s_16.1) wz rfl ?_)))
       obtain ⟨_,hi_30,h_28⟩:=bind_some h_28
       refine qj zu rfl rfl (jQ hi_30) (iq hi_30) wz ?_
       obtain ⟨e_31,hy_32,h_28⟩:=bind_some h_28
       refine lS 0 0 il ft pI zS rfl rfl hy_32 (.d (.agg (Span.enc e_31))) rfl wz (eu 0 il ft 2 pI rfl rfl [(.d (dP Entry.enc e_31.f_e)),(vI e_31.f_time.From),(vI e_31.f_time.To)] (yH rfl (bP (mU _ _) (bP rfl (bP rfl rfl))) rfl rfl) wz (aj ?_))
       obtain rfl:=ah h_28
       exact cu
      ·refine aA rfl hc_29 (ax ?_)
       obtain rfl:=ah h_28
       exact cu
     ·rintro ⟨⟩ _ sl_ H_ hp_ hq_
      refine aN _ hp_ hq_ (aa (ae (vI s_16.1) wz rfl (ae (vI (w64 (s_16.1+1))) wz rfl (ae (vI (w64 (s_16.1+1))) wz rfl (aj ?_)))))
      obtain rfl:=ah hc_17
      exact aO (k_11,((w64 (s_16.1+1)),v_27.1,v_27.2.1,v_27.2.2)) hL_18 (ls_ _) rfl (aK rfl)
    ·refine aA rfl hc_21 (aS ?_)
     obtain rfl:=ah hc_17
     obtain rfl:=ah hL_18
     exact aU ((s_16.1,s_16.2.1,s_16.2.2.1,s_16.2.2.2)) rfl rfl (aK rfl)
  ·rintro s_16 ho_ sl_ H_ hp_ hq_
   subst ho_
   refine aN _ hp_ hq_ (af (aa (ay 0 2 il ft pI zS rfl rfl (.d (.agg (Span.enc (⟨s_16.2.1,(⟨s_16.2.2.1,s_16.2.2.2⟩:Window)⟩:Span)))) rfl wz (eu 0 il ft 1 pI rfl rfl [(.d (dP Entry.enc s_16.2.1)),(vI s_16.2.2.1),(vI s_16.2.2.2)] (yH rfl (bP (mU _ _) (bP rfl (bP rfl rfl))) rfl rfl) wz (aj ?_)))))
   obtain rfl:=ah hF
   exact aC (Hl (bs:=([]:List Box)) (os:=([]:List Box)) (xs:=x_1) (o:=gB 3 Span.enc x_1) (.inr rfl) [(.d (.agg (Span.enc (⟨s_16.2.1,(⟨s_16.2.2.1,s_16.2.2.2⟩:Window)⟩:Span))))] ⟨⟨1,_,_,_,_,_,_,_,rfl,rfl,pI,zS,rfl⟩,trivial⟩ rfl rfl rfl rfl rfl (by kernel_rfl) tY rfl)
theorem pM {l_1:(List Entry)} {p_2:Player} {wv_3:Window} {r:(List Slot_)} (hF:jy l_1 p_2 wv_3=some r) :
  FnM Tryz.prog 31 [(vL Entry.enc l_1),(.d (.agg (Player.enc p_2))),(.d (.agg (Window.enc wv_3)))] [] (vL Slot_.enc r) []:=by
 refine FnM.of_wH ⟨Tryz.prog,111,[],[]⟩ rfl Tryz.func31 rfl rfl (lb_ rfl) (by kernel_rfl) ?_
 unfold jy at hF
 refine af (aa (dZ 0 (.inl rfl) [(vS p_2.Key),(vS p_2.Screen),(vI p_2.Zone),(vL eS p_2.Tags)] rfl rfl wz (λn_4=>dZ 0 (.inl rfl) [(vI wv_3.From),(vI wv_3.To)] rfl rfl wz (λn_5=>ae .nil wz rfl (aj (af (aa (ae (vL Entry.enc l_1) wz rfl (ay 0 0 il ft p8 uI rfl rfl (.d (.agg (Player.enc p_2))) rfl wz (ay 0 1 il ft eP iO rfl rfl (.d (.agg (Window.enc wv_3))) rfl wz ?_))))))))))
 obtain ⟨r_6,hr_7,hF⟩:=bind_some hF
 refine yS [] (xX hr_7) rfl hb51 rfl (by kernel_rfl) (by kernel_rfl) (by kernel_rfl) (by kernel_rfl) (by kernel_rfl) rfl (by decide) (by kernel_rfl) wz ([(n_4,some (.cells 4 [(vS p_2.Key),(vS p_2.Screen),(vI p_2.Zone),(vL eS p_2.Tags)])),(n_5,some (.cells 2 [(vI wv_3.From),(vI wv_3.To)]))]:Hp) (λ_=>by kernel_rfl) (λn_9=>ae (gV n_9 3 r_6) wz rfl (aj (af (aa (ae (gV n_9 3 r_6) wz rfl ?_)))))
 obtain ⟨r_10,hr_11,hF⟩:=bind_some hF
 obtain ⟨_,hs_12,hF⟩:=bind_some hF
 replace hs_12:=qi hs_12
 refine nQ 0 [] 2 0 il ft (mo hr_11) rfl hb52 rfl rfl rfl (by kernel_rfl) rfl (.inl rfl) rfl (by kernel_rfl) (by kernel_rfl) (by kernel_rfl) (by kernel_rfl) rfl (by decide) (by kernel_rfl) tY (Ap hs_12) wz ([(n_4,some (.cells 4 [(vS p_2.Key),(vS p_2.Screen),(vI p_2.Zone),(vL eS p_2.Tags)])),(n_5,some (.cells 2 [(vI wv_3.From),(vI wv_3.To)])),(n_9,gB 3 Span.enc r_10)]:Hp) (by kernel_rfl) (bQ (v':=(gV n_9 3 r_10)) 18 rfl (bI hs_12.symm) (bQ (v':=(gV n_9 3 r_10)) 19 rfl (bI hs_12.symm) (bQ (v':=(gV n_9 3 r_10)) 7 rfl (bI hs_12.symm) (aj (af (aa (ae (vL Entry.enc l_1) wz rfl (ay 0 0 il ft p8 uI rfl rfl (.d (.agg (Player.enc p_2))) rfl wz (ay 0 1 il ft eP iO rfl rfl (.d (.agg (Window.enc wv_3))) rfl wz ?_)))))))))
 obtain ⟨r_13,hr_14,hF⟩:=bind_some hF
 refine aF (y5 hr_14) rfl hb55 rfl rfl rfl rfl wz (bR 0 (.inl rfl) z22 rfl wz (λn_15=>eu 0 il ft 3 qw rfl rfl [(vL eI r_13)] rfl wz (aj (af (aa (ae .nil wz rfl (aj (af (aa (ae .nil wz rfl (aj (af (aa (ae (vI 0) wz rfl (aj (af (af (aa (bR 0 (.inl rfl) z3 rfl wz (λn_16=>eu 0 il ft 4 sz3 rfl rfl [(vI 0)] rfl wz (aj (lq (λn_23=>lq (λn_24 => ?_))))))))))))))))))))))))
 obtain ⟨o_35,hj_36,hF⟩:=bind_some hF
 obtain ⟨nq_101,hj_36⟩:=ek hj_36
 refine aG (β:=((List Slot_)×(List Span)×Int×Int)×Nm×Nm×Nm×Bool) (λp=>(λ(s_22:(List Slot_)×(List Span)×Int×Int) (n_29:Nm) (n_30:Nm) (n_31:Nm) (gb_32:Bool)=>([(9,(gV n_30 3 s_22.1))]:SL_)) p.1 p.2.1 p.2.2.1 p.2.2.2.1 p.2.2.2.2) (λp=>(λ(s_22:(List Slot_)×(List Span)×Int×Int) (n_29:Nm) (n_30:Nm) (n_31:Nm) (gb_32:Bool)=>([(n_4,some (.cells 4 [(vS p_2.Key),(vS p_2.Screen),(vI p_2.Zone),(vL eS p_2.Tags)])),(n_5,some (.cells 2 [(vI wv_3.From),(vI wv_3.To)])),(n_9,gB 3 Span.enc r_10),(n_15,some (.cells 1 [(vL eI r_13)])),(n_29,some (.cells 1 [(vI s_22.2.2.2)])),(n_30,gB 3 Slot_.enc s_22.1),(n_31,kB gb_32 3 Span.enc s_22.2.1)]:Hp)) p.1 p.2.1 p.2.2.1 p.2.2.2.1 p.2.2.2.2) (λp=>o_35 = .go p.1) ?_ ?_
 ·refine aD (aX (β:=Nat×((List Slot_)×(List Span)×Int×Int)×Nm×Nm×Nm×Bool) (λp=>(λ(k_17:Nat) (s_22:(List Slot_)×(List Span)×Int×Int) (n_29:Nm) (n_30:Nm) (n_31:Nm) (gb_32:Bool)=>([(7,(gV n_9 3 r_10)),(8,(.ref n_15 0 0)),(9,(gV n_30 3 s_22.1)),(10,(kV gb_32 n_31 3 s_22.2.1)),(11,(vI s_22.2.2.1)),(12,(.ref n_29 0 0))]:SL_)) p.1 p.2.1 p.2.2.1 p.2.2.2.1 p.2.2.2.2.1 p.2.2.2.2.2) (λp=>(λ(k_17:Nat) (s_22:(List Slot_)×(List Span)×Int×Int) (n_29:Nm) (n_30:Nm) (n_31:Nm) (gb_32:Bool)=>([(n_4,some (.cells 4 [(vS p_2.Key),(vS p_2.Screen),(vI p_2.Zone),(vL eS p_2.Tags)])),(n_5,some (.cells 2 [(vI wv_3.From),(vI wv_3.To)])),(n_9,gB 3 Span.enc r_10),(n_15,some (.cells 1 [(vL eI r_13)])),(n_29,some (.cells 1 [(vI s_22.2.2.2)])),(n_30,gB 3 Slot_.enc s_22.1),(n_31,kB gb_32 3 Span.enc s_22.2.1)]:Hp)) p.1 p.2.1 p.2.2.1 p.2.2.2.1 p.2.2.2.2.1 p.2.2.2.2.2) (λp=>cO (λs=>fU r_13 r_10 s) p.1 p.2.1=some o_35) (λp=>p.1) (nq_101,(([]:List Slot_),([]:List Span),0,0),n_16,n_23,n_24,false) hj_36 rfl (aK rfl) ?_)
  rintro ⟨k_17,s_22,n_29,n_30,n_31,gb_32⟩ hL_34
  dsimp only at hL_34
  cases k_17 with
  | zero=>cases hL_34
  | succ k_17 =>
   obtain ⟨c_,hc_33,hL_34⟩:=bind_some hL_34
   unfold fU at hc_33
   refine af (af (aa (ay 0 4 il ft sz3 ag3 rfl rfl (vI s_22.2.2.2) rfl wz (ae (vI (w64 (s_22.2.2.2+1))) wz rfl (ay 0 3 il ft qw sH rfl rfl (vL eI r_13) rfl wz (bX nL rfl wz (ae (vB (decide ((w64 (s_22.2.2.2+1))<(r_13.length:Int)))) wz rfl (aj ?_))))))))
   rcases au hc_33 with⟨hc_37,hc_33⟩|⟨hc_37,hc_33⟩
   ·refine aB rfl hc_37 (ax (af (aD (af ?_))))
    obtain ⟨o_48,hj_49,hc_33⟩:=bind_some hc_33
    obtain ⟨nq_100,hj_49⟩:=ek hj_49
    refine aG (β:=((List Span)×Int)×Nm) (λp=>(λ(s_43:(List Span)×Int) (n_45:Nm)=>([(7,(gV n_9 3 r_10)),(8,(.ref n_15 0 0)),(9,(gV n_30 3 s_22.1)),(10,(kV gb_32 n_45 3 s_43.1)),(11,(vI s_43.2)),(12,(.ref n_29 0 0))]:SL_)) p.1 p.2) (λp=>(λ(s_43:(List Span)×Int) (n_45:Nm)=>([(n_4,some (.cells 4 [(vS p_2.Key),(vS p_2.Screen),(vI p_2.Zone),(vL eS p_2.Tags)])),(n_5,some (.cells 2 [(vI wv_3.From),(vI wv_3.To)])),(n_9,gB 3 Span.enc r_10),(n_15,some (.cells 1 [(vL eI r_13)])),(n_29,some (.cells 1 [(vI s_22.2.2.2)])),(n_30,gB 3 Slot_.enc s_22.1),(n_45,kB gb_32 3 Span.enc s_43.1)]:Hp)) p.1 p.2) (λp=>o_48 = .go p.1) ?_ ?_
    ·refine aD (aX (β:=Nat×((List Span)×Int)×Nm) (λp=>(λ(k_38:Nat) (s_43:(List Span)×Int) (n_45:Nm)=>([(7,(gV n_9 3 r_10)),(8,(.ref n_15 0 0)),(9,(gV n_30 3 s_22.1)),(10,(kV gb_32 n_45 3 s_43.1)),(11,(vI s_43.2)),(12,(.ref n_29 0 0))]:SL_)) p.1 p.2.1 p.2.2) (λp=>(λ(k_38:Nat) (s_43:(List Span)×Int) (n_45:Nm)=>([(n_4,some (.cells 4 [(vS p_2.Key),(vS p_2.Screen),(vI p_2.Zone),(vL eS p_2.Tags)])),(n_5,some (.cells 2 [(vI wv_3.From),(vI wv_3.To)])),(n_9,gB 3 Span.enc r_10),(n_15,some (.cells 1 [(vL eI r_13)])),(n_29,some (.cells 1 [(vI s_22.2.2.2)])),(n_30,gB 3 Slot_.enc s_22.1),(n_45,kB gb_32 3 Span.enc s_43.1)]:Hp)) p.1 p.2.1 p.2.2) (λp=>cO (λs=>fV r_10 r_13 s_22 s) p.1 p.2.1=some o_48) (λp=>p.1) (nq_100,(s_22.2.1,s_22.2.2.1),n_31) hj_49 rfl (aK rfl) ?_)
     rintro ⟨k_38,s_43,n_45⟩ hL_47
     dsimp only at hL_47
     cases k_38 with
     | zero=>cases hL_47
     | succ k_38 =>
      obtain ⟨c_,hc_46,hL_47⟩:=bind_some hL_47
      unfold fV at hc_46
      refine af (af ?_)
      obtain ⟨v_50,h_51,hc_46⟩:=bind_some hc_46
      refine aG (β:=Unit) (λ_=>([(7,(gV n_9 3 r_10)),(8,(.ref n_15 0 0)),(9,(gV n_30 3 s_22.1)),(10,(kV gb_32 n_45 3 s_43.1)),(11,(vI s_43.2)),(12,(.ref n_29 0 0)),(48,(vB v_50))]:SL_)) (λ_=>([(n_4,some (.cells 4 [(vS p_2.Key),(vS p_2.Screen),(vI p_2.Zone),(vL eS p_2.Tags)])),(n_5,some (.cells 2 [(vI wv_3.From),(vI wv_3.To)])),(n_9,gB 3 Span.enc r_10),(n_15,some (.cells 1 [(vL eI r_13)])),(n_29,some (.cells 1 [(vI s_22.2.2.2)])),(n_30,gB 3 Slot_.enc s_22.1),(n_45,kB gb_32 3 Span.enc s_43.1)]:Hp)) (λ_=>True) ?_ ?_
      ·refine bN (ae (vI s_43.2) wz rfl (ae (gV n_9 3 r_10) wz rfl (qF Cq rfl wz (ae (vB (decide (s_43.2<(r_10.length:Int)))) wz rfl ?_))))
       rcases au h_51 with⟨hc_52,h_51⟩|⟨hc_52,h_51⟩
       ·refine aH rfl hc_52 wz (ae (gV n_9 3 r_10) wa rfl (ae (vI s_43.2) wa rfl ?_))
        obtain ⟨_,hi_53,h_51⟩:=bind_some h_51
        refine oG zu rfl rfl (jQ hi_53) (iq hi_53) wa (aJ xJ rfl 1 rfl wa (aJ fw rfl 1 rfl wa ?_))
        obtain ⟨e_54,hy_55,h_51⟩:=bind_some h_51
        refine lS 10 2 (.inr (by kernel_rfl)) (λ_ _ ag=>trivial) sz3 ag3 rfl rfl hy_55 (vI e_54.f_time.From) rfl wa (ay 11 3 (.inr (by kernel_rfl)) (λ_ _ ag=>⟨.inl ⟨rfl,rfl⟩,trivial⟩) qw sH rfl rfl (vL eI r_13) rfl wa (ay 12 4 (.inr (by kernel_rfl)) (λ_ _ ag=>⟨.inl ⟨rfl,rfl⟩,⟨.inl ⟨rfl,rfl⟩,trivial⟩⟩) sz3 ag3 rfl rfl (vI s_22.2.2.2) rfl wa ?_))
        obtain ⟨y_56,hy_57,h_51⟩:=bind_some h_51
        refine dL iE rfl rfl hy_57 rfl wa (bz sz3 ag3 rfl (vI y_56) rfl wa (ae (vB (decide (e_54.f_time.From<=y_56))) wa rfl (ae (vB (decide (e_54.f_time.From<=y_56))) wz rfl (aj ?_))))
        obtain rfl:=ah h_51
        exact cu
       ·refine aH rfl hc_52 wz (ak wa (ak wa (ak wa (ak wa (ak wa (ak wa (ak wa (ak wa (ak wa (ak wa (ak wa (ae (vB false) wz rfl (aj ?_)))))))))))))
        obtain rfl:=ah h_51
        exact cu
      ·rintro ⟨⟩ _ sl_ H_ hp_ hq_
       refine aN _ hp_ hq_ ?_
       rcases au hc_46 with⟨hc_58,hc_46⟩|⟨hc_58,hc_46⟩
       ·refine aB rfl hc_58 (ax (af (aD (aa (ae (kV gb_32 n_45 3 s_43.1) wz rfl (ae (gV n_9 3 r_10) wz rfl (ae (vI s_43.2) wz rfl ?_)))))))
        obtain ⟨_,hi_59,hc_46⟩:=bind_some hc_46
        refine oG zu rfl rfl (jQ hi_59) (iq hi_59) wz ?_
        obtain ⟨e_60,hy_61,hc_46⟩:=bind_some hc_46
        refine lS 0 2 il ft pI zS rfl rfl hy_61 (.d (.agg (Span.enc e_60))) rfl wz (dW (([e_60]:List Span).map Span.enc) zu ez86 rfl (M3 rfl rfl (bP (mU _ _) (bP rfl (bP rfl rfl))) rfl) rfl rfl rfl wz ?_)
        obtain ⟨a_62,hz_63,hc_46⟩:=bind_some hc_46
        refine Jq 0 il ft (i:=6) IU IU pI z90 rfl (by decide) by90 (by decide) (λ_=>rfl) rfl rfl rfl hz_63 wz (λn_64=>ae (kV gb_32 n_64 3 a_62) wz rfl (aj (aa (ae (vI s_43.2) wz rfl (ae (vI (w64 (s_43.2+1))) wz rfl (ae (vI (w64 (s_43.2+1))) wz rfl (aj ?_)))))))
        obtain rfl:=ah hc_46
        exact aO (k_38,(a_62,(w64 (s_43.2+1))),n_64) hL_47 (ls_ _) rfl (aK rfl)
       ·refine aA rfl hc_58 (aS ?_)
        obtain rfl:=ah hc_46
        obtain rfl:=ah hL_47
        exact aU ((s_43.1,s_43.2),n_45) rfl rfl (aK rfl)
    ·rintro ⟨s_43,n_45⟩ ho_ sl_ H_ hp_ hq_
     subst ho_
     refine aN _ hp_ hq_ (af (aa (ae (kV gb_32 n_45 3 s_43.1) wz rfl (ae (.fn 57 [(.ref n_15 0 0),(.ref n_29 0 0)]) wz rfl ?_))))
     obtain ⟨r_65,hr_66,hc_33⟩:=bind_some hc_33
     obtain ⟨_,hl_68,hc_33⟩:=bind_some hc_33
     obtain ⟨_,hr_67,hc_33⟩:=bind_some hc_33
     replace hl_68:=leL_le hl_68
     refine Ki [3,4] 6 0 (jv hr_66) (jl hr_67) hl_68 (λ_ _=>rfl) rfl hb56 rfl rfl (by kernel_rfl) (by kernel_rfl) (by kernel_rfl) rfl rfl (by kernel_rfl) (by kernel_rfl) (by kernel_rfl) (by kernel_rfl) rfl rfl (by decide) wz ([(n_4,some (.cells 4 [(vS p_2.Key),(vS p_2.Screen),(vI p_2.Zone),(vL eS p_2.Tags)])),(n_5,some (.cells 2 [(vI wv_3.From),(vI wv_3.To)])),(n_9,gB 3 Span.enc r_10),(n_15,some (.cells 1 [(vL eI r_13)])),(n_29,some (.cells 1 [(vI s_22.2.2.2)])),(n_30,gB 3 Slot_.enc s_22.1),(n_45,kB (gb_32 || !s_43.1.isEmpty) 3 Span.enc r_65)]:Hp) (by kernel_rfl) (ae (kV (gb_32 || !s_43.1.isEmpty) n_45 3 r_65) wz rfl (aj (af (aa (ae (vS (⟨#[]⟩:ByteArray)) wz rfl (aj (af (af (aa (ae (kV (gb_32 || !s_43.1.isEmpty) n_45 3 r_65) wz rfl (h_lenk Cq rfl wz (ae (vB (decide ((r_65.length:Int)>0))) wz rfl (aj ?_)))))))))))))
     obtain ⟨v_69,h_70,hc_33⟩:=bind_some hc_33
     refine aG (β:=Unit) (λ_=>([(7,(gV n_9 3 r_10)),(8,(.ref n_15 0 0)),(9,(gV n_30 3 s_22.1)),(10,(kV (gb_32 || !s_43.1.isEmpty) n_45 3 r_65)),(11,(vI s_43.2)),(12,(.ref n_29 0 0)),(13,(vS v_69))]:SL_)) (λ_=>([(n_4,some (.cells 4 [(vS p_2.Key),(vS p_2.Screen),(vI p_2.Zone),(vL eS p_2.Tags)])),(n_5,some (.cells 2 [(vI wv_3.From),(vI wv_3.To)])),(n_9,gB 3 Span.enc r_10),(n_15,some (.cells 1 [(vL eI r_13)])),(n_29,some (.cells 1 [(vI s_22.2.2.2)])),(n_30,gB 3 Slot_.enc s_22.1),(n_45,kB (gb_32 || !s_43.1.isEmpty) 3 Span.enc r_65)]:Hp)) (λ_=>True) ?_ ?_
     ·rcases au h_70 with⟨hc_71,h_70⟩|⟨hc_71,h_70⟩
      ·refine aB rfl hc_71 (aa (ae (kV (gb_32 || !s_43.1.isEmpty) n_45 3 r_65) wz rfl ?_))
       obtain ⟨_,hn_72,h_70⟩:=bind_some h_70
       replace hn_72:=FM hn_72
       refine bQ (v':=(gV n_45 3 r_65)) 10 rfl (Ah hn_72) (bQ (v':=(gV n_45 3 r_65)) 60 rfl (Ah hn_72) (bQ (v':=(gV n_45 3 r_65)) 61 rfl (Ah hn_72) (bQ (v':=(gV n_45 3 r_65)) 64 rfl (Ah hn_72) (Eg 6 rfl (kB_gB hn_72) ?_))))
       obtain ⟨r_73,hr_74,h_70⟩:=bind_some h_70
       refine nQ 0 [] 6 0 il ft (jG hr_74) rfl hb58 rfl rfl rfl (by kernel_rfl) rfl (.inl rfl) rfl (by kernel_rfl) (by kernel_rfl) (by kernel_rfl) (by kernel_rfl) rfl (by decide) (by kernel_rfl) tY (Ap rfl) wz ([(n_4,some (.cells 4 [(vS p_2.Key),(vS p_2.Screen),(vI p_2.Zone),(vL eS p_2.Tags)])),(n_5,some (.cells 2 [(vI wv_3.From),(vI wv_3.To)])),(n_9,gB 3 Span.enc r_10),(n_15,some (.cells 1 [(vL eI r_13)])),(n_29,some (.cells 1 [(vI s_22.2.2.2)])),(n_30,gB 3 Slot_.enc s_22.1),(n_45,gB 3 Span.enc r_65)]:Hp) (by kernel_rfl) (bQ (v':=(kV (gb_32 || !s_43.1.isEmpty) n_45 3 r_65)) 10 rfl (Ah hn_72).symm (bQ (v':=(kV (gb_32 || !s_43.1.isEmpty) n_45 3 r_65)) 60 rfl (Ah hn_72).symm (bQ (v':=(kV (gb_32 || !s_43.1.isEmpty) n_45 3 r_65)) 61 rfl (Ah hn_72).symm (bQ (v':=(kV (gb_32 || !s_43.1.isEmpty) n_45 3 r_65)) 64 rfl (Ah hn_72).symm (Eg (b':=kB (gb_32 || !s_43.1.isEmpty) 3 Span.enc r_65) 6 rfl (kB_gB hn_72).symm (h_field fr90_0 rfl (.d (dP Entry.enc r_73.f_e)) rfl wz ?_))))))
       obtain ⟨y_75,hy_76,h_70⟩:=bind_some h_70
       refine bQ (v':=(.d (.ptr (Entry.enc y_75)))) 66 rfl (yZ (enc:=Entry.enc) (y:=y_75) hy_76) (ae (.d (.ptr (Entry.enc y_75))) wz rfl (mF j5 rfl (Entry.enc y_75) rfl rfl wz (bz sz9 ag9 rfl (vS y_75.Key) rfl wz (ae (vS y_75.Key) wz rfl (aj ?_)))))
       obtain rfl:=ah h_70
       exact cu
      ·refine aA rfl hc_71 (ax ?_)
       obtain rfl:=ah h_70
       exact cu
     ·rintro ⟨⟩ _ sl_ H_ hp_ hq_
      refine aN _ hp_ hq_ (af (aa (ae (gV n_30 3 s_22.1) wz rfl (qF un66 rfl wz (ae (vI (w64 ((s_22.1.length:Int)-1))) wz rfl (ae (vI (w64 ((s_22.1.length:Int)-1))) wz rfl (aj (af ?_))))))))
      obtain ⟨v_77,h_78,hc_33⟩:=bind_some hc_33
      refine aG (β:=Unit) (λ_=>([(7,(gV n_9 3 r_10)),(8,(.ref n_15 0 0)),(9,(gV n_30 3 s_22.1)),(10,(kV (gb_32 || !s_43.1.isEmpty) n_45 3 r_65)),(11,(vI s_43.2)),(12,(.ref n_29 0 0)),(13,(vS v_69)),(14,(vI (w64 ((s_22.1.length:Int)-1)))),(83,(vB v_77))]:SL_)) (λ_=>([(n_4,some (.cells 4 [(vS p_2.Key),(vS p_2.Screen),(vI p_2.Zone),(vL eS p_2.Tags)])),(n_5,some (.cells 2 [(vI wv_3.From),(vI wv_3.To)])),(n_9,gB 3 Span.enc r_10),(n_15,some (.cells 1 [(vL eI r_13)])),(n_29,some (.cells 1 [(vI s_22.2.2.2)])),(n_30,gB 3 Slot_.enc s_22.1),(n_45,kB (gb_32 || !s_43.1.isEmpty) 3 Span.enc r_65)]:Hp)) (λ_=>True) ?_ ?_
      ·refine aa (ae (vI (w64 ((s_22.1.length:Int)-1))) wz rfl (ae (vB (decide ((w64 ((s_22.1.length:Int)-1))>=0))) wz rfl ?_))
       rcases au h_78 with⟨hc_79,h_78⟩|⟨hc_79,h_78⟩
       ·refine aH rfl hc_79 wz (ae (gV n_30 3 s_22.1) wa rfl (ae (vI (w64 ((s_22.1.length:Int)-1))) wa rfl ?_))
        obtain ⟨_,hi_80,h_78⟩:=bind_some h_78
        refine oG Dc rfl rfl (jQ hi_80) (iq hi_80) wa (aJ BO rfl 2 rfl wa ?_)
        obtain ⟨e_81,hy_82,h_78⟩:=bind_some h_78
        refine lS 0 5 il ft sz9 ag9 rfl rfl hy_82 (vS e_81.Entry) rfl wa (ae (vS v_69) wa rfl (ae (vB (sEq e_81.Entry v_69)) wa rfl (ae (vB (sEq e_81.Entry v_69)) wz rfl (aj ?_))))
        obtain rfl:=ah h_78
        exact cu
       ·refine aH rfl hc_79 wz (ak wa (ak wa (ak wa (ak wa (ak wa (ak wa (ak wa (ae (vB false) wz rfl (aj ?_)))))))))
        obtain rfl:=ah h_78
        exact cu
      ·rintro ⟨⟩ _ sl_ H_ hp_ hq_
       refine aN _ hp_ hq_ ?_
       obtain ⟨v_83,h_84,hc_33⟩:=bind_some hc_33
       refine aG (β:=Nm) (λ(n_85:Nm)=>([(7,(gV n_9 3 r_10)),(8,(.ref n_15 0 0)),(9,(gV n_85 3 v_83)),(10,(kV (gb_32 || !s_43.1.isEmpty) n_45 3 r_65)),(11,(vI s_43.2)),(12,(.ref n_29 0 0))]:SL_)) (λ(n_85:Nm)=>([(n_4,some (.cells 4 [(vS p_2.Key),(vS p_2.Screen),(vI p_2.Zone),(vL eS p_2.Tags)])),(n_5,some (.cells 2 [(vI wv_3.From),(vI wv_3.To)])),(n_9,gB 3 Span.enc r_10),(n_15,some (.cells 1 [(vL eI r_13)])),(n_29,some (.cells 1 [(vI s_22.2.2.2)])),(n_85,gB 3 Slot_.enc v_83),(n_45,kB (gb_32 || !s_43.1.isEmpty) 3 Span.enc r_65)]:Hp)) (λ_=>True) ?_ ?_
       ·rcases au h_84 with⟨hc_86,h_84⟩|⟨hc_86,h_84⟩
        ·refine aB rfl hc_86 (aa (ae (gV n_30 3 s_22.1) wz rfl (ae (vI (w64 ((s_22.1.length:Int)-1))) wz rfl (ay 0 3 il ft qw sH rfl rfl (vL eI r_13) rfl wz (ay 0 4 il ft sz3 ag3 rfl rfl (vI s_22.2.2.2) rfl wz (ae (vI (w64 (s_22.2.2.2+1))) wz rfl ?_))))))
         obtain ⟨y_87,hy_88,h_84⟩:=bind_some h_84
         refine dL iE rfl rfl hy_88 rfl wz (bz sz3 ag3 rfl (vI y_87) rfl wz ?_)
         obtain ⟨_,hi_89,h_84⟩:=bind_some h_84
         refine oG Dc rfl rfl (jQ hi_89) (iq hi_89) wz (aJ BJ rfl 0 rfl wz (aJ dX rfl 1 rfl wz ?_))
         obtain ⟨e_90,hy_91,h_84⟩:=bind_some h_84
         refine kJ 0 il ft 5 sz3 rfl rfl hy_91 (⟨(⟨e_90.Time.From,y_87⟩:Window),e_90.Entry⟩:Slot_) rfl wz (bQ (v':=(gV n_30 3 (s_22.1.set (0+((w64 ((s_22.1.length:Int)-1))).toNat) (⟨(⟨e_90.Time.From,y_87⟩:Window),e_90.Entry⟩:Slot_)))) 9 rfl (bI (by simp)) (bQ (v':=(gV n_30 3 (s_22.1.set (0+((w64 ((s_22.1.length:Int)-1))).toNat) (⟨(⟨e_90.Time.From,y_87⟩:Window),e_90.Entry⟩:Slot_)))) 84 rfl (bI (by simp)) (aj ?_)))
         obtain rfl:=ah h_84
         exact aU n_30 trivial rfl (aK rfl)
        ·refine aA rfl hc_86 (bN (ae (gV n_30 3 s_22.1) wz rfl (ay 1 3 (.inr (by kernel_rfl)) (λ_ _ ag=>trivial) qw sH rfl rfl (vL eI r_13) rfl wz (ay 2 4 (.inr (by kernel_rfl)) (λ_ _ ag=>⟨.inl ⟨rfl,rfl⟩,trivial⟩) sz3 ag3 rfl rfl (vI s_22.2.2.2) rfl wz ?_))))
         obtain ⟨y_92,hy_93,h_84⟩:=bind_some h_84
         refine dL iE rfl rfl hy_93 rfl wz (bz sz3 ag3 rfl (vI y_92) rfl wz (ay 5 3 (.inr (by kernel_rfl)) (λ_ _ ag=>⟨.inl ⟨rfl,rfl⟩,⟨.inl ⟨rfl,rfl⟩,trivial⟩⟩) qw sH rfl rfl (vL eI r_13) rfl wz (ay 6 4 (.inr (by kernel_rfl)) (λ_ _ ag=>⟨.inl ⟨rfl,rfl⟩,⟨.inl ⟨rfl,rfl⟩,⟨.inl ⟨rfl,rfl⟩,trivial⟩⟩⟩) sz3 ag3 rfl rfl (vI s_22.2.2.2) rfl wz (ae (vI (w64 (s_22.2.2.2+1))) wz rfl ?_))))
         obtain ⟨y_94,hy_95,h_84⟩:=bind_some h_84
         refine dL iE rfl rfl hy_95 rfl wz (bz sz3 ag3 rfl (vI y_94) rfl wz (ae (.d (.agg (Window.enc (⟨y_92,y_94⟩:Window)))) wz (by kernel_rfl) (ae (vS v_69) wz rfl (ae (.d (.agg (Slot_.enc (⟨(⟨y_92,y_94⟩:Window),v_69⟩:Slot_)))) wz (by kernel_rfl) (dW (([(⟨(⟨y_92,y_94⟩:Window),v_69⟩:Slot_)]:List Slot_).map Slot_.enc) Dc ez66 rfl rfl rfl rfl rfl wz ?_)))))
         obtain ⟨a_96,hz_97,h_84⟩:=bind_some h_84
         refine mq 14 (.inr (by kernel_rfl)) (λ_ _ ag=>⟨.inr (.inl (KH (Ez ag (i:=5) (j:=3) rfl rfl (by decide)))),⟨.inr (.inl (KH (Ez ag (i:=5) (j:=4) rfl rfl (by decide)))),⟨.inr (.inl (KH (Ez ag (i:=5) (j:=3) rfl rfl (by decide)))),⟨.inr (.inl (KH (Ez ag (i:=5) (j:=4) rfl rfl (by decide)))),trivial⟩⟩⟩⟩) (i:=5) el66 el66 sz72 z72 rfl (by decide) by72 (by decide) (λ_=>rfl) rfl rfl rfl hz_97 wz (λn_98=>ae (gV n_98 3 a_96) wz rfl (aj ?_))
         obtain rfl:=ah h_84
         exact aU n_98 trivial rfl (aK rfl)
       ·rintro n_85 _ sl_ H_ hp_ hq_
        refine aN _ hp_ hq_ (af (af (aa (ay 0 4 il ft sz3 ag3 rfl rfl (vI s_22.2.2.2) rfl wz (aj (aa (bR 0 (.inl rfl) z3 rfl wz (λn_99=>eu 0 il ft 7 sz3 rfl rfl [(vI s_22.2.2.2)] rfl wz (aj (aa (ay 0 7 il ft sz3 ag3 rfl rfl (vI s_22.2.2.2) rfl wz (ae (vI (w64 (s_22.2.2.2+1))) wz rfl (eu 0 il ft 7 sz3 rfl rfl [(vI (w64 (s_22.2.2.2+1)))] rfl wz (aj ?_))))))))))))))
        obtain rfl:=ah hc_33
        exact aO (k_17,(v_83,r_65,s_43.2,(w64 (s_22.2.2.2+1))),n_99,n_85,n_45,(gb_32 || !s_43.1.isEmpty)) hL_34 (ls_ _) rfl (pre_is [0,1,2,3,7,5,6] (by decide) rfl)
   ·refine aA rfl hc_37 (aS ?_)
    obtain rfl:=ah hc_33
    obtain rfl:=ah hL_34
    exact aU ((s_22.1,s_22.2.1,s_22.2.2.1,s_22.2.2.2),n_29,n_30,n_31,gb_32) rfl rfl (aK rfl)
 ·rintro ⟨s_22,n_29,n_30,n_31,gb_32⟩ ho_ sl_ H_ hp_ hq_
  subst ho_
  refine aN _ hp_ hq_ (af (aa (ae (gV n_30 3 s_22.1) wz rfl (ae (gV n_30 3 s_22.1) wz rfl (aj (gX 5 rfl (dY 6 5 rfl rfl (dY 9 5 rfl rfl (dY 110 5 rfl rfl ?_)))))))))
  obtain rfl:=ah hF
  exact aC (bv (.inr rfl) [(vL Slot_.enc s_22.1)] ⟨rfl,trivial⟩ rfl rfl rfl)
theorem ru {l_1:(List Entry)} {r:(List (ByteArray×ByteArray))} (hF:kr l_1=some r) :
  FnM Tryz.prog 32 [(vL Entry.enc l_1)] [] (.map (av 0)) [some (bM D.str D.str r)]:=by
 refine FnM.of_wH ⟨Tryz.prog,20,[],[]⟩ rfl Tryz.func32 rfl rfl (lb_ rfl) (by kernel_rfl) ?_
 unfold kr at hF
 refine af (aa (ae .nilm wz rfl (aj (af (aa (h_mkmap 0 (.inl rfl) wz (λn_2=>Eg (b':=some (bM D.str D.str ([]:List (ByteArray×ByteArray)))) 0 rfl rfl (ae (.map n_2) wz rfl (aj (af (af (aa (ae (vL Entry.enc l_1) wz rfl (bX qb rfl wz (ae (vI 0) wz rfl (aj ?_))))))))))))))))
 obtain ⟨o_11,hj_12,hF⟩:=bind_some hF
 obtain ⟨hn_7,hj_12⟩:=bn hj_12
 refine aG (β:=((List (ByteArray×ByteArray)))) (λ(s_8:(List (ByteArray×ByteArray)))=>([(3,(.map n_2))]:SL_)) (λ(s_8:(List (ByteArray×ByteArray)))=>([(n_2,some (bM D.str D.str s_8))]:Hp)) (λp=>o_11 = .go p) ?_ ?_
 ·refine aD (aX (β:=Nat×(List Entry)×((List (ByteArray×ByteArray)))) (λp=>(λ(k_3:Nat) (l_4:List Entry) (s_8:(List (ByteArray×ByteArray)))=>([(3,(.map n_2)),(7,(vL Entry.enc l_1)),(8,(vI (l_1.length:Int))),(9,(vI (k_3:Int)))]:SL_)) p.1 p.2.1 p.2.2) (λp=>(λ(k_3:Nat) (l_4:List Entry) (s_8:(List (ByteArray×ByteArray)))=>([(n_2,some (bM D.str D.str s_8))]:Hp)) p.1 p.2.1 p.2.2) (λp=>dG (λk x s=>jf k x s) p.2.1 p.1 p.2.2=some o_11/\(l_1).drop p.1=p.2.1) (λp=>p.2.1.length) (0,l_1,([]:List (ByteArray×ByteArray))) ⟨hj_12,rfl⟩ rfl (aK rfl) ?_)
  rintro ⟨k_3,l_4,s_8⟩ ⟨hL_10,hD_6⟩
  dsimp only at hL_10 hD_6
  cases l_4 with
  | nil =>
   obtain rfl:=ah hL_10
   refine af (aa (ae (vB (decide ((k_3:Int)<(l_1.length:Int)))) wz rfl (aj ?_)))
   refine af (aA rfl (drop_nil hD_6) (aS ?_))
   exact aU (s_8) rfl rfl (aK rfl)
  | cons x_5 l_4 =>
   obtain ⟨c_,hc_9,hL_10⟩:=bind_some hL_10
   refine af (aa (ae (vB (decide ((k_3:Int)<(l_1.length:Int)))) wz rfl (aj ?_)))
   refine af (aB rfl (bE hD_6) (ax ?_))
   unfold jf at hc_9
   refine af (aD (af (aa (dL mE rfl rfl (bL hD_6) rfl wz (bz gK jR rfl (.d (.agg (Entry.enc x_5))) rfl wz (bR 0 (.inl rfl) z38 rfl wz (λn_13=>eu 0 il ft 1 gK rfl rfl [(vS x_5.Key),(vS x_5.Item),(vI x_5.Version),(vI x_5.First),(vI x_5.Last),(vI x_5.Every),(vI x_5.Days),(vL eI x_5.Except),(vI x_5.From),(vI x_5.To),(vI x_5.Prio),(vL eS x_5.Tags),(vB x_5.Gone)] rfl wz (aj (aa (ae (.map n_2) wz rfl (aJ j5 rfl 0 rfl wz (ay 0 1 il ft sz9 ag9 rfl rfl (vS x_5.Key) rfl wz (aJ yc rfl 1 rfl wz (ay 0 1 il ft sz9 ag9 rfl rfl (vS x_5.Item) rfl wz (Mi (eq:=eqS) (kD:=D.str) (vD:=D.str) (es:=s_8) (k:=x_5.Key) (v:=x_5.Item) 0 0 il ft (λ_ _=>rfl) mt68 (by kernel_rfl) rfl rfl rfl rfl wz (aj (aa (gm (bH hD_6 hn_7) wz rfl (ae (vI ((k_3+1:Nat):Int)) wz rfl (aj ?_))))))))))))))))))))
   obtain rfl:=ah hc_9
   exact aO (k_3+1,l_4,(Jm eqS s_8 x_5.Key x_5.Item)) ⟨hL_10,aP hD_6⟩ (ls_ _) rfl (aK rfl)
 ·rintro s_8 ho_ sl_ H_ hp_ hq_
  subst ho_
  refine aN _ hp_ hq_ (af (aa (ae (.map n_2) wz rfl (ae (.map n_2) wz rfl (aj ?_)))))
  obtain rfl:=ah hF
  exact aC (qK (.inr rfl) [(.map n_2)] _ [0] [n_2] ⟨rfl,trivial⟩ (.cons (yD _) .nil) (by kernel_rfl) ⟨(by kernel_rfl),trivial⟩ (by decide) (by kernel_rfl))
theorem wU {a_1:(List Entry)} {b_2:(List Entry)} {p_3:Player} {wv_4:Window} {r:(List Window)×Int} (hF:fQ a_1 b_2 p_3 wv_4=some r) :
  FnM Tryz.prog 12 [(vL Entry.enc a_1),(vL Entry.enc b_2),(.d (.agg (Player.enc p_3))),(.d (.agg (Window.enc wv_4)))] [] (.tup [(vL Window.enc r.1),(vI r.2)]) []:=by
 refine FnM.of_wH ⟨Tryz.prog,142,[],[]⟩ rfl Tryz.func12 rfl rfl (lb_ rfl) (by kernel_rfl) ?_
 unfold fQ at hF
 refine af (aa (dZ 0 (.inl rfl) [(vS p_3.Key),(vS p_3.Screen),(vI p_3.Zone),(vL eS p_3.Tags)] rfl rfl wz (λn_5=>dZ 0 (.inl rfl) [(vI wv_4.From),(vI wv_4.To)] rfl rfl wz (λn_6=>ae .nil wz rfl (ae (vI 0) wz rfl (aj (af (af (aa (ae (vL Entry.enc a_1) wz rfl ?_))))))))))
 obtain ⟨r_7,hr_8,hF⟩:=bind_some hF
 refine aF (iM hr_8) rfl hb29 rfl rfl rfl rfl wz (ae (vI r_7) wz rfl (aj (af (aa (ae (vI r_7) wz rfl (ae (vB (r_7 != 0)) wz rfl (aj ?_)))))))
 rcases au hF with⟨hc_9,hF⟩|⟨hc_9,hF⟩
 ·refine aB rfl hc_9 (af (aa (ae (vI r_7) wz rfl (ae .nil wz rfl (ae (vI r_7) wz rfl (aj ?_))))))
  obtain rfl:=ah hF
  exact aC (bv (.inr rfl) [.nil,(vI r_7)] ⟨rfl,⟨rfl,trivial⟩⟩ rfl rfl rfl)
 ·refine aA rfl hc_9 (ax (af (af (aa (ae (vL Entry.enc b_2) wz rfl (ay 0 0 il ft p8 uI rfl rfl (.d (.agg (Player.enc p_3))) rfl wz (ay 0 1 il ft eP iO rfl rfl (.d (.agg (Window.enc wv_4))) rfl wz ?_)))))))
  obtain ⟨r_10,hr_11,hF⟩:=bind_some hF
  refine aF (u7 hr_11) rfl hb30 rfl rfl rfl rfl wz (ae (vI r_10) wz rfl (aj (af (aa (ae (vI r_10) wz rfl (ae (vB (r_10 != 0)) wz rfl (aj ?_)))))))
  rcases au hF with⟨hc_12,hF⟩|⟨hc_12,hF⟩
  ·refine aB rfl hc_12 (af (aa (ae (vI r_10) wz rfl (ae .nil wz rfl (ae (vI r_10) wz rfl (aj ?_))))))
   obtain rfl:=ah hF
   exact aC (bv (.inr rfl) [.nil,(vI r_10)] ⟨rfl,⟨rfl,trivial⟩⟩ rfl rfl rfl)
  ·refine aA rfl hc_12 (ax (af (bN (ae (vL Entry.enc a_1) wz rfl (ay 1 0 (.inr (by kernel_rfl)) (λ_ _ ag=>trivial) p8 uI rfl rfl (.d (.agg (Player.enc p_3))) rfl wz (ay 2 1 (.inr (by kernel_rfl)) (λ_ _ ag=>⟨.inl ⟨rfl,rfl⟩,trivial⟩) eP iO rfl rfl (.d (.agg (Window.enc wv_4))) rfl wz ?_))))))
   obtain ⟨r_13,hr_14,hF⟩:=bind_some hF
   refine aF (pM hr_14) rfl hb31 rfl rfl rfl rfl wz (ae (vL Entry.enc b_2) wz rfl (ay 5 0 (.inr (by kernel_rfl)) (λ_ _ ag=>⟨.inl ⟨rfl,rfl⟩,⟨.inl ⟨rfl,rfl⟩,trivial⟩⟩) p8 uI rfl rfl (.d (.agg (Player.enc p_3))) rfl wz (ay 6 1 (.inr (by kernel_rfl)) (λ_ _ ag=>⟨.inl ⟨rfl,rfl⟩,⟨.inl ⟨rfl,rfl⟩,⟨.inl ⟨rfl,rfl⟩,trivial⟩⟩⟩) eP iO rfl rfl (.d (.agg (Window.enc wv_4))) rfl wz ?_)))
   obtain ⟨r_15,hr_16,hF⟩:=bind_some hF
   refine aF (pM hr_16) rfl hb31 rfl rfl rfl rfl wz (ae (vL Slot_.enc r_13) wz rfl (ae (vL Slot_.enc r_15) wz rfl (aj (af (aa (ae (vL Entry.enc a_1) wz rfl ?_))))))
   obtain ⟨r_17,hr_18,hF⟩:=bind_some hF
   refine JZ [] 1 (ru hr_18) rfl hb32 rfl (by kernel_rfl) (by kernel_rfl) (by kernel_rfl) (by kernel_rfl) (by kernel_rfl) (by kernel_rfl) (by kernel_rfl) (by decide) (by kernel_rfl) (by kernel_rfl) wz (λnu_19=>(.map (nu_19 0))) (λ_=>by kernel_rfl) (λnu_19=>([(n_5,some (.cells 4 [(vS p_3.Key),(vS p_3.Screen),(vI p_3.Zone),(vL eS p_3.Tags)])),(n_6,some (.cells 2 [(vI wv_4.From),(vI wv_4.To)])),((nu_19 0),some (bM D.str D.str r_17))]:Hp)) (λ_=>by kernel_rfl) ?_
   intro nu_19
   refine ae (vL Entry.enc b_2) wz rfl ?_
   obtain ⟨r_20,hr_21,hF⟩:=bind_some hF
   refine JZ [] 1 (ru hr_21) rfl hb32 rfl (by kernel_rfl) (by kernel_rfl) (by kernel_rfl) (by kernel_rfl) (by kernel_rfl) (by kernel_rfl) (by kernel_rfl) (by decide) (by kernel_rfl) (by kernel_rfl) wz (λnu_22=>(.map (nu_22 0))) (λ_=>by kernel_rfl) (λnu_22=>([(n_5,some (.cells 4 [(vS p_3.Key),(vS p_3.Screen),(vI p_3.Zone),(vL eS p_3.Tags)])),(n_6,some (.cells 2 [(vI wv_4.From),(vI wv_4.To)])),((nu_19 0),some (bM D.str D.str r_17)),((nu_22 0),some (bM D.str D.str r_20))]:Hp)) (λ_=>by kernel_rfl) ?_
   intro nu_22
   refine ae (.map (nu_19 0)) wz rfl (ae (.map (nu_22 0)) wz rfl (aj (aN (H0:=([(n_5,some (.cells 4 [(vS p_3.Key),(vS p_3.Screen),(vI p_3.Zone),(vL eS p_3.Tags)])),(n_6,some (.cells 2 [(vI wv_4.From),(vI wv_4.To)])),((nu_19 0),some (bM D.str D.str r_17)),((nu_22 0),some (bM D.str D.str r_20))]:Hp)) ([(12,(vL Slot_.enc r_13)),(13,(vL Slot_.enc r_15)),(14,(.map (nu_19 0))),(15,(.map (nu_22 0)))]:SL_) (by kernel_rfl) (xw (by kernel_rfl)) (af (aa (ae .nil wz rfl (aj (af (af (aa (ae (vI 0) wz rfl (ae (vI 0) wz rfl (aj (lq (λn_29 => ?_)))))))))))))))
   obtain ⟨o_34,hj_35,hF⟩:=bind_some hF
   obtain ⟨nq_83,hj_35⟩:=ek hj_35
   refine aG (β:=((List Window)×Int×Int)×Nm) (λp=>(λ(s_28:(List Window)×Int×Int) (n_31:Nm)=>([(16,(gV n_31 2 s_28.1))]:SL_)) p.1 p.2) (λp=>(λ(s_28:(List Window)×Int×Int) (n_31:Nm)=>([(n_5,some (.cells 4 [(vS p_3.Key),(vS p_3.Screen),(vI p_3.Zone),(vL eS p_3.Tags)])),(n_6,some (.cells 2 [(vI wv_4.From),(vI wv_4.To)])),((nu_19 0),some (bM D.str D.str r_17)),((nu_22 0),some (bM D.str D.str r_20)),(n_31,gB 2 Window.enc s_28.1)]:Hp)) p.1 p.2) (λp=>o_34 = .go p.1) ?_ ?_
   ·refine aD (aX (β:=Nat×((List Window)×Int×Int)×Nm) (λp=>(λ(k_23:Nat) (s_28:(List Window)×Int×Int) (n_31:Nm)=>([(12,(vL Slot_.enc r_13)),(13,(vL Slot_.enc r_15)),(14,(.map (nu_19 0))),(15,(.map (nu_22 0))),(16,(gV n_31 2 s_28.1)),(17,(vI s_28.2.1)),(18,(vI s_28.2.2))]:SL_)) p.1 p.2.1 p.2.2) (λp=>(λ(k_23:Nat) (s_28:(List Window)×Int×Int) (n_31:Nm)=>([(n_5,some (.cells 4 [(vS p_3.Key),(vS p_3.Screen),(vI p_3.Zone),(vL eS p_3.Tags)])),(n_6,some (.cells 2 [(vI wv_4.From),(vI wv_4.To)])),((nu_19 0),some (bM D.str D.str r_17)),((nu_22 0),some (bM D.str D.str r_20)),(n_31,gB 2 Window.enc s_28.1)]:Hp)) p.1 p.2.1 p.2.2) (λp=>cO (λs=>fZ r_13 r_15 r_17 r_20 s) p.1 p.2.1=some o_34) (λp=>p.1) (nq_83,(([]:List Window),0,0),n_29) hj_35 rfl (aK rfl) ?_)
    rintro ⟨k_23,s_28,n_31⟩ hL_33
    dsimp only at hL_33
    cases k_23 with
    | zero=>cases hL_33
    | succ k_23 =>
     obtain ⟨c_,hc_32,hL_33⟩:=bind_some hL_33
     unfold fZ at hc_32
     refine af (af ?_)
     obtain ⟨v_36,h_37,hc_32⟩:=bind_some hc_32
     refine aG (β:=Unit) (λ_=>([(12,(vL Slot_.enc r_13)),(13,(vL Slot_.enc r_15)),(14,(.map (nu_19 0))),(15,(.map (nu_22 0))),(16,(gV n_31 2 s_28.1)),(17,(vI s_28.2.1)),(18,(vI s_28.2.2)),(54,(vB v_36))]:SL_)) (λ_=>([(n_5,some (.cells 4 [(vS p_3.Key),(vS p_3.Screen),(vI p_3.Zone),(vL eS p_3.Tags)])),(n_6,some (.cells 2 [(vI wv_4.From),(vI wv_4.To)])),((nu_19 0),some (bM D.str D.str r_17)),((nu_22 0),some (bM D.str D.str r_20)),(n_31,gB 2 Window.enc s_28.1)]:Hp)) (λ_=>True) ?_ ?_
     ·refine aa (ae (vI s_28.2.1) wz rfl (ae (vL Slot_.enc r_13) wz rfl (bX un66 rfl wz (ae (vB (decide (s_28.2.1<(r_13.length:Int)))) wz rfl ?_))))
      rcases au h_37 with⟨hc_38,h_37⟩|⟨hc_38,h_37⟩
      ·refine aH rfl hc_38 wz (ae (vI s_28.2.2) wa rfl (ae (vL Slot_.enc r_15) wa rfl (bX un66 rfl wa (ae (vB (decide (s_28.2.2<(r_15.length:Int)))) wa rfl (ae (vB (decide (s_28.2.2<(r_15.length:Int)))) wz rfl (aj ?_))))))
       obtain rfl:=ah h_37
       exact cu
      ·refine aH rfl hc_38 wz (ak wa (ak wa (ak wa (ak wa (ae (vB false) wz rfl (aj ?_))))))
       obtain rfl:=ah h_37
       exact cu
     ·rintro ⟨⟩ _ sl_ H_ hp_ hq_
      refine aN _ hp_ hq_ ?_
      rcases au hc_32 with⟨hc_39,hc_32⟩|⟨hc_39,hc_32⟩
      ·refine aB rfl hc_39 (ax (aD (af (bN (ae (vL Slot_.enc r_13) wz rfl (ae (vI s_28.2.1) wz rfl ?_))))))
       obtain ⟨y_40,hy_41,hc_32⟩:=bind_some hc_32
       refine dL Dc rfl rfl hy_41 rfl wz (mF BJ rfl [.int .i64 y_40.Time.From,.int .i64 y_40.Time.To,.str y_40.Entry] rfl rfl wz (bz eP iO rfl (.d (.agg (Window.enc y_40.Time))) rfl wz (ae (vL Slot_.enc r_15) wz rfl (ae (vI s_28.2.2) wz rfl ?_))))
       obtain ⟨y_42,hy_43,hc_32⟩:=bind_some hc_32
       refine dL Dc rfl rfl hy_43 rfl wz (mF BJ rfl [.int .i64 y_42.Time.From,.int .i64 y_42.Time.To,.str y_42.Entry] rfl rfl wz (bz eP iO rfl (.d (.agg (Window.enc y_42.Time))) rfl wz ?_))
       obtain ⟨r_44,hr_45,hc_32⟩:=bind_some hc_32
       refine aF (kW hr_45) rfl Lx rfl rfl rfl rfl wz (bR 11 (.inr (by kernel_rfl)) z33 rfl wz (λn_46=>eu 12 (.inr (by kernel_rfl)) (λ_ _ ag=>⟨.inr (.inr (by kernel_rfl)),trivial⟩) 5 eP rfl rfl [(vI r_44.From),(vI r_44.To)] rfl wz (aj (af (af ?_)))))
       obtain ⟨v_47,h_48,hc_32⟩:=bind_some hc_32
       refine aG (β:=Unit) (λ_=>([(12,(vL Slot_.enc r_13)),(13,(vL Slot_.enc r_15)),(14,(.map (nu_19 0))),(15,(.map (nu_22 0))),(16,(gV n_31 2 s_28.1)),(17,(vI s_28.2.1)),(18,(vI s_28.2.2)),(19,(.ref n_46 0 0)),(93,(vB v_47))]:SL_)) (λ_=>([(n_5,some (.cells 4 [(vS p_3.Key),(vS p_3.Screen),(vI p_3.Zone),(vL eS p_3.Tags)])),(n_6,some (.cells 2 [(vI wv_4.From),(vI wv_4.To)])),((nu_19 0),some (bM D.str D.str r_17)),((nu_22 0),some (bM D.str D.str r_20)),(n_31,gB 2 Window.enc s_28.1),(n_46,some (.cells 2 [(vI r_44.From),(vI r_44.To)]))]:Hp)) (λ_=>True) ?_ ?_
       ·refine bN (ae (vL Slot_.enc r_13) wz rfl (ae (vI s_28.2.1) wz rfl ?_))
        obtain ⟨y_49,hy_50,h_48⟩:=bind_some h_48
        refine dL Dc rfl rfl hy_50 rfl wz (mF BO rfl [.str y_49.Entry] rfl rfl wz (bz sz9 ag9 rfl (vS y_49.Entry) rfl wz (ae (vL Slot_.enc r_15) wz rfl (ae (vI s_28.2.2) wz rfl ?_))))
        obtain ⟨y_51,hy_52,h_48⟩:=bind_some h_48
        refine dL Dc rfl rfl hy_52 rfl wz (mF BO rfl [.str y_51.Entry] rfl rfl wz (bz sz9 ag9 rfl (vS y_51.Entry) rfl wz (ae (vB (sNe y_49.Entry y_51.Entry)) wz rfl ?_)))
        rcases au h_48 with⟨hc_53,h_48⟩|⟨hc_53,h_48⟩
        ·refine aH rfl hc_53 wz (ak wa (ak wa (ak wa (ak wa (ak wa (ak wa (ak wa (ak wa (ak wa (ak wa (ak wa (ak wa (ak wa (ak wa (ak wa (ae (vB true) wz rfl (aj ?_)))))))))))))))))
         obtain rfl:=ah h_48
         exact cu
        ·refine aH rfl hc_53 wz (ae (.map (nu_19 0)) wa rfl (ae (vL Slot_.enc r_13) wa rfl (ae (vI s_28.2.1) wa rfl ?_)))
         obtain ⟨y_54,hy_55,h_48⟩:=bind_some h_48
         refine dL Dc rfl rfl hy_55 rfl wa (mF BO rfl [.str y_54.Entry] rfl rfl wa (bz sz9 ag9 rfl (vS y_54.Entry) rfl wa (HV (eq:=eqS) (kD:=D.str) (vD:=D.str) (es:=r_17) (k:=y_54.Entry) (z:=(⟨#[]⟩:ByteArray)) 18 2 (.inr (by kernel_rfl)) (λ_ _ ag=>trivial) (λ_ _=>rfl) mt68 (by kernel_rfl) (by kernel_rfl) rfl rfl rfl (vS ((uU eqS r_17 y_54.Entry).getD (⟨#[]⟩:ByteArray))) rfl wa (ae (.map (nu_22 0)) wa rfl (ae (vL Slot_.enc r_15) wa rfl (ae (vI s_28.2.2) wa rfl ?_))))))
         obtain ⟨y_56,hy_57,h_48⟩:=bind_some h_48
         refine dL Dc rfl rfl hy_57 rfl wa (mF BO rfl [.str y_56.Entry] rfl rfl wa (bz sz9 ag9 rfl (vS y_56.Entry) rfl wa (HV (eq:=eqS) (kD:=D.str) (vD:=D.str) (es:=r_20) (k:=y_56.Entry) (z:=(⟨#[]⟩:ByteArray)) 25 3 (.inr (by kernel_rfl)) (λ_ _ ag=>⟨.inl ⟨rfl,rfl⟩,trivial⟩) (λ_ _=>rfl) mt68 (by kernel_rfl) (by kernel_rfl) rfl rfl rfl (vS ((uU eqS r_20 y_56.Entry).getD (⟨#[]⟩:ByteArray))) rfl wa (ae (vB (sNe ((uU eqS r_17 y_54.Entry).getD (⟨#[]⟩:ByteArray)) ((uU eqS r_20 y_56.Entry).getD (⟨#[]⟩:ByteArray)))) wa rfl (ae (vB (sNe ((uU eqS r_17 y_54.Entry).getD (⟨#[]⟩:ByteArray)) ((uU eqS r_20 y_56.Entry).getD (⟨#[]⟩:ByteArray)))) wz rfl (aj ?_))))))
         obtain rfl:=ah h_48
         exact cu
       ·rintro ⟨⟩ _ sl_ H_ hp_ hq_
        refine aN _ hp_ hq_ ?_
        obtain ⟨v_58,h_59,hc_32⟩:=bind_some hc_32
        refine aG (β:=Nm) (λ(n_60:Nm)=>([(12,(vL Slot_.enc r_13)),(13,(vL Slot_.enc r_15)),(14,(.map (nu_19 0))),(15,(.map (nu_22 0))),(16,(gV n_60 2 v_58)),(17,(vI s_28.2.1)),(18,(vI s_28.2.2)),(19,(.ref n_46 0 0))]:SL_)) (λ(n_60:Nm)=>([(n_5,some (.cells 4 [(vS p_3.Key),(vS p_3.Screen),(vI p_3.Zone),(vL eS p_3.Tags)])),(n_6,some (.cells 2 [(vI wv_4.From),(vI wv_4.To)])),((nu_19 0),some (bM D.str D.str r_17)),((nu_22 0),some (bM D.str D.str r_20)),(n_60,gB 2 Window.enc v_58),(n_46,some (.cells 2 [(vI r_44.From),(vI r_44.To)]))]:Hp)) (λ_=>True) ?_ ?_
        ·rcases au h_59 with⟨hc_61,h_59⟩|⟨hc_61,h_59⟩
         ·refine aB rfl hc_61 (af (aa (ae (gV n_31 2 s_28.1) wz rfl (qF zg rfl wz (ae (vI (w64 ((s_28.1.length:Int)-1))) wz rfl (ae (vI (w64 ((s_28.1.length:Int)-1))) wz rfl (aj (af ?_))))))))
          obtain ⟨v_62,h_63,h_59⟩:=bind_some h_59
          refine aG (β:=Unit) (λ_=>([(12,(vL Slot_.enc r_13)),(13,(vL Slot_.enc r_15)),(14,(.map (nu_19 0))),(15,(.map (nu_22 0))),(16,(gV n_31 2 s_28.1)),(17,(vI s_28.2.1)),(18,(vI s_28.2.2)),(19,(.ref n_46 0 0)),(20,(vI (w64 ((s_28.1.length:Int)-1)))),(108,(vB v_62))]:SL_)) (λ_=>([(n_5,some (.cells 4 [(vS p_3.Key),(vS p_3.Screen),(vI p_3.Zone),(vL eS p_3.Tags)])),(n_6,some (.cells 2 [(vI wv_4.From),(vI wv_4.To)])),((nu_19 0),some (bM D.str D.str r_17)),((nu_22 0),some (bM D.str D.str r_20)),(n_31,gB 2 Window.enc s_28.1),(n_46,some (.cells 2 [(vI r_44.From),(vI r_44.To)]))]:Hp)) (λ_=>True) ?_ ?_
          ·refine bN (ae (vI (w64 ((s_28.1.length:Int)-1))) wz rfl (ae (vB (decide ((w64 ((s_28.1.length:Int)-1))>=0))) wz rfl ?_))
           rcases au h_63 with⟨hc_64,h_63⟩|⟨hc_64,h_63⟩
           ·refine aH rfl hc_64 wz (ae (gV n_31 2 s_28.1) wa rfl (ae (vI (w64 ((s_28.1.length:Int)-1))) wa rfl ?_))
            obtain ⟨_,hi_65,h_63⟩:=bind_some h_63
            refine oG qQ rfl rfl (jQ hi_65) (iq hi_65) wa (aJ dX rfl 1 rfl wa ?_)
            obtain ⟨e_66,hy_67,h_63⟩:=bind_some h_63
            refine lS 7 4 (.inr (by kernel_rfl)) (λ_ _ ag=>trivial) sz3 ag3 rfl rfl hy_67 (vI e_66.To) rfl wa (aJ fw rfl 0 rfl wa (ay 9 5 (.inr (by kernel_rfl)) (λ_ _ ag=>⟨.inl ⟨rfl,rfl⟩,trivial⟩) sz3 ag3 rfl rfl (vI r_44.From) rfl wa (ae (vB (e_66.To==r_44.From)) wa rfl (ae (vB (e_66.To==r_44.From)) wz rfl (aj ?_)))))
            obtain rfl:=ah h_63
            exact cu
           ·refine aH rfl hc_64 wz (ak wa (ak wa (ak wa (ak wa (ak wa (ak wa (ak wa (ak wa (ae (vB false) wz rfl (aj ?_))))))))))
            obtain rfl:=ah h_63
            exact cu
          ·rintro ⟨⟩ _ sl_ H_ hp_ hq_
           refine aN _ hp_ hq_ ?_
           rcases au h_59 with⟨hc_68,h_59⟩|⟨hc_68,h_59⟩
           ·refine aB rfl hc_68 (aa (ae (gV n_31 2 s_28.1) wz rfl (ae (vI (w64 ((s_28.1.length:Int)-1))) wz rfl (aJ dX rfl 1 rfl wz (ay 0 5 il ft sz3 ag3 rfl rfl (vI r_44.To) rfl wz ?_)))))
            obtain ⟨_,hi_69,h_59⟩:=bind_some h_59
            refine oG qQ rfl rfl (jQ hi_69) (iq hi_69) wz (aJ dX rfl 1 rfl wz ?_)
            obtain ⟨e_70,hy_71,h_59⟩:=bind_some h_59
            refine kJ 0 il ft 4 sz3 rfl rfl hy_71 (⟨e_70.From,r_44.To⟩:Window) rfl wz (bQ (v':=(gV n_31 2 (s_28.1.set (0+((w64 ((s_28.1.length:Int)-1))).toNat) (⟨e_70.From,r_44.To⟩:Window)))) 16 rfl (bI (by simp)) (bQ (v':=(gV n_31 2 (s_28.1.set (0+((w64 ((s_28.1.length:Int)-1))).toNat) (⟨e_70.From,r_44.To⟩:Window)))) 109 rfl (bI (by simp)) (aj ?_)))
            obtain rfl:=ah h_59
            exact aU n_31 trivial rfl (aK rfl)
           ·refine aA rfl hc_68 (aa (ae (gV n_31 2 s_28.1) wz rfl (ay 0 5 il ft eP iO rfl rfl (.d (.agg (Window.enc r_44))) rfl wz (dW (([r_44]:List Window).map Window.enc) qQ LY rfl rfl rfl rfl rfl wz ?_))))
            obtain ⟨a_72,hz_73,h_59⟩:=bind_some h_59
            refine mq 0 il ft (i:=4) Dn Dn eP z33 rfl (by decide) L9 (by decide) (λ_=>rfl) rfl rfl rfl hz_73 wz (λn_74=>ae (gV n_74 2 a_72) wz rfl (aj ?_))
            obtain rfl:=ah h_59
            exact aU n_74 trivial rfl (aK rfl)
         ·refine aA rfl hc_61 (ax ?_)
          obtain rfl:=ah h_59
          exact aU n_31 trivial rfl (aK rfl)
        ·rintro n_60 _ sl_ H_ hp_ hq_
         refine aN _ hp_ hq_ (af (af (bN (ae (vL Slot_.enc r_13) wz rfl (ae (vI s_28.2.1) wz rfl ?_)))))
         obtain ⟨y_75,hy_76,hc_32⟩:=bind_some hc_32
         refine dL Dc rfl rfl hy_76 rfl wz (mF BJ rfl [.int .i64 y_75.Time.From,.int .i64 y_75.Time.To,.str y_75.Entry] rfl rfl wz (mF dX rfl [.int .i64 y_75.Time.To,.str y_75.Entry] rfl rfl wz (bz sz3 ag3 rfl (vI y_75.Time.To) rfl wz (aJ dX rfl 1 rfl wz (ay 7 5 (.inr (by kernel_rfl)) (λ_ _ ag=>trivial) sz3 ag3 rfl rfl (vI r_44.To) rfl wz (ae (vB (y_75.Time.To==r_44.To)) wz rfl (aj ?_)))))))
         obtain ⟨v_77,h_78,hc_32⟩:=bind_some hc_32
         refine aG (β:=Unit) (λ_=>([(12,(vL Slot_.enc r_13)),(13,(vL Slot_.enc r_15)),(14,(.map (nu_19 0))),(15,(.map (nu_22 0))),(16,(gV n_60 2 v_58)),(17,(vI v_77)),(18,(vI s_28.2.2)),(19,(.ref n_46 0 0))]:SL_)) (λ_=>([(n_5,some (.cells 4 [(vS p_3.Key),(vS p_3.Screen),(vI p_3.Zone),(vL eS p_3.Tags)])),(n_6,some (.cells 2 [(vI wv_4.From),(vI wv_4.To)])),((nu_19 0),some (bM D.str D.str r_17)),((nu_22 0),some (bM D.str D.str r_20)),(n_60,gB 2 Window.enc v_58),(n_46,some (.cells 2 [(vI r_44.From),(vI r_44.To)]))]:Hp)) (λ_=>True) ?_ ?_
         ·rcases au h_78 with⟨hc_79,h_78⟩|⟨hc_79,h_78⟩
          ·refine aB rfl hc_79 (aa (ae (vI s_28.2.1) wz rfl (ae (vI (w64 (s_28.2.1+1))) wz rfl (ae (vI (w64 (s_28.2.1+1))) wz rfl (aj ?_)))))
           obtain rfl:=ah h_78
           exact cu
          ·refine aA rfl hc_79 (ax ?_)
           obtain rfl:=ah h_78
           exact cu
         ·rintro ⟨⟩ _ sl_ H_ hp_ hq_
          refine aN _ hp_ hq_ (af (bN (ae (vL Slot_.enc r_15) wz rfl (ae (vI s_28.2.2) wz rfl ?_))))
          obtain ⟨y_80,hy_81,hc_32⟩:=bind_some hc_32
          refine dL Dc rfl rfl hy_81 rfl wz (mF BJ rfl [.int .i64 y_80.Time.From,.int .i64 y_80.Time.To,.str y_80.Entry] rfl rfl wz (mF dX rfl [.int .i64 y_80.Time.To,.str y_80.Entry] rfl rfl wz (bz sz3 ag3 rfl (vI y_80.Time.To) rfl wz (aJ dX rfl 1 rfl wz (ay 7 5 (.inr (by kernel_rfl)) (λ_ _ ag=>trivial) sz3 ag3 rfl rfl (vI r_44.To) rfl wz (ae (vB (y_80.Time.To==r_44.To)) wz rfl (aj ?_)))))))
          rcases au hc_32 with⟨hc_82,hc_32⟩|⟨hc_82,hc_32⟩
          ·refine aB rfl hc_82 (aa (ae (vI s_28.2.2) wz rfl (ae (vI (w64 (s_28.2.2+1))) wz rfl (ae (vI (w64 (s_28.2.2+1))) wz rfl (aj ?_)))))
           obtain rfl:=ah hc_32
           exact aO (k_23,(v_58,v_77,(w64 (s_28.2.2+1))),n_60) hL_33 (ls_ _) rfl (aK rfl)
          ·refine aA rfl hc_82 (ax ?_)
           obtain rfl:=ah hc_32
           exact aO (k_23,(v_58,v_77,s_28.2.2),n_60) hL_33 (ls_ _) rfl (aK rfl)
      ·refine aA rfl hc_39 (aS ?_)
       obtain rfl:=ah hc_32
       obtain rfl:=ah hL_33
       exact aU ((s_28.1,s_28.2.1,s_28.2.2),n_31) rfl rfl (aK rfl)
   ·rintro ⟨s_28,n_31⟩ ho_ sl_ H_ hp_ hq_
    subst ho_
    refine aN _ hp_ hq_ (af (aa (ae (gV n_31 2 s_28.1) wz rfl (ae (gV n_31 2 s_28.1) wz rfl (ae (vI 0) wz rfl (aj (gX 4 rfl (dY 8 4 rfl rfl (dY 16 4 rfl rfl (dY 141 4 rfl rfl ?_))))))))))
    obtain rfl:=ah hF
    exact aC (bv (.inr rfl) [(vL Window.enc s_28.1),(vI 0)] ⟨rfl,⟨rfl,trivial⟩⟩ rfl rfl rfl)
theorem wO {a_1:(List Window)} {b_2:(List Window)} {wv_3:Window} {r:Bool} (hF:kv a_1 b_2 wv_3=some r) :
  FnM Tryz.prog 36 [(vL Window.enc a_1),(vL Window.enc b_2),(.d (.agg (Window.enc wv_3)))] [] (vB r) []:=by
 refine FnM.of_wH ⟨Tryz.prog,51,[],[]⟩ rfl Tryz.func36 rfl rfl (lb_ rfl) (by kernel_rfl) ?_
 unfold kv at hF
 refine af (aa (dZ 0 (.inl rfl) [(vI wv_3.From),(vI wv_3.To)] rfl rfl wz (λn_4=>ae (vB false) wz rfl (aj (af (af (aa (ae (vI 0) wz rfl (ae (vI 0) wz rfl (aj ?_))))))))))
 obtain ⟨o_13,hj_14,hF⟩:=bind_some hF
 obtain ⟨nq_34,hj_14⟩:=ek hj_14
 refine aG (β:=(Int×Int)) (λ(s_10:Int×Int)=>([]:SL_)) (λ(s_10:Int×Int)=>([(n_4,some (.cells 2 [(vI wv_3.From),(vI wv_3.To)]))]:Hp)) (λp=>o_13 = .go p) ?_ ?_
 ·refine aD (aX (β:=Nat×(Int×Int)) (λp=>(λ(k_5:Nat) (s_10:Int×Int)=>([(0,(vL Window.enc a_1)),(1,(vL Window.enc b_2)),(5,(.ref n_4 0 0)),(7,(vI s_10.1)),(8,(vI s_10.2))]:SL_)) p.1 p.2) (λp=>(λ(k_5:Nat) (s_10:Int×Int)=>([(n_4,some (.cells 2 [(vI wv_3.From),(vI wv_3.To)]))]:Hp)) p.1 p.2) (λp=>cO (λs=>fe a_1 b_2 wv_3 s) p.1 p.2=some o_13) (λp=>p.1) (nq_34,(0,0)) hj_14 rfl (aK rfl) ?_)
  rintro ⟨k_5,s_10⟩ hL_12
  dsimp only at hL_12
  cases k_5 with
  | zero=>cases hL_12
  | succ k_5 =>
   obtain ⟨c_,hc_11,hL_12⟩:=bind_some hL_12
   unfold fe at hc_11
   refine af (af ?_)
   obtain ⟨v_15,h_16,hc_11⟩:=bind_some hc_11
   refine aG (β:=Unit) (λ_=>([(0,(vL Window.enc a_1)),(1,(vL Window.enc b_2)),(5,(.ref n_4 0 0)),(7,(vI s_10.1)),(8,(vI s_10.2)),(19,(vB v_15))]:SL_)) (λ_=>([(n_4,some (.cells 2 [(vI wv_3.From),(vI wv_3.To)]))]:Hp)) (λ_=>True) ?_ ?_
   ·refine aa (ae (vI s_10.1) wz rfl (ae (vL Window.enc a_1) wz rfl (bX zg rfl wz (ae (vB (decide (s_10.1<(a_1.length:Int)))) wz rfl ?_))))
    rcases au h_16 with⟨hc_17,h_16⟩|⟨hc_17,h_16⟩
    ·refine aH rfl hc_17 wz (ae (vI s_10.2) wa rfl (ae (vL Window.enc b_2) wa rfl (bX zg rfl wa (ae (vB (decide (s_10.2<(b_2.length:Int)))) wa rfl (ae (vB (decide (s_10.2<(b_2.length:Int)))) wz rfl (aj ?_))))))
     obtain rfl:=ah h_16
     exact cu
    ·refine aH rfl hc_17 wz (ak wa (ak wa (ak wa (ak wa (ae (vB false) wz rfl (aj ?_))))))
     obtain rfl:=ah h_16
     exact cu
   ·rintro ⟨⟩ _ sl_ H_ hp_ hq_
    refine aN _ hp_ hq_ ?_
    rcases au hc_11 with⟨hc_18,hc_11⟩|⟨hc_18,hc_11⟩
    ·refine aB rfl hc_18 (ax (aD (af (af (bN (ae (vL Window.enc a_1) wz rfl (ae (vI s_10.1) wz rfl ?_)))))))
     obtain ⟨y_19,hy_20,hc_11⟩:=bind_some hc_11
     refine dL qQ rfl rfl hy_20 rfl wz (bz eP iO rfl (.d (.agg (Window.enc y_19))) rfl wz (ae (vL Window.enc b_2) wz rfl (ae (vI s_10.2) wz rfl ?_)))
     obtain ⟨y_21,hy_22,hc_11⟩:=bind_some hc_11
     refine dL qQ rfl rfl hy_22 rfl wz (bz eP iO rfl (.d (.agg (Window.enc y_21))) rfl wz ?_)
     obtain ⟨r_23,hr_24,hc_11⟩:=bind_some hc_11
     refine aF (kW hr_24) rfl Lx rfl rfl rfl rfl wz (ay 9 0 (.inr (by kernel_rfl)) (λ_ _ ag=>trivial) eP iO rfl rfl (.d (.agg (Window.enc wv_3))) rfl wz ?_)
     obtain ⟨r_25,hr_26,hc_11⟩:=bind_some hc_11
     refine aF (kW hr_26) rfl Lx rfl rfl rfl rfl wz (bR 11 (.inr (by kernel_rfl)) z33 rfl wz (λn_27=>eu 12 (.inr (by kernel_rfl)) (λ_ _ ag=>⟨.inr (.inr (by kernel_rfl)),⟨.inr (.inr (by kernel_rfl)),trivial⟩⟩) 1 eP rfl rfl [(vI r_25.From),(vI r_25.To)] rfl wz (aj (af (aa (aJ fw rfl 0 rfl wz (ay 0 1 il ft sz3 ag3 rfl rfl (vI r_25.From) rfl wz (aJ dX rfl 1 rfl wz (ay 0 1 il ft sz3 ag3 rfl rfl (vI r_25.To) rfl wz (ae (vB (decide (r_25.From<r_25.To))) wz rfl (aj ?_)))))))))))
     rcases au hc_11 with⟨hc_28,hc_11⟩|⟨hc_28,hc_11⟩
     ·refine aB rfl hc_28 (af (aa (ae (vB true) wz rfl (aj ?_))))
      obtain rfl:=ah hc_11
      obtain rfl:=ah hL_12
      obtain rfl:=ah hF
      exact aC (bv (.inr rfl) [(vB true)] ⟨rfl,trivial⟩ rfl rfl rfl)
     ·refine aA rfl hc_28 (ax (af (bN (ae (vL Window.enc a_1) wz rfl (ae (vI s_10.1) wz rfl ?_)))))
      obtain ⟨y_29,hy_30,hc_11⟩:=bind_some hc_11
      refine dL qQ rfl rfl hy_30 rfl wz (mF dX rfl [.int .i64 y_29.To] rfl rfl wz (bz sz3 ag3 rfl (vI y_29.To) rfl wz (ae (vL Window.enc b_2) wz rfl (ae (vI s_10.2) wz rfl ?_))))
      obtain ⟨y_31,hy_32,hc_11⟩:=bind_some hc_11
      refine dL qQ rfl rfl hy_32 rfl wz (mF dX rfl [.int .i64 y_31.To] rfl rfl wz (bz sz3 ag3 rfl (vI y_31.To) rfl wz (ae (vB (decide (y_29.To<y_31.To))) wz rfl (aj ?_))))
      rcases au hc_11 with⟨hc_33,hc_11⟩|⟨hc_33,hc_11⟩
      ·refine aB rfl hc_33 (aa (ae (vI s_10.1) wz rfl (ae (vI (w64 (s_10.1+1))) wz rfl (ae (vI (w64 (s_10.1+1))) wz rfl (aj ?_)))))
       obtain rfl:=ah hc_11
       exact aO (k_5,((w64 (s_10.1+1)),s_10.2)) hL_12 (ls_ _) rfl (aK rfl)
      ·refine aA rfl hc_33 (aa (ae (vI s_10.2) wz rfl (ae (vI (w64 (s_10.2+1))) wz rfl (ae (vI (w64 (s_10.2+1))) wz rfl (aj ?_)))))
       obtain rfl:=ah hc_11
       exact aO (k_5,(s_10.1,(w64 (s_10.2+1)))) hL_12 (ls_ _) rfl (aK rfl)
    ·refine aA rfl hc_18 (aS ?_)
     obtain rfl:=ah hc_11
     obtain rfl:=ah hL_12
     exact aU ((s_10.1,s_10.2)) rfl rfl (aK rfl)
 ·rintro s_10 ho_ sl_ H_ hp_ hq_
  subst ho_
  refine aN _ hp_ hq_ (af (aa (ae (vB false) wz rfl (aj ?_))))
  obtain rfl:=ah hF
  exact aC (bv (.inr rfl) [(vB false)] ⟨rfl,trivial⟩ rfl rfl rfl)
theorem yj {l_1:(List Entry)} {wv_2:Window} {r:(List Pair)×Int} (hF:iP l_1 wv_2=some r) :
  FnM Tryz.prog 13 [(vL Entry.enc l_1),(.d (.agg (Window.enc wv_2)))] [] (.tup [(vL Pair.enc r.1),(vI r.2)]) []:=by
 refine FnM.of_wH ⟨Tryz.prog,89,[],[]⟩ rfl Tryz.func13 rfl rfl (lb_ rfl) (by kernel_rfl) ?_
 unfold iP at hF
 refine af (aa (dZ 0 (.inl rfl) [(vI wv_2.From),(vI wv_2.To)] rfl rfl wz (λn_3=>ae .nil wz rfl (ae (vI 0) wz rfl (aj (af (af (aa (ae (vL Entry.enc l_1) wz rfl ?_)))))))))
 obtain ⟨r_4,hr_5,hF⟩:=bind_some hF
 refine aF (iM hr_5) rfl hb29 rfl rfl rfl rfl wz (ae (vI r_4) wz rfl (aj (af (aa (ae (vI r_4) wz rfl (ae (vB (r_4 != 0)) wz rfl (aj ?_)))))))
 rcases au hF with⟨hc_6,hF⟩|⟨hc_6,hF⟩
 ·refine aB rfl hc_6 (af (aa (ae (vI r_4) wz rfl (ae .nil wz rfl (ae (vI r_4) wz rfl (aj ?_))))))
  obtain rfl:=ah hF
  exact aC (bv (.inr rfl) [.nil,(vI r_4)] ⟨rfl,⟨rfl,trivial⟩⟩ rfl rfl rfl)
 ·refine aA rfl hc_6 (ax (af (af (aa (ay 0 0 il ft eP iO rfl rfl (.d (.agg (Window.enc wv_2))) rfl wz ?_)))))
  obtain ⟨r_7,hr_8,hF⟩:=bind_some hF
  refine aF (ko hr_8) rfl hb34 rfl rfl rfl rfl wz (ae (vI r_7) wz rfl (aj (af (aa (ae (vI r_7) wz rfl (ae (vB (r_7 != 0)) wz rfl (aj ?_)))))))
  rcases au hF with⟨hc_9,hF⟩|⟨hc_9,hF⟩
  ·refine aB rfl hc_9 (af (aa (ae (vI r_7) wz rfl (ae .nil wz rfl (ae (vI r_7) wz rfl (aj ?_))))))
   obtain rfl:=ah hF
   exact aC (bv (.inr rfl) [.nil,(vI r_7)] ⟨rfl,⟨rfl,trivial⟩⟩ rfl rfl rfl)
  ·refine aA rfl hc_9 (ax (af (aa (ae (vL Entry.enc l_1) wz rfl (bX qb rfl wz ?_)))))
   obtain ⟨_,hm_10,hF⟩:=bind_some hF
   refine h_mkcap (enc:=(eL Window.enc)) 0 (.inl rfl) el73 sz42 z42 by42 rfl (by decide) rfl rfl hm_10 wz (λn_11=>ae (kV true n_11 1 ([]:List (List Window))) wz rfl (aj (af (af (aa (ae (vL Entry.enc l_1) wz rfl (bX qb rfl wz (ae (vI 0) wz rfl (aj ?_)))))))))
   obtain ⟨o_22,hj_23,hF⟩:=bind_some hF
   obtain ⟨hn_16,hj_23⟩:=bn hj_23
   refine aG (β:=((List (List Window)))×Nm) (λp=>(λ(s_17:(List (List Window))) (n_19:Nm)=>([(0,(vL Entry.enc l_1)),(3,(.ref n_3 0 0)),(8,(kV true n_19 1 s_17))]:SL_)) p.1 p.2) (λp=>(λ(s_17:(List (List Window))) (n_19:Nm)=>([(n_3,some (.cells 2 [(vI wv_2.From),(vI wv_2.To)])),(n_19,kB true 1 (eL Window.enc) s_17)]:Hp)) p.1 p.2) (λp=>o_22 = .go p.1) ?_ ?_
   ·refine aD (aX (β:=Nat×(List Entry)×((List (List Window)))×Nm) (λp=>(λ(k_12:Nat) (l_13:List Entry) (s_17:(List (List Window))) (n_19:Nm)=>([(0,(vL Entry.enc l_1)),(3,(.ref n_3 0 0)),(8,(kV true n_19 1 s_17)),(28,(vL Entry.enc l_1)),(29,(vI (l_1.length:Int))),(30,(vI (k_12:Int)))]:SL_)) p.1 p.2.1 p.2.2.1 p.2.2.2) (λp=>(λ(k_12:Nat) (l_13:List Entry) (s_17:(List (List Window))) (n_19:Nm)=>([(n_3,some (.cells 2 [(vI wv_2.From),(vI wv_2.To)])),(n_19,kB true 1 (eL Window.enc) s_17)]:Hp)) p.1 p.2.1 p.2.2.1 p.2.2.2) (λp=>dG (λk x s=>je wv_2 k x s) p.2.1 p.1 p.2.2.1=some o_22/\(l_1).drop p.1=p.2.1) (λp=>p.2.1.length) (0,l_1,([]:List (List Window)),n_11) ⟨hj_23,rfl⟩ rfl (aK rfl) ?_)
    rintro ⟨k_12,l_13,s_17,n_19⟩ ⟨hL_21,hD_15⟩
    dsimp only at hL_21 hD_15
    cases l_13 with
    | nil =>
     obtain rfl:=ah hL_21
     refine af (aa (ae (vB (decide ((k_12:Int)<(l_1.length:Int)))) wz rfl (aj ?_)))
     refine af (aA rfl (drop_nil hD_15) (aS ?_))
     exact aU (s_17,n_19) rfl rfl (aK rfl)
    | cons x_14 l_13 =>
     obtain ⟨c_,hc_20,hL_21⟩:=bind_some hL_21
     refine af (aa (ae (vB (decide ((k_12:Int)<(l_1.length:Int)))) wz rfl (aj ?_)))
     refine af (aB rfl (bE hD_15) (ax ?_))
     unfold je at hc_20
     refine af (aD (af (aa (dL mE rfl rfl (bL hD_15) rfl wz (bz gK jR rfl (.d (.agg (Entry.enc x_14))) rfl wz (bR 0 (.inl rfl) z38 rfl wz (λn_24=>eu 0 il ft 2 gK rfl rfl [(vS x_14.Key),(vS x_14.Item),(vI x_14.Version),(vI x_14.First),(vI x_14.Last),(vI x_14.Every),(vI x_14.Days),(vL eI x_14.Except),(vI x_14.From),(vI x_14.To),(vI x_14.Prio),(vL eS x_14.Tags),(vB x_14.Gone)] rfl wz (aj (aa (ae (kV true n_19 1 s_17) wz rfl (ay 0 2 il ft gK jR rfl rfl (.d (.agg (Entry.enc x_14))) rfl wz (ay 0 0 il ft eP iO rfl rfl (.d (.agg (Window.enc wv_2))) rfl wz ?_))))))))))))
     obtain ⟨r_25,hr_26,hc_20⟩:=bind_some hc_20
     refine aF (nS hr_26) rfl hb35 rfl rfl rfl rfl wz (dW (([r_25]:List (List Window)).map (eL Window.enc)) es73 ez73 rfl rfl rfl rfl rfl wz ?_)
     obtain ⟨a_27,hz_28,hc_20⟩:=bind_some hc_20
     refine Jq 0 il ft (i:=1) el73 el73 sz42 z42 rfl (by decide) by42 (by decide) (λ_=>rfl) rfl rfl rfl hz_28 wz (λn_29=>ae (kV true n_29 1 a_27) wz rfl (aj (aa (gm (bH hD_15 hn_16) wz rfl (ae (vI ((k_12+1:Nat):Int)) wz rfl (aj ?_))))))
     obtain rfl:=ah hc_20
     exact aO (k_12+1,l_13,a_27,n_29) ⟨hL_21,aP hD_15⟩ (ls_ _) rfl (aK rfl)
   ·rintro ⟨s_17,n_19⟩ ho_ sl_ H_ hp_ hq_
    subst ho_
    refine aN _ hp_ hq_ (af (aa (ae .nil wz rfl (aj (af (af (Mj 1 rfl (wH_cok 8 1 rfl rfl (aa (ae (vL Entry.enc l_1) wz rfl (bX qb rfl wz (ae (vI 0) wz rfl (aj (lq (λn_36 => ?_)))))))))))))))
    obtain ⟨o_41,hj_42,hF⟩:=bind_some hF
    obtain ⟨hn_34,hj_42⟩:=bn hj_42
    refine aG (β:=((List Pair))×Nm) (λp=>(λ(s_35:List Pair) (n_38:Nm)=>([(11,(gV n_38 2 s_35))]:SL_)) p.1 p.2) (λp=>(λ(s_35:List Pair) (n_38:Nm)=>([(n_3,some (.cells 2 [(vI wv_2.From),(vI wv_2.To)])),(n_19,kF true 1 (eL Window.enc) s_17),(n_38,gB 2 Pair.enc s_35)]:Hp)) p.1 p.2) (λp=>o_41 = .go p.1) ?_ ?_
    ·refine aD (aX (β:=Nat×(List Entry)×((List Pair))×Nm) (λp=>(λ(k_30:Nat) (l_31:List Entry) (s_35:List Pair) (n_38:Nm)=>([(0,(vL Entry.enc l_1)),(3,(.ref n_3 0 0)),(8,(vL (eL Window.enc) s_17)),(11,(gV n_38 2 s_35)),(41,(vL Entry.enc l_1)),(42,(vI (l_1.length:Int))),(43,(vI (k_30:Int)))]:SL_)) p.1 p.2.1 p.2.2.1 p.2.2.2) (λp=>(λ(k_30:Nat) (l_31:List Entry) (s_35:List Pair) (n_38:Nm)=>([(n_3,some (.cells 2 [(vI wv_2.From),(vI wv_2.To)])),(n_19,kF true 1 (eL Window.enc) s_17),(n_38,gB 2 Pair.enc s_35)]:Hp)) p.1 p.2.1 p.2.2.1 p.2.2.2) (λp=>dG (λk x s=>jc l_1 s_17 wv_2 k x s) p.2.1 p.1 p.2.2.1=some o_41/\(l_1).drop p.1=p.2.1) (λp=>p.2.1.length) (0,l_1,([]:List Pair),n_36) ⟨hj_42,rfl⟩ rfl (aK rfl) ?_)
     rintro ⟨k_30,l_31,s_35,n_38⟩ ⟨hL_40,hD_33⟩
     dsimp only at hL_40 hD_33
     cases l_31 with
     | nil =>
      obtain rfl:=ah hL_40
      refine af (aa (ae (vB (decide ((k_30:Int)<(l_1.length:Int)))) wz rfl (aj ?_)))
      refine af (aA rfl (drop_nil hD_33) (aS ?_))
      exact aU (s_35,n_38) rfl rfl (aK rfl)
     | cons x_32 l_31 =>
      obtain ⟨c_,hc_39,hL_40⟩:=bind_some hL_40
      refine af (aa (ae (vB (decide ((k_30:Int)<(l_1.length:Int)))) wz rfl (aj ?_)))
      refine af (aB rfl (bE hD_33) (ax ?_))
      unfold jc at hc_39
      refine af (aD (af (aa (ae (vI (k_30:Int)) wz rfl (dL mE rfl rfl (bL hD_33) rfl wz (bz gK jR rfl (.d (.agg (Entry.enc x_32))) rfl wz (bR 0 (.inl rfl) z38 rfl wz (λn_43=>ae (vI (k_30:Int)) wz rfl (eu 0 il ft 3 gK rfl rfl [(vS x_32.Key),(vS x_32.Item),(vI x_32.Version),(vI x_32.First),(vI x_32.Last),(vI x_32.Every),(vI x_32.Days),(vL eI x_32.Except),(vI x_32.From),(vI x_32.To),(vI x_32.Prio),(vL eS x_32.Tags),(vB x_32.Gone)] rfl wz (aj (af (aa (ae (vI (k_30:Int)) wz rfl (ae (vI (w64 ((k_30:Int)+1))) wz rfl (ae (vI (w64 ((k_30:Int)+1))) wz rfl (aj ?_))))))))))))))))
      obtain ⟨o_54,hj_55,hc_39⟩:=bind_some hc_39
      obtain ⟨nq_77,hj_55⟩:=ek hj_55
      refine aG (β:=((List Pair)×Int)×Nm) (λp=>(λ(s_49:(List Pair)×Int) (n_51:Nm)=>([(0,(vL Entry.enc l_1)),(3,(.ref n_3 0 0)),(8,(vL (eL Window.enc) s_17)),(11,(gV n_51 2 s_49.1)),(41,(vL Entry.enc l_1)),(42,(vI (l_1.length:Int))),(43,(vI (k_30:Int)))]:SL_)) p.1 p.2) (λp=>(λ(s_49:(List Pair)×Int) (n_51:Nm)=>([(n_3,some (.cells 2 [(vI wv_2.From),(vI wv_2.To)])),(n_19,kF true 1 (eL Window.enc) s_17),(n_51,gB 2 Pair.enc s_49.1),(n_43,some (.cells 13 [(vS x_32.Key),(vS x_32.Item),(vI x_32.Version),(vI x_32.First),(vI x_32.Last),(vI x_32.Every),(vI x_32.Days),(vL eI x_32.Except),(vI x_32.From),(vI x_32.To),(vI x_32.Prio),(vL eS x_32.Tags),(vB x_32.Gone)]))]:Hp)) p.1 p.2) (λp=>o_54 = .go p.1) ?_ ?_
      ·refine aD (aX (β:=Nat×((List Pair)×Int)×Nm) (λp=>(λ(k_44:Nat) (s_49:(List Pair)×Int) (n_51:Nm)=>([(0,(vL Entry.enc l_1)),(3,(.ref n_3 0 0)),(8,(vL (eL Window.enc) s_17)),(11,(gV n_51 2 s_49.1)),(12,(vI (k_30:Int))),(13,(.ref n_43 0 0)),(14,(vI s_49.2)),(41,(vL Entry.enc l_1)),(42,(vI (l_1.length:Int))),(43,(vI (k_30:Int)))]:SL_)) p.1 p.2.1 p.2.2) (λp=>(λ(k_44:Nat) (s_49:(List Pair)×Int) (n_51:Nm)=>([(n_3,some (.cells 2 [(vI wv_2.From),(vI wv_2.To)])),(n_19,kF true 1 (eL Window.enc) s_17),(n_51,gB 2 Pair.enc s_49.1),(n_43,some (.cells 13 [(vS x_32.Key),(vS x_32.Item),(vI x_32.Version),(vI x_32.First),(vI x_32.Last),(vI x_32.Every),(vI x_32.Days),(vL eI x_32.Except),(vI x_32.From),(vI x_32.To),(vI x_32.Prio),(vL eS x_32.Tags),(vB x_32.Gone)]))]:Hp)) p.1 p.2.1 p.2.2) (λp=>cO (λs=>jh l_1 x_32 s_17 k_30 wv_2 s) p.1 p.2.1=some o_54) (λp=>p.1) (nq_77,(s_35,(w64 ((k_30:Int)+1))),n_38) hj_55 rfl (aK rfl) ?_)
       rintro ⟨k_44,s_49,n_51⟩ hL_53
       dsimp only at hL_53
       cases k_44 with
       | zero=>cases hL_53
       | succ k_44 =>
        obtain ⟨c_,hc_52,hL_53⟩:=bind_some hL_53
        unfold jh at hc_52
        refine af (af (aa (ae (vI s_49.2) wz rfl (ae (vL Entry.enc l_1) wz rfl (bX qb rfl wz (ae (vB (decide (s_49.2<(l_1.length:Int)))) wz rfl (aj ?_)))))))
        rcases au hc_52 with⟨hc_56,hc_52⟩|⟨hc_56,hc_52⟩
        ·refine aB rfl hc_56 (ax (af (aD (af ?_))))
         obtain ⟨v_57,h_58,hc_52⟩:=bind_some hc_52
         refine aG (β:=Unit) (λ_=>([(0,(vL Entry.enc l_1)),(3,(.ref n_3 0 0)),(8,(vL (eL Window.enc) s_17)),(11,(gV n_51 2 s_49.1)),(12,(vI (k_30:Int))),(13,(.ref n_43 0 0)),(14,(vI s_49.2)),(41,(vL Entry.enc l_1)),(42,(vI (l_1.length:Int))),(43,(vI (k_30:Int))),(75,(vB v_57))]:SL_)) (λ_=>([(n_3,some (.cells 2 [(vI wv_2.From),(vI wv_2.To)])),(n_19,kF true 1 (eL Window.enc) s_17),(n_51,gB 2 Pair.enc s_49.1),(n_43,some (.cells 13 [(vS x_32.Key),(vS x_32.Item),(vI x_32.Version),(vI x_32.First),(vI x_32.Last),(vI x_32.Every),(vI x_32.Days),(vL eI x_32.Except),(vI x_32.From),(vI x_32.To),(vI x_32.Prio),(vL eS x_32.Tags),(vB x_32.Gone)]))]:Hp)) (λ_=>True) ?_ ?_
         ·refine bN (aJ mQ rfl 10 rfl wz (ay 1 3 (.inr (by kernel_rfl)) (λ_ _ ag=>trivial) sz3 ag3 rfl rfl (vI x_32.Prio) rfl wz (ae (vL Entry.enc l_1) wz rfl (ae (vI s_49.2) wz rfl ?_))))
          obtain ⟨y_59,hy_60,h_58⟩:=bind_some h_58
          refine dL mE rfl rfl hy_60 rfl wz (mF mQ rfl [.int .i64 y_59.Prio,dl eS y_59.Tags,.bool y_59.Gone] rfl rfl wz (bz sz3 ag3 rfl (vI y_59.Prio) rfl wz (ae (vB (x_32.Prio==y_59.Prio)) wz rfl ?_)))
          rcases au h_58 with⟨hc_61,h_58⟩|⟨hc_61,h_58⟩
          ·refine aH rfl hc_61 wz (ae (vL (eL Window.enc) s_17) wa rfl (ae (vI (k_30:Int)) wa rfl ?_))
           obtain ⟨y_62,hy_63,h_58⟩:=bind_some h_58
           refine dL es73 rfl rfl hy_63 rfl wa (bz sz42 ag42 rfl (vL Window.enc y_62) rfl wa (ae (vL (eL Window.enc) s_17) wa rfl (ae (vI s_49.2) wa rfl ?_)))
           obtain ⟨y_64,hy_65,h_58⟩:=bind_some h_58
           refine dL es73 rfl rfl hy_65 rfl wa (bz sz42 ag42 rfl (vL Window.enc y_64) rfl wa (ay 17 0 (.inr (by kernel_rfl)) (λ_ _ ag=>⟨.inl ⟨rfl,rfl⟩,trivial⟩) eP iO rfl rfl (.d (.agg (Window.enc wv_2))) rfl wa ?_))
           obtain ⟨r_66,hr_67,h_58⟩:=bind_some h_58
           refine aF (wO hr_67) rfl hb36 rfl rfl rfl rfl wa (ae (vB r_66) wz rfl (aj ?_))
           obtain rfl:=ah h_58
           exact cu
          ·refine aH rfl hc_61 wz (ak wa (ak wa (ak wa (ak wa (ak wa (ak wa (ak wa (ak wa (ak wa (ak wa (ae (vB false) wz rfl (aj ?_))))))))))))
           obtain rfl:=ah h_58
           exact cu
         ·rintro ⟨⟩ _ sl_ H_ hp_ hq_
          refine aN _ hp_ hq_ ?_
          obtain ⟨v_68,h_69,hc_52⟩:=bind_some hc_52
          refine aG (β:=Nm) (λ(n_70:Nm)=>([(0,(vL Entry.enc l_1)),(3,(.ref n_3 0 0)),(8,(vL (eL Window.enc) s_17)),(11,(gV n_70 2 v_68)),(12,(vI (k_30:Int))),(13,(.ref n_43 0 0)),(14,(vI s_49.2)),(41,(vL Entry.enc l_1)),(42,(vI (l_1.length:Int))),(43,(vI (k_30:Int)))]:SL_)) (λ(n_70:Nm)=>([(n_3,some (.cells 2 [(vI wv_2.From),(vI wv_2.To)])),(n_19,kF true 1 (eL Window.enc) s_17),(n_70,gB 2 Pair.enc v_68),(n_43,some (.cells 13 [(vS x_32.Key),(vS x_32.Item),(vI x_32.Version),(vI x_32.First),(vI x_32.Last),(vI x_32.Every),(vI x_32.Days),(vL eI x_32.Except),(vI x_32.From),(vI x_32.To),(vI x_32.Prio),(vL eS x_32.Tags),(vB x_32.Gone)]))]:Hp)) (λ_=>True) ?_ ?_
          ·rcases au h_69 with⟨hc_71,h_69⟩|⟨hc_71,h_69⟩
           ·refine aB rfl hc_71 (bN (ae (gV n_51 2 s_49.1) wz rfl (aJ j5 rfl 0 rfl wz (ay 2 3 (.inr (by kernel_rfl)) (λ_ _ ag=>trivial) sz9 ag9 rfl rfl (vS x_32.Key) rfl wz (ae (vL Entry.enc l_1) wz rfl (ae (vI s_49.2) wz rfl ?_))))))
            obtain ⟨y_72,hy_73,h_69⟩:=bind_some h_69
            refine dL mE rfl rfl hy_73 rfl wz (mF j5 rfl (Entry.enc y_72) rfl rfl wz (bz sz9 ag9 rfl (vS y_72.Key) rfl wz (ae (.d (.agg (Pair.enc (⟨x_32.Key,y_72.Key⟩:Pair)))) wz (by kernel_rfl) (dW (([(⟨x_32.Key,y_72.Key⟩:Pair)]:List Pair).map Pair.enc) es46 ez46 rfl rfl rfl rfl rfl wz ?_))))
            obtain ⟨a_74,hz_75,h_69⟩:=bind_some h_69
            refine mq 10 (.inr (by kernel_rfl)) (λ_ _ ag=>⟨.inr (.inr (by kernel_rfl)),trivial⟩) (i:=2) el46 el46 sz58 z58 rfl (by decide) by58 (by decide) (λ_=>rfl) rfl rfl rfl hz_75 wz (λn_76=>ae (gV n_76 2 a_74) wz rfl (aj ?_))
            obtain rfl:=ah h_69
            exact aU n_76 trivial rfl (aK rfl)
           ·refine aA rfl hc_71 (ax ?_)
            obtain rfl:=ah h_69
            exact aU n_51 trivial rfl (aK rfl)
          ·rintro n_70 _ sl_ H_ hp_ hq_
           refine aN _ hp_ hq_ (aa (ae (vI s_49.2) wz rfl (ae (vI (w64 (s_49.2+1))) wz rfl (ae (vI (w64 (s_49.2+1))) wz rfl (aj ?_)))))
           obtain rfl:=ah hc_52
           exact aO (k_44,(v_68,(w64 (s_49.2+1))),n_70) hL_53 (ls_ _) rfl (aK rfl)
        ·refine aA rfl hc_56 (aS ?_)
         obtain rfl:=ah hc_52
         obtain rfl:=ah hL_53
         exact aU ((s_49.1,s_49.2),n_51) rfl rfl (aK rfl)
      ·rintro ⟨s_49,n_51⟩ ho_ sl_ H_ hp_ hq_
       subst ho_
       refine aN _ hp_ hq_ (aa (gm (bH hD_33 hn_34) wz rfl (ae (vI ((k_30+1:Nat):Int)) wz rfl (aj ?_))))
       obtain rfl:=ah hc_39
       exact aO (k_30+1,l_31,s_49.1,n_51) ⟨hL_40,aP hD_33⟩ (ls_ _) rfl (aK rfl)
    ·rintro ⟨s_35,n_38⟩ ho_ sl_ H_ hp_ hq_
     subst ho_
     refine aN _ hp_ hq_ (af (aa (ae (gV n_38 2 s_35) wz rfl (ae (gV n_38 2 s_35) wz rfl (ae (vI 0) wz rfl (aj (gX 2 rfl (dY 4 2 rfl rfl (dY 11 2 rfl rfl (dY 88 2 rfl rfl ?_))))))))))
     obtain rfl:=ah hF
     exact aC (bv (.inr rfl) [(vL Pair.enc s_35),(vI 0)] ⟨rfl,⟨rfl,trivial⟩⟩ rfl rfl rfl)
theorem jH {n_1:Int} {low_2:Int} {high_3:Int} {r:Bool} (hF:kL n_1 low_2 high_3=some r) :
  FnM Tryz.prog 39 [(vI n_1),(vI low_2),(vI high_3)] [] (vB r) []:=by
 refine FnM.of_wH ⟨Tryz.prog,15,[],[]⟩ rfl Tryz.func39 rfl rfl (lb_ rfl) (by kernel_rfl) ?_
 unfold kL at hF
 refine af (aa (ae (vB false) wz rfl (aj (af ?_))))
 obtain ⟨v_4,h_5,hF⟩:=bind_some hF
 refine aG (β:=Unit) (λ_=>([(6,(vB v_4))]:SL_)) (λ_=>([]:Hp)) (λ_=>True) ?_ ?_
 ·refine aa (ae (vI low_2) wz rfl (ae (vI n_1) wz rfl (ae (vB (decide (low_2<=n_1))) wz rfl ?_)))
  rcases au h_5 with⟨hc_6,h_5⟩|⟨hc_6,h_5⟩
  ·refine aH rfl hc_6 wz (ae (vI n_1) wa rfl (ae (vI high_3) wa rfl (ae (vB (decide (n_1<=high_3))) wa rfl (ae (vB (decide (n_1<=high_3))) wz rfl (ae (vB (decide (n_1<=high_3))) wz rfl (aj ?_))))))
   obtain rfl:=ah h_5
   exact cu
  ·refine aH rfl hc_6 wz (ak wa (ak wa (ak wa (ae (vB false) wz rfl (ae (vB false) wz rfl (aj ?_))))))
   obtain rfl:=ah h_5
   exact cu
 ·rintro ⟨⟩ _ sl_ H_ hp_ hq_
  refine aN _ hp_ hq_ ?_
  obtain rfl:=ah hF
  exact aC (bv (.inr rfl) [(vB v_4)] ⟨rfl,trivial⟩ rfl rfl rfl)
theorem nE {s_1:ByteArray} {c_2:Int} {r:Int} (hF:fK s_1 c_2=some r) :
  FnM Tryz.prog 112 [(vS s_1),(.d (.int .u8 c_2))] [] (vI r) []:=by
 refine FnM.of_wH ⟨Tryz.prog,8,[],[]⟩ rfl Tryz.func112 rfl rfl (lb_ rfl) (by kernel_rfl) ?_
 unfold fK at hF
 refine af (aa (ae (vI 0) wz rfl (aj (af (aa (ae (vS s_1) wz rfl (ae (.d (.int .u8 c_2)) wz rfl (h_ext (ext_ixB (f:=130) Tryz.func130 rfl rfl (by kernel_rfl) (by kernel_rfl) _ _) rfl nb130 rfl wz (ae (vI (ixB s_1 c_2)) wz rfl (aj ?_))))))))))
 obtain rfl:=ah hF
 exact aC (bv (.inr rfl) [(vI (ixB s_1 c_2))] ⟨rfl,trivial⟩ rfl rfl rfl)
theorem vW {s_1:ByteArray} {c_2:Int} {r:Int} (hF:strings_IndexByte s_1 c_2=some r) :
  FnM Tryz.prog 81 [(vS s_1),(.d (.int .u8 c_2))] [] (vI r) []:=by
 refine FnM.of_wH ⟨Tryz.prog,8,[],[]⟩ rfl Tryz.func81 rfl rfl (lb_ rfl) (by kernel_rfl) ?_
 unfold strings_IndexByte at hF
 refine af (aa (ae (vI 0) wz rfl (aj (af (aa (ae (vS s_1) wz rfl (ae (.d (.int .u8 c_2)) wz rfl ?_)))))))
 obtain ⟨r_3,hr_4,hF⟩:=bind_some hF
 refine aF (nE hr_4) rfl hb112 rfl rfl rfl rfl wz (ae (vI r_3) wz rfl (aj ?_))
 obtain rfl:=ah hF
 exact aC (bv (.inr rfl) [(vI r_3)] ⟨rfl,trivial⟩ rfl rfl rfl)
theorem Al {s_1:ByteArray} {somev_2:ByteArray} {r:Bool} (hF:tV s_1 somev_2=some r) :
  FnM Tryz.prog 63 [(vS s_1),(vS somev_2)] [] (vB r) []:=by
 refine FnM.of_wH ⟨Tryz.prog,18,[],[]⟩ rfl Tryz.func63 rfl rfl (lb_ rfl) (by kernel_rfl) ?_
 unfold tV at hF
 refine af (aa (ae (vB false) wz rfl (aj (af (af (aa (ae (vS s_1) wz rfl (FU un9 rfl wz (ae (vI 0) wz rfl (aj ?_))))))))))
 obtain ⟨o_11,hj_12,hF⟩:=bind_some hF
 obtain ⟨hn_7,hj_12⟩:=bn hj_12
 refine aG (β:=(Unit)) (λ(s_8:Unit)=>([]:SL_)) (λ(s_8:Unit)=>([]:Hp)) (λp=>o_11 = .go p) ?_ ?_
 ·refine aD (aX (β:=Nat×(List Nat)×(Unit)) (λp=>(λ(k_3:Nat) (l_4:List Nat) (s_8:Unit)=>([(0,(vS s_1)),(1,(vS somev_2)),(7,(vI (s_1.size:Int))),(8,(vI (k_3:Int)))]:SL_)) p.1 p.2.1 p.2.2) (λp=>(λ(k_3:Nat) (l_4:List Nat) (s_8:Unit)=>([]:Hp)) p.1 p.2.1 p.2.2) (λp=>dG (λk x s=>nk s_1 somev_2 k x s) p.2.1 p.1 p.2.2=some o_11/\((List.range ((s_1.size:Int)).toNat)).drop p.1=p.2.1) (λp=>p.2.1.length) (0,(List.range ((s_1.size:Int)).toNat),()) ⟨hj_12,rfl⟩ rfl (aK rfl) ?_)
  rintro ⟨k_3,l_4,s_8⟩ ⟨hL_10,hD_6⟩
  dsimp only at hL_10 hD_6
  cases l_4 with
  | nil =>
   obtain rfl:=ah hL_10
   refine af (aa (ae (vB (decide ((k_3:Int)<(s_1.size:Int)))) wz rfl (aj ?_)))
   refine af (aA rfl (zD hD_6) (aS ?_))
   exact aU (s_8) rfl rfl (aK rfl)
  | cons x_5 l_4 =>
   obtain ⟨c_,hc_9,hL_10⟩:=bind_some hL_10
   refine af (aa (ae (vB (decide ((k_3:Int)<(s_1.size:Int)))) wz rfl (aj ?_)))
   refine af (aB rfl (xy hD_6) (ax ?_))
   unfold nk at hc_9
   refine af (aD (af (aa (ae (vI (k_3:Int)) wz rfl (ae (vI (k_3:Int)) wz rfl (aj (af (aa (ae (vS somev_2) wz rfl (ae (vS s_1) wz rfl (ae (vI (k_3:Int)) wz rfl ?_)))))))))))
   obtain ⟨b_13,hy_14,hc_9⟩:=bind_some hc_9
   refine I5 un9 rfl rfl hy_14 wz ?_
   obtain ⟨r_15,hr_16,hc_9⟩:=bind_some hc_9
   refine aF (vW hr_16) rfl hb81 rfl rfl rfl rfl wz (ae (vB (decide (r_15<0))) wz rfl (aj ?_))
   rcases au hc_9 with⟨hc_17,hc_9⟩|⟨hc_17,hc_9⟩
   ·refine aB rfl hc_17 (af (aa (ae (vB false) wz rfl (aj ?_))))
    obtain rfl:=ah hc_9
    obtain rfl:=ah hL_10
    obtain rfl:=ah hF
    exact aC (bv (.inr rfl) [(vB false)] ⟨rfl,trivial⟩ rfl rfl rfl)
   ·refine aA rfl hc_17 (ax (aa (gm (zC hD_6 hn_7) wz rfl (ae (vI ((k_3+1:Nat):Int)) wz rfl (aj ?_)))))
    obtain rfl:=ah hc_9
    exact aO (k_3+1,l_4,()) ⟨hL_10,aP hD_6⟩ (ls_ _) rfl (aK rfl)
 ·rintro s_8 ho_ sl_ H_ hp_ hq_
  subst ho_
  refine aN _ hp_ hq_ (af (aa (ae (vB true) wz rfl (aj ?_))))
  obtain rfl:=ah hF
  exact aC (bv (.inr rfl) [(vB true)] ⟨rfl,trivial⟩ rfl rfl rfl)
theorem qN {s_1:ByteArray} {r:Bool} (hF:pX s_1=some r) :
  FnM Tryz.prog 38 [(vS s_1)] [] (vB r) []:=by
 refine FnM.of_wH ⟨Tryz.prog,15,[],[]⟩ rfl Tryz.func38 rfl rfl (lb_ rfl) (by kernel_rfl) ?_
 unfold pX at hF
 refine af (aa (ae (vB false) wz rfl (aj (af ?_))))
 obtain ⟨v_2,h_3,hF⟩:=bind_some hF
 refine aG (β:=Unit) (λ_=>([(2,(vB v_2))]:SL_)) (λ_=>([]:Hp)) (λ_=>True) ?_ ?_
 ·refine aa (ae (vS s_1) wz rfl (FU un9 rfl wz ?_))
  obtain ⟨r_4,hr_5,h_3⟩:=bind_some h_3
  refine aF (jH hr_5) rfl AY rfl rfl rfl rfl wz ?_
  rcases au h_3 with⟨hc_6,h_3⟩|⟨hc_6,h_3⟩
  ·refine aH rfl hc_6 wz (ae (vS s_1) wa rfl ?_)
   obtain ⟨y_7,hy_8,h_3⟩:=bind_some h_3
   refine BR un9 rfl rfl hy_8 wa ?_
   obtain ⟨r_9,hr_10,h_3⟩:=bind_some h_3
   refine aF (Al hr_10) rfl hb63 rfl rfl rfl rfl wa (ae (vB r_9) wz rfl ?_)
   rcases au h_3 with⟨hc_11,h_3⟩|⟨hc_11,h_3⟩
   ·refine aH rfl hc_11 wz (ae (vS s_1) wa rfl ?_)
    obtain ⟨r_12,hr_13,h_3⟩:=bind_some h_3
    refine aF (Al hr_13) rfl hb63 rfl rfl rfl rfl wa (ae (vB r_12) wz rfl (ae (vB r_12) wz rfl (aj ?_)))
    obtain rfl:=ah h_3
    exact cu
   ·refine aH rfl hc_11 wz (ak wa (ak wa (ae (vB false) wz rfl (ae (vB false) wz rfl (aj ?_)))))
    obtain rfl:=ah h_3
    exact cu
  ·refine aH rfl hc_6 wz (ak wa (ak wa (ak wa (ae (vB false) wz rfl (ae (vB false) wz rfl (ak wa (ak wa (ae (vB false) wz rfl (ae (vB false) wz rfl (aj ?_))))))))))
   obtain rfl:=ah h_3
   exact cu
 ·rintro ⟨⟩ _ sl_ H_ hp_ hq_
  refine aN _ hp_ hq_ ?_
  obtain rfl:=ah hF
  exact aC (bv (.inr rfl) [(vB v_2)] ⟨rfl,trivial⟩ rfl rfl rfl)
theorem xW {l_1:(List ByteArray)} {r:Int} (hF:mV l_1=some r) :
  FnM Tryz.prog 64 [(vL eS l_1)] [] (vI r) []:=by
 refine FnM.of_wH ⟨Tryz.prog,27,[],[]⟩ rfl Tryz.func64 rfl rfl (lb_ rfl) (by kernel_rfl) ?_
 unfold mV at hF
 refine af (aa (ae (vI 0) wz rfl (aj (af (af (aa (ae (vL eS l_1) wz rfl (bX Br rfl wz (ae (vI 0) wz rfl (aj ?_))))))))))
 obtain ⟨o_10,hj_11,hF⟩:=bind_some hF
 obtain ⟨hn_6,hj_11⟩:=bn hj_11
 refine aG (β:=(Unit)) (λ(s_7:Unit)=>([]:SL_)) (λ(s_7:Unit)=>([]:Hp)) (λp=>o_10 = .go p) ?_ ?_
 ·refine aD (aX (β:=Nat×(List ByteArray)×(Unit)) (λp=>(λ(k_2:Nat) (l_3:List ByteArray) (s_7:Unit)=>([(0,(vL eS l_1)),(5,(vL eS l_1)),(6,(vI (l_1.length:Int))),(7,(vI (k_2:Int)))]:SL_)) p.1 p.2.1 p.2.2) (λp=>(λ(k_2:Nat) (l_3:List ByteArray) (s_7:Unit)=>([]:Hp)) p.1 p.2.1 p.2.2) (λp=>dG (λk x s=>kN l_1 k x s) p.2.1 p.1 p.2.2=some o_10/\(l_1).drop p.1=p.2.1) (λp=>p.2.1.length) (0,l_1,()) ⟨hj_11,rfl⟩ rfl (aK rfl) ?_)
  rintro ⟨k_2,l_3,s_7⟩ ⟨hL_9,hD_5⟩
  dsimp only at hL_9 hD_5
  cases l_3 with
  | nil =>
   obtain rfl:=ah hL_9
   refine af (aa (ae (vB (decide ((k_2:Int)<(l_1.length:Int)))) wz rfl (aj ?_)))
   refine af (aA rfl (drop_nil hD_5) (aS ?_))
   exact aU (s_7) rfl rfl (aK rfl)
  | cons x_4 l_3 =>
   obtain ⟨c_,hc_8,hL_9⟩:=bind_some hL_9
   refine af (aa (ae (vB (decide ((k_2:Int)<(l_1.length:Int)))) wz rfl (aj ?_)))
   refine af (aB rfl (bE hD_5) (ax ?_))
   unfold kN at hc_8
   refine af (aD (af (aa (ae (vI (k_2:Int)) wz rfl (dL nZ rfl rfl (bL hD_5) rfl wz (bz sz9 ag9 rfl (vS x_4) rfl wz (ae (vI (k_2:Int)) wz rfl (ae (vS x_4) wz rfl (aj (af (af (aa (ae (vS x_4) wz rfl ?_)))))))))))))
   obtain ⟨r_12,hr_13,hc_8⟩:=bind_some hc_8
   refine aF (qN hr_13) rfl LQ rfl rfl rfl rfl wz (ae (vB (!r_12)) wz rfl (aj ?_))
   rcases au hc_8 with⟨hc_14,hc_8⟩|⟨hc_14,hc_8⟩
   ·refine aB rfl hc_14 (af (aa (ae (vI 5) wz rfl (aj ?_))))
    obtain rfl:=ah hc_8
    obtain rfl:=ah hL_9
    obtain rfl:=ah hF
    exact aC (bv (.inr rfl) [(vI 5)] ⟨rfl,trivial⟩ rfl rfl rfl)
   ·refine aA rfl hc_14 (ax (af ?_))
    obtain ⟨v_15,h_16,hc_8⟩:=bind_some hc_8
    refine aG (β:=Unit) (λ_=>([(0,(vL eS l_1)),(5,(vL eS l_1)),(6,(vI (l_1.length:Int))),(7,(vI (k_2:Int))),(25,(vB v_15))]:SL_)) (λ_=>([]:Hp)) (λ_=>True) ?_ ?_
    ·refine aa (ae (vI (k_2:Int)) wz rfl (ae (vB (decide ((k_2:Int)>0))) wz rfl ?_))
     rcases au h_16 with⟨hc_17,h_16⟩|⟨hc_17,h_16⟩
     ·refine aH rfl hc_17 wz (ae (vS x_4) wa rfl (ae (vL eS l_1) wa rfl (ae (vI (k_2:Int)) wa rfl (ae (vI (w64 ((k_2:Int)-1))) wa rfl ?_))))
      obtain ⟨y_18,hy_19,h_16⟩:=bind_some h_16
      refine dL nZ rfl rfl hy_19 rfl wa (bz sz9 ag9 rfl (vS y_18) rfl wa (ae (vB (sLe x_4 y_18)) wa rfl (ae (vB (sLe x_4 y_18)) wz rfl (aj ?_))))
      obtain rfl:=ah h_16
      exact cu
     ·refine aH rfl hc_17 wz (ak wa (ak wa (ak wa (ak wa (ak wa (ak wa (ak wa (ae (vB false) wz rfl (aj ?_)))))))))
      obtain rfl:=ah h_16
      exact cu
    ·rintro ⟨⟩ _ sl_ H_ hp_ hq_
     refine aN _ hp_ hq_ ?_
     rcases au hc_8 with⟨hc_20,hc_8⟩|⟨hc_20,hc_8⟩
     ·refine aB rfl hc_20 (af (aa (ae (vI 7) wz rfl (aj ?_))))
      obtain rfl:=ah hc_8
      obtain rfl:=ah hL_9
      obtain rfl:=ah hF
      exact aC (bv (.inr rfl) [(vI 7)] ⟨rfl,trivial⟩ rfl rfl rfl)
     ·refine aA rfl hc_20 (ax (aa (gm (bH hD_5 hn_6) wz rfl (ae (vI ((k_2+1:Nat):Int)) wz rfl (aj ?_)))))
      obtain rfl:=ah hc_8
      exact aO (k_2+1,l_3,()) ⟨hL_9,aP hD_5⟩ (ls_ _) rfl (aK rfl)
 ·rintro s_7 ho_ sl_ H_ hp_ hq_
  subst ho_
  refine aN _ hp_ hq_ (af (aa (ae (vI 0) wz rfl (aj ?_))))
  obtain rfl:=ah hF
  exact aC (bv (.inr rfl) [(vI 0)] ⟨rfl,trivial⟩ rfl rfl rfl)
theorem sO {l_1:(List ByteArray)} {r:Int} (hF:lc l_1=some r) :
  FnM Tryz.prog 40 [(vL eS l_1)] [] (vI r) []:=by
 refine FnM.of_wH ⟨Tryz.prog,8,[],[]⟩ rfl Tryz.func40 rfl rfl (lb_ rfl) (by kernel_rfl) ?_
 unfold lc at hF
 refine af (aa (ae (vI 0) wz rfl (aj (af (af (aa (ae (vL eS l_1) wz rfl (bX Br rfl wz (ae (vB (decide ((l_1.length:Int)>20))) wz rfl (aj ?_))))))))))
 rcases au hF with⟨hc_2,hF⟩|⟨hc_2,hF⟩
 ·refine aB rfl hc_2 (af (aa (ae (vI 2) wz rfl (aj ?_))))
  obtain rfl:=ah hF
  exact aC (bv (.inr rfl) [(vI 2)] ⟨rfl,trivial⟩ rfl rfl rfl)
 ·refine aA rfl hc_2 (ax (af (aa (ae (vL eS l_1) wz rfl ?_))))
  obtain ⟨r_3,hr_4,hF⟩:=bind_some hF
  refine aF (xW hr_4) rfl hb64 rfl rfl rfl rfl wz (ae (vI r_3) wz rfl (aj ?_))
  obtain rfl:=ah hF
  exact aC (bv (.inr rfl) [(vI r_3)] ⟨rfl,trivial⟩ rfl rfl rfl)
end Go.Proofs.YtnjnggakgeommaaGreat.Law

