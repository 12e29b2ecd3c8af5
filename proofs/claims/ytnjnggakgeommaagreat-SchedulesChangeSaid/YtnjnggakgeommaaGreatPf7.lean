/-
 The machine computes these plain functions (written by a program of ours).
-/
import Derived.Test.YtnjnggakgeommaaGreatFacts
import Derived.Test.YtnjnggakgeommaaGreatDefs
import Derived.Test.YtnjnggakgeommaaGreatPf6
open Go Go.Eng Go.Proofs
namespace Go.Proofs.YtnjnggakgeommaaGreat.Law
set_option maxRecDepth 100000
set_option linter.unusedVariables false
set_option maxHeartbeats 1000000
theorem xB {e_1:Entry} {zone_2:Int} {wv_3:Window} {r:(List Window)} (hF:fG e_1 zone_2 wv_3=some r) :
  FnM Tryz.prog 35 [(.d (.agg (Entry.enc e_1))),(vI zone_2),(.d (.agg (Window.enc wv_3)))] [] (gV (av 0) 2 r) (([]:List Box).map some++gO 2 Window.enc r):=by
 refine FnM.of_wH ⟨Tryz.prog,72,[],[]⟩ rfl Tryz.func35 rfl rfl (lb_ rfl) (by kernel_rfl) ?_
 unfold fG at hF
 refine af (aa (dZ 0 (.inl rfl) [(vS e_1.Key),(vS e_1.Item),(vI e_1.Version),(vI e_1.First),(vI e_1.Last),(vI e_1.Every),(vI e_1.Days),(vL eI e_1.Except),(vI e_1.From),(vI e_1.To),(vI e_1.Prio),(vL eS e_1.Tags),(vB e_1.Gone)] rfl rfl wz (λn_4=>dZ 0 (.inl rfl) [(vI wv_3.From),(vI wv_3.To)] rfl rfl wz (λn_5=>ae .nil wz rfl (aj (af (aa (ae .nil wz rfl (aj (af (af ?_)))))))))))
 obtain ⟨v_6,h_7,hF⟩:=bind_some hF
 refine aG (β:=Unit) (λ_=>([(1,(vI zone_2)),(3,(.ref n_4 0 0)),(5,(.ref n_5 0 0)),(7,.nil),(20,(vB v_6))]:SL_)) (λ_=>([(n_4,some (.cells 13 [(vS e_1.Key),(vS e_1.Item),(vI e_1.Version),(vI e_1.First),(vI e_1.Last),(vI e_1.Every),(vI e_1.Days),(vL eI e_1.Except),(vI e_1.From),(vI e_1.To),(vI e_1.Prio),(vL eS e_1.Tags),(vB e_1.Gone)])),(n_5,some (.cells 2 [(vI wv_3.From),(vI wv_3.To)]))]:Hp)) (λ_=>True) ?_ ?_
 ·refine aa (aJ Bh rfl 12 rfl wz (ay 0 0 il ft sz4 ag4 rfl rfl (vB e_1.Gone) rfl wz ?_))
  rcases au h_7 with⟨hc_8,h_7⟩|⟨hc_8,h_7⟩
  ·refine aH rfl hc_8 wz (ak wa (ak wa (ak wa (ak wa (ak wa (ae (vB true) wz rfl (aj ?_)))))))
   obtain rfl:=ah h_7
   exact cu
  ·refine aH rfl hc_8 wz (aJ fw rfl 0 rfl wa (ay 0 1 il ft sz3 ag3 rfl rfl (vI wv_3.From) rfl wa (aJ dX rfl 1 rfl wa (ay 0 1 il ft sz3 ag3 rfl rfl (vI wv_3.To) rfl wa (ae (vB (decide (wv_3.From>=wv_3.To))) wa rfl (ae (vB (decide (wv_3.From>=wv_3.To))) wz rfl (aj ?_)))))))
   obtain rfl:=ah h_7
   exact cu
 ·rintro ⟨⟩ _ sl_ H_ hp_ hq_
  refine aN _ hp_ hq_ ?_
  rcases au hF with⟨hc_9,hF⟩|⟨hc_9,hF⟩
  ·refine aB rfl hc_9 (af (aa (ae .nil wz rfl (aj (lq (λn_10 => ?_))))))
   obtain rfl:=ah hF
   exact aC (EL (outs:=([]:List Box)) (.inr rfl) 2 rfl rfl rfl (by kernel_rfl) (by kernel_rfl))
  ·refine aA rfl hc_9 (ax (af (aa (aJ fw rfl 0 rfl wz (ay 0 1 il ft sz3 ag3 rfl rfl (vI wv_3.From) rfl wz (ae (vI zone_2) wz rfl (ae (vI (w64 (zone_2*60000))) wz rfl (ae (vI (w64 (wv_3.From+(w64 (zone_2*60000))))) wz rfl (ae (vI (w64 ((w64 (wv_3.From+(w64 (zone_2*60000)))).tdiv 86400000))) wz rfl (ae (vI (w64 ((w64 ((w64 (wv_3.From+(w64 (zone_2*60000)))).tdiv 86400000))-2))) wz rfl (ae (vI (w64 ((w64 ((w64 (wv_3.From+(w64 (zone_2*60000)))).tdiv 86400000))-2))) wz rfl (aj (af (aa (aJ dX rfl 1 rfl wz (ay 0 1 il ft sz3 ag3 rfl rfl (vI wv_3.To) rfl wz (ae (vI zone_2) wz rfl (ae (vI (w64 (zone_2*60000))) wz rfl (ae (vI (w64 (wv_3.To+(w64 (zone_2*60000))))) wz rfl (ae (vI (w64 ((w64 (wv_3.To+(w64 (zone_2*60000)))).tdiv 86400000))) wz rfl (ae (vI (w64 ((w64 ((w64 (wv_3.To+(w64 (zone_2*60000)))).tdiv 86400000))+1))) wz rfl (ae (vI (w64 ((w64 ((w64 (wv_3.To+(w64 (zone_2*60000)))).tdiv 86400000))+1))) wz rfl (aj ?_)))))))))))))))))))))))
   refine af (af (aa (ae (vI (w64 ((w64 ((w64 (wv_3.From+(w64 (zone_2*60000)))).tdiv 86400000))-2))) wz rfl (aJ rf rfl 3 rfl wz (ay 0 0 il ft sz3 ag3 rfl rfl (vI e_1.First) rfl wz (mJ (vI (jw (w64 ((w64 ((w64 (wv_3.From+(w64 (zone_2*60000)))).tdiv 86400000))-2)) e_1.First)) rfl (.inr rfl) wz (ae (vI (jw (w64 ((w64 ((w64 (wv_3.From+(w64 (zone_2*60000)))).tdiv 86400000))-2)) e_1.First)) wz rfl (aj (lq (λn_17 => ?_))))))))))
   obtain ⟨o_22,hj_23,hF⟩:=bind_some hF
   obtain ⟨nq_41,hj_23⟩:=ek hj_23
   refine aG (β:=((List Window)×Int)×Nm) (λp=>(λ(s_16:(List Window)×Int) (n_19:Nm)=>([(7,(gV n_19 2 s_16.1))]:SL_)) p.1 p.2) (λp=>(λ(s_16:(List Window)×Int) (n_19:Nm)=>([(n_4,some (.cells 13 [(vS e_1.Key),(vS e_1.Item),(vI e_1.Version),(vI e_1.First),(vI e_1.Last),(vI e_1.Every),(vI e_1.Days),(vL eI e_1.Except),(vI e_1.From),(vI e_1.To),(vI e_1.Prio),(vL eS e_1.Tags),(vB e_1.Gone)])),(n_5,some (.cells 2 [(vI wv_3.From),(vI wv_3.To)])),(n_19,gB 2 Window.enc s_16.1)]:Hp)) p.1 p.2) (λp=>o_22 = .go p.1) ?_ ?_
   ·refine aD (aX (β:=Nat×((List Window)×Int)×Nm) (λp=>(λ(k_11:Nat) (s_16:(List Window)×Int) (n_19:Nm)=>([(1,(vI zone_2)),(3,(.ref n_4 0 0)),(5,(.ref n_5 0 0)),(7,(gV n_19 2 s_16.1)),(9,(vI (w64 ((w64 ((w64 (wv_3.To+(w64 (zone_2*60000)))).tdiv 86400000))+1)))),(10,(vI s_16.2))]:SL_)) p.1 p.2.1 p.2.2) (λp=>(λ(k_11:Nat) (s_16:(List Window)×Int) (n_19:Nm)=>([(n_4,some (.cells 13 [(vS e_1.Key),(vS e_1.Item),(vI e_1.Version),(vI e_1.First),(vI e_1.Last),(vI e_1.Every),(vI e_1.Days),(vL eI e_1.Except),(vI e_1.From),(vI e_1.To),(vI e_1.Prio),(vL eS e_1.Tags),(vB e_1.Gone)])),(n_5,some (.cells 2 [(vI wv_3.From),(vI wv_3.To)])),(n_19,gB 2 Window.enc s_16.1)]:Hp)) p.1 p.2.1 p.2.2) (λp=>cO (λs=>dN wv_3 zone_2 e_1 s) p.1 p.2.1=some o_22) (λp=>p.1) (nq_41,(([]:List Window),(jw (w64 ((w64 ((w64 (wv_3.From+(w64 (zone_2*60000)))).tdiv 86400000))-2)) e_1.First)),n_17) hj_23 rfl (aK rfl) ?_)
    rintro ⟨k_11,s_16,n_19⟩ hL_21
    dsimp only at hL_21
    cases k_11 with
    | zero=>cases hL_21
    | succ k_11 =>
     obtain ⟨c_,hc_20,hL_21⟩:=bind_some hL_21
     unfold dN at hc_20
     refine af (af (aa (ae (vI s_16.2) wz rfl (ae (vI (w64 ((w64 ((w64 (wv_3.To+(w64 (zone_2*60000)))).tdiv 86400000))+1))) wz rfl (aJ qV rfl 4 rfl wz (ay 0 0 il ft sz3 ag3 rfl rfl (vI e_1.Last) rfl wz (mJ (vI (jB (w64 ((w64 ((w64 (wv_3.To+(w64 (zone_2*60000)))).tdiv 86400000))+1)) e_1.Last)) rfl (.inl rfl) wz (ae (vB (decide (s_16.2<=(jB (w64 ((w64 ((w64 (wv_3.To+(w64 (zone_2*60000)))).tdiv 86400000))+1)) e_1.Last)))) wz rfl (aj ?_)))))))))
     rcases au hc_20 with⟨hc_24,hc_20⟩|⟨hc_24,hc_20⟩
     ·refine aB rfl hc_24 (ax (af (aD (af (af (aa (ay 0 0 il ft gK jR rfl rfl (.d (.agg (Entry.enc e_1))) rfl wz (ae (vI s_16.2) wz rfl ?_))))))))
      obtain ⟨r_25,hr_26,hc_20⟩:=bind_some hc_20
      refine aF (rD hr_26) rfl hb61 rfl rfl rfl rfl wz (ae (vB (!r_25)) wz rfl (aj ?_))
      rcases au hc_20 with⟨hc_27,hc_20⟩|⟨hc_27,hc_20⟩
      ·refine aB rfl hc_27 (aS (aa (ae (vI s_16.2) wz rfl (ae (vI (w64 (s_16.2+1))) wz rfl (ae (vI (w64 (s_16.2+1))) wz rfl (aj ?_))))))
       obtain rfl:=ah hc_20
       exact aO (k_11,(s_16.1,(w64 (s_16.2+1))),n_19) hL_21 (ls_ _) rfl (aK rfl)
      ·refine aA rfl hc_27 (ax (af (aa (ay 0 0 il ft gK jR rfl rfl (.d (.agg (Entry.enc e_1))) rfl wz (ae (vI zone_2) wz rfl (ae (vI s_16.2) wz rfl ?_))))))
       obtain ⟨r_28,hr_29,hc_20⟩:=bind_some hc_20
       refine aF (qp hr_29) rfl hb62 rfl rfl rfl rfl wz (bR 0 (.inl rfl) z33 rfl wz (λn_30=>eu 0 il ft 3 eP rfl rfl [(vI r_28.From),(vI r_28.To)] rfl wz (aj (af ?_))))
       obtain ⟨v_31,h_32,hc_20⟩:=bind_some hc_20
       refine aG (β:=Unit) (λ_=>([(1,(vI zone_2)),(3,(.ref n_4 0 0)),(5,(.ref n_5 0 0)),(7,(gV n_19 2 s_16.1)),(9,(vI (w64 ((w64 ((w64 (wv_3.To+(w64 (zone_2*60000)))).tdiv 86400000))+1)))),(10,(vI s_16.2)),(11,(.ref n_30 0 0)),(66,(vB v_31))]:SL_)) (λ_=>([(n_4,some (.cells 13 [(vS e_1.Key),(vS e_1.Item),(vI e_1.Version),(vI e_1.First),(vI e_1.Last),(vI e_1.Every),(vI e_1.Days),(vL eI e_1.Except),(vI e_1.From),(vI e_1.To),(vI e_1.Prio),(vL eS e_1.Tags),(vB e_1.Gone)])),(n_5,some (.cells 2 [(vI wv_3.From),(vI wv_3.To)])),(n_19,gB 2 Window.enc s_16.1),(n_30,some (.cells 2 [(vI r_28.From),(vI r_28.To)]))]:Hp)) (λ_=>True) ?_ ?_
       ·refine aa (aJ fw rfl 0 rfl wz (ay 0 3 il ft sz3 ag3 rfl rfl (vI r_28.From) rfl wz (aJ dX rfl 1 rfl wz (ay 0 1 il ft sz3 ag3 rfl rfl (vI wv_3.To) rfl wz (ae (vB (decide (r_28.From<wv_3.To))) wz rfl ?_)))))
        rcases au h_32 with⟨hc_33,h_32⟩|⟨hc_33,h_32⟩
        ·refine aH rfl hc_33 wz (aJ dX rfl 1 rfl wa (ay 0 3 il ft sz3 ag3 rfl rfl (vI r_28.To) rfl wa (aJ fw rfl 0 rfl wa (ay 0 1 il ft sz3 ag3 rfl rfl (vI wv_3.From) rfl wa (ae (vB (decide (r_28.To>wv_3.From))) wa rfl (ae (vB (decide (r_28.To>wv_3.From))) wz rfl (aj ?_)))))))
         obtain rfl:=ah h_32
         exact cu
        ·refine aH rfl hc_33 wz (ak wa (ak wa (ak wa (ak wa (ak wa (ae (vB false) wz rfl (aj ?_)))))))
         obtain rfl:=ah h_32
         exact cu
       ·rintro ⟨⟩ _ sl_ H_ hp_ hq_
        refine aN _ hp_ hq_ ?_
        obtain ⟨v_34,h_35,hc_20⟩:=bind_some hc_20
        refine aG (β:=Nm) (λ(n_36:Nm)=>([(1,(vI zone_2)),(3,(.ref n_4 0 0)),(5,(.ref n_5 0 0)),(7,(gV n_36 2 v_34)),(9,(vI (w64 ((w64 ((w64 (wv_3.To+(w64 (zone_2*60000)))).tdiv 86400000))+1)))),(10,(vI s_16.2))]:SL_)) (λ(n_36:Nm)=>([(n_4,some (.cells 13 [(vS e_1.Key),(vS e_1.Item),(vI e_1.Version),(vI e_1.First),(vI e_1.Last),(vI e_1.Every),(vI e_1.Days),(vL eI e_1.Except),(vI e_1.From),(vI e_1.To),(vI e_1.Prio),(vL eS e_1.Tags),(vB e_1.Gone)])),(n_5,some (.cells 2 [(vI wv_3.From),(vI wv_3.To)])),(n_36,gB 2 Window.enc v_34),(n_30,some (.cells 2 [(vI r_28.From),(vI r_28.To)]))]:Hp)) (λ_=>True) ?_ ?_
        ·rcases au h_35 with⟨hc_37,h_35⟩|⟨hc_37,h_35⟩
         ·refine aB rfl hc_37 (aa (ae (gV n_19 2 s_16.1) wz rfl (ay 0 3 il ft eP iO rfl rfl (.d (.agg (Window.enc r_28))) rfl wz (dW (([r_28]:List Window).map Window.enc) qQ LY rfl rfl rfl rfl rfl wz ?_))))
          obtain ⟨a_38,hz_39,h_35⟩:=bind_some h_35
          refine mq 0 il ft (i:=2) Dn Dn eP z33 rfl (by decide) L9 (by decide) (λ_=>rfl) rfl rfl rfl hz_39 wz (λn_40=>ae (gV n_40 2 a_38) wz rfl (aj ?_))
          obtain rfl:=ah h_35
          exact aU n_40 trivial rfl (aK rfl)
         ·refine aA rfl hc_37 (ax ?_)
          obtain rfl:=ah h_35
          exact aU n_19 trivial rfl (aK rfl)
        ·rintro n_36 _ sl_ H_ hp_ hq_
         refine aN _ hp_ hq_ (aa (ae (vI s_16.2) wz rfl (ae (vI (w64 (s_16.2+1))) wz rfl (ae (vI (w64 (s_16.2+1))) wz rfl (aj ?_)))))
         obtain rfl:=ah hc_20
         exact aO (k_11,(v_34,(w64 (s_16.2+1))),n_36) hL_21 (ls_ _) rfl (aK rfl)
     ·refine aA rfl hc_24 (aS ?_)
      obtain rfl:=ah hc_20
      obtain rfl:=ah hL_21
      exact aU ((s_16.1,s_16.2),n_19) rfl rfl (aK rfl)
   ·rintro ⟨s_16,n_19⟩ ho_ sl_ H_ hp_ hq_
    subst ho_
    refine aN _ hp_ hq_ (af (aa (ae (gV n_19 2 s_16.1) wz rfl (ae (gV n_19 2 s_16.1) wz rfl (aj ?_)))))
    obtain rfl:=ah hF
    exact aC (EL (outs:=([]:List Box)) (.inr rfl) 2 rfl rfl rfl (by kernel_rfl) (by kernel_rfl))
theorem yV {e_1:Entry} {zone_2:Int} {wv_3:Window} {r:(List Window)×Int} (hF:lJ e_1 zone_2 wv_3=some r) :
  FnM Tryz.prog 48 [(.d (.agg (Entry.enc e_1))),(vI zone_2),(.d (.agg (Window.enc wv_3)))] [] (.tup [(vL Window.enc r.1),(vI r.2)]) []:=by
 refine FnM.of_wH ⟨Tryz.prog,45,[],[]⟩ rfl Tryz.func48 rfl rfl (lb_ rfl) (by kernel_rfl) ?_
 unfold lJ at hF
 refine af (aa (dZ 0 (.inl rfl) [(vS e_1.Key),(vS e_1.Item),(vI e_1.Version),(vI e_1.First),(vI e_1.Last),(vI e_1.Every),(vI e_1.Days),(vL eI e_1.Except),(vI e_1.From),(vI e_1.To),(vI e_1.Prio),(vL eS e_1.Tags),(vB e_1.Gone)] rfl rfl wz (λn_4=>dZ 0 (.inl rfl) [(vI wv_3.From),(vI wv_3.To)] rfl rfl wz (λn_5=>ae .nil wz rfl (ae (vI 0) wz rfl (aj (af (af (aa (ay 0 0 il ft gK jR rfl rfl (.d (.agg (Entry.enc e_1))) rfl wz (dW (([e_1]:List Entry).map Entry.enc) mE ez26 rfl rfl rfl rfl rfl wz ?_)))))))))))
 obtain ⟨r_6,hr_7,hF⟩:=bind_some hF
 refine aF (iM hr_7) rfl hb29 rfl rfl rfl rfl wz (ae (vI r_6) wz rfl (aj (af (aa (ae (vI r_6) wz rfl (ae (vB (r_6 != 0)) wz rfl (aj ?_)))))))
 rcases au hF with⟨hc_8,hF⟩|⟨hc_8,hF⟩
 ·refine aB rfl hc_8 (af (aa (ae (vI r_6) wz rfl (ae .nil wz rfl (ae (vI r_6) wz rfl (aj ?_))))))
  obtain rfl:=ah hF
  exact aC (bv (.inr rfl) [.nil,(vI r_6)] ⟨rfl,⟨rfl,trivial⟩⟩ rfl rfl rfl)
 ·refine aA rfl hc_8 (ax (af (af (aa (ae (vI zone_2) wz rfl ?_)))))
  obtain ⟨r_9,hr_10,hF⟩:=bind_some hF
  refine aF (fI hr_10) rfl Cw rfl rfl rfl rfl wz (aj ?_)
  rcases au hF with⟨hc_11,hF⟩|⟨hc_11,hF⟩
  ·refine aB rfl hc_11 (af (aa (ae .nil wz rfl (ae (vI 1) wz rfl (aj ?_)))))
   obtain rfl:=ah hF
   exact aC (bv (.inr rfl) [.nil,(vI 1)] ⟨rfl,⟨rfl,trivial⟩⟩ rfl rfl rfl)
  ·refine aA rfl hc_11 (ax (af (af (aa (ay 0 1 il ft eP iO rfl rfl (.d (.agg (Window.enc wv_3))) rfl wz ?_)))))
   obtain ⟨r_12,hr_13,hF⟩:=bind_some hF
   refine aF (ko hr_13) rfl hb34 rfl rfl rfl rfl wz (ae (vI r_12) wz rfl (aj (af (aa (ae (vI r_12) wz rfl (ae (vB (r_12 != 0)) wz rfl (aj ?_)))))))
   rcases au hF with⟨hc_14,hF⟩|⟨hc_14,hF⟩
   ·refine aB rfl hc_14 (af (aa (ae (vI r_12) wz rfl (ae .nil wz rfl (ae (vI r_12) wz rfl (aj ?_))))))
    obtain rfl:=ah hF
    exact aC (bv (.inr rfl) [.nil,(vI r_12)] ⟨rfl,⟨rfl,trivial⟩⟩ rfl rfl rfl)
   ·refine aA rfl hc_14 (ax (af (aa (ay 0 0 il ft gK jR rfl rfl (.d (.agg (Entry.enc e_1))) rfl wz (ae (vI zone_2) wz rfl (ay 0 1 il ft eP iO rfl rfl (.d (.agg (Window.enc wv_3))) rfl wz ?_))))))
    obtain ⟨r_15,hr_16,hF⟩:=bind_some hF
    refine yS [] (xB hr_16) rfl hb35 rfl (by kernel_rfl) (by kernel_rfl) (by kernel_rfl) (by kernel_rfl) (by kernel_rfl) rfl (by decide) (by kernel_rfl) wz ([(n_4,some (.cells 13 [(vS e_1.Key),(vS e_1.Item),(vI e_1.Version),(vI e_1.First),(vI e_1.Last),(vI e_1.Every),(vI e_1.Days),(vL eI e_1.Except),(vI e_1.From),(vI e_1.To),(vI e_1.Prio),(vL eS e_1.Tags),(vB e_1.Gone)])),(n_5,some (.cells 2 [(vI wv_3.From),(vI wv_3.To)]))]:Hp) (λ_=>by kernel_rfl) (λn_18=>ae (gV n_18 2 r_15) wz rfl (aj (af (af (aa (ae (gV n_18 2 r_15) wz rfl (qF zg rfl wz (ae (vI 0) wz rfl (aj ?_)))))))))
    obtain ⟨o_27,hj_28,hF⟩:=bind_some hF
    obtain ⟨hn_23,hj_28⟩:=bn hj_28
    refine aG (β:=((List Window))) (λ(s_24:List Window)=>([(10,(gV n_18 2 s_24))]:SL_)) (λ(s_24:List Window)=>([(n_4,some (.cells 13 [(vS e_1.Key),(vS e_1.Item),(vI e_1.Version),(vI e_1.First),(vI e_1.Last),(vI e_1.Every),(vI e_1.Days),(vL eI e_1.Except),(vI e_1.From),(vI e_1.To),(vI e_1.Prio),(vL eS e_1.Tags),(vB e_1.Gone)])),(n_5,some (.cells 2 [(vI wv_3.From),(vI wv_3.To)])),(n_18,gB 2 Window.enc s_24)]:Hp)) (λp=>o_27 = .go p) ?_ ?_
    ·refine aD (aX (β:=Nat×(List Nat)×((List Window))) (λp=>(λ(k_19:Nat) (l_20:List Nat) (s_24:List Window)=>([(5,(.ref n_5 0 0)),(10,(gV n_18 2 s_24)),(30,(gV n_18 2 s_24)),(31,(vI (r_15.length:Int))),(32,(vI (k_19:Int)))]:SL_)) p.1 p.2.1 p.2.2) (λp=>(λ(k_19:Nat) (l_20:List Nat) (s_24:List Window)=>([(n_4,some (.cells 13 [(vS e_1.Key),(vS e_1.Item),(vI e_1.Version),(vI e_1.First),(vI e_1.Last),(vI e_1.Every),(vI e_1.Days),(vL eI e_1.Except),(vI e_1.From),(vI e_1.To),(vI e_1.Prio),(vL eS e_1.Tags),(vB e_1.Gone)])),(n_5,some (.cells 2 [(vI wv_3.From),(vI wv_3.To)])),(n_18,gB 2 Window.enc s_24)]:Hp)) p.1 p.2.1 p.2.2) (λp=>dG (λk x s=>jb wv_3 k x s) p.2.1 p.1 p.2.2=some o_27/\((List.range ((r_15.length:Int)).toNat)).drop p.1=p.2.1) (λp=>p.2.1.length) (0,(List.range ((r_15.length:Int)).toNat),r_15) ⟨hj_28,rfl⟩ rfl (aK rfl) ?_)
     rintro ⟨k_19,l_20,s_24⟩ ⟨hL_26,hD_22⟩
     dsimp only at hL_26 hD_22
     cases l_20 with
     | nil =>
      obtain rfl:=ah hL_26
      refine af (aa (ae (vB (decide ((k_19:Int)<(r_15.length:Int)))) wz rfl (aj ?_)))
      refine af (aA rfl (zD hD_22) (aS ?_))
      exact aU (s_24) rfl rfl (aK rfl)
     | cons x_21 l_20 =>
      obtain ⟨c_,hc_25,hL_26⟩:=bind_some hL_26
      refine af (aa (ae (vB (decide ((k_19:Int)<(r_15.length:Int)))) wz rfl (aj ?_)))
      refine af (aB rfl (xy hD_22) (ax ?_))
      unfold jb at hc_25
      refine af (aD (af (aa (ae (vI (k_19:Int)) wz rfl ?_))))
      obtain ⟨_,hi_29,hc_25⟩:=bind_some hc_25
      refine oG qQ rfl rfl (jQ hi_29) (iq hi_29) wz ?_
      obtain ⟨e_30,hy_31,hc_25⟩:=bind_some hc_25
      refine lS 0 2 il ft eP iO rfl rfl hy_31 (.d (.agg (Window.enc e_30))) rfl wz (bR 0 (.inl rfl) z33 rfl wz (λn_32=>ae (vI (k_19:Int)) wz rfl (eu 0 il ft 3 eP rfl rfl [(vI e_30.From),(vI e_30.To)] rfl wz (aj (aa (ae (gV n_18 2 s_24) wz rfl (ae (vI (k_19:Int)) wz rfl (ay 0 3 il ft eP iO rfl rfl (.d (.agg (Window.enc e_30))) rfl wz (ay 0 1 il ft eP iO rfl rfl (.d (.agg (Window.enc wv_3))) rfl wz ?_)))))))))
      obtain ⟨r_33,hr_34,hc_25⟩:=bind_some hc_25
      refine aF (kW hr_34) rfl Lx rfl rfl rfl rfl wz ?_
      obtain ⟨_,hi_35,hc_25⟩:=bind_some hc_25
      refine oG qQ rfl rfl (jQ hi_35) (iq hi_35) wz ?_
      obtain ⟨e_36,hy_37,hc_25⟩:=bind_some hc_25
      refine kJ 0 il ft 2 eP rfl rfl hy_37 r_33 rfl wz (bQ (v':=(gV n_18 2 (s_24.set (0+((k_19:Int)).toNat) r_33))) 10 rfl (bI (by simp)) (bQ (v':=(gV n_18 2 (s_24.set (0+((k_19:Int)).toNat) r_33))) 30 rfl (bI (by simp)) (bQ (v':=(gV n_18 2 (s_24.set (0+((k_19:Int)).toNat) r_33))) 37 rfl (bI (by simp)) (aj (aa (gm (zC hD_22 hn_23) wz rfl (ae (vI ((k_19+1:Nat):Int)) wz rfl (aj ?_))))))))
      obtain rfl:=ah hc_25
      exact aO (k_19+1,l_20,(s_24.set (0+((k_19:Int)).toNat) r_33)) ⟨hL_26,aP hD_22⟩ (ls_ _) rfl (aK rfl)
    ·rintro s_24 ho_ sl_ H_ hp_ hq_
     subst ho_
     refine aN _ hp_ hq_ (af (aa (ae (gV n_18 2 s_24) wz rfl (ae (gV n_18 2 s_24) wz rfl (ae (vI 0) wz rfl (aj (gX 2 rfl (dY 6 2 rfl rfl (dY 10 2 rfl rfl (dY 44 2 rfl rfl ?_))))))))))
     obtain rfl:=ah hF
     exact aC (bv (.inr rfl) [(vL Window.enc s_24),(vI 0)] ⟨rfl,⟨rfl,trivial⟩⟩ rfl rfl rfl)
theorem E8 {r:Bool} (hF:tL  = some r) :
  FnM Tryz.prog 22 [] [] (vB r) []:=by
 refine FnM.of_wH ⟨Tryz.prog,23,[],[]⟩ rfl Tryz.func22 rfl rfl (lb_ rfl) (by kernel_rfl) ?_
 unfold tL at hF
 refine af (aa (ae (vB false) wz rfl (aj (af (aa (ae (.agg [(vS (⟨#[97]⟩:ByteArray)),(vS (⟨#[98]⟩:ByteArray)),(vI 0),(vI 0),(vI 0),(vI 1),(vI 127),.nil,(vI 1),(vI 2),(vI 0),.nil,(vB false)]) wz (by kernel_rfl) (ae (.d (.agg (Window.enc (⟨0,86400000⟩:Window)))) wz (by kernel_rfl) ?_)))))))
 obtain ⟨r_1,hr_2,hF⟩:=bind_some hF
 refine aF (yV hr_2) rfl hb48 rfl rfl rfl rfl wz (ae (.tup [(vL Window.enc r_1.1),(vI r_1.2)]) wz rfl (ae (vL Window.enc r_1.1) wz rfl (ae (vI r_1.2) wz rfl (ae (vL Window.enc r_1.1) wz rfl (ae (vI r_1.2) wz rfl (aj (af ?_)))))))
 obtain ⟨v_3,h_4,hF⟩:=bind_some hF
 refine aG (β:=Unit) (λ_=>([(0,(vB v_3))]:SL_)) (λ_=>([]:Hp)) (λ_=>True) ?_ ?_
 ·refine aa (ae (vI r_1.2) wz rfl (ae (vB (r_1.2==0)) wz rfl ?_))
  rcases au h_4 with⟨hc_5,h_4⟩|⟨hc_5,h_4⟩
  ·refine aH rfl hc_5 wz (ae (vL Window.enc r_1.1) wa rfl (bX zg rfl wa (ae (vB ((r_1.1.length:Int)==1)) wa rfl (ae (vB ((r_1.1.length:Int)==1)) wz rfl ?_))))
   rcases au h_4 with⟨hc_6,h_4⟩|⟨hc_6,h_4⟩
   ·refine aH rfl hc_6 wz (ae (vL Window.enc r_1.1) wa rfl ?_)
    obtain ⟨y_7,hy_8,h_4⟩:=bind_some h_4
    refine dL qQ rfl rfl hy_8 rfl wa (mF fw rfl [.int .i64 y_7.From,.int .i64 y_7.To] rfl rfl wa (bz sz3 ag3 rfl (vI y_7.From) rfl wa (ae (vB (y_7.From==60000)) wa rfl (ae (vB (y_7.From==60000)) wz rfl (ae (vB (y_7.From==60000)) wz rfl (aj ?_))))))
    obtain rfl:=ah h_4
    exact cu
   ·refine aH rfl hc_6 wz (ak wa (ak wa (ak wa (ak wa (ak wa (ae (vB false) wz rfl (ae (vB false) wz rfl (aj ?_))))))))
    obtain rfl:=ah h_4
    exact cu
  ·refine aH rfl hc_5 wz (ak wa (ak wa (ak wa (ae (vB false) wz rfl (ae (vB false) wz rfl (ak wa (ak wa (ak wa (ak wa (ak wa (ae (vB false) wz rfl (ae (vB false) wz rfl (aj ?_)))))))))))))
   obtain rfl:=ah h_4
   exact cu
 ·rintro ⟨⟩ _ sl_ H_ hp_ hq_
  refine aN _ hp_ hq_ ?_
  obtain rfl:=ah hF
  exact aC (bv (.inr rfl) [(vB v_3)] ⟨rfl,trivial⟩ rfl rfl rfl)
theorem uQ {l_1:(List Int)} {r:Bool} (hF:jT l_1=some r) :
  FnM Tryz.prog 3 [(vL eI l_1)] [] (vB r) []:=by
 refine FnM.of_wH ⟨Tryz.prog,116,[],[]⟩ rfl Tryz.func3 rfl rfl (lb_ rfl) (by kernel_rfl) ?_
 unfold jT at hF
 refine af (aa (ae (vB false) wz rfl (aj (af (aa (ae (vL eI l_1) wz rfl (ae (.d (.agg (Stream.enc (⟨l_1,0⟩:Stream)))) wz (by kernel_rfl) (dZ 0 (.inl rfl) [(vL eI l_1),(vI 0)] rfl rfl wz (λn_2=>ae (.ref n_2 0 0) wz rfl (aj (af (aa (ae (.ref n_2 0 0) wz rfl ?_)))))))))))))
 obtain ⟨r_3,hr_4,hF⟩:=bind_some hF
 refine aW 0 [0] il ft (oW hr_4) rfl hb4 rfl (by kernel_rfl) (by kernel_rfl) (by kernel_rfl) (by kernel_rfl) (by kernel_rfl) (by kernel_rfl) (by kernel_rfl) (by decide) (by kernel_rfl) wz (vL Entry.enc r_3.1) (by kernel_rfl) ([(n_2,some (.cells 2 [(vL eI r_3.2.L),(vI r_3.2.f_at)]))]:Hp) (by kernel_rfl) (ae (.ref n_2 0 0) wz rfl ?_)
 obtain ⟨r_6,hr_7,hF⟩:=bind_some hF
 refine aW 0 [0] il ft (oW hr_7) rfl hb4 rfl (by kernel_rfl) (by kernel_rfl) (by kernel_rfl) (by kernel_rfl) (by kernel_rfl) (by kernel_rfl) (by kernel_rfl) (by decide) (by kernel_rfl) wz (vL Entry.enc r_6.1) (by kernel_rfl) ([(n_2,some (.cells 2 [(vL eI r_6.2.L),(vI r_6.2.f_at)]))]:Hp) (by kernel_rfl) (ae (.ref n_2 0 0) wz rfl ?_)
 obtain ⟨r_9,hr_10,hF⟩:=bind_some hF
 refine aW 0 [0] il ft (wT hr_10) rfl hb5 rfl (by kernel_rfl) (by kernel_rfl) (by kernel_rfl) (by kernel_rfl) (by kernel_rfl) (by kernel_rfl) (by kernel_rfl) (by decide) (by kernel_rfl) wz (.d (.agg (Player.enc r_9.1))) (by kernel_rfl) ([(n_2,some (.cells 2 [(vL eI r_9.2.L),(vI r_9.2.f_at)]))]:Hp) (by kernel_rfl) (ae (.ref n_2 0 0) wz rfl ?_)
 obtain ⟨r_12,hr_13,hF⟩:=bind_some hF
 refine aW 0 [0] il ft (zf hr_13) rfl hb6 rfl (by kernel_rfl) (by kernel_rfl) (by kernel_rfl) (by kernel_rfl) (by kernel_rfl) (by kernel_rfl) (by kernel_rfl) (by decide) (by kernel_rfl) wz (.d (.agg (Window.enc r_12.1))) (by kernel_rfl) ([(n_2,some (.cells 2 [(vL eI r_12.2.L),(vI r_12.2.f_at)]))]:Hp) (by kernel_rfl) (bR 0 (.inl rfl) z30 rfl wz (λn_15=>bR 0 (.inl rfl) z33 rfl wz (λn_16=>ae (vL Entry.enc r_3.1) wz rfl (ae (vL Entry.enc r_6.1) wz rfl (eu 0 il ft 1 p8 rfl rfl [(vS r_9.1.Key),(vS r_9.1.Screen),(vI r_9.1.Zone),(vL eS r_9.1.Tags)] rfl wz (eu 0 il ft 2 eP rfl rfl [(vI r_12.1.From),(vI r_12.1.To)] rfl wz (aj (af (af (aa (ae (.ref n_2 0 0) wz rfl ?_)))))))))))
 obtain ⟨r_17,hr_18,hF⟩:=bind_some hF
 refine aW 0 [0] il ft (eB hr_18) rfl hb7 rfl (by kernel_rfl) (by kernel_rfl) (by kernel_rfl) (by kernel_rfl) (by kernel_rfl) (by kernel_rfl) (by kernel_rfl) (by decide) (by kernel_rfl) wz (vB r_17.1) (by kernel_rfl) ([(n_2,some (.cells 2 [(vL eI r_17.2.L),(vI r_17.2.f_at)])),(n_15,some (.cells 4 [(vS r_9.1.Key),(vS r_9.1.Screen),(vI r_9.1.Zone),(vL eS r_9.1.Tags)])),(n_16,some (.cells 2 [(vI r_12.1.From),(vI r_12.1.To)]))]:Hp) (by kernel_rfl) (aj ?_)
 obtain ⟨v_22,h_23,hF⟩:=bind_some hF
 refine Mv (β:=Unit) (λ_=>([(4,(vL Entry.enc r_3.1)),(5,(vL Entry.enc v_22.1)),(6,(.ref n_15 0 0)),(7,(.ref n_16 0 0))]:SL_)) (λ_=>([(n_2,some (.cells 2 [(vL eI v_22.2.1),(vI v_22.2.2)])),(n_15,some (.cells 4 [(vS r_9.1.Key),(vS r_9.1.Screen),(vI r_9.1.Zone),(vL eS r_9.1.Tags)])),(n_16,some (.cells 2 [(vI r_12.1.From),(vI r_12.1.To)]))]:Hp)) (λ_=>True) ?_ ?_
 ·rcases au h_23 with⟨hc_24,h_23⟩|⟨hc_24,h_23⟩
  ·refine aB rfl hc_24 (af (aa (ae (vL Entry.enc r_3.1) wz rfl ?_)))
   obtain ⟨r_25,hr_26,h_23⟩:=bind_some h_23
   refine yS [] (mf hr_26) rfl hb8 rfl (by kernel_rfl) (by kernel_rfl) (by kernel_rfl) (by kernel_rfl) (by kernel_rfl) rfl (by decide) (by kernel_rfl) wz ([(n_2,some (.cells 2 [(vL eI r_17.2.L),(vI r_17.2.f_at)])),(n_15,some (.cells 4 [(vS r_9.1.Key),(vS r_9.1.Screen),(vI r_9.1.Zone),(vL eS r_9.1.Tags)])),(n_16,some (.cells 2 [(vI r_12.1.From),(vI r_12.1.To)]))]:Hp) (λ_=>by kernel_rfl) (λn_28=>ae (gV n_28 13 r_25) wz rfl (aj (af (aa (ae (gV n_28 13 r_25) wz rfl (qF qb rfl wz (ae (vB (decide ((r_25.length:Int)>0))) wz rfl (aj ?_))))))))
   rcases au h_23 with⟨hc_29,h_23⟩|⟨hc_29,h_23⟩
   ·refine aB rfl hc_29 (af (aa (ae (gV n_28 13 r_25) wz rfl (ae (.ref n_2 0 0) wz rfl (ae (gV n_28 13 r_25) wz rfl (qF qb rfl wz ?_))))))
    obtain ⟨r_30,hr_31,h_23⟩:=bind_some h_23
    refine aW 0 [0] il ft (dU hr_31) rfl C9 rfl (by kernel_rfl) (by kernel_rfl) (by kernel_rfl) (by kernel_rfl) (by kernel_rfl) (by kernel_rfl) (by kernel_rfl) (by decide) (by kernel_rfl) wz (vI r_30.1) (by kernel_rfl) ([(n_2,some (.cells 2 [(vL eI r_30.2.L),(vI r_30.2.f_at)])),(n_15,some (.cells 4 [(vS r_9.1.Key),(vS r_9.1.Screen),(vI r_9.1.Zone),(vL eS r_9.1.Tags)])),(n_16,some (.cells 2 [(vI r_12.1.From),(vI r_12.1.To)])),(n_28,gB 13 Entry.enc r_25)]:Hp) (by kernel_rfl) (ae (.ref n_2 0 0) wz rfl ?_)
    obtain ⟨r_33,hr_34,h_23⟩:=bind_some h_23
    refine aW 0 [0] il ft (mY hr_34) rfl hb9 rfl (by kernel_rfl) (by kernel_rfl) (by kernel_rfl) (by kernel_rfl) (by kernel_rfl) (by kernel_rfl) (by kernel_rfl) (by decide) (by kernel_rfl) wz (vI r_33.1) (by kernel_rfl) ([(n_2,some (.cells 2 [(vL eI r_33.2.L),(vI r_33.2.f_at)])),(n_15,some (.cells 4 [(vS r_9.1.Key),(vS r_9.1.Screen),(vI r_9.1.Zone),(vL eS r_9.1.Tags)])),(n_16,some (.cells 2 [(vI r_12.1.From),(vI r_12.1.To)])),(n_28,gB 13 Entry.enc r_25)]:Hp) (by kernel_rfl) ?_
    obtain ⟨_,hi_36,h_23⟩:=bind_some h_23
    refine oG mE rfl rfl (jQ hi_36) (iq hi_36) wz (aJ mQ rfl 10 rfl wz ?_)
    obtain ⟨e_37,hy_38,h_23⟩:=bind_some h_23
    refine kJ 0 il ft 3 sz3 rfl rfl hy_38 (⟨e_37.Key,e_37.Item,e_37.Version,e_37.First,e_37.Last,e_37.Every,e_37.Days,e_37.Except,e_37.From,e_37.To,r_33.1,e_37.Tags,e_37.Gone⟩:Entry) rfl wz (bQ (v':=(gV n_28 13 (r_25.set (0+(r_30.1).toNat) (⟨e_37.Key,e_37.Item,e_37.Version,e_37.First,e_37.Last,e_37.Every,e_37.Days,e_37.Except,e_37.From,e_37.To,r_33.1,e_37.Tags,e_37.Gone⟩:Entry)))) 5 rfl (bI (by simp)) (bQ (v':=(gV n_28 13 (r_25.set (0+(r_30.1).toNat) (⟨e_37.Key,e_37.Item,e_37.Version,e_37.First,e_37.Last,e_37.Every,e_37.Days,e_37.Except,e_37.From,e_37.To,r_33.1,e_37.Tags,e_37.Gone⟩:Entry)))) 30 rfl (bI (by simp)) (bQ (v':=(gV n_28 13 (r_25.set (0+(r_30.1).toNat) (⟨e_37.Key,e_37.Item,e_37.Version,e_37.First,e_37.Last,e_37.Every,e_37.Days,e_37.Except,e_37.From,e_37.To,r_33.1,e_37.Tags,e_37.Gone⟩:Entry)))) 31 rfl (bI (by simp)) (bQ (v':=(gV n_28 13 (r_25.set (0+(r_30.1).toNat) (⟨e_37.Key,e_37.Item,e_37.Version,e_37.First,e_37.Last,e_37.Every,e_37.Days,e_37.Except,e_37.From,e_37.To,r_33.1,e_37.Tags,e_37.Gone⟩:Entry)))) 34 rfl (bI (by simp)) (bQ (v':=(gV n_28 13 (r_25.set (0+(r_30.1).toNat) (⟨e_37.Key,e_37.Item,e_37.Version,e_37.First,e_37.Last,e_37.Every,e_37.Days,e_37.Except,e_37.From,e_37.To,r_33.1,e_37.Tags,e_37.Gone⟩:Entry)))) 36 rfl (bI (by simp)) (aj (aN (H0:=([(n_2,some (.cells 2 [(vL eI r_33.2.L),(vI r_33.2.f_at)])),(n_15,some (.cells 4 [(vS r_9.1.Key),(vS r_9.1.Screen),(vI r_9.1.Zone),(vL eS r_9.1.Tags)])),(n_16,some (.cells 2 [(vI r_12.1.From),(vI r_12.1.To)])),(n_28,gB 13 Entry.enc (r_25.set (0+(r_30.1).toNat) (⟨e_37.Key,e_37.Item,e_37.Version,e_37.First,e_37.Last,e_37.Every,e_37.Days,e_37.Except,e_37.From,e_37.To,r_33.1,e_37.Tags,e_37.Gone⟩:Entry)))]:Hp)) ([(3,(.ref n_2 0 0)),(4,(vL Entry.enc r_3.1)),(5,(gV n_28 13 (r_25.set (0+(r_30.1).toNat) (⟨e_37.Key,e_37.Item,e_37.Version,e_37.First,e_37.Last,e_37.Every,e_37.Days,e_37.Except,e_37.From,e_37.To,r_33.1,e_37.Tags,e_37.Gone⟩:Entry)))),(6,(.ref n_15 0 0)),(7,(.ref n_16 0 0))]:SL_) (by kernel_rfl) (xw (by kernel_rfl)) (aa (ae (gV n_28 13 (r_25.set (0+(r_30.1).toNat) (⟨e_37.Key,e_37.Item,e_37.Version,e_37.First,e_37.Last,e_37.Every,e_37.Days,e_37.Except,e_37.From,e_37.To,r_33.1,e_37.Tags,e_37.Gone⟩:Entry))) wz rfl (ae (.ref n_2 0 0) wz rfl (ae (gV n_28 13 (r_25.set (0+(r_30.1).toNat) (⟨e_37.Key,e_37.Item,e_37.Version,e_37.First,e_37.Last,e_37.Every,e_37.Days,e_37.Except,e_37.From,e_37.To,r_33.1,e_37.Tags,e_37.Gone⟩:Entry))) wz rfl (qF qb rfl wz ?_))))))))))))
    obtain ⟨r_39,hr_40,h_23⟩:=bind_some h_23
    refine aW 0 [0] il ft (dU hr_40) rfl C9 rfl (by kernel_rfl) (by kernel_rfl) (by kernel_rfl) (by kernel_rfl) (by kernel_rfl) (by kernel_rfl) (by kernel_rfl) (by decide) (by kernel_rfl) wz (vI r_39.1) (by kernel_rfl) ([(n_2,some (.cells 2 [(vL eI r_39.2.L),(vI r_39.2.f_at)])),(n_15,some (.cells 4 [(vS r_9.1.Key),(vS r_9.1.Screen),(vI r_9.1.Zone),(vL eS r_9.1.Tags)])),(n_16,some (.cells 2 [(vI r_12.1.From),(vI r_12.1.To)])),(n_28,gB 13 Entry.enc (r_25.set (0+(r_30.1).toNat) (⟨e_37.Key,e_37.Item,e_37.Version,e_37.First,e_37.Last,e_37.Every,e_37.Days,e_37.Except,e_37.From,e_37.To,r_33.1,e_37.Tags,e_37.Gone⟩:Entry)))]:Hp) (by kernel_rfl) (ae (.ref n_2 0 0) wz rfl (dW (([(⟨#[105,97]⟩:ByteArray),(⟨#[105,98]⟩:ByteArray)]:List ByteArray).map eS) nZ wQ rfl rfl rfl rfl rfl wz ?_))
    obtain ⟨r_42,hr_43,h_23⟩:=bind_some h_23
    refine aW 0 [0] il ft (jg hr_43) rfl KE rfl (by kernel_rfl) (by kernel_rfl) (by kernel_rfl) (by kernel_rfl) (by kernel_rfl) (by kernel_rfl) (by kernel_rfl) (by decide) (by kernel_rfl) wz (vS r_42.1) (by kernel_rfl) ([(n_2,some (.cells 2 [(vL eI r_42.2.L),(vI r_42.2.f_at)])),(n_15,some (.cells 4 [(vS r_9.1.Key),(vS r_9.1.Screen),(vI r_9.1.Zone),(vL eS r_9.1.Tags)])),(n_16,some (.cells 2 [(vI r_12.1.From),(vI r_12.1.To)])),(n_28,gB 13 Entry.enc (r_25.set (0+(r_30.1).toNat) (⟨e_37.Key,e_37.Item,e_37.Version,e_37.First,e_37.Last,e_37.Every,e_37.Days,e_37.Except,e_37.From,e_37.To,r_33.1,e_37.Tags,e_37.Gone⟩:Entry)))]:Hp) (by kernel_rfl) ?_
    obtain ⟨_,hi_45,h_23⟩:=bind_some h_23
    refine oG mE rfl rfl (jQ hi_45) (iq hi_45) wz (aJ yc rfl 1 rfl wz ?_)
    obtain ⟨e_46,hy_47,h_23⟩:=bind_some h_23
    refine kJ 0 il ft 3 sz9 rfl rfl hy_47 (⟨e_46.Key,r_42.1,e_46.Version,e_46.First,e_46.Last,e_46.Every,e_46.Days,e_46.Except,e_46.From,e_46.To,e_46.Prio,e_46.Tags,e_46.Gone⟩:Entry) rfl wz (bQ (v':=(gV n_28 13 ((r_25.set (0+(r_30.1).toNat) (⟨e_37.Key,e_37.Item,e_37.Version,e_37.First,e_37.Last,e_37.Every,e_37.Days,e_37.Except,e_37.From,e_37.To,r_33.1,e_37.Tags,e_37.Gone⟩:Entry)).set (0+(r_39.1).toNat) (⟨e_46.Key,r_42.1,e_46.Version,e_46.First,e_46.Last,e_46.Every,e_46.Days,e_46.Except,e_46.From,e_46.To,e_46.Prio,e_46.Tags,e_46.Gone⟩:Entry)))) 5 rfl (bI (by simp)) (bQ (v':=(gV n_28 13 ((r_25.set (0+(r_30.1).toNat) (⟨e_37.Key,e_37.Item,e_37.Version,e_37.First,e_37.Last,e_37.Every,e_37.Days,e_37.Except,e_37.From,e_37.To,r_33.1,e_37.Tags,e_37.Gone⟩:Entry)).set (0+(r_39.1).toNat) (⟨e_46.Key,r_42.1,e_46.Version,e_46.First,e_46.Last,e_46.Every,e_46.Days,e_46.Except,e_46.From,e_46.To,e_46.Prio,e_46.Tags,e_46.Gone⟩:Entry)))) 43 rfl (bI (by simp)) (bQ (v':=(gV n_28 13 ((r_25.set (0+(r_30.1).toNat) (⟨e_37.Key,e_37.Item,e_37.Version,e_37.First,e_37.Last,e_37.Every,e_37.Days,e_37.Except,e_37.From,e_37.To,r_33.1,e_37.Tags,e_37.Gone⟩:Entry)).set (0+(r_39.1).toNat) (⟨e_46.Key,r_42.1,e_46.Version,e_46.First,e_46.Last,e_46.Every,e_46.Days,e_46.Except,e_46.From,e_46.To,e_46.Prio,e_46.Tags,e_46.Gone⟩:Entry)))) 45 rfl (bI (by simp)) (aj ?_))))
    intro C_ b_ Q_ key_
    refine gX 3 rfl (dY 5 3 rfl rfl (dY 43 3 rfl rfl (dY 45 3 rfl rfl ?_)))
    obtain rfl:=ah h_23
    exact key_ () trivial _ _ rfl (aK rfl)
   ·refine aA rfl hc_29 (ax ?_)
    intro C_ b_ Q_ key_
    refine gX 3 rfl (dY 5 3 rfl rfl (dY 30 3 rfl rfl (dY 31 3 rfl rfl ?_)))
    obtain rfl:=ah h_23
    exact key_ () trivial _ _ rfl (aK rfl)
  ·refine aA rfl hc_24 (ax ?_)
   intro C_ b_ Q_ key_
   obtain rfl:=ah h_23
   exact key_ () trivial _ _ rfl (aK rfl)
 ·rintro ⟨⟩ _ sl_ H_ hp_ hq_
  refine aN _ hp_ hq_ (af (aa (ae (vL Entry.enc r_3.1) wz rfl (ae (vL Entry.enc v_22.1) wz rfl (ay 0 1 il ft p8 uI rfl rfl (.d (.agg (Player.enc r_9.1))) rfl wz (ay 0 2 il ft eP iO rfl rfl (.d (.agg (Window.enc r_12.1))) rfl wz ?_))))))
  obtain ⟨r_48,hr_49,hF⟩:=bind_some hF
  refine aF (wU hr_49) rfl hb12 rfl rfl rfl rfl wz (ae (.tup [(vL Window.enc r_48.1),(vI r_48.2)]) wz rfl (ae (vL Window.enc r_48.1) wz rfl (ae (vI r_48.2) wz rfl (ae (vL Window.enc r_48.1) wz rfl (ae (vI r_48.2) wz rfl (aj (af (aa (ae (vL Entry.enc r_3.1) wz rfl (ay 0 2 il ft eP iO rfl rfl (.d (.agg (Window.enc r_12.1))) rfl wz ?_))))))))))
  obtain ⟨r_50,hr_51,hF⟩:=bind_some hF
  refine aF (yj hr_51) rfl hb13 rfl rfl rfl rfl wz (ae (.tup [(vL Pair.enc r_50.1),(vI r_50.2)]) wz rfl (ae (vL Pair.enc r_50.1) wz rfl (ae (vI r_50.2) wz rfl (ae (vL Pair.enc r_50.1) wz rfl (ae (vI r_50.2) wz rfl (aj (af (bN (ae (vL Entry.enc r_3.1) wz rfl ?_)))))))))
  obtain ⟨r_52,hr_53,hF⟩:=bind_some hF
  refine aF (mD hr_53) rfl hb15 rfl rfl rfl rfl wz (ae (vL Entry.enc v_22.1) wz rfl ?_)
  obtain ⟨r_54,hr_55,hF⟩:=bind_some hF
  refine aF (mD hr_55) rfl hb15 rfl rfl rfl rfl wz (ay 4 1 (.inr (by kernel_rfl)) (λ_ _ ag=>trivial) p8 uI rfl rfl (.d (.agg (Player.enc r_9.1))) rfl wz ?_)
  obtain ⟨r_56,hr_57,hF⟩:=bind_some hF
  refine aF (xC hr_57) rfl hb16 rfl rfl rfl rfl wz (ay 6 2 (.inr (by kernel_rfl)) (λ_ _ ag=>⟨.inl ⟨rfl,rfl⟩,trivial⟩) eP iO rfl rfl (.d (.agg (Window.enc r_12.1))) rfl wz ?_)
  obtain ⟨r_58,hr_59,hF⟩:=bind_some hF
  refine aF (tO hr_59) rfl hb17 rfl rfl rfl rfl wz (dW (([r_52,r_54,r_56,r_58]:List Int).map eI) es76 ez76 rfl rfl rfl rfl rfl wz ?_)
  obtain ⟨r_60,hr_61,hF⟩:=bind_some hF
  refine aF (Aq hr_61) rfl hb14 rfl rfl rfl rfl wz (ae (vL Entry.enc r_3.1) wz rfl ?_)
  obtain ⟨r_62,hr_63,hF⟩:=bind_some hF
  refine aF (mD hr_63) rfl hb15 rfl rfl rfl rfl wz (ay 12 2 (.inr (by kernel_rfl)) (λ_ _ ag=>⟨.inl ⟨rfl,rfl⟩,⟨.inl ⟨rfl,rfl⟩,trivial⟩⟩) eP iO rfl rfl (.d (.agg (Window.enc r_12.1))) rfl wz ?_)
  obtain ⟨r_64,hr_65,hF⟩:=bind_some hF
  refine aF (tO hr_65) rfl hb17 rfl rfl rfl rfl wz (dW (([r_62,r_64]:List Int).map eI) es76 ez76 rfl rfl rfl rfl rfl wz ?_)
  obtain ⟨r_66,hr_67,hF⟩:=bind_some hF
  refine aF (Aq hr_67) rfl hb14 rfl rfl rfl rfl wz (ae (vI r_60) wz rfl (ae (vI r_66) wz rfl (aj (aN (H0:=([(n_2,some (.cells 2 [(vL eI v_22.2.1),(vI v_22.2.2)])),(n_15,some (.cells 4 [(vS r_9.1.Key),(vS r_9.1.Screen),(vI r_9.1.Zone),(vL eS r_9.1.Tags)])),(n_16,some (.cells 2 [(vI r_12.1.From),(vI r_12.1.To)]))]:Hp)) ([(4,(vL Entry.enc r_3.1)),(5,(vL Entry.enc v_22.1)),(6,(.ref n_15 0 0)),(7,(.ref n_16 0 0)),(8,(vL Window.enc r_48.1)),(9,(vI r_48.2)),(10,(vL Pair.enc r_50.1)),(11,(vI r_50.2)),(12,(vI r_60)),(13,(vI r_66))]:SL_) (by kernel_rfl) (xw (by kernel_rfl)) (af (aa (ae .nil wz rfl (aj (af (af (aa (ae (vI r_60) wz rfl (ae (vB (r_60==0)) wz rfl (aj (JN Window.enc 14 rfl ?_)))))))))))))))
  obtain ⟨v_70,h_71,hF⟩:=bind_some hF
  refine aG (β:=Unit) (λ_=>([(4,(vL Entry.enc r_3.1)),(7,(.ref n_16 0 0)),(8,(vL Window.enc r_48.1)),(9,(vI r_48.2)),(10,(vL Pair.enc r_50.1)),(11,(vI r_50.2)),(12,(vI r_60)),(13,(vI r_66)),(14,(vL Window.enc v_70))]:SL_)) (λ_=>([(n_2,some (.cells 2 [(vL eI v_22.2.1),(vI v_22.2.2)])),(n_15,some (.cells 4 [(vS r_9.1.Key),(vS r_9.1.Screen),(vI r_9.1.Zone),(vL eS r_9.1.Tags)])),(n_16,some (.cells 2 [(vI r_12.1.From),(vI r_12.1.To)]))]:Hp)) (λ_=>True) ?_ ?_
  ·rcases au h_71 with⟨hc_72,h_71⟩|⟨hc_72,h_71⟩
   ·refine aB rfl hc_72 (aa (ae (vL Entry.enc r_3.1) wz rfl (ae (vL Entry.enc v_22.1) wz rfl (ay 0 1 il ft p8 uI rfl rfl (.d (.agg (Player.enc r_9.1))) rfl wz (ay 0 2 il ft eP iO rfl rfl (.d (.agg (Window.enc r_12.1))) rfl wz ?_)))))
    obtain ⟨r_73,hr_74,h_71⟩:=bind_some h_71
    refine aF (Aa hr_74) rfl hb18 rfl rfl rfl rfl wz (ae (vL Window.enc r_73) wz rfl (aj ?_))
    obtain rfl:=ah h_71
    exact cu
   ·refine aA rfl hc_72 (ax ?_)
    obtain rfl:=ah h_71
    exact cu
  ·rintro ⟨⟩ _ sl_ H_ hp_ hq_
   refine aN _ hp_ hq_ (af (aa (ae .nil wz rfl (aj (af (af (aa (ae (vI r_66) wz rfl (ae (vB (r_66==0)) wz rfl (aj (JN Pair.enc 15 rfl ?_)))))))))))
   obtain ⟨v_77,h_78,hF⟩:=bind_some hF
   refine aG (β:=Unit) (λ_=>([(8,(vL Window.enc r_48.1)),(9,(vI r_48.2)),(10,(vL Pair.enc r_50.1)),(11,(vI r_50.2)),(12,(vI r_60)),(13,(vI r_66)),(14,(vL Window.enc v_70)),(15,(vL Pair.enc v_77))]:SL_)) (λ_=>([(n_2,some (.cells 2 [(vL eI v_22.2.1),(vI v_22.2.2)])),(n_15,some (.cells 4 [(vS r_9.1.Key),(vS r_9.1.Screen),(vI r_9.1.Zone),(vL eS r_9.1.Tags)])),(n_16,some (.cells 2 [(vI r_12.1.From),(vI r_12.1.To)]))]:Hp)) (λ_=>True) ?_ ?_
   ·rcases au h_78 with⟨hc_79,h_78⟩|⟨hc_79,h_78⟩
    ·refine aB rfl hc_79 (aa (ae (vL Entry.enc r_3.1) wz rfl (ay 0 2 il ft eP iO rfl rfl (.d (.agg (Window.enc r_12.1))) rfl wz ?_)))
     obtain ⟨r_80,hr_81,h_78⟩:=bind_some h_78
     refine aF (BN hr_81) rfl hb19 rfl rfl rfl rfl wz (ae (vL Pair.enc r_80) wz rfl (aj ?_))
     obtain rfl:=ah h_78
     exact cu
    ·refine aA rfl hc_79 (ax ?_)
     obtain rfl:=ah h_78
     exact cu
   ·rintro ⟨⟩ _ sl_ H_ hp_ hq_
    refine aN _ hp_ hq_ (af ?_)
    obtain ⟨v_82,h_83,hF⟩:=bind_some hF
    refine aG (β:=Unit) (λ_=>([(2,(vB v_82))]:SL_)) (λ_=>([(n_2,some (.cells 2 [(vL eI v_22.2.1),(vI v_22.2.2)])),(n_15,some (.cells 4 [(vS r_9.1.Key),(vS r_9.1.Screen),(vI r_9.1.Zone),(vL eS r_9.1.Tags)])),(n_16,some (.cells 2 [(vI r_12.1.From),(vI r_12.1.To)]))]:Hp)) (λ_=>True) ?_ ?_
    ·refine aa (ae (vI r_48.2) wz rfl (ae (vI r_60) wz rfl (ae (vB (r_48.2==r_60)) wz rfl ?_)))
     rcases au h_83 with⟨hc_84,h_83⟩|⟨hc_84,h_83⟩
     ·refine aH rfl hc_84 wz (ae (vL Window.enc r_48.1) wa rfl (ae (vL Window.enc v_70) wa rfl ?_))
      obtain ⟨r_85,hr_86,h_83⟩:=bind_some h_83
      refine aF (lV hr_86) rfl hb20 rfl rfl rfl rfl wa (ae (vB r_85) wz rfl ?_)
      rcases au h_83 with⟨hc_87,h_83⟩|⟨hc_87,h_83⟩
      ·refine aH rfl hc_87 wz (ae (vI r_50.2) wa rfl (ae (vI r_66) wa rfl (ae (vB (r_50.2==r_66)) wa rfl (ae (vB (r_50.2==r_66)) wz rfl ?_))))
       rcases au h_83 with⟨hc_88,h_83⟩|⟨hc_88,h_83⟩
       ·refine aH rfl hc_88 wz (ae (vL Pair.enc r_50.1) wa rfl (ae (vL Pair.enc v_77) wa rfl ?_))
        obtain ⟨r_89,hr_90,h_83⟩:=bind_some h_83
        refine aF (nJ hr_90) rfl hb21 rfl rfl rfl rfl wa (ae (vB r_89) wz rfl ?_)
        rcases au h_83 with⟨hc_91,h_83⟩|⟨hc_91,h_83⟩
        ·refine aH rfl hc_91 wz ?_
         obtain ⟨r_92,hr_93,h_83⟩:=bind_some h_83
         refine aF (E8 hr_93) rfl hb22 rfl rfl rfl rfl wa (ae (vB r_92) wz rfl (ae (vB r_92) wz rfl (aj ?_)))
         obtain rfl:=ah h_83
         exact cu
        ·refine aH rfl hc_91 wz (ak wa (ae (vB false) wz rfl (ae (vB false) wz rfl (aj ?_))))
         obtain rfl:=ah h_83
         exact cu
       ·refine aH rfl hc_88 wz (ak wa (ak wa (ak wa (ae (vB false) wz rfl (ae (vB false) wz rfl (ak wa (ae (vB false) wz rfl (ae (vB false) wz rfl (aj ?_)))))))))
        obtain rfl:=ah h_83
        exact cu
      ·refine aH rfl hc_87 wz (ak wa (ak wa (ak wa (ae (vB false) wz rfl (ae (vB false) wz rfl (ak wa (ak wa (ak wa (ae (vB false) wz rfl (ae (vB false) wz rfl (ak wa (ae (vB false) wz rfl (ae (vB false) wz rfl (aj ?_))))))))))))))
       obtain rfl:=ah h_83
       exact cu
     ·refine aH rfl hc_84 wz (ak wa (ak wa (ak wa (ae (vB false) wz rfl (ae (vB false) wz rfl (ak wa (ak wa (ak wa (ae (vB false) wz rfl (ae (vB false) wz rfl (ak wa (ak wa (ak wa (ae (vB false) wz rfl (ae (vB false) wz rfl (ak wa (ae (vB false) wz rfl (ae (vB false) wz rfl (aj ?_)))))))))))))))))))
      obtain rfl:=ah h_83
      exact cu
    ·rintro ⟨⟩ _ sl_ H_ hp_ hq_
     refine aN _ hp_ hq_ ?_
     obtain rfl:=ah hF
     exact aC (bv (.inr rfl) [(vB v_82)] ⟨rfl,trivial⟩ rfl rfl rfl)
end Go.Proofs.YtnjnggakgeommaaGreat.Law

