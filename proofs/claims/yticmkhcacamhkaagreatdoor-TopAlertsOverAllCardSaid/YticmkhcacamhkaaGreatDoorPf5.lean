/-
 The machine computes these plain functions (written by a program of ours).
-/
import Derived.Test.YticmkhcacamhkaaGreatDoorFacts
import Derived.Test.YticmkhcacamhkaaGreatDoorDefs
import Derived.Test.YticmkhcacamhkaaGreatDoorPf4
import Derived.Test.YticmkhcacamhkaaGreatDoorShelf
open Go Go.Eng Go.Proofs
namespace Go.Proofs.YticmkhcacamhkaaGreatDoor.Law
set_option maxRecDepth 100000
set_option linter.unusedVariables false
set_option maxHeartbeats 1000000
theorem tL {e_1:Entry} {zone_2:Int} {d_3:Int} {r:Window} (hF:kr e_1 zone_2 d_3=some r) :
  FnM Tryz.prog 94 [(.d (.agg (Entry.enc e_1))),(vI zone_2),(vI d_3)] [] (.d (.agg (Window.enc r))) []:=by
 refine FnM.of_wH ⟨Tryz.prog,32,[],[]⟩ rfl Tryz.func94 rfl rfl (lb_ rfl) (by kernel_rfl) ?_
 unfold kr at hF
 refine af (aa (dL 0 (.inl rfl) [(vS e_1.Key),(vS e_1.Item),(vI e_1.Version),(vI e_1.First),(vI e_1.Last),(vI e_1.Every),(vI e_1.Days),(vL eI e_1.Except),(vI e_1.From),(vI e_1.To),(vI e_1.Prio),(vL eS e_1.Tags),(vB e_1.Gone)] rfl rfl wz (λn_4=>cK 0 (.inl rfl) z34 rfl wz (λn_5=>aj (af (aa (aH P8 rfl 9 rfl wz (aA 0 0 il ft sz3 ag3 rfl rfl (vI e_1.To) rfl wz (aH Kw rfl 8 rfl wz (aA 0 0 il ft sz3 ag3 rfl rfl (vI e_1.From) rfl wz (ae (vI (w64 (e_1.To-e_1.From))) wz rfl (ae (vI (w64 (e_1.To-e_1.From))) wz rfl (aj (af (af (aa (ae (vI (w64 (e_1.To-e_1.From))) wz rfl (ae (vB (decide ((w64 (e_1.To-e_1.From))<=0))) wz rfl (aj ?_)))))))))))))))))))
 obtain ⟨v_6,h_7,hF⟩:=bind_some hF
 refine aD (β:=Unit) (λ_=>([(1,(vI zone_2)),(2,(vI d_3)),(3,(.ref n_4 0 0)),(6,(.ref n_5 0 0)),(7,(vI v_6))]:SL_)) (λ_=>([(n_4,some (.cells 13 [(vS e_1.Key),(vS e_1.Item),(vI e_1.Version),(vI e_1.First),(vI e_1.Last),(vI e_1.Every),(vI e_1.Days),(vL eI e_1.Except),(vI e_1.From),(vI e_1.To),(vI e_1.Prio),(vL eS e_1.Tags),(vB e_1.Gone)])),(n_5,some (.cells 2 [(vI 0),(vI 0)]))]:Hp)) (λ_=>True) ?_ ?_
 ·rcases au h_7 with⟨hc_8,h_7⟩|⟨hc_8,h_7⟩
  ·refine aC rfl hc_8 (aa (ae (vI (w64 (e_1.To-e_1.From))) wz rfl (ae (vI (w64 ((w64 (e_1.To-e_1.From))+1440))) wz rfl (ae (vI (w64 ((w64 (e_1.To-e_1.From))+1440))) wz rfl (aj ?_)))))
   obtain rfl:=ah h_7
   exact cu
  ·refine aB rfl hc_8 (ax ?_)
   obtain rfl:=ah h_7
   exact cu
 ·rintro ⟨⟩ _ sl_ H_ hp_ hq_
  refine aL _ hp_ hq_ (af (aa (ae (vI d_3) wz rfl (ae (vI (w64 (d_3*1440))) wz rfl (aH Kw rfl 8 rfl wz (aA 0 0 il ft sz3 ag3 rfl rfl (vI e_1.From) rfl wz (ae (vI (w64 ((w64 (d_3*1440))+e_1.From))) wz rfl (ae (vI zone_2) wz rfl (ae (vI (w64 ((w64 ((w64 (d_3*1440))+e_1.From))-zone_2))) wz rfl (ae (vI (w64 ((w64 ((w64 ((w64 (d_3*1440))+e_1.From))-zone_2))*60000))) wz rfl (ae (vI (w64 ((w64 ((w64 ((w64 (d_3*1440))+e_1.From))-zone_2))*60000))) wz rfl (aj (af (aa (ae (vI (w64 ((w64 ((w64 ((w64 (d_3*1440))+e_1.From))-zone_2))*60000))) wz rfl (ae (vI (w64 ((w64 ((w64 ((w64 (d_3*1440))+e_1.From))-zone_2))*60000))) wz rfl (ae (vI v_6) wz rfl (ae (vI (w64 (v_6*60000))) wz rfl (ae (vI (w64 ((w64 ((w64 ((w64 ((w64 (d_3*1440))+e_1.From))-zone_2))*60000))+(w64 (v_6*60000))))) wz rfl (ae (.d (.agg (Window.enc (⟨(w64 ((w64 ((w64 ((w64 (d_3*1440))+e_1.From))-zone_2))*60000)),(w64 ((w64 ((w64 ((w64 ((w64 (d_3*1440))+e_1.From))-zone_2))*60000))+(w64 (v_6*60000))))⟩:Window)))) wz (by kernel_rfl) (eD 0 il ft 1 lT rfl rfl [(vI (w64 ((w64 ((w64 ((w64 (d_3*1440))+e_1.From))-zone_2))*60000))),(vI (w64 ((w64 ((w64 ((w64 ((w64 (d_3*1440))+e_1.From))-zone_2))*60000))+(w64 (v_6*60000)))))] rfl wz (aj ?_))))))))))))))))))))))
  obtain rfl:=ah hF
  exact aG (aU (.inr rfl) [(.d (.agg (Window.enc (⟨(w64 ((w64 ((w64 ((w64 (d_3*1440))+e_1.From))-zone_2))*60000)),(w64 ((w64 ((w64 ((w64 ((w64 (d_3*1440))+e_1.From))-zone_2))*60000))+(w64 (v_6*60000))))⟩:Window))))] ⟨⟨1,_,_,_,_,_,_,_,rfl,rfl,lT,qI,rfl⟩,trivial⟩ rfl rfl rfl)
theorem uH {e_1:Entry} {zone_2:Int} {wv_3:Window} {r:(List Window)} (hF:gD e_1 zone_2 wv_3=some r) :
  FnM Tryz.prog 55 [(.d (.agg (Entry.enc e_1))),(vI zone_2),(.d (.agg (Window.enc wv_3)))] [] (vL Window.enc r) []:=by
 refine FnM.of_wH ⟨Tryz.prog,72,[],[]⟩ rfl Tryz.func55 rfl rfl (lb_ rfl) (by kernel_rfl) ?_
 unfold gD at hF
 refine af (aa (dL 0 (.inl rfl) [(vS e_1.Key),(vS e_1.Item),(vI e_1.Version),(vI e_1.First),(vI e_1.Last),(vI e_1.Every),(vI e_1.Days),(vL eI e_1.Except),(vI e_1.From),(vI e_1.To),(vI e_1.Prio),(vL eS e_1.Tags),(vB e_1.Gone)] rfl rfl wz (λn_4=>dL 0 (.inl rfl) [(vI wv_3.From),(vI wv_3.To)] rfl rfl wz (λn_5=>ae .nil wz rfl (aj (af (aa (ae .nil wz rfl (aj (af (af ?_)))))))))))
 obtain ⟨v_6,h_7,hF⟩:=bind_some hF
 refine aD (β:=Unit) (λ_=>([(1,(vI zone_2)),(3,(.ref n_4 0 0)),(5,(.ref n_5 0 0)),(7,.nil),(20,(vB v_6))]:SL_)) (λ_=>([(n_4,some (.cells 13 [(vS e_1.Key),(vS e_1.Item),(vI e_1.Version),(vI e_1.First),(vI e_1.Last),(vI e_1.Every),(vI e_1.Days),(vL eI e_1.Except),(vI e_1.From),(vI e_1.To),(vI e_1.Prio),(vL eS e_1.Tags),(vB e_1.Gone)])),(n_5,some (.cells 2 [(vI wv_3.From),(vI wv_3.To)]))]:Hp)) (λ_=>True) ?_ ?_
 ·refine aa (aH Me rfl 12 rfl wz (aA 0 0 il ft sz4 ag4 rfl rfl (vB e_1.Gone) rfl wz ?_))
  rcases au h_7 with⟨hc_8,h_7⟩|⟨hc_8,h_7⟩
  ·refine aF rfl hc_8 wz (ak wa (ak wa (ak wa (ak wa (ak wa (ae (vB true) wz rfl (aj ?_)))))))
   obtain rfl:=ah h_7
   exact cu
  ·refine aF rfl hc_8 wz (aH ib rfl 0 rfl wa (aA 0 1 il ft sz3 ag3 rfl rfl (vI wv_3.From) rfl wa (aH iq rfl 1 rfl wa (aA 0 1 il ft sz3 ag3 rfl rfl (vI wv_3.To) rfl wa (ae (vB (decide (wv_3.From>=wv_3.To))) wa rfl (ae (vB (decide (wv_3.From>=wv_3.To))) wz rfl (aj ?_)))))))
   obtain rfl:=ah h_7
   exact cu
 ·rintro ⟨⟩ _ sl_ H_ hp_ hq_
  refine aL _ hp_ hq_ ?_
  rcases au hF with⟨hc_9,hF⟩|⟨hc_9,hF⟩
  ·refine aC rfl hc_9 (af (aa (ae .nil wz rfl (aj ?_))))
   obtain rfl:=ah hF
   exact aG (aU (.inr rfl) [.nil] ⟨rfl,trivial⟩ rfl rfl rfl)
  ·refine aB rfl hc_9 (ax (af (aa (aH ib rfl 0 rfl wz (aA 0 1 il ft sz3 ag3 rfl rfl (vI wv_3.From) rfl wz (ae (vI zone_2) wz rfl (ae (vI (w64 (zone_2*60000))) wz rfl (ae (vI (w64 (wv_3.From+(w64 (zone_2*60000))))) wz rfl (ae (vI (w64 ((w64 (wv_3.From+(w64 (zone_2*60000)))).tdiv 86400000))) wz rfl (ae (vI (w64 ((w64 ((w64 (wv_3.From+(w64 (zone_2*60000)))).tdiv 86400000))-2))) wz rfl (ae (vI (w64 ((w64 ((w64 (wv_3.From+(w64 (zone_2*60000)))).tdiv 86400000))-2))) wz rfl (aj (af (aa (aH iq rfl 1 rfl wz (aA 0 1 il ft sz3 ag3 rfl rfl (vI wv_3.To) rfl wz (ae (vI zone_2) wz rfl (ae (vI (w64 (zone_2*60000))) wz rfl (ae (vI (w64 (wv_3.To+(w64 (zone_2*60000))))) wz rfl (ae (vI (w64 ((w64 (wv_3.To+(w64 (zone_2*60000)))).tdiv 86400000))) wz rfl (ae (vI (w64 ((w64 ((w64 (wv_3.To+(w64 (zone_2*60000)))).tdiv 86400000))+1))) wz rfl (ae (vI (w64 ((w64 ((w64 (wv_3.To+(w64 (zone_2*60000)))).tdiv 86400000))+1))) wz rfl (aj ?_)))))))))))))))))))))))
   refine af (af (aa (ae (vI (w64 ((w64 ((w64 (wv_3.From+(w64 (zone_2*60000)))).tdiv 86400000))-2))) wz rfl (aH BG rfl 3 rfl wz (aA 0 0 il ft sz3 ag3 rfl rfl (vI e_1.First) rfl wz (ma (vI (jE (w64 ((w64 ((w64 (wv_3.From+(w64 (zone_2*60000)))).tdiv 86400000))-2)) e_1.First)) rfl (.inr rfl) wz (ae (vI (jE (w64 ((w64 ((w64 (wv_3.From+(w64 (zone_2*60000)))).tdiv 86400000))-2)) e_1.First)) wz rfl (aj (kg (λn_16 => ?_))))))))))
   obtain ⟨o_21,hj_22,hF⟩:=bind_some hF
   obtain ⟨nq_40,hj_22⟩:=bR hj_22
   refine aD (β:=((List Window)×Int)×Nm) (λp=>(λ(s_15:(List Window)×Int) (n_18:Nm)=>([(7,(gV n_18 2 s_15.1))]:SL_)) p.1 p.2) (λp=>(λ(s_15:(List Window)×Int) (n_18:Nm)=>([(n_4,some (.cells 13 [(vS e_1.Key),(vS e_1.Item),(vI e_1.Version),(vI e_1.First),(vI e_1.Last),(vI e_1.Every),(vI e_1.Days),(vL eI e_1.Except),(vI e_1.From),(vI e_1.To),(vI e_1.Prio),(vL eS e_1.Tags),(vB e_1.Gone)])),(n_5,some (.cells 2 [(vI wv_3.From),(vI wv_3.To)])),(n_18,gB 2 Window.enc s_15.1)]:Hp)) p.1 p.2) (λp=>o_21 = .go p.1) ?_ ?_
   ·refine ay (aS (β:=Nat×((List Window)×Int)×Nm) (λp=>(λ(k_10:Nat) (s_15:(List Window)×Int) (n_18:Nm)=>([(1,(vI zone_2)),(3,(.ref n_4 0 0)),(5,(.ref n_5 0 0)),(7,(gV n_18 2 s_15.1)),(9,(vI (w64 ((w64 ((w64 (wv_3.To+(w64 (zone_2*60000)))).tdiv 86400000))+1)))),(10,(vI s_15.2))]:SL_)) p.1 p.2.1 p.2.2) (λp=>(λ(k_10:Nat) (s_15:(List Window)×Int) (n_18:Nm)=>([(n_4,some (.cells 13 [(vS e_1.Key),(vS e_1.Item),(vI e_1.Version),(vI e_1.First),(vI e_1.Last),(vI e_1.Every),(vI e_1.Days),(vL eI e_1.Except),(vI e_1.From),(vI e_1.To),(vI e_1.Prio),(vL eS e_1.Tags),(vB e_1.Gone)])),(n_5,some (.cells 2 [(vI wv_3.From),(vI wv_3.To)])),(n_18,gB 2 Window.enc s_15.1)]:Hp)) p.1 p.2.1 p.2.2) (λp=>iterN (λs=>eH wv_3 zone_2 e_1 s) p.1 p.2.1=some o_21) (λp=>p.1) (nq_40,(([]:List Window),(jE (w64 ((w64 ((w64 (wv_3.From+(w64 (zone_2*60000)))).tdiv 86400000))-2)) e_1.First)),n_16) hj_22 rfl (aJ rfl) ?_)
    rintro ⟨k_10,s_15,n_18⟩ hL_20
    dsimp only at hL_20
    cases k_10 with
    | zero=>cases hL_20
    | succ k_10 =>
     obtain ⟨c_,hc_19,hL_20⟩:=bind_some hL_20
     unfold eH at hc_19
     refine af (af (aa (ae (vI s_15.2) wz rfl (ae (vI (w64 ((w64 ((w64 (wv_3.To+(w64 (zone_2*60000)))).tdiv 86400000))+1))) wz rfl (aH Cx rfl 4 rfl wz (aA 0 0 il ft sz3 ag3 rfl rfl (vI e_1.Last) rfl wz (ma (vI (lD (w64 ((w64 ((w64 (wv_3.To+(w64 (zone_2*60000)))).tdiv 86400000))+1)) e_1.Last)) rfl (.inl rfl) wz (ae (vB (decide (s_15.2<=(lD (w64 ((w64 ((w64 (wv_3.To+(w64 (zone_2*60000)))).tdiv 86400000))+1)) e_1.Last)))) wz rfl (aj ?_)))))))))
     rcases au hc_19 with⟨hc_23,hc_19⟩|⟨hc_23,hc_19⟩
     ·refine aC rfl hc_23 (ax (af (ay (af (af (aa (aA 0 0 il ft zi BD rfl rfl (.d (.agg (Entry.enc e_1))) rfl wz (ae (vI s_15.2) wz rfl ?_))))))))
      obtain ⟨r_24,hr_25,hc_19⟩:=bind_some hc_19
      refine aI (uE hr_25) rfl hb93 rfl rfl rfl rfl wz (ae (vB (!r_24)) wz rfl (aj ?_))
      rcases au hc_19 with⟨hc_26,hc_19⟩|⟨hc_26,hc_19⟩
      ·refine aC rfl hc_26 (aP (aa (ae (vI s_15.2) wz rfl (ae (vI (w64 (s_15.2+1))) wz rfl (ae (vI (w64 (s_15.2+1))) wz rfl (aj ?_))))))
       obtain rfl:=ah hc_19
       exact aO (k_10,(s_15.1,(w64 (s_15.2+1))),n_18) hL_20 (ls_ _) rfl (aJ rfl)
      ·refine aB rfl hc_26 (ax (af (aa (aA 0 0 il ft zi BD rfl rfl (.d (.agg (Entry.enc e_1))) rfl wz (ae (vI zone_2) wz rfl (ae (vI s_15.2) wz rfl ?_))))))
       obtain ⟨r_27,hr_28,hc_19⟩:=bind_some hc_19
       refine aI (tL hr_28) rfl hb94 rfl rfl rfl rfl wz (cK 0 (.inl rfl) z34 rfl wz (λn_29=>eD 0 il ft 3 lT rfl rfl [(vI r_27.From),(vI r_27.To)] rfl wz (aj (af ?_))))
       obtain ⟨v_30,h_31,hc_19⟩:=bind_some hc_19
       refine aD (β:=Unit) (λ_=>([(1,(vI zone_2)),(3,(.ref n_4 0 0)),(5,(.ref n_5 0 0)),(7,(gV n_18 2 s_15.1)),(9,(vI (w64 ((w64 ((w64 (wv_3.To+(w64 (zone_2*60000)))).tdiv 86400000))+1)))),(10,(vI s_15.2)),(11,(.ref n_29 0 0)),(66,(vB v_30))]:SL_)) (λ_=>([(n_4,some (.cells 13 [(vS e_1.Key),(vS e_1.Item),(vI e_1.Version),(vI e_1.First),(vI e_1.Last),(vI e_1.Every),(vI e_1.Days),(vL eI e_1.Except),(vI e_1.From),(vI e_1.To),(vI e_1.Prio),(vL eS e_1.Tags),(vB e_1.Gone)])),(n_5,some (.cells 2 [(vI wv_3.From),(vI wv_3.To)])),(n_18,gB 2 Window.enc s_15.1),(n_29,some (.cells 2 [(vI r_27.From),(vI r_27.To)]))]:Hp)) (λ_=>True) ?_ ?_
       ·refine aa (aH ib rfl 0 rfl wz (aA 0 3 il ft sz3 ag3 rfl rfl (vI r_27.From) rfl wz (aH iq rfl 1 rfl wz (aA 0 1 il ft sz3 ag3 rfl rfl (vI wv_3.To) rfl wz (ae (vB (decide (r_27.From<wv_3.To))) wz rfl ?_)))))
        rcases au h_31 with⟨hc_32,h_31⟩|⟨hc_32,h_31⟩
        ·refine aF rfl hc_32 wz (aH iq rfl 1 rfl wa (aA 0 3 il ft sz3 ag3 rfl rfl (vI r_27.To) rfl wa (aH ib rfl 0 rfl wa (aA 0 1 il ft sz3 ag3 rfl rfl (vI wv_3.From) rfl wa (ae (vB (decide (r_27.To>wv_3.From))) wa rfl (ae (vB (decide (r_27.To>wv_3.From))) wz rfl (aj ?_)))))))
         obtain rfl:=ah h_31
         exact cu
        ·refine aF rfl hc_32 wz (ak wa (ak wa (ak wa (ak wa (ak wa (ae (vB false) wz rfl (aj ?_)))))))
         obtain rfl:=ah h_31
         exact cu
       ·rintro ⟨⟩ _ sl_ H_ hp_ hq_
        refine aL _ hp_ hq_ ?_
        obtain ⟨v_33,h_34,hc_19⟩:=bind_some hc_19
        refine aD (β:=Nm) (λ(n_35:Nm)=>([(1,(vI zone_2)),(3,(.ref n_4 0 0)),(5,(.ref n_5 0 0)),(7,(gV n_35 2 v_33)),(9,(vI (w64 ((w64 ((w64 (wv_3.To+(w64 (zone_2*60000)))).tdiv 86400000))+1)))),(10,(vI s_15.2))]:SL_)) (λ(n_35:Nm)=>([(n_4,some (.cells 13 [(vS e_1.Key),(vS e_1.Item),(vI e_1.Version),(vI e_1.First),(vI e_1.Last),(vI e_1.Every),(vI e_1.Days),(vL eI e_1.Except),(vI e_1.From),(vI e_1.To),(vI e_1.Prio),(vL eS e_1.Tags),(vB e_1.Gone)])),(n_5,some (.cells 2 [(vI wv_3.From),(vI wv_3.To)])),(n_35,gB 2 Window.enc v_33),(n_29,some (.cells 2 [(vI r_27.From),(vI r_27.To)]))]:Hp)) (λ_=>True) ?_ ?_
        ·rcases au h_34 with⟨hc_36,h_34⟩|⟨hc_36,h_34⟩
         ·refine aC rfl hc_36 (aa (ae (gV n_18 2 s_15.1) wz rfl (aA 0 3 il ft lT qI rfl rfl (.d (.agg (Window.enc r_27))) rfl wz (dW (([r_27]:List Window).map Window.enc) MU ez78 rfl rfl rfl rfl rfl wz ?_))))
          obtain ⟨a_37,hz_38,h_34⟩:=bind_some h_34
          refine jS 0 il ft (i:=2) el78 el78 lT z34 rfl (by decide) by34 (by decide) (λ_=>rfl) rfl rfl rfl hz_38 wz (λn_39=>ae (gV n_39 2 a_37) wz rfl (aj ?_))
          obtain rfl:=ah h_34
          exact aN n_39 trivial rfl (aJ rfl)
         ·refine aB rfl hc_36 (ax ?_)
          obtain rfl:=ah h_34
          exact aN n_18 trivial rfl (aJ rfl)
        ·rintro n_35 _ sl_ H_ hp_ hq_
         refine aL _ hp_ hq_ (aa (ae (vI s_15.2) wz rfl (ae (vI (w64 (s_15.2+1))) wz rfl (ae (vI (w64 (s_15.2+1))) wz rfl (aj ?_)))))
         obtain rfl:=ah hc_19
         exact aO (k_10,(v_33,(w64 (s_15.2+1))),n_35) hL_20 (ls_ _) rfl (aJ rfl)
     ·refine aB rfl hc_23 (aP ?_)
      obtain rfl:=ah hc_19
      obtain rfl:=ah hL_20
      exact aN ((s_15.1,s_15.2),n_18) rfl rfl (aJ rfl)
   ·rintro ⟨s_15,n_18⟩ ho_ sl_ H_ hp_ hq_
    subst ho_
    refine aL _ hp_ hq_ (af (aa (ae (gV n_18 2 s_15.1) wz rfl (ae (gV n_18 2 s_15.1) wz rfl (aj (gJ 2 rfl (dJ 6 2 rfl rfl (dJ 7 2 rfl rfl (dJ 71 2 rfl rfl ?_)))))))))
    obtain rfl:=ah hF
    exact aG (aU (.inr rfl) [(vL Window.enc s_15.1)] ⟨rfl,trivial⟩ rfl rfl rfl)
theorem Be {l_1:(List Entry)} {p_2:Player} {wv_3:Window} {r:(List Span)} (hF:je l_1 p_2 wv_3=some r) :
  FnM Tryz.prog 39 [(vL Entry.enc l_1),(.d (.agg (Player.enc p_2))),(.d (.agg (Window.enc wv_3)))] [] (vL Span.enc r) []:=by
 refine FnM.of_wH ⟨Tryz.prog,47,[],[]⟩ rfl Tryz.func39 rfl rfl (lb_ rfl) (by kernel_rfl) ?_
 unfold je at hF
 refine af (aa (dL 0 (.inl rfl) [(vS p_2.Key),(vS p_2.Screen),(vI p_2.Zone),(vL eS p_2.Tags)] rfl rfl wz (λn_4=>dL 0 (.inl rfl) [(vI wv_3.From),(vI wv_3.To)] rfl rfl wz (λn_5=>ae .nil wz rfl (aj (af (aa (ae .nil wz rfl (aj (af (af (aa (ae (vL Entry.enc l_1) wz rfl (bW un31 rfl wz (ae (vI 0) wz rfl (aj (kg (λn_12 => ?_))))))))))))))))))
 obtain ⟨o_17,hj_18,hF⟩:=bind_some hF
 obtain ⟨hn_10,hj_18⟩:=aV hj_18
 refine aD (β:=((List Span))×Nm) (λp=>(λ(s_11:List Span) (n_14:Nm)=>([(7,(gV n_14 3 s_11))]:SL_)) p.1 p.2) (λp=>(λ(s_11:List Span) (n_14:Nm)=>([(n_4,some (.cells 4 [(vS p_2.Key),(vS p_2.Screen),(vI p_2.Zone),(vL eS p_2.Tags)])),(n_5,some (.cells 2 [(vI wv_3.From),(vI wv_3.To)])),(n_14,gB 3 Span.enc s_11)]:Hp)) p.1 p.2) (λp=>o_17 = .go p.1) ?_ ?_
 ·refine ay (aS (β:=Nat×(List Entry)×((List Span))×Nm) (λp=>(λ(k_6:Nat) (l_7:List Entry) (s_11:List Span) (n_14:Nm)=>([(0,(vL Entry.enc l_1)),(4,(.ref n_4 0 0)),(5,(.ref n_5 0 0)),(7,(gV n_14 3 s_11)),(12,(vI (l_1.length:Int))),(13,(vI (k_6:Int)))]:SL_)) p.1 p.2.1 p.2.2.1 p.2.2.2) (λp=>(λ(k_6:Nat) (l_7:List Entry) (s_11:List Span) (n_14:Nm)=>([(n_4,some (.cells 4 [(vS p_2.Key),(vS p_2.Screen),(vI p_2.Zone),(vL eS p_2.Tags)])),(n_5,some (.cells 2 [(vI wv_3.From),(vI wv_3.To)])),(n_14,gB 3 Span.enc s_11)]:Hp)) p.1 p.2.1 p.2.2.1 p.2.2.2) (λp=>forR (λk x s=>iE p_2 wv_3 l_1 k x s) p.2.1 p.1 p.2.2.1=some o_17/\(l_1).drop p.1=p.2.1) (λp=>p.2.1.length) (0,l_1,([]:List Span),n_12) ⟨hj_18,rfl⟩ rfl (aJ rfl) ?_)
  rintro ⟨k_6,l_7,s_11,n_14⟩ ⟨hL_16,hD_9⟩
  dsimp only at hL_16 hD_9
  cases l_7 with
  | nil =>
   obtain rfl:=ah hL_16
   refine af (aa (ae (vB (decide ((k_6:Int)<(l_1.length:Int)))) wz rfl (aj ?_)))
   refine af (aB rfl (drop_nil hD_9) (aP ?_))
   exact aN (s_11,n_14) rfl rfl (aJ rfl)
  | cons x_8 l_7 =>
   obtain ⟨c_,hc_15,hL_16⟩:=bind_some hL_16
   refine af (aa (ae (vB (decide ((k_6:Int)<(l_1.length:Int)))) wz rfl (aj ?_)))
   refine af (aC rfl (bf hD_9) (ax ?_))
   unfold iE at hc_15
   refine af (ay (af (aa (ae (vI (k_6:Int)) wz rfl (ae (vI (k_6:Int)) wz rfl (aj (af (af (aW (ae (vL Entry.enc l_1) wz rfl (ae (vI (k_6:Int)) wz rfl (dK F3 rfl rfl (bG hD_9) rfl wz (bB zi BD rfl (.d (.agg (Entry.enc x_8))) rfl wz (aA 4 0 (.inr (by kernel_rfl)) (λ_ _ ag=>trivial) F4 IE rfl rfl (.d (.agg (Player.enc p_2))) rfl wz ?_))))))))))))))
   obtain ⟨r_19,hr_20,hc_15⟩:=bind_some hc_15
   refine aI (vN hr_20) rfl hb77 rfl rfl rfl rfl wz (ae (vB (!r_19)) wz rfl (aj ?_))
   rcases au hc_15 with⟨hc_21,hc_15⟩|⟨hc_21,hc_15⟩
   ·refine aC rfl hc_21 (aP (aa (fu (bA hD_9 hn_10) wz rfl (ae (vI ((k_6+1:Nat):Int)) wz rfl (aj ?_)))))
    obtain rfl:=ah hc_15
    exact aO (k_6+1,l_7,s_11,n_14) ⟨hL_16,aR hD_9⟩ (ls_ _) rfl (aJ rfl)
   ·refine aB rfl hc_21 (ax (af (aW (ae (vL Entry.enc l_1) wz rfl (ae (vI (k_6:Int)) wz rfl (dK F3 rfl rfl (bG hD_9) rfl wz (bB zi BD rfl (.d (.agg (Entry.enc x_8))) rfl wz (aH Ls rfl 2 rfl wz (aA 5 0 (.inr (by kernel_rfl)) (λ_ _ ag=>trivial) sz3 ag3 rfl rfl (vI p_2.Zone) rfl wz (aA 6 1 (.inr (by kernel_rfl)) (λ_ _ ag=>⟨.inl ⟨rfl,rfl⟩,trivial⟩) lT qI rfl rfl (.d (.agg (Window.enc wv_3))) rfl wz ?_))))))))))
    obtain ⟨r_22,hr_23,hc_15⟩:=bind_some hc_15
    refine aI (uH hr_23) rfl hb55 rfl rfl rfl rfl wz (bW un78 rfl wz (ae (vI 0) wz rfl (aj ?_)))
    obtain ⟨o_34,hj_35,hc_15⟩:=bind_some hc_15
    obtain ⟨hn_28,hj_35⟩:=aV hj_35
    refine aD (β:=((List Span))×Nm) (λp=>(λ(s_29:List Span) (n_31:Nm)=>([(0,(vL Entry.enc l_1)),(4,(.ref n_4 0 0)),(5,(.ref n_5 0 0)),(7,(gV n_31 3 s_29)),(12,(vI (l_1.length:Int))),(13,(vI (k_6:Int)))]:SL_)) p.1 p.2) (λp=>(λ(s_29:List Span) (n_31:Nm)=>([(n_4,some (.cells 4 [(vS p_2.Key),(vS p_2.Screen),(vI p_2.Zone),(vL eS p_2.Tags)])),(n_5,some (.cells 2 [(vI wv_3.From),(vI wv_3.To)])),(n_31,gB 3 Span.enc s_29)]:Hp)) p.1 p.2) (λp=>o_34 = .go p.1) ?_ ?_
    ·refine ay (aS (β:=Nat×(List Window)×((List Span))×Nm) (λp=>(λ(k_24:Nat) (l_25:List Window) (s_29:List Span) (n_31:Nm)=>([(0,(vL Entry.enc l_1)),(4,(.ref n_4 0 0)),(5,(.ref n_5 0 0)),(7,(gV n_31 3 s_29)),(8,(vI (k_6:Int))),(12,(vI (l_1.length:Int))),(13,(vI (k_6:Int))),(30,(vL Window.enc r_22)),(31,(vI (r_22.length:Int))),(32,(vI (k_24:Int)))]:SL_)) p.1 p.2.1 p.2.2.1 p.2.2.2) (λp=>(λ(k_24:Nat) (l_25:List Window) (s_29:List Span) (n_31:Nm)=>([(n_4,some (.cells 4 [(vS p_2.Key),(vS p_2.Screen),(vI p_2.Zone),(vL eS p_2.Tags)])),(n_5,some (.cells 2 [(vI wv_3.From),(vI wv_3.To)])),(n_31,gB 3 Span.enc s_29)]:Hp)) p.1 p.2.1 p.2.2.1 p.2.2.2) (λp=>forR (λk x s=>iC l_1 k_6 k x s) p.2.1 p.1 p.2.2.1=some o_34/\(r_22).drop p.1=p.2.1) (λp=>p.2.1.length) (0,r_22,s_11,n_14) ⟨hj_35,rfl⟩ rfl (aJ rfl) ?_)
     rintro ⟨k_24,l_25,s_29,n_31⟩ ⟨hL_33,hD_27⟩
     dsimp only at hL_33 hD_27
     cases l_25 with
     | nil =>
      obtain rfl:=ah hL_33
      refine af (aa (ae (vB (decide ((k_24:Int)<(r_22.length:Int)))) wz rfl (aj ?_)))
      refine af (aB rfl (drop_nil hD_27) (aP ?_))
      exact aN (s_29,n_31) rfl rfl (aJ rfl)
     | cons x_26 l_25 =>
      obtain ⟨c_,hc_32,hL_33⟩:=bind_some hL_33
      refine af (aa (ae (vB (decide ((k_24:Int)<(r_22.length:Int)))) wz rfl (aj ?_)))
      refine af (aC rfl (bf hD_27) (ax ?_))
      unfold iC at hc_32
      refine af (ay (af (aa (dK MU rfl rfl (bG hD_27) rfl wz (bB lT qI rfl (.d (.agg (Window.enc x_26))) rfl wz (cK 0 (.inl rfl) z34 rfl wz (λn_36=>eD 0 il ft 3 lT rfl rfl [(vI x_26.From),(vI x_26.To)] rfl wz (aj (aW (ae (gV n_31 3 s_29) wz rfl (ae (vL Entry.enc l_1) wz rfl (ae (vI (k_6:Int)) wz rfl ?_))))))))))))
      obtain ⟨y_37,hy_38,hc_32⟩:=bind_some hc_32
      refine dK F3 rfl rfl hy_38 rfl wz (aA 4 3 (.inr (by kernel_rfl)) (λ_ _ ag=>trivial) lT qI rfl rfl (.d (.agg (Window.enc x_26))) rfl wz (ae (.d (.agg (Span.enc (⟨(some y_37),x_26⟩:Span)))) wz (by kernel_rfl) (dW (([(⟨(some y_37),x_26⟩:Span)]:List Span).map Span.enc) BL ez94 rfl rfl rfl rfl rfl wz ?_)))
      obtain ⟨a_39,hz_40,hc_32⟩:=bind_some hc_32
      refine jS 7 (.inr (by kernel_rfl)) (λ_ _ ag=>⟨.inr (.inr (by kernel_rfl)),trivial⟩) (i:=2) KL KL rP z99 rfl (by decide) by99 (by decide) (λ_=>rfl) rfl rfl rfl hz_40 wz (λn_41=>ae (gV n_41 3 a_39) wz rfl (aj (aa (fu (bA hD_27 hn_28) wz rfl (ae (vI ((k_24+1:Nat):Int)) wz rfl (aj ?_))))))
      obtain rfl:=ah hc_32
      exact aO (k_24+1,l_25,a_39,n_41) ⟨hL_33,aR hD_27⟩ (ls_ _) rfl (aJ rfl)
    ·rintro ⟨s_29,n_31⟩ ho_ sl_ H_ hp_ hq_
     subst ho_
     refine aL _ hp_ hq_ (aa (fu (bA hD_9 hn_10) wz rfl (ae (vI ((k_6+1:Nat):Int)) wz rfl (aj ?_))))
     obtain rfl:=ah hc_15
     exact aO (k_6+1,l_7,s_29,n_31) ⟨hL_16,aR hD_9⟩ (ls_ _) rfl (aJ rfl)
 ·rintro ⟨s_11,n_14⟩ ho_ sl_ H_ hp_ hq_
  subst ho_
  refine aL _ hp_ hq_ (af (aa (ae (gV n_14 3 s_11) wz rfl (ae (gV n_14 3 s_11) wz rfl (aj (gJ 2 rfl (dJ 6 2 rfl rfl (dJ 7 2 rfl rfl (dJ 46 2 rfl rfl ?_)))))))))
  obtain rfl:=ah hF
  exact aG (aU (.inr rfl) [(vL Span.enc s_11)] ⟨rfl,trivial⟩ rfl rfl rfl)
theorem xz {a_1:Span} {b_2:Span} {r:Int} (hF:iY a_1 b_2=some r) :
  FnM Tryz.prog 41 [(.d (.agg (Span.enc a_1))),(.d (.agg (Span.enc b_2)))] [] (vI r) []:=by
 refine FnM.of_wH ⟨Tryz.prog,12,[],[]⟩ rfl Tryz.func41 rfl rfl (lb_ rfl) (by kernel_rfl) ?_
 unfold iY at hF
 refine af (aa (dL 0 (.inl rfl) [(.d (dP Entry.enc a_1.f_e)),(vI a_1.f_time.From),(vI a_1.f_time.To)] rfl (cZ (oH _ _) (cZ rfl (cZ rfl rfl))) wz (λn_3=>dL 0 (.inl rfl) [(.d (dP Entry.enc b_2.f_e)),(vI b_2.f_time.From),(vI b_2.f_time.To)] rfl (cZ (oH _ _) (cZ rfl (cZ rfl rfl))) wz (λn_4=>ae (vI 0) wz rfl (aj (af (aa (aH Ai rfl 1 rfl wz (aH ib rfl 1 rfl wz (aA 0 0 il ft sz3 ag3 rfl rfl (vI a_1.f_time.From) rfl wz (aH Ai rfl 1 rfl wz (aH ib rfl 1 rfl wz (aA 0 1 il ft sz3 ag3 rfl rfl (vI b_2.f_time.From) rfl wz ?_)))))))))))))
 obtain ⟨r_5,hr_6,hF⟩:=bind_some hF
 refine aI (gM hr_6) rfl Lu rfl rfl rfl rfl wz (ae (vI r_5) wz rfl (aj ?_))
 obtain rfl:=ah hF
 exact aG (aU (.inr rfl) [(vI r_5)] ⟨rfl,trivial⟩ rfl rfl rfl)
theorem nV {x r:(List Span)} (hF:ic x=some r) :
  FnM Tryz.prog 40 [(dV (av 0) 3 x),(.fn 41 [])] (([]:List Box)++gI 3 Span.enc x) (.tup []) (([]:List Box).map some++gT x (gB 3 Span.enc r)) :=
 NG (E:=Span.enc) (F:=λa b=>iY a b) rfl (λ_=>rfl) (λa b r h=>xz h) hb41 (λβ _ enc hk h1 cf hO g cb blk off cap d w eg hcmp hH hblk hsz=>Tryz.slices_SortFunc_eq_f40 3 Tryz.isAgg99 Tryz.sizeOf99 enc hk h1 cf hO g cb blk off cap d w eg hcmp hH hblk hsz) (λp cap fv w=>Tryz.slices_SortFunc_none_f40 (α:=Nat) p cap fv w) hF
theorem Ak {l_1:(List Entry)} {p_2:Player} {wv_3:Window} {r:(List Span)} (hF:je l_1 p_2 wv_3=some r) :
  FnM Tryz.prog 39 [(vL Entry.enc l_1),(.d (.agg (Player.enc p_2))),(.d (.agg (Window.enc wv_3)))] [] (gV (av 0) 3 r) (([]:List Box).map some++gO 3 Span.enc r):=by
 refine FnM.of_wH ⟨Tryz.prog,47,[],[]⟩ rfl Tryz.func39 rfl rfl (lb_ rfl) (by kernel_rfl) ?_
 unfold je at hF
 refine af (aa (dL 0 (.inl rfl) [(vS p_2.Key),(vS p_2.Screen),(vI p_2.Zone),(vL eS p_2.Tags)] rfl rfl wz (λn_4=>dL 0 (.inl rfl) [(vI wv_3.From),(vI wv_3.To)] rfl rfl wz (λn_5=>ae .nil wz rfl (aj (af (aa (ae .nil wz rfl (aj (af (af (aa (ae (vL Entry.enc l_1) wz rfl (bW un31 rfl wz (ae (vI 0) wz rfl (aj (kg (λn_12 => ?_))))))))))))))))))
 obtain ⟨o_17,hj_18,hF⟩:=bind_some hF
 obtain ⟨hn_10,hj_18⟩:=aV hj_18
 refine aD (β:=((List Span))×Nm) (λp=>(λ(s_11:List Span) (n_14:Nm)=>([(7,(gV n_14 3 s_11))]:SL_)) p.1 p.2) (λp=>(λ(s_11:List Span) (n_14:Nm)=>([(n_4,some (.cells 4 [(vS p_2.Key),(vS p_2.Screen),(vI p_2.Zone),(vL eS p_2.Tags)])),(n_5,some (.cells 2 [(vI wv_3.From),(vI wv_3.To)])),(n_14,gB 3 Span.enc s_11)]:Hp)) p.1 p.2) (λp=>o_17 = .go p.1) ?_ ?_
 ·refine ay (aS (β:=Nat×(List Entry)×((List Span))×Nm) (λp=>(λ(k_6:Nat) (l_7:List Entry) (s_11:List Span) (n_14:Nm)=>([(0,(vL Entry.enc l_1)),(4,(.ref n_4 0 0)),(5,(.ref n_5 0 0)),(7,(gV n_14 3 s_11)),(12,(vI (l_1.length:Int))),(13,(vI (k_6:Int)))]:SL_)) p.1 p.2.1 p.2.2.1 p.2.2.2) (λp=>(λ(k_6:Nat) (l_7:List Entry) (s_11:List Span) (n_14:Nm)=>([(n_4,some (.cells 4 [(vS p_2.Key),(vS p_2.Screen),(vI p_2.Zone),(vL eS p_2.Tags)])),(n_5,some (.cells 2 [(vI wv_3.From),(vI wv_3.To)])),(n_14,gB 3 Span.enc s_11)]:Hp)) p.1 p.2.1 p.2.2.1 p.2.2.2) (λp=>forR (λk x s=>iE p_2 wv_3 l_1 k x s) p.2.1 p.1 p.2.2.1=some o_17/\(l_1).drop p.1=p.2.1) (λp=>p.2.1.length) (0,l_1,([]:List Span),n_12) ⟨hj_18,rfl⟩ rfl (aJ rfl) ?_)
  rintro ⟨k_6,l_7,s_11,n_14⟩ ⟨hL_16,hD_9⟩
  dsimp only at hL_16 hD_9
  cases l_7 with
  | nil =>
   obtain rfl:=ah hL_16
   refine af (aa (ae (vB (decide ((k_6:Int)<(l_1.length:Int)))) wz rfl (aj ?_)))
   refine af (aB rfl (drop_nil hD_9) (aP ?_))
   exact aN (s_11,n_14) rfl rfl (aJ rfl)
  | cons x_8 l_7 =>
   obtain ⟨c_,hc_15,hL_16⟩:=bind_some hL_16
   refine af (aa (ae (vB (decide ((k_6:Int)<(l_1.length:Int)))) wz rfl (aj ?_)))
   refine af (aC rfl (bf hD_9) (ax ?_))
   unfold iE at hc_15
   refine af (ay (af (aa (ae (vI (k_6:Int)) wz rfl (ae (vI (k_6:Int)) wz rfl (aj (af (af (aW (ae (vL Entry.enc l_1) wz rfl (ae (vI (k_6:Int)) wz rfl (dK F3 rfl rfl (bG hD_9) rfl wz (bB zi BD rfl (.d (.agg (Entry.enc x_8))) rfl wz (aA 4 0 (.inr (by kernel_rfl)) (λ_ _ ag=>trivial) F4 IE rfl rfl (.d (.agg (Player.enc p_2))) rfl wz ?_))))))))))))))
   obtain ⟨r_19,hr_20,hc_15⟩:=bind_some hc_15
   refine aI (vN hr_20) rfl hb77 rfl rfl rfl rfl wz (ae (vB (!r_19)) wz rfl (aj ?_))
   rcases au hc_15 with⟨hc_21,hc_15⟩|⟨hc_21,hc_15⟩
   ·refine aC rfl hc_21 (aP (aa (fu (bA hD_9 hn_10) wz rfl (ae (vI ((k_6+1:Nat):Int)) wz rfl (aj ?_)))))
    obtain rfl:=ah hc_15
    exact aO (k_6+1,l_7,s_11,n_14) ⟨hL_16,aR hD_9⟩ (ls_ _) rfl (aJ rfl)
   ·refine aB rfl hc_21 (ax (af (aW (ae (vL Entry.enc l_1) wz rfl (ae (vI (k_6:Int)) wz rfl (dK F3 rfl rfl (bG hD_9) rfl wz (bB zi BD rfl (.d (.agg (Entry.enc x_8))) rfl wz (aH Ls rfl 2 rfl wz (aA 5 0 (.inr (by kernel_rfl)) (λ_ _ ag=>trivial) sz3 ag3 rfl rfl (vI p_2.Zone) rfl wz (aA 6 1 (.inr (by kernel_rfl)) (λ_ _ ag=>⟨.inl ⟨rfl,rfl⟩,trivial⟩) lT qI rfl rfl (.d (.agg (Window.enc wv_3))) rfl wz ?_))))))))))
    obtain ⟨r_22,hr_23,hc_15⟩:=bind_some hc_15
    refine aI (uH hr_23) rfl hb55 rfl rfl rfl rfl wz (bW un78 rfl wz (ae (vI 0) wz rfl (aj ?_)))
    obtain ⟨o_34,hj_35,hc_15⟩:=bind_some hc_15
    obtain ⟨hn_28,hj_35⟩:=aV hj_35
    refine aD (β:=((List Span))×Nm) (λp=>(λ(s_29:List Span) (n_31:Nm)=>([(0,(vL Entry.enc l_1)),(4,(.ref n_4 0 0)),(5,(.ref n_5 0 0)),(7,(gV n_31 3 s_29)),(12,(vI (l_1.length:Int))),(13,(vI (k_6:Int)))]:SL_)) p.1 p.2) (λp=>(λ(s_29:List Span) (n_31:Nm)=>([(n_4,some (.cells 4 [(vS p_2.Key),(vS p_2.Screen),(vI p_2.Zone),(vL eS p_2.Tags)])),(n_5,some (.cells 2 [(vI wv_3.From),(vI wv_3.To)])),(n_31,gB 3 Span.enc s_29)]:Hp)) p.1 p.2) (λp=>o_34 = .go p.1) ?_ ?_
    ·refine ay (aS (β:=Nat×(List Window)×((List Span))×Nm) (λp=>(λ(k_24:Nat) (l_25:List Window) (s_29:List Span) (n_31:Nm)=>([(0,(vL Entry.enc l_1)),(4,(.ref n_4 0 0)),(5,(.ref n_5 0 0)),(7,(gV n_31 3 s_29)),(8,(vI (k_6:Int))),(12,(vI (l_1.length:Int))),(13,(vI (k_6:Int))),(30,(vL Window.enc r_22)),(31,(vI (r_22.length:Int))),(32,(vI (k_24:Int)))]:SL_)) p.1 p.2.1 p.2.2.1 p.2.2.2) (λp=>(λ(k_24:Nat) (l_25:List Window) (s_29:List Span) (n_31:Nm)=>([(n_4,some (.cells 4 [(vS p_2.Key),(vS p_2.Screen),(vI p_2.Zone),(vL eS p_2.Tags)])),(n_5,some (.cells 2 [(vI wv_3.From),(vI wv_3.To)])),(n_31,gB 3 Span.enc s_29)]:Hp)) p.1 p.2.1 p.2.2.1 p.2.2.2) (λp=>forR (λk x s=>iC l_1 k_6 k x s) p.2.1 p.1 p.2.2.1=some o_34/\(r_22).drop p.1=p.2.1) (λp=>p.2.1.length) (0,r_22,s_11,n_14) ⟨hj_35,rfl⟩ rfl (aJ rfl) ?_)
     rintro ⟨k_24,l_25,s_29,n_31⟩ ⟨hL_33,hD_27⟩
     dsimp only at hL_33 hD_27
     cases l_25 with
     | nil =>
      obtain rfl:=ah hL_33
      refine af (aa (ae (vB (decide ((k_24:Int)<(r_22.length:Int)))) wz rfl (aj ?_)))
      refine af (aB rfl (drop_nil hD_27) (aP ?_))
      exact aN (s_29,n_31) rfl rfl (aJ rfl)
     | cons x_26 l_25 =>
      obtain ⟨c_,hc_32,hL_33⟩:=bind_some hL_33
      refine af (aa (ae (vB (decide ((k_24:Int)<(r_22.length:Int)))) wz rfl (aj ?_)))
      refine af (aC rfl (bf hD_27) (ax ?_))
      unfold iC at hc_32
      refine af (ay (af (aa (dK MU rfl rfl (bG hD_27) rfl wz (bB lT qI rfl (.d (.agg (Window.enc x_26))) rfl wz (cK 0 (.inl rfl) z34 rfl wz (λn_36=>eD 0 il ft 3 lT rfl rfl [(vI x_26.From),(vI x_26.To)] rfl wz (aj (aW (ae (gV n_31 3 s_29) wz rfl (ae (vL Entry.enc l_1) wz rfl (ae (vI (k_6:Int)) wz rfl ?_))))))))))))
      obtain ⟨y_37,hy_38,hc_32⟩:=bind_some hc_32
      refine dK F3 rfl rfl hy_38 rfl wz (aA 4 3 (.inr (by kernel_rfl)) (λ_ _ ag=>trivial) lT qI rfl rfl (.d (.agg (Window.enc x_26))) rfl wz (ae (.d (.agg (Span.enc (⟨(some y_37),x_26⟩:Span)))) wz (by kernel_rfl) (dW (([(⟨(some y_37),x_26⟩:Span)]:List Span).map Span.enc) BL ez94 rfl rfl rfl rfl rfl wz ?_)))
      obtain ⟨a_39,hz_40,hc_32⟩:=bind_some hc_32
      refine jS 7 (.inr (by kernel_rfl)) (λ_ _ ag=>⟨.inr (.inr (by kernel_rfl)),trivial⟩) (i:=2) KL KL rP z99 rfl (by decide) by99 (by decide) (λ_=>rfl) rfl rfl rfl hz_40 wz (λn_41=>ae (gV n_41 3 a_39) wz rfl (aj (aa (fu (bA hD_27 hn_28) wz rfl (ae (vI ((k_24+1:Nat):Int)) wz rfl (aj ?_))))))
      obtain rfl:=ah hc_32
      exact aO (k_24+1,l_25,a_39,n_41) ⟨hL_33,aR hD_27⟩ (ls_ _) rfl (aJ rfl)
    ·rintro ⟨s_29,n_31⟩ ho_ sl_ H_ hp_ hq_
     subst ho_
     refine aL _ hp_ hq_ (aa (fu (bA hD_9 hn_10) wz rfl (ae (vI ((k_6+1:Nat):Int)) wz rfl (aj ?_))))
     obtain rfl:=ah hc_15
     exact aO (k_6+1,l_7,s_29,n_31) ⟨hL_16,aR hD_9⟩ (ls_ _) rfl (aJ rfl)
 ·rintro ⟨s_11,n_14⟩ ho_ sl_ H_ hp_ hq_
  subst ho_
  refine aL _ hp_ hq_ (af (aa (ae (gV n_14 3 s_11) wz rfl (ae (gV n_14 3 s_11) wz rfl (aj ?_)))))
  obtain rfl:=ah hF
  exact aG (finG (outs:=([]:List Box)) (.inr rfl) 2 rfl rfl rfl (by kernel_rfl) (by kernel_rfl))
theorem xw {t_1:Window} {wv_2:Window} {r:Window} (hF:sw t_1 wv_2=some r) :
  FnM Tryz.prog 56 [(.d (.agg (Window.enc t_1))),(.d (.agg (Window.enc wv_2)))] [] (.d (.agg (Window.enc r))) []:=by
 refine FnM.of_wH ⟨Tryz.prog,16,[],[]⟩ rfl Tryz.func56 rfl rfl (lb_ rfl) (by kernel_rfl) ?_
 unfold sw at hF
 refine af (aa (dL 0 (.inl rfl) [(vI t_1.From),(vI t_1.To)] rfl rfl wz (λn_3=>dL 0 (.inl rfl) [(vI wv_2.From),(vI wv_2.To)] rfl rfl wz (λn_4=>cK 0 (.inl rfl) z34 rfl wz (λn_5=>aj (af (aa (aH ib rfl 0 rfl wz (aA 0 0 il ft sz3 ag3 rfl rfl (vI t_1.From) rfl wz (aH ib rfl 0 rfl wz (aA 0 1 il ft sz3 ag3 rfl rfl (vI wv_2.From) rfl wz (ma (vI (jE t_1.From wv_2.From)) rfl (.inr rfl) wz (aH iq rfl 1 rfl wz (aA 0 0 il ft sz3 ag3 rfl rfl (vI t_1.To) rfl wz (aH iq rfl 1 rfl wz (aA 0 1 il ft sz3 ag3 rfl rfl (vI wv_2.To) rfl wz (ma (vI (lD t_1.To wv_2.To)) rfl (.inl rfl) wz (ae (.d (.agg (Window.enc (⟨(jE t_1.From wv_2.From),(lD t_1.To wv_2.To)⟩:Window)))) wz (by kernel_rfl) (eD 0 il ft 2 lT rfl rfl [(vI (jE t_1.From wv_2.From)),(vI (lD t_1.To wv_2.To))] rfl wz (aj ?_))))))))))))))))))))
 obtain rfl:=ah hF
 exact aG (aU (.inr rfl) [(.d (.agg (Window.enc (⟨(jE t_1.From wv_2.From),(lD t_1.To wv_2.To)⟩:Window))))] ⟨⟨2,_,_,_,_,_,_,_,rfl,rfl,lT,qI,rfl⟩,trivial⟩ rfl rfl rfl)
theorem Bc {l_1:(List Entry)} {p_2:Player} {wv_3:Window} {r:(List Int)} (hF:mR l_1 p_2 wv_3=some r) :
  FnM Tryz.prog 43 [(vL Entry.enc l_1),(.d (.agg (Player.enc p_2))),(.d (.agg (Window.enc wv_3)))] [] (vL eI r) []:=by
 refine FnM.of_wH ⟨Tryz.prog,41,[15],[]⟩ rfl Tryz.func43 rfl rfl (lb_ rfl) (by kernel_rfl) ?_
 unfold mR at hF
 refine af (aa (dL 0 (.inl rfl) [(vS p_2.Key),(vS p_2.Screen),(vI p_2.Zone),(vL eS p_2.Tags)] rfl rfl wz (λn_4=>dL 0 (.inl rfl) [(vI wv_3.From),(vI wv_3.To)] rfl rfl wz (λn_5=>ae .nil wz rfl (aj (af (aa (aH ib rfl 0 rfl wz (aA 0 1 il ft sz3 ag3 rfl rfl (vI wv_3.From) rfl wz (aH iq rfl 1 rfl wz (aA 0 1 il ft sz3 ag3 rfl rfl (vI wv_3.To) rfl wz (Px 0 (.inl rfl) (([wv_3.From,wv_3.To]:List Int).map eI) jf uh rfl rfl rfl rfl rfl wz (λn_6=>ae (vV n_6 1 ([wv_3.From,wv_3.To]:List Int)) wz rfl (aj (af (af (aa (ae (vL Entry.enc l_1) wz rfl (aA 0 0 il ft F4 IE rfl rfl (.d (.agg (Player.enc p_2))) rfl wz (aA 0 1 il ft lT qI rfl rfl (.d (.agg (Window.enc wv_3))) rfl wz ?_))))))))))))))))))))
 obtain ⟨r_7,hr_8,hF⟩:=bind_some hF
 refine aI (Be hr_8) rfl hb39 rfl rfl rfl rfl wz (bW Ee rfl wz (ae (vI 0) wz rfl (aj ?_)))
 obtain ⟨o_19,hj_20,hF⟩:=bind_some hF
 obtain ⟨hn_13,hj_20⟩:=aV hj_20
 refine aD (β:=((List Int))×Nm) (λp=>(λ(s_14:List Int) (n_16:Nm)=>([(7,(vV n_16 1 s_14))]:SL_)) p.1 p.2) (λp=>(λ(s_14:List Int) (n_16:Nm)=>([(n_4,some (.cells 4 [(vS p_2.Key),(vS p_2.Screen),(vI p_2.Zone),(vL eS p_2.Tags)])),(n_5,some (.cells 2 [(vI wv_3.From),(vI wv_3.To)])),(n_16,some (bV 1 eI s_14))]:Hp)) p.1 p.2) (λp=>o_19 = .go p.1) ?_ ?_
 ·refine ay (aS (β:=Nat×(List Span)×((List Int))×Nm) (λp=>(λ(k_9:Nat) (l_10:List Span) (s_14:List Int) (n_16:Nm)=>([(5,(.ref n_5 0 0)),(7,(vV n_16 1 s_14)),(19,(vL Span.enc r_7)),(20,(vI (r_7.length:Int))),(21,(vI (k_9:Int)))]:SL_)) p.1 p.2.1 p.2.2.1 p.2.2.2) (λp=>(λ(k_9:Nat) (l_10:List Span) (s_14:List Int) (n_16:Nm)=>([(n_4,some (.cells 4 [(vS p_2.Key),(vS p_2.Screen),(vI p_2.Zone),(vL eS p_2.Tags)])),(n_5,some (.cells 2 [(vI wv_3.From),(vI wv_3.To)])),(n_16,some (bV 1 eI s_14))]:Hp)) p.1 p.2.1 p.2.2.1 p.2.2.2) (λp=>forR (λk x s=>kI wv_3 k x s) p.2.1 p.1 p.2.2.1=some o_19/\(r_7).drop p.1=p.2.1) (λp=>p.2.1.length) (0,r_7,([wv_3.From,wv_3.To]:List Int),n_6) ⟨hj_20,rfl⟩ rfl (aJ rfl) ?_)
  rintro ⟨k_9,l_10,s_14,n_16⟩ ⟨hL_18,hD_12⟩
  dsimp only at hL_18 hD_12
  cases l_10 with
  | nil =>
   obtain rfl:=ah hL_18
   refine af (aa (ae (vB (decide ((k_9:Int)<(r_7.length:Int)))) wz rfl (aj ?_)))
   refine af (aB rfl (drop_nil hD_12) (aP ?_))
   exact aN (s_14,n_16) rfl rfl (aJ rfl)
  | cons x_11 l_10 =>
   obtain ⟨c_,hc_17,hL_18⟩:=bind_some hL_18
   refine af (aa (ae (vB (decide ((k_9:Int)<(r_7.length:Int)))) wz rfl (aj ?_)))
   refine af (aC rfl (bf hD_12) (ax ?_))
   unfold kI at hc_17
   refine af (ay (af (aa (dK BL rfl rfl (bG hD_12) rfl wz (bB rP Ck rfl (.d (.agg (Span.enc x_11))) rfl wz (cK 0 (.inl rfl) z99 rfl wz (λn_21=>eD 0 il ft 3 rP rfl rfl [(.d (dP Entry.enc x_11.f_e)),(vI x_11.f_time.From),(vI x_11.f_time.To)] (AP rfl (cZ (oH _ _) (cZ rfl (cZ rfl rfl))) rfl rfl) wz (aj (af (aa (aH Ai rfl 1 rfl wz (aA 0 3 il ft lT qI rfl rfl (.d (.agg (Window.enc x_11.f_time))) rfl wz (aA 0 1 il ft lT qI rfl rfl (.d (.agg (Window.enc wv_3))) rfl wz ?_)))))))))))))
   obtain ⟨r_22,hr_23,hc_17⟩:=bind_some hc_17
   refine aI (xw hr_23) rfl hb56 rfl rfl rfl rfl wz (cK 0 (.inl rfl) z34 rfl wz (λn_24=>eD 0 il ft 4 lT rfl rfl [(vI r_22.From),(vI r_22.To)] rfl wz (aj (aa (ae (vV n_16 1 s_14) wz rfl (aH ib rfl 0 rfl wz (aA 0 4 il ft sz3 ag3 rfl rfl (vI r_22.From) rfl wz (aH iq rfl 1 rfl wz (aA 0 4 il ft sz3 ag3 rfl rfl (vI r_22.To) rfl wz (dW (([r_22.From,r_22.To]:List Int).map eI) jf uh rfl rfl rfl rfl rfl wz ?_))))))))))
   obtain ⟨a_25,hz_26,hc_17⟩:=bind_some hc_17
   refine K6 0 il ft (i:=2) DY DY sz3 z3 rfl (by decide) by3 (by decide) (λ_=>rfl) rfl rfl rfl hz_26 wz (λn_27=>ae (vV n_27 1 a_25) wz rfl (aj (aa (fu (bA hD_12 hn_13) wz rfl (ae (vI ((k_9+1:Nat):Int)) wz rfl (aj ?_))))))
   obtain rfl:=ah hc_17
   exact aO (k_9+1,l_10,a_25,n_27) ⟨hL_18,aR hD_12⟩ (ls_ _) rfl (aJ rfl)
 ·rintro ⟨s_14,n_16⟩ ho_ sl_ H_ hp_ hq_
  subst ho_
  refine aL _ hp_ hq_ (af (aa (ae (vV n_16 1 s_14) wz rfl ?_)))
  obtain ⟨_,hn_28,hF⟩:=bind_some hF
  replace hn_28:=IY hn_28
  refine GY 2 rfl (Bp hn_28).symm (dn (v':=(gV n_16 1 s_14)) 37 rfl (Mm hn_28) (dn (v':=(gV n_16 1 s_14)) 7 rfl (Mm hn_28) ?_))
  obtain ⟨r_29,hr_30,hF⟩:=bind_some hF
  obtain ⟨_,hs_31,hF⟩:=bind_some hF
  replace hs_31:=lm hs_31
  refine kw 0 [] 2 0 il ft (jZ hr_30) rfl hb33 rfl rfl rfl (by kernel_rfl) rfl (.inl rfl) rfl (by kernel_rfl) (by kernel_rfl) (by kernel_rfl) (by kernel_rfl) rfl (by decide) (by kernel_rfl) kX (uC hs_31) wz ([(n_4,some (.cells 4 [(vS p_2.Key),(vS p_2.Screen),(vI p_2.Zone),(vL eS p_2.Tags)])),(n_5,some (.cells 2 [(vI wv_3.From),(vI wv_3.To)])),(n_16,gB 1 eI r_29)]:Hp) (by kernel_rfl) (dn (v':=(gV n_16 1 r_29)) 37 rfl (iK hs_31.symm) (dn (v':=(gV n_16 1 r_29)) 7 rfl (iK hs_31.symm) (aj (af (aa (ae (gV n_16 1 r_29) wz rfl ?_))))))
  obtain ⟨r_32,hr_33,hF⟩:=bind_some hF
  refine kw 0 [] 2 0 il ft (jl hr_33) rfl hb34 rfl rfl rfl (by kernel_rfl) rfl (.inl rfl) rfl (by kernel_rfl) (by kernel_rfl) (by kernel_rfl) (by kernel_rfl) rfl (by decide) (by kernel_rfl) yV (λ_=>rfl) wz ([(n_4,some (.cells 4 [(vS p_2.Key),(vS p_2.Screen),(vI p_2.Zone),(vL eS p_2.Tags)])),(n_5,some (.cells 2 [(vI wv_3.From),(vI wv_3.To)])),(n_16,none)]:Hp) (by kernel_rfl) (ae (vL eI r_32) wz rfl (aj ?_))
  obtain rfl:=ah hF
  exact aG (aU (.inr rfl) [(vL eI r_32)] ⟨rfl,trivial⟩ rfl rfl rfl)
theorem mG {s_1:Span} {p_2:(List Int)} {p_3:Int} {r:Bool} (hF:fK s_1 p_2 p_3=some r) :
  FnM Tryz.prog 45 [(.d (.agg (Span.enc s_1))),(.ref (av 0) 0 0),(.ref (av 1) 0 0)] [(.cells 1 [(vL eI p_2)]),(.cells 1 [(vI p_3)])] (vB r) [some (.cells 1 [(vL eI p_2)]),some (.cells 1 [(vI p_3)])]:=by
 refine FnM.of_wH ⟨Tryz.prog,13,[],[]⟩ rfl Tryz.func45 rfl rfl (lb_ rfl) (by kernel_rfl) ?_
 unfold fK at hF
 refine af (aa (dL 0 (.inl rfl) [(.d (dP Entry.enc s_1.f_e)),(vI s_1.f_time.From),(vI s_1.f_time.To)] rfl (cZ (oH _ _) (cZ rfl (cZ rfl rfl))) wz (λn_4=>ae (vB false) wz rfl (aj (af (aW (aH Ai rfl 1 rfl wz (aH iq rfl 2 rfl wz (aA 2 2 (.inr (by kernel_rfl)) (λ_ _ ag=>trivial) sz3 ag3 rfl rfl (vI s_1.f_time.To) rfl wz (aA 3 0 (.inr (by kernel_rfl)) (λ_ _ ag=>⟨.inl ⟨rfl,rfl⟩,trivial⟩) zK BI rfl rfl (vL eI p_2) rfl wz (aA 4 1 (.inr (by kernel_rfl)) (λ_ _ ag=>⟨.inl ⟨rfl,rfl⟩,⟨.inl ⟨rfl,rfl⟩,trivial⟩⟩) sz3 ag3 rfl rfl (vI p_3) rfl wz ?_)))))))))))
 obtain ⟨y_5,hy_6,hF⟩:=bind_some hF
 refine dK jf rfl rfl hy_6 rfl wz (bB sz3 ag3 rfl (vI y_5) rfl wz (ae (vB (decide (s_1.f_time.To<=y_5))) wz rfl (ae (vB (decide (s_1.f_time.To<=y_5))) wz rfl (aj ?_))))
 obtain rfl:=ah hF
 exact aG (wE (.inr rfl) [(vB (decide (s_1.f_time.To<=y_5)))] _ [0,1] [av 0,av 1] ⟨rfl,trivial⟩ (.cons (jF rfl rfl) (.nil)) (by kernel_rfl) ⟨(by kernel_rfl),⟨(by kernel_rfl),trivial⟩⟩ (by decide) (by kernel_rfl))
theorem jP {s_1:(List Span)} {f2_3:(List Int)} {f2_4:Int} {r:Int} (hF:dR s_1 f2_3 f2_4=some r) :
  FnM Tryz.prog 80 [(vV (av 2) 3 s_1),(.fn 45 [(.ref (av 0) 0 0),(.ref (av 1) 0 0)])] (([(.cells 1 [(vL eI f2_3)]),(.cells 1 [(vI f2_4)])]:List Box)++[(bV 3 Span.enc s_1)]) (vI r) ((([(.cells 1 [(vL eI f2_3)]),(.cells 1 [(vI f2_4)])]:List Box)).map some++[some (bV 3 Span.enc s_1)]):=by
 refine FnM.of_wH ⟨Tryz.prog,19,[],[]⟩ rfl Tryz.func80 rfl rfl (lb_ rfl) (by kernel_rfl) ?_
 unfold dR at hF
 refine af (aa (ae (vI 0) wz rfl (aj (af (af (aa (ae (vV (av 2) 3 s_1) wz rfl (Ie Ee rfl wz (ae (vI 0) wz rfl (aj ?_))))))))))
 obtain ⟨o_13,hj_14,hF⟩:=bind_some hF
 obtain ⟨hn_9,hj_14⟩:=aV hj_14
 refine aD (β:=(Unit)) (λ(s_10:Unit)=>([]:SL_)) (λ(s_10:Unit)=>([((av 0),some (.cells 1 [(vL eI f2_3)])),((av 1),some (.cells 1 [(vI f2_4)])),((av 2),some (bV 3 Span.enc s_1))]:Hp)) (λp=>o_13 = .go p) ?_ ?_
 ·refine ay (aS (β:=Nat×(List Nat)×(Unit)) (λp=>(λ(k_5:Nat) (l_6:List Nat) (s_10:Unit)=>([(0,(vV (av 2) 3 s_1)),(1,(.fn 45 [(.ref (av 0) 0 0),(.ref (av 1) 0 0)])),(7,(vI (s_1.length:Int))),(8,(vI (k_5:Int)))]:SL_)) p.1 p.2.1 p.2.2) (λp=>(λ(k_5:Nat) (l_6:List Nat) (s_10:Unit)=>([((av 0),some (.cells 1 [(vL eI f2_3)])),((av 1),some (.cells 1 [(vI f2_4)])),((av 2),some (bV 3 Span.enc s_1))]:Hp)) p.1 p.2.1 p.2.2) (λp=>forR (λk x s=>dI s_1 f2_3 f2_4 k x s) p.2.1 p.1 p.2.2=some o_13/\((List.range ((s_1.length:Int)).toNat)).drop p.1=p.2.1) (λp=>p.2.1.length) (0,(List.range ((s_1.length:Int)).toNat),()) ⟨hj_14,rfl⟩ rfl (aJ rfl) ?_)
  rintro ⟨k_5,l_6,s_10⟩ ⟨hL_12,hD_8⟩
  dsimp only at hL_12 hD_8
  cases l_6 with
  | nil =>
   obtain rfl:=ah hL_12
   refine af (aa (ae (vB (decide ((k_5:Int)<(s_1.length:Int)))) wz rfl (aj ?_)))
   refine af (aB rfl (yM hD_8) (aP ?_))
   exact aN (s_10) rfl rfl (aJ rfl)
  | cons x_7 l_6 =>
   obtain ⟨c_,hc_11,hL_12⟩:=bind_some hL_12
   refine af (aa (ae (vB (decide ((k_5:Int)<(s_1.length:Int)))) wz rfl (aj ?_)))
   refine af (aC rfl (vT hD_8) (ax ?_))
   unfold dI at hc_11
   refine af (ay (af (aa (ae (vI (k_5:Int)) wz rfl (ae (vI (k_5:Int)) wz rfl (aj (af (aa (ae (.fn 45 [(.ref (av 0) 0 0),(.ref (av 1) 0 0)]) wz rfl (ae (vV (av 2) 3 s_1) wz rfl (ae (vI (k_5:Int)) wz rfl ?_)))))))))))
   obtain ⟨_,hi_15,hc_11⟩:=bind_some hc_11
   refine AL BL rfl rfl (ig hi_15) (eX hi_15) wz ?_
   obtain ⟨e_16,hy_17,hc_11⟩:=bind_some hc_11
   refine Gg 0 2 il ft rP Ck rfl rfl hy_17 (.d (.agg (Span.enc e_16))) rfl wz ?_
   obtain ⟨r_18,hr_19,hc_11⟩:=bind_some hc_11
   refine bS 0 [0,1] il ft (mG hr_19) rfl hb45 rfl (by kernel_rfl) (by kernel_rfl) (by kernel_rfl) (by kernel_rfl) (by kernel_rfl) (by kernel_rfl) (by kernel_rfl) (by decide) (by kernel_rfl) wz (vB r_18) (by kernel_rfl) ([((av 0),some (.cells 1 [(vL eI f2_3)])),((av 1),some (.cells 1 [(vI f2_4)])),((av 2),some (bV 3 Span.enc s_1))]:Hp) (by kernel_rfl) (aj ?_)
   rcases au hc_11 with⟨hc_21,hc_11⟩|⟨hc_21,hc_11⟩
   ·refine aC rfl hc_21 (af (aa (ae (vI (k_5:Int)) wz rfl (ae (vI (k_5:Int)) wz rfl (aj ?_)))))
    obtain rfl:=ah hc_11
    obtain rfl:=ah hL_12
    obtain rfl:=ah hF
    exact aG (wE (.inr rfl) [(vI (k_5:Int))] _ [0,1,2] [av 0,av 1,av 2] ⟨rfl,trivial⟩ (.cons (jF rfl rfl) (.nil)) (by kernel_rfl) ⟨(by kernel_rfl),⟨(by kernel_rfl),⟨(by kernel_rfl),trivial⟩⟩⟩ (by decide) (by kernel_rfl))
   ·refine aB rfl hc_21 (ax (aa (fu (yH hD_8 hn_9) wz rfl (ae (vI ((k_5+1:Nat):Int)) wz rfl (aj ?_)))))
    obtain rfl:=ah hc_11
    exact aO (k_5+1,l_6,()) ⟨hL_12,aR hD_8⟩ (ls_ _) rfl (aJ rfl)
 ·rintro s_10 ho_ sl_ H_ hp_ hq_
  subst ho_
  refine aL _ hp_ hq_ (af (aa (ae (vI (-1)) wz rfl (aj ?_))))
  obtain rfl:=ah hF
  exact aG (wE (.inr rfl) [(vI (-1))] _ [0,1,2] [av 0,av 1,av 2] ⟨rfl,trivial⟩ (.cons (jF rfl rfl) (.nil)) (by kernel_rfl) ⟨(by kernel_rfl),⟨(by kernel_rfl),⟨(by kernel_rfl),trivial⟩⟩⟩ (by decide) (by kernel_rfl))
theorem jI {s_1:(List Span)} {del2_3:(List Int)} {del2_4:Int} {r:(List Span)} (hF:bI s_1 del2_3 del2_4=some r) :
  FnM Tryz.prog 44 [(vV (av 2) 3 s_1),(.fn 45 [(.ref (av 0) 0 0),(.ref (av 1) 0 0)])] (([(.cells 1 [(vL eI del2_3)]),(.cells 1 [(vI del2_4)])]:List Box)++[(bV 3 Span.enc s_1)]) (vV (av 2) 3 r) ((([(.cells 1 [(vL eI del2_3)]),(.cells 1 [(vI del2_4)])]:List Box)).map some++[some (bV 3 Span.enc r)]):=by
 refine FnM.of_wH ⟨Tryz.prog,42,[],[]⟩ rfl Tryz.func44 rfl rfl (lb_ rfl) (by kernel_rfl) ?_
 unfold bI at hF
 refine af (aa (ae .nil wz rfl (aj (af (aa (ae (vV (av 2) 3 s_1) wz rfl (ae (.fn 45 [(.ref (av 0) 0 0),(.ref (av 1) 0 0)]) wz rfl ?_)))))))
 obtain ⟨r_5,hr_6,hF⟩:=bind_some hF
 refine Jm 0 [0,1] 2 0 il ft (jP hr_6) rfl hb80 rfl rfl rfl (by kernel_rfl) rfl rfl (by kernel_rfl) (by kernel_rfl) (by kernel_rfl) (by kernel_rfl) rfl (by decide) (by kernel_rfl) bV_ok wz (vI r_5) (by kernel_rfl) ([((av 0),some (.cells 1 [(vL eI del2_3)])),((av 1),some (.cells 1 [(vI del2_4)])),((av 2),some (bV 3 Span.enc s_1))]:Hp) (by kernel_rfl) (ae (vI r_5) wz rfl (aj (af (af (aa (ae (vI r_5) wz rfl (ae (vB (r_5==(-1))) wz rfl (aj ?_))))))))
 rcases au hF with⟨hc_7,hF⟩|⟨hc_7,hF⟩
 ·refine aC rfl hc_7 (af (aa (ae (vV (av 2) 3 s_1) wz rfl (ae (vV (av 2) 3 s_1) wz rfl (aj ?_)))))
  obtain rfl:=ah hF
  exact aG (wE (.inr rfl) [(vV (av 2) 3 s_1)] _ [0,1,2] [av 0,av 1,av 2] ⟨rfl,trivial⟩ (.cons (EU _) (.nil)) (by kernel_rfl) ⟨(by kernel_rfl),⟨(by kernel_rfl),⟨(by kernel_rfl),trivial⟩⟩⟩ (by decide) (by kernel_rfl))
 ·refine aB rfl hc_7 (ax (af (af (aa (ae (vI r_5) wz rfl (ae (vI (w64 (r_5+1))) wz rfl (ae (vI (w64 (r_5+1))) wz rfl (aj ?_))))))))
  obtain ⟨o_16,hj_17,hF⟩:=bind_some hF
  obtain ⟨nq_34,hj_17⟩:=bR hj_17
  refine aD (β:=((List Span)×Int×Int)) (λ(s_13:(List Span)×Int×Int)=>([(0,(vV (av 2) 3 s_13.1)),(5,(vI s_13.2.1))]:SL_)) (λ(s_13:(List Span)×Int×Int)=>([((av 0),some (.cells 1 [(vL eI del2_3)])),((av 1),some (.cells 1 [(vI del2_4)])),((av 2),some (bV 3 Span.enc s_13.1))]:Hp)) (λp=>o_16 = .go p) ?_ ?_
  ·refine ay (aS (β:=Nat×((List Span)×Int×Int)) (λp=>(λ(k_8:Nat) (s_13:(List Span)×Int×Int)=>([(0,(vV (av 2) 3 s_13.1)),(1,(.fn 45 [(.ref (av 0) 0 0),(.ref (av 1) 0 0)])),(5,(vI s_13.2.1)),(6,(vI s_13.2.2))]:SL_)) p.1 p.2) (λp=>(λ(k_8:Nat) (s_13:(List Span)×Int×Int)=>([((av 0),some (.cells 1 [(vL eI del2_3)])),((av 1),some (.cells 1 [(vI del2_4)])),((av 2),some (bV 3 Span.enc s_13.1))]:Hp)) p.1 p.2) (λp=>iterN (λs=>dG del2_3 del2_4 s) p.1 p.2=some o_16) (λp=>p.1) (nq_34,(s_1,r_5,(w64 (r_5+1)))) hj_17 rfl (aJ rfl) ?_)
   rintro ⟨k_8,s_13⟩ hL_15
   dsimp only at hL_15
   cases k_8 with
   | zero=>cases hL_15
   | succ k_8 =>
    obtain ⟨c_,hc_14,hL_15⟩:=bind_some hL_15
    unfold dG at hc_14
    refine af (af (aa (ae (vI s_13.2.2) wz rfl (ae (vV (av 2) 3 s_13.1) wz rfl (Ie Ee rfl wz (ae (vB (decide (s_13.2.2<(s_13.1.length:Int)))) wz rfl (aj ?_)))))))
    rcases au hc_14 with⟨hc_18,hc_14⟩|⟨hc_18,hc_14⟩
    ·refine aC rfl hc_18 (ax (af (ay (af (aa (ae (vV (av 2) 3 s_13.1) wz rfl (ae (vI s_13.2.2) wz rfl ?_)))))))
     obtain ⟨_,hi_19,hc_14⟩:=bind_some hc_14
     refine AL BL rfl rfl (ig hi_19) (eX hi_19) wz ?_
     obtain ⟨e_20,hy_21,hc_14⟩:=bind_some hc_14
     refine Gg 0 2 il ft rP Ck rfl rfl hy_21 (.d (.agg (Span.enc e_20))) rfl wz (cK 0 (.inl rfl) z99 rfl wz (λn_22=>eD 0 il ft 3 rP rfl rfl [(.d (dP Entry.enc e_20.f_e)),(vI e_20.f_time.From),(vI e_20.f_time.To)] (AP rfl (cZ (oH _ _) (cZ rfl (cZ rfl rfl))) rfl rfl) wz (aj (af (aa (ae (.fn 45 [(.ref (av 0) 0 0),(.ref (av 1) 0 0)]) wz rfl (aA 0 3 il ft rP Ck rfl rfl (.d (.agg (Span.enc e_20))) rfl wz ?_)))))))
     obtain ⟨r_23,hr_24,hc_14⟩:=bind_some hc_14
     refine bS 0 [0,1] il ft (mG hr_24) rfl hb45 rfl (by kernel_rfl) (by kernel_rfl) (by kernel_rfl) (by kernel_rfl) (by kernel_rfl) (by kernel_rfl) (by kernel_rfl) (by decide) (by kernel_rfl) wz (vB r_23) (by kernel_rfl) ([((av 0),some (.cells 1 [(vL eI del2_3)])),((av 1),some (.cells 1 [(vI del2_4)])),((av 2),some (bV 3 Span.enc s_13.1)),(n_22,some (.cells 3 [(.d (dP Entry.enc e_20.f_e)),(vI e_20.f_time.From),(vI e_20.f_time.To)]))]:Hp) (by kernel_rfl) (ae (vB (!r_23)) wz rfl (aj ?_))
     obtain ⟨v_26,h_27,hc_14⟩:=bind_some hc_14
     refine aD (β:=Unit) (λ_=>([(0,(vV (av 2) 3 v_26.1)),(1,(.fn 45 [(.ref (av 0) 0 0),(.ref (av 1) 0 0)])),(5,(vI v_26.2)),(6,(vI s_13.2.2))]:SL_)) (λ_=>([((av 0),some (.cells 1 [(vL eI del2_3)])),((av 1),some (.cells 1 [(vI del2_4)])),((av 2),some (bV 3 Span.enc v_26.1)),(n_22,some (.cells 3 [(.d (dP Entry.enc e_20.f_e)),(vI e_20.f_time.From),(vI e_20.f_time.To)]))]:Hp)) (λ_=>True) ?_ ?_
     ·rcases au h_27 with⟨hc_28,h_27⟩|⟨hc_28,h_27⟩
      ·refine aC rfl hc_28 (af (aa (ae (vV (av 2) 3 s_13.1) wz rfl (ae (vI s_13.2.1) wz rfl (aA 0 3 il ft rP Ck rfl rfl (.d (.agg (Span.enc e_20))) rfl wz ?_)))))
       obtain ⟨_,hi_29,h_27⟩:=bind_some h_27
       refine AL BL rfl rfl (ig hi_29) (eX hi_29) wz ?_
       obtain ⟨e_30,hy_31,h_27⟩:=bind_some h_27
       refine OX 0 il ft 2 rP rfl rfl hy_31 e_20 (stD_one rfl rfl (cZ (oH _ _) (cZ rfl (cZ rfl rfl))) rfl rfl) wz (dn (v':=(vV (av 2) 3 (s_13.1.set (0+(s_13.2.1).toNat) e_20))) 0 rfl (uR (by simp)) (dn (v':=(vV (av 2) 3 (s_13.1.set (0+(s_13.2.1).toNat) e_20))) 17 rfl (uR (by simp)) (dn (v':=(vV (av 2) 3 (s_13.1.set (0+(s_13.2.1).toNat) e_20))) 22 rfl (uR (by simp)) (dn (v':=(vV (av 2) 3 (s_13.1.set (0+(s_13.2.1).toNat) e_20))) 30 rfl (uR (by simp)) (aj (aa (ae (vI s_13.2.1) wz rfl (ae (vI (w64 (s_13.2.1+1))) wz rfl (ae (vI (w64 (s_13.2.1+1))) wz rfl (aj ?_))))))))))
       obtain rfl:=ah h_27
       exact cu
      ·refine aB rfl hc_28 (ax ?_)
       obtain rfl:=ah h_27
       exact cu
     ·rintro ⟨⟩ _ sl_ H_ hp_ hq_
      refine aL _ hp_ hq_ (aa (ae (vI s_13.2.2) wz rfl (ae (vI (w64 (s_13.2.2+1))) wz rfl (ae (vI (w64 (s_13.2.2+1))) wz rfl (aj ?_)))))
      obtain rfl:=ah hc_14
      exact aO (k_8,(v_26.1,v_26.2,(w64 (s_13.2.2+1)))) hL_15 (ls_ _) rfl (aJ rfl)
    ·refine aB rfl hc_18 (aP ?_)
     obtain rfl:=ah hc_14
     obtain rfl:=ah hL_15
     exact aN ((s_13.1,s_13.2.1,s_13.2.2)) rfl rfl (aJ rfl)
  ·rintro s_13 ho_ sl_ H_ hp_ hq_
   subst ho_
   refine aL _ hp_ hq_ (af (aa (ae (vV (av 2) 3 s_13.1) wz rfl (ae (vI s_13.2.1) wz rfl ?_))))
   obtain ⟨_,hr_32,hF⟩:=bind_some hF
   refine ED Ee rP rfl rfl hr_32 wz (Ma (i:=2) 0 il ft (⟨none,(⟨0,0⟩:Window)⟩:Span) KL rP z99 rfl rfl rfl (by decide) rfl (rY hr_32) rfl wz (dn (v':=(vV (av 2) 3 (s_13.1.take ((s_13.2.1).toNat)++List.replicate (((s_13.1.length:Int)).toNat-(s_13.2.1).toNat) (⟨none,(⟨0,0⟩:Window)⟩:Span)++s_13.1.drop (((s_13.2.1).toNat)+(((s_13.1.length:Int)).toNat-(s_13.2.1).toNat))))) 0 rfl (uR (yQ (rY hr_32))) (dn (v':=(vV (av 2) 3 (s_13.1.take ((s_13.2.1).toNat)++List.replicate (((s_13.1.length:Int)).toNat-(s_13.2.1).toNat) (⟨none,(⟨0,0⟩:Window)⟩:Span)++s_13.1.drop (((s_13.2.1).toNat)+(((s_13.1.length:Int)).toNat-(s_13.2.1).toNat))))) 36 rfl (uR (yQ (rY hr_32))) (aj (af (aa (ae (vV (av 2) 3 (s_13.1.take ((s_13.2.1).toNat)++List.replicate (((s_13.1.length:Int)).toNat-(s_13.2.1).toNat) (⟨none,(⟨0,0⟩:Window)⟩:Span)++s_13.1.drop (((s_13.2.1).toNat)+(((s_13.1.length:Int)).toNat-(s_13.2.1).toNat)))) wz rfl (ae (vI s_13.2.1) wz rfl ?_))))))))
   obtain ⟨_,hr_33,hF⟩:=bind_some hF
   refine Kr Ee rP rfl rfl hr_33 wz (ae (.vs (av 2) 3 0 ((s_13.2.1).toNat)) wz rfl (aj (wH_re (v':=(vV (av 2) 3 ((s_13.1.take ((s_13.2.1).toNat)++List.replicate (((s_13.1.length:Int)).toNat-(s_13.2.1).toNat) (⟨none,(⟨0,0⟩:Window)⟩:Span)++s_13.1.drop (((s_13.2.1).toNat)+(((s_13.1.length:Int)).toNat-(s_13.2.1).toNat))).take ((s_13.2.1).toNat)))) 4 rfl (vV_take (rY hr_33)) (wH_shr 2 ((s_13.2.1).toNat) rfl ?_))))
   obtain rfl:=ah hF
   exact aG (wE (.inr rfl) [(vV (av 2) 3 ((s_13.1.take ((s_13.2.1).toNat)++List.replicate (((s_13.1.length:Int)).toNat-(s_13.2.1).toNat) (⟨none,(⟨0,0⟩:Window)⟩:Span)++s_13.1.drop (((s_13.2.1).toNat)+(((s_13.1.length:Int)).toNat-(s_13.2.1).toNat))).take ((s_13.2.1).toNat)))] _ [0,1,2] [av 0,av 1,av 2] ⟨rfl,trivial⟩ (.cons (EU _) (.nil)) (by kernel_rfl) ⟨(by kernel_rfl),⟨(by kernel_rfl),⟨(by kernel_rfl),trivial⟩⟩⟩ (by decide) (by kernel_rfl))
theorem ku {s_1:(List Span)} {f_2:Span->Option Bool} {r:Int} {gid:FuncId} {caps:List V} {Sin:List Box} (hfn:∀x0 r,f_2 x0=some r->FnM Tryz.prog gid ([(.d (.agg (Span.enc x0)))]++caps) Sin (vB r) (Sin.map some)) (hbF:aK Tryz.prog gid=true) (hcapF:caps.flatMap frz=[]/\caps.map co0=caps) (hokF:okL Sin.length caps=true) (hsF:∀b∈Sin,b.ok Sin.length=true) (hmF:∀b∈Sin,b.mut=true) (hF:bP s_1 f_2=some r) :
  FnM Tryz.prog 80 [(vL Span.enc s_1),(.fn gid caps)] Sin (vI r) (Sin.map some):=by
 refine FnM.of_wH ⟨Tryz.prog,19,[],[]⟩ rfl Tryz.func80 rfl rfl (lb_ rfl) (by kernel_rfl) ?_
 unfold bP at hF
 refine af (aa (ae (vI 0) wz rfl (aj (af (af (aa (ae (vL Span.enc s_1) wz rfl (bW Ee rfl wz (ae (vI 0) wz rfl (aj ?_))))))))))
 obtain ⟨o_11,hj_12,hF⟩:=bind_some hF
 obtain ⟨hn_7,hj_12⟩:=aV hj_12
 refine aD (β:=(Unit)) (λ(s_8:Unit)=>([]:SL_)) (λ(s_8:Unit)=>(nT 0 Sin)) (λp=>o_11 = .go p) ?_ ?_
 ·refine ay (aS (β:=Nat×(List Span)×(Unit)) (λp=>(λ(k_3:Nat) (l_4:List Span) (s_8:Unit)=>([(0,(vL Span.enc s_1)),(1,(.fn gid caps)),(7,(vI (s_1.length:Int))),(8,(vI (k_3:Int)))]:SL_)) p.1 p.2.1 p.2.2) (λp=>(λ(k_3:Nat) (l_4:List Span) (s_8:Unit)=>(nT 0 Sin)) p.1 p.2.1 p.2.2) (λp=>forR (λk x s=>dX f_2 k x s) p.2.1 p.1 p.2.2=some o_11/\(s_1).drop p.1=p.2.1) (λp=>p.2.1.length) (0,s_1,()) ⟨hj_12,rfl⟩ rfl (pG _) ?_)
  rintro ⟨k_3,l_4,s_8⟩ ⟨hL_10,hD_6⟩
  dsimp only at hL_10 hD_6
  cases l_4 with
  | nil =>
   obtain rfl:=ah hL_10
   refine af (aa (ae (vB (decide ((k_3:Int)<(s_1.length:Int)))) wz rfl (aj ?_)))
   refine af (aB rfl (drop_nil hD_6) (aP ?_))
   exact aN (s_8) rfl rfl (pG _)
  | cons x_5 l_4 =>
   obtain ⟨c_,hc_9,hL_10⟩:=bind_some hL_10
   refine af (aa (ae (vB (decide ((k_3:Int)<(s_1.length:Int)))) wz rfl (aj ?_)))
   refine af (aC rfl (bf hD_6) (ax ?_))
   unfold dX at hc_9
   refine af (ay (af (aa (ae (vI (k_3:Int)) wz rfl (ae (vI (k_3:Int)) wz rfl (aj (af (aa (ae (.fn gid caps) wz rfl (ae (vL Span.enc s_1) wz rfl (ae (vI (k_3:Int)) wz rfl (dK BL rfl rfl (bG hD_6) rfl wz (bB rP Ck rfl (.d (.agg (Span.enc x_5))) rfl wz ?_)))))))))))))
   obtain ⟨r_13,hr_14,hc_9⟩:=bind_some hc_9
   refine DN (hfn _ _ hr_14) rfl hbF rfl rfl hcapF hokF hsF hmF rfl wz rfl (aj ?_)
   rcases au hc_9 with⟨hc_15,hc_9⟩|⟨hc_15,hc_9⟩
   ·refine aC rfl hc_15 (af (aa (ae (vI (k_3:Int)) wz rfl (ae (vI (k_3:Int)) wz rfl (aj ?_)))))
    obtain rfl:=ah hc_9
    obtain rfl:=ah hL_10
    obtain rfl:=ah hF
    exact aG (K3 hsF (.inr rfl) [(vI (k_3:Int))] ⟨rfl,trivial⟩ rfl rfl rfl)
   ·refine aB rfl hc_15 (ax (aa (fu (bA hD_6 hn_7) wz rfl (ae (vI ((k_3+1:Nat):Int)) wz rfl (aj ?_)))))
    obtain rfl:=ah hc_9
    exact aO (k_3+1,l_4,()) ⟨hL_10,aR hD_6⟩ (ls_ _) rfl (pG _)
 ·rintro s_8 ho_ sl_ H_ hp_ hq_
  subst ho_
  refine aL _ hp_ hq_ (af (aa (ae (vI (-1)) wz rfl (aj ?_))))
  obtain rfl:=ah hF
  exact aG (K3 hsF (.inr rfl) [(vI (-1))] ⟨rfl,trivial⟩ rfl rfl rfl)
theorem jH {del2_3:(List Int)} {del2_4:Int} {r:Unit} (hF:bJ del2_3 del2_4=some r) :
  FnM Tryz.prog 44 [.nil,(.fn 45 [(.ref (av 0) 0 0),(.ref (av 1) 0 0)])] [(.cells 1 [(vL eI del2_3)]),(.cells 1 [(vI del2_4)])] .nil [some (.cells 1 [(vL eI del2_3)]),some (.cells 1 [(vI del2_4)])]:=by
 refine FnM.of_wH ⟨Tryz.prog,42,[],[]⟩ rfl Tryz.func44 rfl rfl (lb_ rfl) (by kernel_rfl) ?_
 unfold bJ at hF
 refine af (aa (ae .nil wz rfl (aj (af (aa (ae .nil wz rfl (ae (.fn 45 [(.ref (av 0) 0 0),(.ref (av 1) 0 0)]) wz rfl ?_)))))))
 obtain ⟨r_5,hr_6,hF⟩:=bind_some hF
 refine bS 0 [0,1] il ft (ku (gid:=45) (caps:=[.ref (av 0) 0 0,.ref (av 1) 0 0]) (Sin:=[(.cells 1 [(vL eI del2_3)]),(.cells 1 [(vI del2_4)])]) (λ_ _ h_=>mG h_) hb45 ⟨rfl,rfl⟩ (by kernel_rfl) (KG (by kernel_rfl)) (IA (by kernel_rfl)) hr_6) rfl hb80 rfl (by kernel_rfl) (by kernel_rfl) (by kernel_rfl) (by kernel_rfl) (by kernel_rfl) (by kernel_rfl) (by kernel_rfl) (by decide) (by kernel_rfl) wz (vI r_5) (by kernel_rfl) ([((av 0),some (.cells 1 [(vL eI del2_3)])),((av 1),some (.cells 1 [(vI del2_4)]))]:Hp) (by kernel_rfl) (ae (vI r_5) wz rfl (aj (af (af (aa (ae (vI r_5) wz rfl (ae (vB (r_5==(-1))) wz rfl (aj ?_))))))))
 rcases au hF with⟨hc_8,hF⟩|⟨hc_8,hF⟩
 ·refine aC rfl hc_8 (af (aa (ae .nil wz rfl (ae .nil wz rfl (aj ?_)))))
  obtain rfl:=ah hF
  exact aG (wE (.inr rfl) [.nil] _ [0,1] [av 0,av 1] ⟨rfl,trivial⟩ (.cons (EU _) (.nil)) (by kernel_rfl) ⟨(by kernel_rfl),⟨(by kernel_rfl),trivial⟩⟩ (by decide) (by kernel_rfl))
 ·refine aB rfl hc_8 (ax (af (af (aa (ae (vI r_5) wz rfl (ae (vI (w64 (r_5+1))) wz rfl (ae (vI (w64 (r_5+1))) wz rfl (aj ?_))))))))
  obtain ⟨o_17,hj_18,hF⟩:=bind_some hF
  obtain ⟨nq_20,hj_18⟩:=bR hj_18
  refine aD (β:=(Unit)) (λ(s_14:Unit)=>([(0,.nil),(5,(vI r_5))]:SL_)) (λ(s_14:Unit)=>([((av 0),some (.cells 1 [(vL eI del2_3)])),((av 1),some (.cells 1 [(vI del2_4)]))]:Hp)) (λp=>o_17 = .go p) ?_ ?_
  ·refine ay (aS (β:=Nat×(Unit)) (λp=>(λ(k_9:Nat) (s_14:Unit)=>([(0,.nil),(1,(.fn 45 [(.ref (av 0) 0 0),(.ref (av 1) 0 0)])),(5,(vI r_5)),(6,(vI (w64 (r_5+1))))]:SL_)) p.1 p.2) (λp=>(λ(k_9:Nat) (s_14:Unit)=>([((av 0),some (.cells 1 [(vL eI del2_3)])),((av 1),some (.cells 1 [(vI del2_4)]))]:Hp)) p.1 p.2) (λp=>iterN (λs=>dF r_5 s) p.1 p.2=some o_17) (λp=>p.1) (nq_20,()) hj_18 rfl (aJ rfl) ?_)
   rintro ⟨k_9,s_14⟩ hL_16
   dsimp only at hL_16
   cases k_9 with
   | zero=>cases hL_16
   | succ k_9 =>
    obtain ⟨c_,hc_15,hL_16⟩:=bind_some hL_16
    unfold dF at hc_15
    refine af (af (aa (ae (vI (w64 (r_5+1))) wz rfl (ae .nil wz rfl (K5 Ee rfl wz (ae (vB (decide ((w64 (r_5+1))<0))) wz rfl (aj ?_)))))))
    rcases au hc_15 with⟨hc_19,hc_15⟩|⟨hc_19,hc_15⟩
    ·refine aC rfl hc_19 (ax (af (ay (af (aa (ae .nil wz rfl (ae (vI (w64 (r_5+1))) wz rfl ?_)))))))
     cases hc_15
    ·refine aB rfl hc_19 (aP ?_)
     obtain rfl:=ah hc_15
     obtain rfl:=ah hL_16
     exact aN (()) rfl rfl (aJ rfl)
  ·rintro s_14 ho_ sl_ H_ hp_ hq_
   subst ho_
   refine aL _ hp_ hq_ (af (aa (ae .nil wz rfl (ae (vI r_5) wz rfl ?_))))
   cases hF
theorem ze {a_1:Span} {b_2:Span} {r:Int} (hF:iU a_1 b_2=some r) :
  FnM Tryz.prog 47 [(.d (.agg (Span.enc a_1))),(.d (.agg (Span.enc b_2)))] [] (vI r) []:=by
 refine FnM.of_wH ⟨Tryz.prog,36,[],[]⟩ rfl Tryz.func47 rfl rfl (lb_ rfl) (by kernel_rfl) ?_
 unfold iU at hF
 refine af (aa (dL 0 (.inl rfl) [(.d (dP Entry.enc a_1.f_e)),(vI a_1.f_time.From),(vI a_1.f_time.To)] rfl (cZ (oH _ _) (cZ rfl (cZ rfl rfl))) wz (λn_3=>dL 0 (.inl rfl) [(.d (dP Entry.enc b_2.f_e)),(vI b_2.f_time.From),(vI b_2.f_time.To)] rfl (cZ (oH _ _) (cZ rfl (cZ rfl rfl))) wz (λn_4=>ae (vI 0) wz rfl (aj (af (aW (aH Ia rfl 0 rfl wz (aA 1 1 (.inr (by kernel_rfl)) (λ_ _ ag=>trivial) sz97 ag97 rfl rfl (.d (dP Entry.enc b_2.f_e)) rfl wz ?_)))))))))
 obtain ⟨y_5,hy_6,hF⟩:=bind_some hF
 refine dn (v':=(.d (.ptr (Entry.enc y_5)))) 6 rfl (AY (enc:=Entry.enc) (y:=y_5) hy_6) (ae (.d (.ptr (Entry.enc y_5))) wz rfl (og IW rfl [.int .i64 y_5.Prio,dl eS y_5.Tags,.bool y_5.Gone] rfl rfl wz (bB sz3 ag3 rfl (vI y_5.Prio) rfl wz (aH Ia rfl 0 rfl wz (aA 6 0 (.inr (by kernel_rfl)) (λ_ _ ag=>⟨.inl ⟨rfl,rfl⟩,trivial⟩) sz97 ag97 rfl rfl (.d (dP Entry.enc a_1.f_e)) rfl wz ?_)))))
 obtain ⟨y_7,hy_8,hF⟩:=bind_some hF
 refine dn (v':=(.d (.ptr (Entry.enc y_7)))) 11 rfl (AY (enc:=Entry.enc) (y:=y_7) hy_8) (ae (.d (.ptr (Entry.enc y_7))) wz rfl (og IW rfl [.int .i64 y_7.Prio,dl eS y_7.Tags,.bool y_7.Gone] rfl rfl wz (bB sz3 ag3 rfl (vI y_7.Prio) rfl wz ?_)))
 obtain ⟨r_9,hr_10,hF⟩:=bind_some hF
 refine aI (gM hr_10) rfl Lu rfl rfl rfl rfl wz (aH Ai rfl 1 rfl wz (aH ib rfl 1 rfl wz (aA 13 1 (.inr (by kernel_rfl)) (λ_ _ ag=>⟨.inl ⟨rfl,rfl⟩,⟨.inl ⟨rfl,rfl⟩,trivial⟩⟩) sz3 ag3 rfl rfl (vI b_2.f_time.From) rfl wz (aH Ai rfl 1 rfl wz (aH ib rfl 1 rfl wz (aA 16 0 (.inr (by kernel_rfl)) (λ_ _ ag=>⟨.inl ⟨rfl,rfl⟩,⟨.inl ⟨rfl,rfl⟩,⟨.inl ⟨rfl,rfl⟩,trivial⟩⟩⟩) sz3 ag3 rfl rfl (vI a_1.f_time.From) rfl wz ?_))))))
 obtain ⟨r_11,hr_12,hF⟩:=bind_some hF
 refine aI (gM hr_12) rfl Lu rfl rfl rfl rfl wz (aH Ia rfl 0 rfl wz (aA 19 1 (.inr (by kernel_rfl)) (λ_ _ ag=>⟨.inl ⟨rfl,rfl⟩,⟨.inl ⟨rfl,rfl⟩,⟨.inl ⟨rfl,rfl⟩,⟨.inl ⟨rfl,rfl⟩,trivial⟩⟩⟩⟩) sz97 ag97 rfl rfl (.d (dP Entry.enc b_2.f_e)) rfl wz ?_))
 obtain ⟨y_13,hy_14,hF⟩:=bind_some hF
 refine dn (v':=(.d (.ptr (Entry.enc y_13)))) 24 rfl (AY (enc:=Entry.enc) (y:=y_13) hy_14) (ae (.d (.ptr (Entry.enc y_13))) wz rfl (og BX rfl (Entry.enc y_13) rfl rfl wz (bB sz9 ag9 rfl (vS y_13.Key) rfl wz (aH Ia rfl 0 rfl wz (aA 24 0 (.inr (by kernel_rfl)) (λ_ _ ag=>⟨.inl ⟨rfl,rfl⟩,⟨.inl ⟨rfl,rfl⟩,⟨.inl ⟨rfl,rfl⟩,⟨.inl ⟨rfl,rfl⟩,⟨.inl ⟨rfl,rfl⟩,trivial⟩⟩⟩⟩⟩) sz97 ag97 rfl rfl (.d (dP Entry.enc a_1.f_e)) rfl wz ?_)))))
 obtain ⟨y_15,hy_16,hF⟩:=bind_some hF
 refine dn (v':=(.d (.ptr (Entry.enc y_15)))) 29 rfl (AY (enc:=Entry.enc) (y:=y_15) hy_16) (ae (.d (.ptr (Entry.enc y_15))) wz rfl (og BX rfl (Entry.enc y_15) rfl rfl wz (bB sz9 ag9 rfl (vS y_15.Key) rfl wz ?_)))
 obtain ⟨r_17,hr_18,hF⟩:=bind_some hF
 refine aI (lI hr_18) rfl hb82 rfl rfl rfl rfl wz (dW (([r_9,r_11,r_17]:List Int).map eI) jf uh rfl rfl rfl rfl rfl wz ?_)
 obtain ⟨r_19,hr_20,hF⟩:=bind_some hF
 refine aI (qK hr_20) rfl hb81 rfl rfl rfl rfl wz (ae (vI r_19) wz rfl (aj (aL (H0:=([(n_3,some (.cells 3 [(.d (dP Entry.enc a_1.f_e)),(vI a_1.f_time.From),(vI a_1.f_time.To)])),(n_4,some (.cells 3 [(.d (dP Entry.enc b_2.f_e)),(vI b_2.f_time.From),(vI b_2.f_time.To)]))]:Hp)) ([(4,(vI r_19))]:SL_) (by kernel_rfl) (uP (by kernel_rfl)) ?_)))
 obtain rfl:=ah hF
 exact aG (aU (.inr rfl) [(vI r_19)] ⟨rfl,trivial⟩ rfl rfl rfl)
theorem jX {x_1:(List Span)} {r:Span} (hF:bv x_1=some r) :
  FnM Tryz.prog 46 [(dV (av 0) 3 x_1),(.fn 47 [])] (([]:List Box)++gI 3 Span.enc x_1) (.d (.agg (Span.enc r))) (([]:List Box).map some++gT x_1 (gB 3 Span.enc x_1)):=by
 refine FnM.of_wHv ⟨Tryz.prog,33,[],[]⟩ rfl Tryz.func46 rfl rfl (lb_ rfl) (by kernel_rfl) ?_
 unfold bv at hF
 refine af (aa (cK 0 (.inl rfl) z99 rfl wz (λn_3=>aj (af (af (aa (ae (dV (av 0) 3 x_1) wz rfl (zQ Ee rfl wz (ae (vB (decide ((x_1.length:Int)<1))) wz rfl (aj ?_))))))))))
 obtain ⟨v_4,h_5,hF⟩:=bind_some hF
 refine aD (β:=Unit) (λ_=>([(0,(dV (av 0) 3 x_1)),(1,(.fn 47 [])),(4,(.ref n_3 0 0))]:SL_)) (λ_=>([((av 0),gB 3 Span.enc x_1),(n_3,some (.cells 3 [(.d .nilp),(vI 0),(vI 0)]))]:Hp)) (λ_=>True) ?_ ?_
 ·rcases au h_5 with⟨hc_6,h_5⟩|⟨hc_6,h_5⟩
  ·refine aC rfl hc_6 (aa ?_)
   cases h_5
  ·refine aB rfl hc_6 (ax ?_)
   obtain rfl:=ah h_5
   exact cu
 ·rintro ⟨⟩ _ sl_ H_ hp_ hq_
  refine aL _ hp_ hq_ (af (aa (ae (dV (av 0) 3 x_1) wz rfl ?_)))
  obtain ⟨_,hi_7,hF⟩:=bind_some hF
  refine jQ BL rfl rfl (ig hi_7) (eX hi_7) wz ?_
  obtain ⟨e_8,hy_9,hF⟩:=bind_some hF
  refine jr 0 0 il ft rP Ck rfl rfl hy_9 (.d (.agg (Span.enc e_8))) rfl wz (cK 0 (.inl rfl) z99 rfl wz (λn_10=>eD 0 il ft 2 rP rfl rfl [(.d (dP Entry.enc e_8.f_e)),(vI e_8.f_time.From),(vI e_8.f_time.To)] (AP rfl (cZ (oH _ _) (cZ rfl (cZ rfl rfl))) rfl rfl) wz (aj (af (af (aa (ae (vI 1) wz rfl (aj ?_))))))))
  obtain ⟨o_19,hj_20,hF⟩:=bind_some hF
  obtain ⟨nq_33,hj_20⟩:=bR hj_20
  refine aD (β:=(Int×(Option Entry)×Int×Int)) (λ(s_16:Int×(Option Entry)×Int×Int)=>([(4,(.ref n_3 0 0)),(5,(.ref n_10 0 0))]:SL_)) (λ(s_16:Int×(Option Entry)×Int×Int)=>([((av 0),gB 3 Span.enc x_1),(n_3,some (.cells 3 [(.d .nilp),(vI 0),(vI 0)])),(n_10,some (.cells 3 [(.d (dP Entry.enc s_16.2.1)),(vI s_16.2.2.1),(vI s_16.2.2.2)]))]:Hp)) (λp=>o_19 = .go p) ?_ ?_
  ·refine ay (aS (β:=Nat×(Int×(Option Entry)×Int×Int)) (λp=>(λ(k_11:Nat) (s_16:Int×(Option Entry)×Int×Int)=>([(0,(dV (av 0) 3 x_1)),(1,(.fn 47 [])),(4,(.ref n_3 0 0)),(5,(.ref n_10 0 0)),(6,(vI s_16.1))]:SL_)) p.1 p.2) (λp=>(λ(k_11:Nat) (s_16:Int×(Option Entry)×Int×Int)=>([((av 0),gB 3 Span.enc x_1),(n_3,some (.cells 3 [(.d .nilp),(vI 0),(vI 0)])),(n_10,some (.cells 3 [(.d (dP Entry.enc s_16.2.1)),(vI s_16.2.2.1),(vI s_16.2.2.2)]))]:Hp)) p.1 p.2) (λp=>iterN (λs=>aZ x_1 s) p.1 p.2=some o_19) (λp=>p.1) (nq_33,(1,e_8.f_e,e_8.f_time.From,e_8.f_time.To)) hj_20 rfl (aJ rfl) ?_)
   rintro ⟨k_11,s_16⟩ hL_18
   dsimp only at hL_18
   cases k_11 with
   | zero=>cases hL_18
   | succ k_11 =>
    obtain ⟨c_,hc_17,hL_18⟩:=bind_some hL_18
    unfold aZ at hc_17
    refine af (af (aa (ae (vI s_16.1) wz rfl (ae (dV (av 0) 3 x_1) wz rfl (zQ Ee rfl wz (ae (vB (decide (s_16.1<(x_1.length:Int)))) wz rfl (aj ?_)))))))
    rcases au hc_17 with⟨hc_21,hc_17⟩|⟨hc_21,hc_17⟩
    ·refine aC rfl hc_21 (ax (af (ay (af (aW (ae (.fn 47 []) wz rfl (ae (dV (av 0) 3 x_1) wz rfl (ae (vI s_16.1) wz rfl ?_))))))))
     obtain ⟨_,hi_22,hc_17⟩:=bind_some hc_17
     refine jQ BL rfl rfl (ig hi_22) (eX hi_22) wz ?_
     obtain ⟨e_23,hy_24,hc_17⟩:=bind_some hc_17
     refine jr 4 0 (.inr (by kernel_rfl)) (λ_ _ ag=>trivial) rP Ck rfl rfl hy_24 (.d (.agg (Span.enc e_23))) rfl wz (aA 5 2 (.inr (by kernel_rfl)) (λ_ _ ag=>⟨.inl ⟨rfl,rfl⟩,trivial⟩) rP Ck rfl rfl (.d (.agg (Span.enc (⟨s_16.2.1,(⟨s_16.2.2.1,s_16.2.2.2⟩:Window)⟩:Span)))) rfl wz ?_)
     obtain ⟨r_25,hr_26,hc_17⟩:=bind_some hc_17
     refine aI (ze hr_26) rfl hb47 rfl rfl rfl rfl wz (ae (vB (decide (r_25<0))) wz rfl (aj ?_))
     obtain ⟨v_27,h_28,hc_17⟩:=bind_some hc_17
     refine aD (β:=Unit) (λ_=>([(0,(dV (av 0) 3 x_1)),(1,(.fn 47 [])),(4,(.ref n_3 0 0)),(5,(.ref n_10 0 0)),(6,(vI s_16.1))]:SL_)) (λ_=>([((av 0),gB 3 Span.enc x_1),(n_3,some (.cells 3 [(.d .nilp),(vI 0),(vI 0)])),(n_10,some (.cells 3 [(.d (dP Entry.enc v_27.1)),(vI v_27.2.1),(vI v_27.2.2)]))]:Hp)) (λ_=>True) ?_ ?_
     ·rcases au h_28 with⟨hc_29,h_28⟩|⟨hc_29,h_28⟩
      ·refine aC rfl hc_29 (aa (ae (dV (av 0) 3 x_1) wz rfl (ae (vI s_16.1) wz rfl ?_)))
       obtain ⟨_,hi_30,h_28⟩:=bind_some h_28
       refine jQ BL rfl rfl (ig hi_30) (eX hi_30) wz ?_
       obtain ⟨e_31,hy_32,h_28⟩:=bind_some h_28
       refine jr 0 0 il ft rP Ck rfl rfl hy_32 (.d (.agg (Span.enc e_31))) rfl wz (eD 0 il ft 2 rP rfl rfl [(.d (dP Entry.enc e_31.f_e)),(vI e_31.f_time.From),(vI e_31.f_time.To)] (AP rfl (cZ (oH _ _) (cZ rfl (cZ rfl rfl))) rfl rfl) wz (aj ?_))
       obtain rfl:=ah h_28
       exact cu
      ·refine aB rfl hc_29 (ax ?_)
       obtain rfl:=ah h_28
       exact cu
     ·rintro ⟨⟩ _ sl_ H_ hp_ hq_
      refine aL _ hp_ hq_ (aa (ae (vI s_16.1) wz rfl (ae (vI (w64 (s_16.1+1))) wz rfl (ae (vI (w64 (s_16.1+1))) wz rfl (aj ?_)))))
      obtain rfl:=ah hc_17
      exact aO (k_11,((w64 (s_16.1+1)),v_27.1,v_27.2.1,v_27.2.2)) hL_18 (ls_ _) rfl (aJ rfl)
    ·refine aB rfl hc_21 (aP ?_)
     obtain rfl:=ah hc_17
     obtain rfl:=ah hL_18
     exact aN ((s_16.1,s_16.2.1,s_16.2.2.1,s_16.2.2.2)) rfl rfl (aJ rfl)
  ·rintro s_16 ho_ sl_ H_ hp_ hq_
   subst ho_
   refine aL _ hp_ hq_ (af (aa (aA 0 2 il ft rP Ck rfl rfl (.d (.agg (Span.enc (⟨s_16.2.1,(⟨s_16.2.2.1,s_16.2.2.2⟩:Window)⟩:Span)))) rfl wz (eD 0 il ft 1 rP rfl rfl [(.d (dP Entry.enc s_16.2.1)),(vI s_16.2.2.1),(vI s_16.2.2.2)] (AP rfl (cZ (oH _ _) (cZ rfl (cZ rfl rfl))) rfl rfl) wz (aj ?_)))))
   obtain rfl:=ah hF
   exact aG (y9 (bs:=([]:List Box)) (os:=([]:List Box)) (xs:=x_1) (o:=gB 3 Span.enc x_1) (.inr rfl) [(.d (.agg (Span.enc (⟨s_16.2.1,(⟨s_16.2.2.1,s_16.2.2.2⟩:Window)⟩:Span))))] ⟨⟨1,_,_,_,_,_,_,_,rfl,rfl,rP,Ck,rfl⟩,trivial⟩ rfl rfl rfl rfl rfl (by kernel_rfl) kX rfl)
end Go.Proofs.YticmkhcacamhkaaGreatDoor.Law

