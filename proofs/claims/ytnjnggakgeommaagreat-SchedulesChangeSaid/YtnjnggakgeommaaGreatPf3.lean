/-
 The machine computes these plain functions (written by a program of ours).
-/
import Derived.Test.YtnjnggakgeommaaGreatFacts
import Derived.Test.YtnjnggakgeommaaGreatDefs
import Derived.Test.YtnjnggakgeommaaGreatPf2
import Derived.Test.YtnjnggakgeommaaGreatShelf
open Go Go.Eng Go.Proofs
namespace Go.Proofs.YtnjnggakgeommaaGreat.Law
set_option maxRecDepth 100000
set_option linter.unusedVariables false
set_option maxHeartbeats 1000000
theorem rD {e_1:Entry} {d_2:Int} {r:Bool} (hF:lK e_1 d_2=some r) :
  FnM Tryz.prog 61 [(.d (.agg (Entry.enc e_1))),(vI d_2)] [] (vB r) []:=by
 refine FnM.of_wH ⟨Tryz.prog,41,[],[]⟩ rfl Tryz.func61 rfl rfl (lb_ rfl) (by kernel_rfl) ?_
 unfold lK at hF
 refine af (aa (dZ 0 (.inl rfl) [(vS e_1.Key),(vS e_1.Item),(vI e_1.Version),(vI e_1.First),(vI e_1.Last),(vI e_1.Every),(vI e_1.Days),(vL eI e_1.Except),(vI e_1.From),(vI e_1.To),(vI e_1.Prio),(vL eS e_1.Tags),(vB e_1.Gone)] rfl rfl wz (λn_3=>ae (vB false) wz rfl (aj (af (af ?_))))))
 obtain ⟨v_4,h_5,hF⟩:=bind_some hF
 refine aG (β:=Unit) (λ_=>([(1,(vI d_2)),(2,(.ref n_3 0 0)),(31,(vB v_4))]:SL_)) (λ_=>([(n_3,some (.cells 13 [(vS e_1.Key),(vS e_1.Item),(vI e_1.Version),(vI e_1.First),(vI e_1.Last),(vI e_1.Every),(vI e_1.Days),(vL eI e_1.Except),(vI e_1.From),(vI e_1.To),(vI e_1.Prio),(vL eS e_1.Tags),(vB e_1.Gone)]))]:Hp)) (λ_=>True) ?_ ?_
 ·refine bN (ae (vI d_2) wz rfl (aJ rf rfl 3 rfl wz (ay 2 0 (.inr (by kernel_rfl)) (λ_ _ ag=>trivial) sz3 ag3 rfl rfl (vI e_1.First) rfl wz (aJ qV rfl 4 rfl wz (ay 4 0 (.inr (by kernel_rfl)) (λ_ _ ag=>⟨.inl ⟨rfl,rfl⟩,trivial⟩) sz3 ag3 rfl rfl (vI e_1.Last) rfl wz ?_)))))
  obtain ⟨r_6,hr_7,h_5⟩:=bind_some h_5
  refine aF (fI hr_7) rfl Cw rfl rfl rfl rfl wz ?_
  rcases au h_5 with⟨hc_8,h_5⟩|⟨hc_8,h_5⟩
  ·refine aH rfl hc_8 wz (ak wa (ak wa (ak wa (ak wa (ak wa (ak wa (ak wa (ak wa (ae (vB true) wz rfl (ae (vB true) wz rfl (ak wa (ak wa (ak wa (ak wa (ak wa (ak wa (ak wa (ae (vB true) wz rfl (aj ?_)))))))))))))))))))
   obtain rfl:=ah h_5
   exact cu
  ·refine aH rfl hc_8 wz (ae (vI d_2) wa rfl (aJ rf rfl 3 rfl wa (ay 9 0 (.inr (by kernel_rfl)) (λ_ _ ag=>⟨.inl ⟨rfl,rfl⟩,⟨.inl ⟨rfl,rfl⟩,trivial⟩⟩) sz3 ag3 rfl rfl (vI e_1.First) rfl wa (ae (vI (w64 (d_2-e_1.First))) wa rfl (aJ Cb rfl 5 rfl wa (ay 12 0 (.inr (by kernel_rfl)) (λ_ _ ag=>⟨.inl ⟨rfl,rfl⟩,⟨.inl ⟨rfl,rfl⟩,⟨.inl ⟨rfl,rfl⟩,trivial⟩⟩⟩) sz3 ag3 rfl rfl (vI e_1.Every) rfl wa ?_))))))
   obtain ⟨q_9,hz_10,h_5⟩:=bind_some h_5
   refine Ga rfl rfl hz_10 wa (ae (vB (q_9 != 0)) wa rfl (ae (vB (q_9 != 0)) wz rfl ?_))
   rcases au h_5 with⟨hc_11,h_5⟩|⟨hc_11,h_5⟩
   ·refine aH rfl hc_11 wz (ak wa (ak wa (ak wa (ak wa (ak wa (ak wa (ak wa (ae (vB true) wz rfl (aj ?_)))))))))
    obtain rfl:=ah h_5
    exact cu
   ·refine aH rfl hc_11 wz (aJ BB rfl 6 rfl wa (ay 18 0 (.inr (by kernel_rfl)) (λ_ _ ag=>⟨.inl ⟨rfl,rfl⟩,⟨.inl ⟨rfl,rfl⟩,⟨.inl ⟨rfl,rfl⟩,⟨.inl ⟨rfl,rfl⟩,trivial⟩⟩⟩⟩) sz3 ag3 rfl rfl (vI e_1.Days) rfl wa (ae (vI d_2) wa rfl (ae (vI (d_2.tmod 7)) wa rfl ?_))))
    obtain ⟨q_12,hz_13,h_5⟩:=bind_some h_5
    refine h_shl rfl rfl hz_13 wa (ae (vI (wX .i64 e_1.Days q_12)) wa rfl (ae (vB ((wX .i64 e_1.Days q_12)==0)) wa rfl (ae (vB ((wX .i64 e_1.Days q_12)==0)) wz rfl (aj ?_))))
    obtain rfl:=ah h_5
    exact cu
 ·rintro ⟨⟩ _ sl_ H_ hp_ hq_
  refine aN _ hp_ hq_ ?_
  rcases au hF with⟨hc_14,hF⟩|⟨hc_14,hF⟩
  ·refine aB rfl hc_14 (af (aa (ae (vB false) wz rfl (aj ?_))))
   obtain rfl:=ah hF
   exact aC (bv (.inr rfl) [(vB false)] ⟨rfl,trivial⟩ rfl rfl rfl)
  ·refine aA rfl hc_14 (ax (af (aa (aJ rT rfl 7 rfl wz (ay 0 0 il ft qw sH rfl rfl (vL eI e_1.Except) rfl wz (ae (vI d_2) wz rfl ?_))))))
   obtain ⟨r_15,hr_16,hF⟩:=bind_some hF
   refine aF (oL hr_16) rfl hb80 rfl rfl rfl rfl wz (ae (.tup [(vI r_15.1),(vB r_15.2)]) wz rfl (ae (vI r_15.1) wz rfl (ae (vB r_15.2) wz rfl (ae (vI r_15.1) wz rfl (ae (vB r_15.2) wz rfl (aj (af (aa (ae (vB r_15.2) wz rfl (ae (vB (!r_15.2)) wz rfl (ae (vB (!r_15.2)) wz rfl (aj ?_))))))))))))
   obtain rfl:=ah hF
   exact aC (bv (.inr rfl) [(vB (!r_15.2))] ⟨rfl,trivial⟩ rfl rfl rfl)
theorem qp {e_1:Entry} {zone_2:Int} {d_3:Int} {r:Window} (hF:kS e_1 zone_2 d_3=some r) :
  FnM Tryz.prog 62 [(.d (.agg (Entry.enc e_1))),(vI zone_2),(vI d_3)] [] (.d (.agg (Window.enc r))) []:=by
 refine FnM.of_wH ⟨Tryz.prog,32,[],[]⟩ rfl Tryz.func62 rfl rfl (lb_ rfl) (by kernel_rfl) ?_
 unfold kS at hF
 refine af (aa (dZ 0 (.inl rfl) [(vS e_1.Key),(vS e_1.Item),(vI e_1.Version),(vI e_1.First),(vI e_1.Last),(vI e_1.Every),(vI e_1.Days),(vL eI e_1.Except),(vI e_1.From),(vI e_1.To),(vI e_1.Prio),(vL eS e_1.Tags),(vB e_1.Gone)] rfl rfl wz (λn_4=>bR 0 (.inl rfl) z33 rfl wz (λn_5=>aj (af (aa (aJ BV rfl 9 rfl wz (ay 0 0 il ft sz3 ag3 rfl rfl (vI e_1.To) rfl wz (aJ xK rfl 8 rfl wz (ay 0 0 il ft sz3 ag3 rfl rfl (vI e_1.From) rfl wz (ae (vI (w64 (e_1.To-e_1.From))) wz rfl (ae (vI (w64 (e_1.To-e_1.From))) wz rfl (aj (af (af (aa (ae (vI (w64 (e_1.To-e_1.From))) wz rfl (ae (vB (decide ((w64 (e_1.To-e_1.From))<=0))) wz rfl (aj ?_)))))))))))))))))))
 obtain ⟨v_6,h_7,hF⟩:=bind_some hF
 refine aG (β:=Unit) (λ_=>([(1,(vI zone_2)),(2,(vI d_3)),(3,(.ref n_4 0 0)),(6,(.ref n_5 0 0)),(7,(vI v_6))]:SL_)) (λ_=>([(n_4,some (.cells 13 [(vS e_1.Key),(vS e_1.Item),(vI e_1.Version),(vI e_1.First),(vI e_1.Last),(vI e_1.Every),(vI e_1.Days),(vL eI e_1.Except),(vI e_1.From),(vI e_1.To),(vI e_1.Prio),(vL eS e_1.Tags),(vB e_1.Gone)])),(n_5,some (.cells 2 [(vI 0),(vI 0)]))]:Hp)) (λ_=>True) ?_ ?_
 ·rcases au h_7 with⟨hc_8,h_7⟩|⟨hc_8,h_7⟩
  ·refine aB rfl hc_8 (aa (ae (vI (w64 (e_1.To-e_1.From))) wz rfl (ae (vI (w64 ((w64 (e_1.To-e_1.From))+1440))) wz rfl (ae (vI (w64 ((w64 (e_1.To-e_1.From))+1440))) wz rfl (aj ?_)))))
   obtain rfl:=ah h_7
   exact cu
  ·refine aA rfl hc_8 (ax ?_)
   obtain rfl:=ah h_7
   exact cu
 ·rintro ⟨⟩ _ sl_ H_ hp_ hq_
  refine aN _ hp_ hq_ (af (aa (ae (vI d_3) wz rfl (ae (vI (w64 (d_3*1440))) wz rfl (aJ xK rfl 8 rfl wz (ay 0 0 il ft sz3 ag3 rfl rfl (vI e_1.From) rfl wz (ae (vI (w64 ((w64 (d_3*1440))+e_1.From))) wz rfl (ae (vI zone_2) wz rfl (ae (vI (w64 ((w64 ((w64 (d_3*1440))+e_1.From))-zone_2))) wz rfl (ae (vI (w64 ((w64 ((w64 ((w64 (d_3*1440))+e_1.From))-zone_2))*60000))) wz rfl (ae (vI (w64 ((w64 ((w64 ((w64 (d_3*1440))+e_1.From))-zone_2))*60000))) wz rfl (aj (af (aa (ae (vI (w64 ((w64 ((w64 ((w64 (d_3*1440))+e_1.From))-zone_2))*60000))) wz rfl (ae (vI (w64 ((w64 ((w64 ((w64 (d_3*1440))+e_1.From))-zone_2))*60000))) wz rfl (ae (vI v_6) wz rfl (ae (vI (w64 (v_6*60000))) wz rfl (ae (vI (w64 ((w64 ((w64 ((w64 ((w64 (d_3*1440))+e_1.From))-zone_2))*60000))+(w64 (v_6*60000))))) wz rfl (ae (.d (.agg (Window.enc (⟨(w64 ((w64 ((w64 ((w64 (d_3*1440))+e_1.From))-zone_2))*60000)),(w64 ((w64 ((w64 ((w64 ((w64 (d_3*1440))+e_1.From))-zone_2))*60000))+(w64 (v_6*60000))))⟩:Window)))) wz (by kernel_rfl) (eu 0 il ft 1 eP rfl rfl [(vI (w64 ((w64 ((w64 ((w64 (d_3*1440))+e_1.From))-zone_2))*60000))),(vI (w64 ((w64 ((w64 ((w64 ((w64 (d_3*1440))+e_1.From))-zone_2))*60000))+(w64 (v_6*60000)))))] rfl wz (aj ?_))))))))))))))))))))))
  obtain rfl:=ah hF
  exact aC (bv (.inr rfl) [(.d (.agg (Window.enc (⟨(w64 ((w64 ((w64 ((w64 (d_3*1440))+e_1.From))-zone_2))*60000)),(w64 ((w64 ((w64 ((w64 ((w64 (d_3*1440))+e_1.From))-zone_2))*60000))+(w64 (v_6*60000))))⟩:Window))))] ⟨⟨1,_,_,_,_,_,_,_,rfl,rfl,eP,iO,rfl⟩,trivial⟩ rfl rfl rfl)
theorem nS {e_1:Entry} {zone_2:Int} {wv_3:Window} {r:(List Window)} (hF:fG e_1 zone_2 wv_3=some r) :
  FnM Tryz.prog 35 [(.d (.agg (Entry.enc e_1))),(vI zone_2),(.d (.agg (Window.enc wv_3)))] [] (vL Window.enc r) []:=by
 refine FnM.of_wH ⟨Tryz.prog,72,[],[]⟩ rfl Tryz.func35 rfl rfl (lb_ rfl) (by kernel_rfl) ?_
 unfold fG at hF
 refine af (aa (dZ 0 (.inl rfl) [(vS e_1.Key),(vS e_1.Item),(vI e_1.Version),(vI e_1.First),(vI e_1.Last),(vI e_1.Every),(vI e_1.Days),(vL eI e_1.Except),(vI e_1.From),(vI e_1.To),(vI e_1.Prio),(vL eS e_1.Tags),(vB e_1.Gone)] rfl rfl wz (λn_4=>dZ 0 (.inl rfl) [(vI wv_3.From),(vI wv_3.To)] rfl rfl wz (λn_5=>ae .nil wz rfl (aj (af (aa (ae .nil wz rfl (aj (af (af ?_)))))))))))
 obtain ⟨v_6,h_7,hF⟩:=bind_some hF
 refine aG (β:=Unit) (λ_=>([(1,(vI zone_2)),(3,(.ref n_4 0 0)),(5,(.ref n_5 0 0)),(7,.nil),(20,(vB v_6))]:SL_)) (λ_=>([(n_4,some (.cells 13 [(vS e_1.Key),(vS e_1.Item),(vI e_1.Version),(vI e_1.First),(vI e_1.Last),(vI e_1.Every),(vI e_1.Days),(vL eI e_1.Except),(vI e_1.From),(vI e_1.To),(vI e_1.Prio),(vL eS e_1.Tags),(vB e_1.Gone)])),(n_5,some (.cells 2 [(vI wv_3.From),(vI wv_3.To)]))]:Hp)) (λ_=>True) ?_ ?_
 ·refine aa (aJ Bh rfl 12 rfl wz (ay 0 0 il ft sz4 ag4 rfl rfl (vB e_1.Gone) rfl wz ?_))
  rcases au h_7 with⟨hc_8,h_7⟩|⟨hc_8,h_7⟩
  ·refine aH rfl hc_8 wz (ak wa (ak wa (ak wa (ak wa (ak wa (ae (vB true) wz rfl (aj ?_)))))))
   obtain rfl:=ah h_7
   exact cu
  ·refine aH rfl hc_8 wz (aJ fw rfl 0 rfl wa (ay 0 1 il ft sz3 ag3 rfl rfl (vI wv_3.From) rfl wa (aJ dX rfl 1 rfl wa (ay 0 1 il ft sz3 ag3 rfl rfl (vI wv_3.To) rfl wa (ae (vB (decide (wv_3.From>=wv_3.To))) wa rfl (ae (vB (decide (wv_3.From>=wv_3.To))) wz rfl (aj ?_)))))))
   obtain rfl:=ah h_7
   exact cu
 ·rintro ⟨⟩ _ sl_ H_ hp_ hq_
  refine aN _ hp_ hq_ ?_
  rcases au hF with⟨hc_9,hF⟩|⟨hc_9,hF⟩
  ·refine aB rfl hc_9 (af (aa (ae .nil wz rfl (aj ?_))))
   obtain rfl:=ah hF
   exact aC (bv (.inr rfl) [.nil] ⟨rfl,trivial⟩ rfl rfl rfl)
  ·refine aA rfl hc_9 (ax (af (aa (aJ fw rfl 0 rfl wz (ay 0 1 il ft sz3 ag3 rfl rfl (vI wv_3.From) rfl wz (ae (vI zone_2) wz rfl (ae (vI (w64 (zone_2*60000))) wz rfl (ae (vI (w64 (wv_3.From+(w64 (zone_2*60000))))) wz rfl (ae (vI (w64 ((w64 (wv_3.From+(w64 (zone_2*60000)))).tdiv 86400000))) wz rfl (ae (vI (w64 ((w64 ((w64 (wv_3.From+(w64 (zone_2*60000)))).tdiv 86400000))-2))) wz rfl (ae (vI (w64 ((w64 ((w64 (wv_3.From+(w64 (zone_2*60000)))).tdiv 86400000))-2))) wz rfl (aj (af (aa (aJ dX rfl 1 rfl wz (ay 0 1 il ft sz3 ag3 rfl rfl (vI wv_3.To) rfl wz (ae (vI zone_2) wz rfl (ae (vI (w64 (zone_2*60000))) wz rfl (ae (vI (w64 (wv_3.To+(w64 (zone_2*60000))))) wz rfl (ae (vI (w64 ((w64 (wv_3.To+(w64 (zone_2*60000)))).tdiv 86400000))) wz rfl (ae (vI (w64 ((w64 ((w64 (wv_3.To+(w64 (zone_2*60000)))).tdiv 86400000))+1))) wz rfl (ae (vI (w64 ((w64 ((w64 (wv_3.To+(w64 (zone_2*60000)))).tdiv 86400000))+1))) wz rfl (aj ?_)))))))))))))))))))))))
   refine af (af (aa (ae (vI (w64 ((w64 ((w64 (wv_3.From+(w64 (zone_2*60000)))).tdiv 86400000))-2))) wz rfl (aJ rf rfl 3 rfl wz (ay 0 0 il ft sz3 ag3 rfl rfl (vI e_1.First) rfl wz (mJ (vI (jw (w64 ((w64 ((w64 (wv_3.From+(w64 (zone_2*60000)))).tdiv 86400000))-2)) e_1.First)) rfl (.inr rfl) wz (ae (vI (jw (w64 ((w64 ((w64 (wv_3.From+(w64 (zone_2*60000)))).tdiv 86400000))-2)) e_1.First)) wz rfl (aj (lq (λn_16 => ?_))))))))))
   obtain ⟨o_21,hj_22,hF⟩:=bind_some hF
   obtain ⟨nq_40,hj_22⟩:=ek hj_22
   refine aG (β:=((List Window)×Int)×Nm) (λp=>(λ(s_15:(List Window)×Int) (n_18:Nm)=>([(7,(gV n_18 2 s_15.1))]:SL_)) p.1 p.2) (λp=>(λ(s_15:(List Window)×Int) (n_18:Nm)=>([(n_4,some (.cells 13 [(vS e_1.Key),(vS e_1.Item),(vI e_1.Version),(vI e_1.First),(vI e_1.Last),(vI e_1.Every),(vI e_1.Days),(vL eI e_1.Except),(vI e_1.From),(vI e_1.To),(vI e_1.Prio),(vL eS e_1.Tags),(vB e_1.Gone)])),(n_5,some (.cells 2 [(vI wv_3.From),(vI wv_3.To)])),(n_18,gB 2 Window.enc s_15.1)]:Hp)) p.1 p.2) (λp=>o_21 = .go p.1) ?_ ?_
   ·refine aD (aX (β:=Nat×((List Window)×Int)×Nm) (λp=>(λ(k_10:Nat) (s_15:(List Window)×Int) (n_18:Nm)=>([(1,(vI zone_2)),(3,(.ref n_4 0 0)),(5,(.ref n_5 0 0)),(7,(gV n_18 2 s_15.1)),(9,(vI (w64 ((w64 ((w64 (wv_3.To+(w64 (zone_2*60000)))).tdiv 86400000))+1)))),(10,(vI s_15.2))]:SL_)) p.1 p.2.1 p.2.2) (λp=>(λ(k_10:Nat) (s_15:(List Window)×Int) (n_18:Nm)=>([(n_4,some (.cells 13 [(vS e_1.Key),(vS e_1.Item),(vI e_1.Version),(vI e_1.First),(vI e_1.Last),(vI e_1.Every),(vI e_1.Days),(vL eI e_1.Except),(vI e_1.From),(vI e_1.To),(vI e_1.Prio),(vL eS e_1.Tags),(vB e_1.Gone)])),(n_5,some (.cells 2 [(vI wv_3.From),(vI wv_3.To)])),(n_18,gB 2 Window.enc s_15.1)]:Hp)) p.1 p.2.1 p.2.2) (λp=>cO (λs=>dN wv_3 zone_2 e_1 s) p.1 p.2.1=some o_21) (λp=>p.1) (nq_40,(([]:List Window),(jw (w64 ((w64 ((w64 (wv_3.From+(w64 (zone_2*60000)))).tdiv 86400000))-2)) e_1.First)),n_16) hj_22 rfl (aK rfl) ?_)
    rintro ⟨k_10,s_15,n_18⟩ hL_20
    dsimp only at hL_20
    cases k_10 with
    | zero=>cases hL_20
    | succ k_10 =>
     obtain ⟨c_,hc_19,hL_20⟩:=bind_some hL_20
     unfold dN at hc_19
     refine af (af (aa (ae (vI s_15.2) wz rfl (ae (vI (w64 ((w64 ((w64 (wv_3.To+(w64 (zone_2*60000)))).tdiv 86400000))+1))) wz rfl (aJ qV rfl 4 rfl wz (ay 0 0 il ft sz3 ag3 rfl rfl (vI e_1.Last) rfl wz (mJ (vI (jB (w64 ((w64 ((w64 (wv_3.To+(w64 (zone_2*60000)))).tdiv 86400000))+1)) e_1.Last)) rfl (.inl rfl) wz (ae (vB (decide (s_15.2<=(jB (w64 ((w64 ((w64 (wv_3.To+(w64 (zone_2*60000)))).tdiv 86400000))+1)) e_1.Last)))) wz rfl (aj ?_)))))))))
     rcases au hc_19 with⟨hc_23,hc_19⟩|⟨hc_23,hc_19⟩
     ·refine aB rfl hc_23 (ax (af (aD (af (af (aa (ay 0 0 il ft gK jR rfl rfl (.d (.agg (Entry.enc e_1))) rfl wz (ae (vI s_15.2) wz rfl ?_))))))))
      obtain ⟨r_24,hr_25,hc_19⟩:=bind_some hc_19
      refine aF (rD hr_25) rfl hb61 rfl rfl rfl rfl wz (ae (vB (!r_24)) wz rfl (aj ?_))
      rcases au hc_19 with⟨hc_26,hc_19⟩|⟨hc_26,hc_19⟩
      ·refine aB rfl hc_26 (aS (aa (ae (vI s_15.2) wz rfl (ae (vI (w64 (s_15.2+1))) wz rfl (ae (vI (w64 (s_15.2+1))) wz rfl (aj ?_))))))
       obtain rfl:=ah hc_19
       exact aO (k_10,(s_15.1,(w64 (s_15.2+1))),n_18) hL_20 (ls_ _) rfl (aK rfl)
      ·refine aA rfl hc_26 (ax (af (aa (ay 0 0 il ft gK jR rfl rfl (.d (.agg (Entry.enc e_1))) rfl wz (ae (vI zone_2) wz rfl (ae (vI s_15.2) wz rfl ?_))))))
       obtain ⟨r_27,hr_28,hc_19⟩:=bind_some hc_19
       refine aF (qp hr_28) rfl hb62 rfl rfl rfl rfl wz (bR 0 (.inl rfl) z33 rfl wz (λn_29=>eu 0 il ft 3 eP rfl rfl [(vI r_27.From),(vI r_27.To)] rfl wz (aj (af ?_))))
       obtain ⟨v_30,h_31,hc_19⟩:=bind_some hc_19
       refine aG (β:=Unit) (λ_=>([(1,(vI zone_2)),(3,(.ref n_4 0 0)),(5,(.ref n_5 0 0)),(7,(gV n_18 2 s_15.1)),(9,(vI (w64 ((w64 ((w64 (wv_3.To+(w64 (zone_2*60000)))).tdiv 86400000))+1)))),(10,(vI s_15.2)),(11,(.ref n_29 0 0)),(66,(vB v_30))]:SL_)) (λ_=>([(n_4,some (.cells 13 [(vS e_1.Key),(vS e_1.Item),(vI e_1.Version),(vI e_1.First),(vI e_1.Last),(vI e_1.Every),(vI e_1.Days),(vL eI e_1.Except),(vI e_1.From),(vI e_1.To),(vI e_1.Prio),(vL eS e_1.Tags),(vB e_1.Gone)])),(n_5,some (.cells 2 [(vI wv_3.From),(vI wv_3.To)])),(n_18,gB 2 Window.enc s_15.1),(n_29,some (.cells 2 [(vI r_27.From),(vI r_27.To)]))]:Hp)) (λ_=>True) ?_ ?_
       ·refine aa (aJ fw rfl 0 rfl wz (ay 0 3 il ft sz3 ag3 rfl rfl (vI r_27.From) rfl wz (aJ dX rfl 1 rfl wz (ay 0 1 il ft sz3 ag3 rfl rfl (vI wv_3.To) rfl wz (ae (vB (decide (r_27.From<wv_3.To))) wz rfl ?_)))))
        rcases au h_31 with⟨hc_32,h_31⟩|⟨hc_32,h_31⟩
        ·refine aH rfl hc_32 wz (aJ dX rfl 1 rfl wa (ay 0 3 il ft sz3 ag3 rfl rfl (vI r_27.To) rfl wa (aJ fw rfl 0 rfl wa (ay 0 1 il ft sz3 ag3 rfl rfl (vI wv_3.From) rfl wa (ae (vB (decide (r_27.To>wv_3.From))) wa rfl (ae (vB (decide (r_27.To>wv_3.From))) wz rfl (aj ?_)))))))
         obtain rfl:=ah h_31
         exact cu
        ·refine aH rfl hc_32 wz (ak wa (ak wa (ak wa (ak wa (ak wa (ae (vB false) wz rfl (aj ?_)))))))
         obtain rfl:=ah h_31
         exact cu
       ·rintro ⟨⟩ _ sl_ H_ hp_ hq_
        refine aN _ hp_ hq_ ?_
        obtain ⟨v_33,h_34,hc_19⟩:=bind_some hc_19
        refine aG (β:=Nm) (λ(n_35:Nm)=>([(1,(vI zone_2)),(3,(.ref n_4 0 0)),(5,(.ref n_5 0 0)),(7,(gV n_35 2 v_33)),(9,(vI (w64 ((w64 ((w64 (wv_3.To+(w64 (zone_2*60000)))).tdiv 86400000))+1)))),(10,(vI s_15.2))]:SL_)) (λ(n_35:Nm)=>([(n_4,some (.cells 13 [(vS e_1.Key),(vS e_1.Item),(vI e_1.Version),(vI e_1.First),(vI e_1.Last),(vI e_1.Every),(vI e_1.Days),(vL eI e_1.Except),(vI e_1.From),(vI e_1.To),(vI e_1.Prio),(vL eS e_1.Tags),(vB e_1.Gone)])),(n_5,some (.cells 2 [(vI wv_3.From),(vI wv_3.To)])),(n_35,gB 2 Window.enc v_33),(n_29,some (.cells 2 [(vI r_27.From),(vI r_27.To)]))]:Hp)) (λ_=>True) ?_ ?_
        ·rcases au h_34 with⟨hc_36,h_34⟩|⟨hc_36,h_34⟩
         ·refine aB rfl hc_36 (aa (ae (gV n_18 2 s_15.1) wz rfl (ay 0 3 il ft eP iO rfl rfl (.d (.agg (Window.enc r_27))) rfl wz (dW (([r_27]:List Window).map Window.enc) qQ LY rfl rfl rfl rfl rfl wz ?_))))
          obtain ⟨a_37,hz_38,h_34⟩:=bind_some h_34
          refine mq 0 il ft (i:=2) Dn Dn eP z33 rfl (by decide) L9 (by decide) (λ_=>rfl) rfl rfl rfl hz_38 wz (λn_39=>ae (gV n_39 2 a_37) wz rfl (aj ?_))
          obtain rfl:=ah h_34
          exact aU n_39 trivial rfl (aK rfl)
         ·refine aA rfl hc_36 (ax ?_)
          obtain rfl:=ah h_34
          exact aU n_18 trivial rfl (aK rfl)
        ·rintro n_35 _ sl_ H_ hp_ hq_
         refine aN _ hp_ hq_ (aa (ae (vI s_15.2) wz rfl (ae (vI (w64 (s_15.2+1))) wz rfl (ae (vI (w64 (s_15.2+1))) wz rfl (aj ?_)))))
         obtain rfl:=ah hc_19
         exact aO (k_10,(v_33,(w64 (s_15.2+1))),n_35) hL_20 (ls_ _) rfl (aK rfl)
     ·refine aA rfl hc_23 (aS ?_)
      obtain rfl:=ah hc_19
      obtain rfl:=ah hL_20
      exact aU ((s_15.1,s_15.2),n_18) rfl rfl (aK rfl)
   ·rintro ⟨s_15,n_18⟩ ho_ sl_ H_ hp_ hq_
    subst ho_
    refine aN _ hp_ hq_ (af (aa (ae (gV n_18 2 s_15.1) wz rfl (ae (gV n_18 2 s_15.1) wz rfl (aj (gX 2 rfl (dY 6 2 rfl rfl (dY 7 2 rfl rfl (dY 71 2 rfl rfl ?_)))))))))
    obtain rfl:=ah hF
    exact aC (bv (.inr rfl) [(vL Window.enc s_15.1)] ⟨rfl,trivial⟩ rfl rfl rfl)
theorem yI {l_1:(List Entry)} {p_2:Player} {wv_3:Window} {r:(List Span)} (hF:iR l_1 p_2 wv_3=some r) :
  FnM Tryz.prog 51 [(vL Entry.enc l_1),(.d (.agg (Player.enc p_2))),(.d (.agg (Window.enc wv_3)))] [] (vL Span.enc r) []:=by
 refine FnM.of_wH ⟨Tryz.prog,47,[],[]⟩ rfl Tryz.func51 rfl rfl (lb_ rfl) (by kernel_rfl) ?_
 unfold iR at hF
 refine af (aa (dZ 0 (.inl rfl) [(vS p_2.Key),(vS p_2.Screen),(vI p_2.Zone),(vL eS p_2.Tags)] rfl rfl wz (λn_4=>dZ 0 (.inl rfl) [(vI wv_3.From),(vI wv_3.To)] rfl rfl wz (λn_5=>ae .nil wz rfl (aj (af (aa (ae .nil wz rfl (aj (af (af (aa (ae (vL Entry.enc l_1) wz rfl (bX qb rfl wz (ae (vI 0) wz rfl (aj (lq (λn_12 => ?_))))))))))))))))))
 obtain ⟨o_17,hj_18,hF⟩:=bind_some hF
 obtain ⟨hn_10,hj_18⟩:=bn hj_18
 refine aG (β:=((List Span))×Nm) (λp=>(λ(s_11:List Span) (n_14:Nm)=>([(7,(gV n_14 3 s_11))]:SL_)) p.1 p.2) (λp=>(λ(s_11:List Span) (n_14:Nm)=>([(n_4,some (.cells 4 [(vS p_2.Key),(vS p_2.Screen),(vI p_2.Zone),(vL eS p_2.Tags)])),(n_5,some (.cells 2 [(vI wv_3.From),(vI wv_3.To)])),(n_14,gB 3 Span.enc s_11)]:Hp)) p.1 p.2) (λp=>o_17 = .go p.1) ?_ ?_
 ·refine aD (aX (β:=Nat×(List Entry)×((List Span))×Nm) (λp=>(λ(k_6:Nat) (l_7:List Entry) (s_11:List Span) (n_14:Nm)=>([(0,(vL Entry.enc l_1)),(4,(.ref n_4 0 0)),(5,(.ref n_5 0 0)),(7,(gV n_14 3 s_11)),(12,(vI (l_1.length:Int))),(13,(vI (k_6:Int)))]:SL_)) p.1 p.2.1 p.2.2.1 p.2.2.2) (λp=>(λ(k_6:Nat) (l_7:List Entry) (s_11:List Span) (n_14:Nm)=>([(n_4,some (.cells 4 [(vS p_2.Key),(vS p_2.Screen),(vI p_2.Zone),(vL eS p_2.Tags)])),(n_5,some (.cells 2 [(vI wv_3.From),(vI wv_3.To)])),(n_14,gB 3 Span.enc s_11)]:Hp)) p.1 p.2.1 p.2.2.1 p.2.2.2) (λp=>dG (λk x s=>gM p_2 wv_3 l_1 k x s) p.2.1 p.1 p.2.2.1=some o_17/\(l_1).drop p.1=p.2.1) (λp=>p.2.1.length) (0,l_1,([]:List Span),n_12) ⟨hj_18,rfl⟩ rfl (aK rfl) ?_)
  rintro ⟨k_6,l_7,s_11,n_14⟩ ⟨hL_16,hD_9⟩
  dsimp only at hL_16 hD_9
  cases l_7 with
  | nil =>
   obtain rfl:=ah hL_16
   refine af (aa (ae (vB (decide ((k_6:Int)<(l_1.length:Int)))) wz rfl (aj ?_)))
   refine af (aA rfl (drop_nil hD_9) (aS ?_))
   exact aU (s_11,n_14) rfl rfl (aK rfl)
  | cons x_8 l_7 =>
   obtain ⟨c_,hc_15,hL_16⟩:=bind_some hL_16
   refine af (aa (ae (vB (decide ((k_6:Int)<(l_1.length:Int)))) wz rfl (aj ?_)))
   refine af (aB rfl (bE hD_9) (ax ?_))
   unfold gM at hc_15
   refine af (aD (af (aa (ae (vI (k_6:Int)) wz rfl (ae (vI (k_6:Int)) wz rfl (aj (af (af (bN (ae (vL Entry.enc l_1) wz rfl (ae (vI (k_6:Int)) wz rfl (dL mE rfl rfl (bL hD_9) rfl wz (bz gK jR rfl (.d (.agg (Entry.enc x_8))) rfl wz (ay 4 0 (.inr (by kernel_rfl)) (λ_ _ ag=>trivial) p8 uI rfl rfl (.d (.agg (Player.enc p_2))) rfl wz ?_))))))))))))))
   obtain ⟨r_19,hr_20,hc_15⟩:=bind_some hc_15
   refine aF (tK hr_20) rfl hb74 rfl rfl rfl rfl wz (ae (vB (!r_19)) wz rfl (aj ?_))
   rcases au hc_15 with⟨hc_21,hc_15⟩|⟨hc_21,hc_15⟩
   ·refine aB rfl hc_21 (aS (aa (gm (bH hD_9 hn_10) wz rfl (ae (vI ((k_6+1:Nat):Int)) wz rfl (aj ?_)))))
    obtain rfl:=ah hc_15
    exact aO (k_6+1,l_7,s_11,n_14) ⟨hL_16,aP hD_9⟩ (ls_ _) rfl (aK rfl)
   ·refine aA rfl hc_21 (ax (af (bN (ae (vL Entry.enc l_1) wz rfl (ae (vI (k_6:Int)) wz rfl (dL mE rfl rfl (bL hD_9) rfl wz (bz gK jR rfl (.d (.agg (Entry.enc x_8))) rfl wz (aJ uD rfl 2 rfl wz (ay 5 0 (.inr (by kernel_rfl)) (λ_ _ ag=>trivial) sz3 ag3 rfl rfl (vI p_2.Zone) rfl wz (ay 6 1 (.inr (by kernel_rfl)) (λ_ _ ag=>⟨.inl ⟨rfl,rfl⟩,trivial⟩) eP iO rfl rfl (.d (.agg (Window.enc wv_3))) rfl wz ?_))))))))))
    obtain ⟨r_22,hr_23,hc_15⟩:=bind_some hc_15
    refine aF (nS hr_23) rfl hb35 rfl rfl rfl rfl wz (bX zg rfl wz (ae (vI 0) wz rfl (aj ?_)))
    obtain ⟨o_34,hj_35,hc_15⟩:=bind_some hc_15
    obtain ⟨hn_28,hj_35⟩:=bn hj_35
    refine aG (β:=((List Span))×Nm) (λp=>(λ(s_29:List Span) (n_31:Nm)=>([(0,(vL Entry.enc l_1)),(4,(.ref n_4 0 0)),(5,(.ref n_5 0 0)),(7,(gV n_31 3 s_29)),(12,(vI (l_1.length:Int))),(13,(vI (k_6:Int)))]:SL_)) p.1 p.2) (λp=>(λ(s_29:List Span) (n_31:Nm)=>([(n_4,some (.cells 4 [(vS p_2.Key),(vS p_2.Screen),(vI p_2.Zone),(vL eS p_2.Tags)])),(n_5,some (.cells 2 [(vI wv_3.From),(vI wv_3.To)])),(n_31,gB 3 Span.enc s_29)]:Hp)) p.1 p.2) (λp=>o_34 = .go p.1) ?_ ?_
    ·refine aD (aX (β:=Nat×(List Window)×((List Span))×Nm) (λp=>(λ(k_24:Nat) (l_25:List Window) (s_29:List Span) (n_31:Nm)=>([(0,(vL Entry.enc l_1)),(4,(.ref n_4 0 0)),(5,(.ref n_5 0 0)),(7,(gV n_31 3 s_29)),(8,(vI (k_6:Int))),(12,(vI (l_1.length:Int))),(13,(vI (k_6:Int))),(30,(vL Window.enc r_22)),(31,(vI (r_22.length:Int))),(32,(vI (k_24:Int)))]:SL_)) p.1 p.2.1 p.2.2.1 p.2.2.2) (λp=>(λ(k_24:Nat) (l_25:List Window) (s_29:List Span) (n_31:Nm)=>([(n_4,some (.cells 4 [(vS p_2.Key),(vS p_2.Screen),(vI p_2.Zone),(vL eS p_2.Tags)])),(n_5,some (.cells 2 [(vI wv_3.From),(vI wv_3.To)])),(n_31,gB 3 Span.enc s_29)]:Hp)) p.1 p.2.1 p.2.2.1 p.2.2.2) (λp=>dG (λk x s=>gZ l_1 k_6 k x s) p.2.1 p.1 p.2.2.1=some o_34/\(r_22).drop p.1=p.2.1) (λp=>p.2.1.length) (0,r_22,s_11,n_14) ⟨hj_35,rfl⟩ rfl (aK rfl) ?_)
     rintro ⟨k_24,l_25,s_29,n_31⟩ ⟨hL_33,hD_27⟩
     dsimp only at hL_33 hD_27
     cases l_25 with
     | nil =>
      obtain rfl:=ah hL_33
      refine af (aa (ae (vB (decide ((k_24:Int)<(r_22.length:Int)))) wz rfl (aj ?_)))
      refine af (aA rfl (drop_nil hD_27) (aS ?_))
      exact aU (s_29,n_31) rfl rfl (aK rfl)
     | cons x_26 l_25 =>
      obtain ⟨c_,hc_32,hL_33⟩:=bind_some hL_33
      refine af (aa (ae (vB (decide ((k_24:Int)<(r_22.length:Int)))) wz rfl (aj ?_)))
      refine af (aB rfl (bE hD_27) (ax ?_))
      unfold gZ at hc_32
      refine af (aD (af (aa (dL qQ rfl rfl (bL hD_27) rfl wz (bz eP iO rfl (.d (.agg (Window.enc x_26))) rfl wz (bR 0 (.inl rfl) z33 rfl wz (λn_36=>eu 0 il ft 3 eP rfl rfl [(vI x_26.From),(vI x_26.To)] rfl wz (aj (bN (ae (gV n_31 3 s_29) wz rfl (ae (vL Entry.enc l_1) wz rfl (ae (vI (k_6:Int)) wz rfl ?_))))))))))))
      obtain ⟨y_37,hy_38,hc_32⟩:=bind_some hc_32
      refine dL mE rfl rfl hy_38 rfl wz (ay 4 3 (.inr (by kernel_rfl)) (λ_ _ ag=>trivial) eP iO rfl rfl (.d (.agg (Window.enc x_26))) rfl wz (ae (.d (.agg (Span.enc (⟨(some y_37),x_26⟩:Span)))) wz (by kernel_rfl) (dW (([(⟨(some y_37),x_26⟩:Span)]:List Span).map Span.enc) zu ez86 rfl rfl rfl rfl rfl wz ?_)))
      obtain ⟨a_39,hz_40,hc_32⟩:=bind_some hc_32
      refine mq 7 (.inr (by kernel_rfl)) (λ_ _ ag=>⟨.inr (.inr (by kernel_rfl)),trivial⟩) (i:=2) IU IU pI z90 rfl (by decide) by90 (by decide) (λ_=>rfl) rfl rfl rfl hz_40 wz (λn_41=>ae (gV n_41 3 a_39) wz rfl (aj (aa (gm (bH hD_27 hn_28) wz rfl (ae (vI ((k_24+1:Nat):Int)) wz rfl (aj ?_))))))
      obtain rfl:=ah hc_32
      exact aO (k_24+1,l_25,a_39,n_41) ⟨hL_33,aP hD_27⟩ (ls_ _) rfl (aK rfl)
    ·rintro ⟨s_29,n_31⟩ ho_ sl_ H_ hp_ hq_
     subst ho_
     refine aN _ hp_ hq_ (aa (gm (bH hD_9 hn_10) wz rfl (ae (vI ((k_6+1:Nat):Int)) wz rfl (aj ?_))))
     obtain rfl:=ah hc_15
     exact aO (k_6+1,l_7,s_29,n_31) ⟨hL_16,aP hD_9⟩ (ls_ _) rfl (aK rfl)
 ·rintro ⟨s_11,n_14⟩ ho_ sl_ H_ hp_ hq_
  subst ho_
  refine aN _ hp_ hq_ (af (aa (ae (gV n_14 3 s_11) wz rfl (ae (gV n_14 3 s_11) wz rfl (aj (gX 2 rfl (dY 6 2 rfl rfl (dY 7 2 rfl rfl (dY 46 2 rfl rfl ?_)))))))))
  obtain rfl:=ah hF
  exact aC (bv (.inr rfl) [(vL Span.enc s_11)] ⟨rfl,trivial⟩ rfl rfl rfl)
section
variable [dM:DM]
theorem kG {x_1:Int} {y_2:Int} {r:Int} (hF:cmp_Compare_int x_1 y_2=some r) :
  FnM Tryz.prog 54 [(vI x_1),(vI y_2)] [] (vI r) []:=by
 refine FnM.of_wH ⟨Tryz.prog,20,[],[]⟩ rfl Tryz.func54 rfl rfl (lb_ rfl) (by kernel_rfl) ?_
 unfold cmp_Compare_int at hF
 refine af (aa (ae (vI 0) wz rfl (aj (af (aa (ae (vI x_1) wz rfl ?_))))))
 obtain ⟨r_3,hr_4,hF⟩:=bind_some hF
 refine aF (lY hr_4) rfl hb76 rfl rfl rfl rfl wz (ae (vB r_3) wz rfl (aj (af (aa (ae (vI y_2) wz rfl ?_)))))
 obtain ⟨r_5,hr_6,hF⟩:=bind_some hF
 refine aF (lY hr_6) rfl hb76 rfl rfl rfl rfl wz (ae (vB r_5) wz rfl (aj (af (af (aa (ae (vB r_3) wz rfl (aj ?_)))))))
 rcases au hF with⟨hc_7,hF⟩|⟨hc_7,hF⟩
 ·refine aB rfl hc_7 (af (af (aa (ae (vB r_5) wz rfl (aj ?_)))))
  rcases au hF with⟨hc_8,hF⟩|⟨hc_8,hF⟩
  ·refine aB rfl hc_8 (af (aa (ae (vI 0) wz rfl (aj ?_))))
   obtain rfl:=ah hF
   exact aC (bv (.inr rfl) [(vI 0)] ⟨rfl,trivial⟩ rfl rfl rfl)
  ·refine aA rfl hc_8 (ax (af (aa (ae (vI (-1)) wz rfl (aj ?_)))))
   obtain rfl:=ah hF
   exact aC (bv (.inr rfl) [(vI (-1))] ⟨rfl,trivial⟩ rfl rfl rfl)
 ·refine aA rfl hc_7 (ax (af (af (aa (ae (vB r_5) wz rfl (aj ?_))))))
  rcases au hF with⟨hc_9,hF⟩|⟨hc_9,hF⟩
  ·refine aB rfl hc_9 (af (aa (ae (vI 1) wz rfl (aj ?_))))
   obtain rfl:=ah hF
   exact aC (bv (.inr rfl) [(vI 1)] ⟨rfl,trivial⟩ rfl rfl rfl)
  ·refine aA rfl hc_9 (ax (af (af (aa (ae (vI x_1) wz rfl (ae (vI y_2) wz rfl (ae (vB (decide (x_1<y_2))) wz rfl (aj ?_))))))))
   rcases au hF with⟨hc_10,hF⟩|⟨hc_10,hF⟩
   ·refine aB rfl hc_10 (af (aa (ae (vI (-1)) wz rfl (aj ?_))))
    obtain rfl:=ah hF
    exact aC (bv (.inr rfl) [(vI (-1))] ⟨rfl,trivial⟩ rfl rfl rfl)
   ·refine aA rfl hc_10 (ax (af (af (aa (ae (vI x_1) wz rfl (ae (vI y_2) wz rfl (ae (vB (decide (x_1>y_2))) wz rfl (aj ?_))))))))
    rcases au hF with⟨hc_11,hF⟩|⟨hc_11,hF⟩
    ·refine aB rfl hc_11 (af (aa (ae (vI 1) wz rfl (aj ?_))))
     obtain rfl:=ah hF
     exact aC (bv (.inr rfl) [(vI 1)] ⟨rfl,trivial⟩ rfl rfl rfl)
    ·refine aA rfl hc_11 (ax (af (aa (ae (vI 0) wz rfl (aj ?_)))))
     obtain rfl:=ah hF
     exact aC (bv (.inr rfl) [(vI 0)] ⟨rfl,trivial⟩ rfl rfl rfl)
end
section
variable [dM:DM]
theorem uZ {a_1:Span} {b_2:Span} {r:Int} (hF:iG a_1 b_2=some r) :
  FnM Tryz.prog 53 [(.d (.agg (Span.enc a_1))),(.d (.agg (Span.enc b_2)))] [] (vI r) []:=by
 refine FnM.of_wH ⟨Tryz.prog,12,[],[]⟩ rfl Tryz.func53 rfl rfl (lb_ rfl) (by kernel_rfl) ?_
 unfold iG at hF
 refine af (aa (dZ 0 (.inl rfl) [(.d (dP Entry.enc a_1.f_e)),(vI a_1.f_time.From),(vI a_1.f_time.To)] rfl (bP (mU _ _) (bP rfl (bP rfl rfl))) wz (λn_3=>dZ 0 (.inl rfl) [(.d (dP Entry.enc b_2.f_e)),(vI b_2.f_time.From),(vI b_2.f_time.To)] rfl (bP (mU _ _) (bP rfl (bP rfl rfl))) wz (λn_4=>ae (vI 0) wz rfl (aj (af (aa (aJ xJ rfl 1 rfl wz (aJ fw rfl 1 rfl wz (ay 0 0 il ft sz3 ag3 rfl rfl (vI a_1.f_time.From) rfl wz (aJ xJ rfl 1 rfl wz (aJ fw rfl 1 rfl wz (ay 0 1 il ft sz3 ag3 rfl rfl (vI b_2.f_time.From) rfl wz ?_)))))))))))))
 obtain ⟨r_5,hr_6,hF⟩:=bind_some hF
 refine aF (kG hr_6) rfl hb54 rfl rfl rfl rfl wz (ae (vI r_5) wz rfl (aj ?_))
 obtain rfl:=ah hF
 exact aC (bv (.inr rfl) [(vI r_5)] ⟨rfl,trivial⟩ rfl rfl rfl)
end
theorem mo {x r:(List Span)} (hF:gL x=some r) :
  FnM Tryz.prog 52 [(dV (av 0) 3 x),(.fn 53 [])] (([]:List Box)++gI 3 Span.enc x) (.tup []) (([]:List Box).map some++gT x (gB 3 Span.enc r)) :=
 Kh (E:=Span.enc) (F:=λa b=>iG a b) (λ_=>rfl) (λa b r h=>uZ (dM:=dmT) h) hb53 (λβ _ enc hk h1 cf hO g cb blk off cap d w eg hcmp hH hblk hsz=>Tryz.slices_SortFunc_eq_f52 3 Tryz.isAgg90 Tryz.sizeOf90 enc hk h1 cf hO g cb blk off cap d w eg hcmp hH hblk hsz) (λp cap fv w=>Tryz.slices_SortFunc_none_f52 (α:=Nat) p cap fv w) hF
theorem xX {l_1:(List Entry)} {p_2:Player} {wv_3:Window} {r:(List Span)} (hF:iR l_1 p_2 wv_3=some r) :
  FnM Tryz.prog 51 [(vL Entry.enc l_1),(.d (.agg (Player.enc p_2))),(.d (.agg (Window.enc wv_3)))] [] (gV (av 0) 3 r) (([]:List Box).map some++gO 3 Span.enc r):=by
 refine FnM.of_wH ⟨Tryz.prog,47,[],[]⟩ rfl Tryz.func51 rfl rfl (lb_ rfl) (by kernel_rfl) ?_
 unfold iR at hF
 refine af (aa (dZ 0 (.inl rfl) [(vS p_2.Key),(vS p_2.Screen),(vI p_2.Zone),(vL eS p_2.Tags)] rfl rfl wz (λn_4=>dZ 0 (.inl rfl) [(vI wv_3.From),(vI wv_3.To)] rfl rfl wz (λn_5=>ae .nil wz rfl (aj (af (aa (ae .nil wz rfl (aj (af (af (aa (ae (vL Entry.enc l_1) wz rfl (bX qb rfl wz (ae (vI 0) wz rfl (aj (lq (λn_12 => ?_))))))))))))))))))
 obtain ⟨o_17,hj_18,hF⟩:=bind_some hF
 obtain ⟨hn_10,hj_18⟩:=bn hj_18
 refine aG (β:=((List Span))×Nm) (λp=>(λ(s_11:List Span) (n_14:Nm)=>([(7,(gV n_14 3 s_11))]:SL_)) p.1 p.2) (λp=>(λ(s_11:List Span) (n_14:Nm)=>([(n_4,some (.cells 4 [(vS p_2.Key),(vS p_2.Screen),(vI p_2.Zone),(vL eS p_2.Tags)])),(n_5,some (.cells 2 [(vI wv_3.From),(vI wv_3.To)])),(n_14,gB 3 Span.enc s_11)]:Hp)) p.1 p.2) (λp=>o_17 = .go p.1) ?_ ?_
 ·refine aD (aX (β:=Nat×(List Entry)×((List Span))×Nm) (λp=>(λ(k_6:Nat) (l_7:List Entry) (s_11:List Span) (n_14:Nm)=>([(0,(vL Entry.enc l_1)),(4,(.ref n_4 0 0)),(5,(.ref n_5 0 0)),(7,(gV n_14 3 s_11)),(12,(vI (l_1.length:Int))),(13,(vI (k_6:Int)))]:SL_)) p.1 p.2.1 p.2.2.1 p.2.2.2) (λp=>(λ(k_6:Nat) (l_7:List Entry) (s_11:List Span) (n_14:Nm)=>([(n_4,some (.cells 4 [(vS p_2.Key),(vS p_2.Screen),(vI p_2.Zone),(vL eS p_2.Tags)])),(n_5,some (.cells 2 [(vI wv_3.From),(vI wv_3.To)])),(n_14,gB 3 Span.enc s_11)]:Hp)) p.1 p.2.1 p.2.2.1 p.2.2.2) (λp=>dG (λk x s=>gM p_2 wv_3 l_1 k x s) p.2.1 p.1 p.2.2.1=some o_17/\(l_1).drop p.1=p.2.1) (λp=>p.2.1.length) (0,l_1,([]:List Span),n_12) ⟨hj_18,rfl⟩ rfl (aK rfl) ?_)
  rintro ⟨k_6,l_7,s_11,n_14⟩ ⟨hL_16,hD_9⟩
  dsimp only at hL_16 hD_9
  cases l_7 with
  | nil =>
   obtain rfl:=ah hL_16
   refine af (aa (ae (vB (decide ((k_6:Int)<(l_1.length:Int)))) wz rfl (aj ?_)))
   refine af (aA rfl (drop_nil hD_9) (aS ?_))
   exact aU (s_11,n_14) rfl rfl (aK rfl)
  | cons x_8 l_7 =>
   obtain ⟨c_,hc_15,hL_16⟩:=bind_some hL_16
   refine af (aa (ae (vB (decide ((k_6:Int)<(l_1.length:Int)))) wz rfl (aj ?_)))
   refine af (aB rfl (bE hD_9) (ax ?_))
   unfold gM at hc_15
   refine af (aD (af (aa (ae (vI (k_6:Int)) wz rfl (ae (vI (k_6:Int)) wz rfl (aj (af (af (bN (ae (vL Entry.enc l_1) wz rfl (ae (vI (k_6:Int)) wz rfl (dL mE rfl rfl (bL hD_9) rfl wz (bz gK jR rfl (.d (.agg (Entry.enc x_8))) rfl wz (ay 4 0 (.inr (by kernel_rfl)) (λ_ _ ag=>trivial) p8 uI rfl rfl (.d (.agg (Player.enc p_2))) rfl wz ?_))))))))))))))
   obtain ⟨r_19,hr_20,hc_15⟩:=bind_some hc_15
   refine aF (tK hr_20) rfl hb74 rfl rfl rfl rfl wz (ae (vB (!r_19)) wz rfl (aj ?_))
   rcases au hc_15 with⟨hc_21,hc_15⟩|⟨hc_21,hc_15⟩
   ·refine aB rfl hc_21 (aS (aa (gm (bH hD_9 hn_10) wz rfl (ae (vI ((k_6+1:Nat):Int)) wz rfl (aj ?_)))))
    obtain rfl:=ah hc_15
    exact aO (k_6+1,l_7,s_11,n_14) ⟨hL_16,aP hD_9⟩ (ls_ _) rfl (aK rfl)
   ·refine aA rfl hc_21 (ax (af (bN (ae (vL Entry.enc l_1) wz rfl (ae (vI (k_6:Int)) wz rfl (dL mE rfl rfl (bL hD_9) rfl wz (bz gK jR rfl (.d (.agg (Entry.enc x_8))) rfl wz (aJ uD rfl 2 rfl wz (ay 5 0 (.inr (by kernel_rfl)) (λ_ _ ag=>trivial) sz3 ag3 rfl rfl (vI p_2.Zone) rfl wz (ay 6 1 (.inr (by kernel_rfl)) (λ_ _ ag=>⟨.inl ⟨rfl,rfl⟩,trivial⟩) eP iO rfl rfl (.d (.agg (Window.enc wv_3))) rfl wz ?_))))))))))
    obtain ⟨r_22,hr_23,hc_15⟩:=bind_some hc_15
    refine aF (nS hr_23) rfl hb35 rfl rfl rfl rfl wz (bX zg rfl wz (ae (vI 0) wz rfl (aj ?_)))
    obtain ⟨o_34,hj_35,hc_15⟩:=bind_some hc_15
    obtain ⟨hn_28,hj_35⟩:=bn hj_35
    refine aG (β:=((List Span))×Nm) (λp=>(λ(s_29:List Span) (n_31:Nm)=>([(0,(vL Entry.enc l_1)),(4,(.ref n_4 0 0)),(5,(.ref n_5 0 0)),(7,(gV n_31 3 s_29)),(12,(vI (l_1.length:Int))),(13,(vI (k_6:Int)))]:SL_)) p.1 p.2) (λp=>(λ(s_29:List Span) (n_31:Nm)=>([(n_4,some (.cells 4 [(vS p_2.Key),(vS p_2.Screen),(vI p_2.Zone),(vL eS p_2.Tags)])),(n_5,some (.cells 2 [(vI wv_3.From),(vI wv_3.To)])),(n_31,gB 3 Span.enc s_29)]:Hp)) p.1 p.2) (λp=>o_34 = .go p.1) ?_ ?_
    ·refine aD (aX (β:=Nat×(List Window)×((List Span))×Nm) (λp=>(λ(k_24:Nat) (l_25:List Window) (s_29:List Span) (n_31:Nm)=>([(0,(vL Entry.enc l_1)),(4,(.ref n_4 0 0)),(5,(.ref n_5 0 0)),(7,(gV n_31 3 s_29)),(8,(vI (k_6:Int))),(12,(vI (l_1.length:Int))),(13,(vI (k_6:Int))),(30,(vL Window.enc r_22)),(31,(vI (r_22.length:Int))),(32,(vI (k_24:Int)))]:SL_)) p.1 p.2.1 p.2.2.1 p.2.2.2) (λp=>(λ(k_24:Nat) (l_25:List Window) (s_29:List Span) (n_31:Nm)=>([(n_4,some (.cells 4 [(vS p_2.Key),(vS p_2.Screen),(vI p_2.Zone),(vL eS p_2.Tags)])),(n_5,some (.cells 2 [(vI wv_3.From),(vI wv_3.To)])),(n_31,gB 3 Span.enc s_29)]:Hp)) p.1 p.2.1 p.2.2.1 p.2.2.2) (λp=>dG (λk x s=>gZ l_1 k_6 k x s) p.2.1 p.1 p.2.2.1=some o_34/\(r_22).drop p.1=p.2.1) (λp=>p.2.1.length) (0,r_22,s_11,n_14) ⟨hj_35,rfl⟩ rfl (aK rfl) ?_)
     rintro ⟨k_24,l_25,s_29,n_31⟩ ⟨hL_33,hD_27⟩
     dsimp only at hL_33 hD_27
     cases l_25 with
     | nil =>
      obtain rfl:=ah hL_33
      refine af (aa (ae (vB (decide ((k_24:Int)<(r_22.length:Int)))) wz rfl (aj ?_)))
      refine af (aA rfl (drop_nil hD_27) (aS ?_))
      exact aU (s_29,n_31) rfl rfl (aK rfl)
     | cons x_26 l_25 =>
      obtain ⟨c_,hc_32,hL_33⟩:=bind_some hL_33
      refine af (aa (ae (vB (decide ((k_24:Int)<(r_22.length:Int)))) wz rfl (aj ?_)))
      refine af (aB rfl (bE hD_27) (ax ?_))
      unfold gZ at hc_32
      refine af (aD (af (aa (dL qQ rfl rfl (bL hD_27) rfl wz (bz eP iO rfl (.d (.agg (Window.enc x_26))) rfl wz (bR 0 (.inl rfl) z33 rfl wz (λn_36=>eu 0 il ft 3 eP rfl rfl [(vI x_26.From),(vI x_26.To)] rfl wz (aj (bN (ae (gV n_31 3 s_29) wz rfl (ae (vL Entry.enc l_1) wz rfl (ae (vI (k_6:Int)) wz rfl ?_))))))))))))
      obtain ⟨y_37,hy_38,hc_32⟩:=bind_some hc_32
      refine dL mE rfl rfl hy_38 rfl wz (ay 4 3 (.inr (by kernel_rfl)) (λ_ _ ag=>trivial) eP iO rfl rfl (.d (.agg (Window.enc x_26))) rfl wz (ae (.d (.agg (Span.enc (⟨(some y_37),x_26⟩:Span)))) wz (by kernel_rfl) (dW (([(⟨(some y_37),x_26⟩:Span)]:List Span).map Span.enc) zu ez86 rfl rfl rfl rfl rfl wz ?_)))
      obtain ⟨a_39,hz_40,hc_32⟩:=bind_some hc_32
      refine mq 7 (.inr (by kernel_rfl)) (λ_ _ ag=>⟨.inr (.inr (by kernel_rfl)),trivial⟩) (i:=2) IU IU pI z90 rfl (by decide) by90 (by decide) (λ_=>rfl) rfl rfl rfl hz_40 wz (λn_41=>ae (gV n_41 3 a_39) wz rfl (aj (aa (gm (bH hD_27 hn_28) wz rfl (ae (vI ((k_24+1:Nat):Int)) wz rfl (aj ?_))))))
      obtain rfl:=ah hc_32
      exact aO (k_24+1,l_25,a_39,n_41) ⟨hL_33,aP hD_27⟩ (ls_ _) rfl (aK rfl)
    ·rintro ⟨s_29,n_31⟩ ho_ sl_ H_ hp_ hq_
     subst ho_
     refine aN _ hp_ hq_ (aa (gm (bH hD_9 hn_10) wz rfl (ae (vI ((k_6+1:Nat):Int)) wz rfl (aj ?_))))
     obtain rfl:=ah hc_15
     exact aO (k_6+1,l_7,s_29,n_31) ⟨hL_16,aP hD_9⟩ (ls_ _) rfl (aK rfl)
 ·rintro ⟨s_11,n_14⟩ ho_ sl_ H_ hp_ hq_
  subst ho_
  refine aN _ hp_ hq_ (af (aa (ae (gV n_14 3 s_11) wz rfl (ae (gV n_14 3 s_11) wz rfl (aj ?_)))))
  obtain rfl:=ah hF
  exact aC (EL (outs:=([]:List Box)) (.inr rfl) 2 rfl rfl rfl (by kernel_rfl) (by kernel_rfl))
theorem kW {t_1:Window} {wv_2:Window} {r:Window} (hF:gW t_1 wv_2=some r) :
  FnM Tryz.prog 33 [(.d (.agg (Window.enc t_1))),(.d (.agg (Window.enc wv_2)))] [] (.d (.agg (Window.enc r))) []:=by
 refine FnM.of_wH ⟨Tryz.prog,16,[],[]⟩ rfl Tryz.func33 rfl rfl (lb_ rfl) (by kernel_rfl) ?_
 unfold gW at hF
 refine af (aa (dZ 0 (.inl rfl) [(vI t_1.From),(vI t_1.To)] rfl rfl wz (λn_3=>dZ 0 (.inl rfl) [(vI wv_2.From),(vI wv_2.To)] rfl rfl wz (λn_4=>bR 0 (.inl rfl) z33 rfl wz (λn_5=>aj (af (aa (aJ fw rfl 0 rfl wz (ay 0 0 il ft sz3 ag3 rfl rfl (vI t_1.From) rfl wz (aJ fw rfl 0 rfl wz (ay 0 1 il ft sz3 ag3 rfl rfl (vI wv_2.From) rfl wz (mJ (vI (jw t_1.From wv_2.From)) rfl (.inr rfl) wz (aJ dX rfl 1 rfl wz (ay 0 0 il ft sz3 ag3 rfl rfl (vI t_1.To) rfl wz (aJ dX rfl 1 rfl wz (ay 0 1 il ft sz3 ag3 rfl rfl (vI wv_2.To) rfl wz (mJ (vI (jB t_1.To wv_2.To)) rfl (.inl rfl) wz (ae (.d (.agg (Window.enc (⟨(jw t_1.From wv_2.From),(jB t_1.To wv_2.To)⟩:Window)))) wz (by kernel_rfl) (eu 0 il ft 2 eP rfl rfl [(vI (jw t_1.From wv_2.From)),(vI (jB t_1.To wv_2.To))] rfl wz (aj ?_))))))))))))))))))))
 obtain rfl:=ah hF
 exact aC (bv (.inr rfl) [(.d (.agg (Window.enc (⟨(jw t_1.From wv_2.From),(jB t_1.To wv_2.To)⟩:Window))))] ⟨⟨2,_,_,_,_,_,_,_,rfl,rfl,eP,iO,rfl⟩,trivial⟩ rfl rfl rfl)
theorem jF {x r:(List Int)} (hF:eT x=some r) :
  FnM Tryz.prog 44 [(dV (av 0) 1 x)] (([]:List Box)++gI 1 eI x) (.tup []) (([]:List Box).map some++gT x (gB 1 eI r)) :=
 Nf Tryz.slices_Sort_int Tryz.slices_Sort_int_none hF
theorem ji {s_1:(List Int)} {r:(List Int)} (hF:cB s_1=some r) :
  FnM Tryz.prog 45 [(dV (av 0) 1 s_1)] (([]:List Box)++gI 1 eI s_1) (vL eI r) (([]:List Box).map some++gT s_1 none):=by
 refine FnM.of_wHv ⟨Tryz.prog,61,[],[]⟩ rfl Tryz.func45 rfl rfl (lb_ rfl) (by kernel_rfl) ?_
 unfold cB at hF
 refine af (aa (ae .nil wz rfl (aj (af (af (aa (ae (dV (av 0) 1 s_1) wz rfl (De nL rfl wz (ae (vB (decide ((s_1.length:Int)<2))) wz rfl (aj ?_))))))))))
 rcases au hF with⟨hc_2,hF⟩|⟨hc_2,hF⟩
 ·refine aB rfl hc_2 (af (aa (ae (dV (av 0) 1 s_1) wz rfl (ae (dV (av 0) 1 s_1) wz rfl (aj (gX 0 rfl (x9 0 0 rfl rfl (x9 2 0 rfl rfl (x9 6 0 rfl rfl (x9 9 0 rfl rfl (Fu (i:=0) rfl ?_)))))))))))
  obtain rfl:=ah hF
  exact aC (Hl (bs:=([]:List Box)) (os:=([]:List Box)) (xs:=s_1) (o:=none) (.inr rfl) [(vL eI s_1)] ⟨rfl,trivial⟩ rfl rfl rfl rfl rfl (by kernel_rfl) vY rfl)
 ·refine aA rfl hc_2 (ax (af (af (aa (ae (vI 1) wz rfl (aj ?_))))))
  obtain ⟨o_11,hj_12,hF⟩:=bind_some hF
  obtain ⟨nq_52,hj_12⟩:=ek hj_12
  refine aG (β:=(Int)) (λ(s_8:Int)=>([(0,(dV (av 0) 1 s_1))]:SL_)) (λ(s_8:Int)=>([((av 0),gB 1 eI s_1)]:Hp)) (λp=>o_11 = .go p) ?_ ?_
  ·refine aD (aX (β:=Nat×(Int)) (λp=>(λ(k_3:Nat) (s_8:Int)=>([(0,(dV (av 0) 1 s_1)),(3,(vI s_8))]:SL_)) p.1 p.2) (λp=>(λ(k_3:Nat) (s_8:Int)=>([((av 0),gB 1 eI s_1)]:Hp)) p.1 p.2) (λp=>cO (λs=>bu s_1 s) p.1 p.2=some o_11) (λp=>p.1) (nq_52,1) hj_12 rfl (aK rfl) ?_)
   rintro ⟨k_3,s_8⟩ hL_10
   dsimp only at hL_10
   cases k_3 with
   | zero=>cases hL_10
   | succ k_3 =>
    obtain ⟨c_,hc_9,hL_10⟩:=bind_some hL_10
    unfold bu at hc_9
    refine af (af (aa (ae (vI s_8) wz rfl (ae (dV (av 0) 1 s_1) wz rfl (De nL rfl wz (ae (vB (decide (s_8<(s_1.length:Int)))) wz rfl (aj ?_)))))))
    rcases au hc_9 with⟨hc_13,hc_9⟩|⟨hc_13,hc_9⟩
    ·refine aB rfl hc_13 (ax (af (aD (af (bN (ae (dV (av 0) 1 s_1) wz rfl (ae (vI s_8) wz rfl ?_)))))))
     obtain ⟨_,hi_14,hc_9⟩:=bind_some hc_9
     refine qj iE rfl rfl (jQ hi_14) (iq hi_14) wz ?_
     obtain ⟨e_15,hy_16,hc_9⟩:=bind_some hc_9
     refine lS 3 0 (.inr (by kernel_rfl)) (λ_ _ ag=>trivial) sz3 ag3 rfl rfl hy_16 (vI e_15) rfl wz (ae (dV (av 0) 1 s_1) wz rfl (ae (vI s_8) wz rfl (ae (vI (w64 (s_8-1))) wz rfl ?_)))
     obtain ⟨_,hi_17,hc_9⟩:=bind_some hc_9
     refine qj iE rfl rfl (jQ hi_17) (iq hi_17) wz ?_
     obtain ⟨e_18,hy_19,hc_9⟩:=bind_some hc_9
     refine lS 8 0 (.inr (by kernel_rfl)) (λ_ _ ag=>⟨.inl ⟨rfl,rfl⟩,trivial⟩) sz3 ag3 rfl rfl hy_19 (vI e_18) rfl wz (ae (vB (e_15==e_18)) wz rfl (aj ?_))
     rcases au hc_9 with⟨hc_20,hc_9⟩|⟨hc_20,hc_9⟩
     ·refine aB rfl hc_20 (af (aa (ae (dV (av 0) 1 s_1) wz rfl (ae (vI s_8) wz rfl ?_))))
      obtain ⟨_,hn_21,hc_9⟩:=bind_some hc_9
      replace hn_21:=FM hn_21
      refine bQ (v':=(vV (av 0) 1 s_1)) 0 rfl (yn hn_21) (bQ (v':=(vV (av 0) 1 s_1)) 11 rfl (yn hn_21) (bQ (v':=(vV (av 0) 1 s_1)) 16 rfl (yn hn_21) (bQ (v':=(vV (av 0) 1 s_1)) 20 rfl (yn hn_21) (bQ (v':=(vV (av 0) 1 s_1)) 26 rfl (yn hn_21) (Eg 0 rfl (zh hn_21) ?_)))))
      obtain ⟨_,hr_22,hc_9⟩:=bind_some hc_9
      refine CW nL sz3 rfl rfl hr_22 wz (ae (.vs (av 0) 1 ((s_8).toNat) (((s_1.length:Int)).toNat-(s_8).toNat)) wz rfl (aj (af (af (aa (ae (vI 1) wz rfl (aj ?_)))))))
      obtain ⟨o_31,hj_32,hc_9⟩:=bind_some hc_9
      obtain ⟨nq_51,hj_32⟩:=ek hj_32
      refine aG (β:=((List Int)×Int×Int)) (λ(s_28:(List Int)×Int×Int)=>([(0,(vV (av 0) 1 s_28.1)),(3,(vI s_28.2.1))]:SL_)) (λ(s_28:(List Int)×Int×Int)=>([((av 0),some (bV 1 eI s_28.1))]:Hp)) (λp=>o_31 = .go p) ?_ ?_
      ·refine aD (aX (β:=Nat×((List Int)×Int×Int)) (λp=>(λ(k_23:Nat) (s_28:(List Int)×Int×Int)=>([(0,(vV (av 0) 1 s_28.1)),(3,(vI s_28.2.1)),(4,(.vs (av 0) 1 ((s_8).toNat) (((s_1.length:Int)).toNat-(s_8).toNat))),(5,(vI s_28.2.2))]:SL_)) p.1 p.2) (λp=>(λ(k_23:Nat) (s_28:(List Int)×Int×Int)=>([((av 0),some (bV 1 eI s_28.1))]:Hp)) p.1 p.2) (λp=>cO (λs=>cz s_1 s_8 s) p.1 p.2=some o_31) (λp=>p.1) (nq_51,(s_1,s_8,1)) hj_32 rfl (aK rfl) ?_)
       rintro ⟨k_23,s_28⟩ hL_30
       dsimp only at hL_30
       cases k_23 with
       | zero=>cases hL_30
       | succ k_23 =>
        obtain ⟨c_,hc_29,hL_30⟩:=bind_some hL_30
        unfold cz at hc_29
        refine af (af (aa (ae (vI s_28.2.2) wz rfl (ae (.vs (av 0) 1 ((s_8).toNat) (((s_1.length:Int)).toNat-(s_8).toNat)) wz rfl (h_lenp nL rfl wz (ae (vB (decide (s_28.2.2<(((((s_1.length:Int)).toNat-(s_8).toNat):Nat):Int)))) wz rfl (aj ?_)))))))
        rcases au hc_29 with⟨hc_33,hc_29⟩|⟨hc_33,hc_29⟩
        ·refine aB rfl hc_33 (ax (af (aD (af (bN (ae (.vs (av 0) 1 ((s_8).toNat) (((s_1.length:Int)).toNat-(s_8).toNat)) wz rfl (ae (vI s_28.2.2) wz rfl ?_)))))))
         obtain ⟨_,hi_34,hc_29⟩:=bind_some hc_29
         refine yh iE rfl rfl (Nc hi_34) (IZ hi_34) wz ?_
         obtain ⟨e_35,hy_36,hc_29⟩:=bind_some hc_29
         refine DK 3 0 (.inr (by kernel_rfl)) (λ_ _ ag=>trivial) sz3 ag3 rfl rfl hy_36 (vI e_35) rfl wz (ae (.vs (av 0) 1 ((s_8).toNat) (((s_1.length:Int)).toNat-(s_8).toNat)) wz rfl (ae (vI s_28.2.2) wz rfl (ae (vI (w64 (s_28.2.2-1))) wz rfl ?_)))
         obtain ⟨_,hi_37,hc_29⟩:=bind_some hc_29
         refine yh iE rfl rfl (Nc hi_37) (IZ hi_37) wz ?_
         obtain ⟨e_38,hy_39,hc_29⟩:=bind_some hc_29
         refine DK 8 0 (.inr (by kernel_rfl)) (λ_ _ ag=>⟨.inl ⟨rfl,rfl⟩,trivial⟩) sz3 ag3 rfl rfl hy_39 (vI e_38) rfl wz (ae (vB (e_35 != e_38)) wz rfl (aj ?_))
         obtain ⟨v_40,h_41,hc_29⟩:=bind_some hc_29
         refine aG (β:=Unit) (λ_=>([(0,(vV (av 0) 1 v_40.1)),(3,(vI v_40.2)),(4,(.vs (av 0) 1 ((s_8).toNat) (((s_1.length:Int)).toNat-(s_8).toNat))),(5,(vI s_28.2.2))]:SL_)) (λ_=>([((av 0),some (bV 1 eI v_40.1))]:Hp)) (λ_=>True) ?_ ?_
         ·rcases au h_41 with⟨hc_42,h_41⟩|⟨hc_42,h_41⟩
          ·refine aB rfl hc_42 (af (aa (ae (vV (av 0) 1 s_28.1) wz rfl (ae (vI s_28.2.1) wz rfl (ae (.vs (av 0) 1 ((s_8).toNat) (((s_1.length:Int)).toNat-(s_8).toNat)) wz rfl (ae (vI s_28.2.2) wz rfl ?_))))))
           obtain ⟨_,hi_43,h_41⟩:=bind_some h_41
           refine yh iE rfl rfl (Nc hi_43) (IZ hi_43) wz ?_
           obtain ⟨e_44,hy_45,h_41⟩:=bind_some h_41
           refine DK 0 0 il ft sz3 ag3 rfl rfl hy_45 (vI e_44) rfl wz ?_
           obtain ⟨_,hi_46,h_41⟩:=bind_some h_41
           refine yh iE rfl rfl (jQ hi_46) (iq hi_46) wz ?_
           obtain ⟨e_47,hy_48,h_41⟩:=bind_some h_41
           refine LD 0 il ft 0 sz3 rfl rfl hy_48 e_44 rfl wz (bQ (v':=(vV (av 0) 1 (s_28.1.set (0+(s_28.2.1).toNat) e_44))) 0 rfl (rR (by simp)) (bQ (v':=(vV (av 0) 1 (s_28.1.set (0+(s_28.2.1).toNat) e_44))) 45 rfl (rR (by simp)) (aj (aa (ae (vI s_28.2.1) wz rfl (ae (vI (w64 (s_28.2.1+1))) wz rfl (ae (vI (w64 (s_28.2.1+1))) wz rfl (aj ?_))))))))
           obtain rfl:=ah h_41
           exact cu
          ·refine aA rfl hc_42 (ax ?_)
           obtain rfl:=ah h_41
           exact cu
         ·rintro ⟨⟩ _ sl_ H_ hp_ hq_
          refine aN _ hp_ hq_ (aa (ae (vI s_28.2.2) wz rfl (ae (vI (w64 (s_28.2.2+1))) wz rfl (ae (vI (w64 (s_28.2.2+1))) wz rfl (aj ?_)))))
          obtain rfl:=ah hc_29
          exact aO (k_23,(v_40.1,v_40.2,(w64 (s_28.2.2+1)))) hL_30 (ls_ _) rfl (aK rfl)
        ·refine aA rfl hc_33 (aS ?_)
         obtain rfl:=ah hc_29
         obtain rfl:=ah hL_30
         exact aU ((s_28.1,s_28.2.1,s_28.2.2)) rfl rfl (aK rfl)
      ·rintro s_28 ho_ sl_ H_ hp_ hq_
       subst ho_
       refine aN _ hp_ hq_ (af (aa (ae (vV (av 0) 1 s_28.1) wz rfl (ae (vI s_28.2.1) wz rfl ?_))))
       obtain ⟨_,hr_49,hc_9⟩:=bind_some hc_9
       refine CW nL sz3 rfl rfl hr_49 wz (J2 (i:=0) 0 il ft 0 wP sz3 z3 rfl rfl rfl (by decide) rfl (pY hr_49) rfl wz (bQ (v':=(vV (av 0) 1 (s_28.1.take ((s_28.2.1).toNat)++List.replicate (((s_28.1.length:Int)).toNat-(s_28.2.1).toNat) 0++s_28.1.drop (((s_28.2.1).toNat)+(((s_28.1.length:Int)).toNat-(s_28.2.1).toNat))))) 0 rfl (rR (vZ (pY hr_49))) (bQ (v':=(vV (av 0) 1 (s_28.1.take ((s_28.2.1).toNat)++List.replicate (((s_28.1.length:Int)).toNat-(s_28.2.1).toNat) 0++s_28.1.drop (((s_28.2.1).toNat)+(((s_28.1.length:Int)).toNat-(s_28.2.1).toNat))))) 54 rfl (rR (vZ (pY hr_49))) (aj (af (aa (ae (vV (av 0) 1 (s_28.1.take ((s_28.2.1).toNat)++List.replicate (((s_28.1.length:Int)).toNat-(s_28.2.1).toNat) 0++s_28.1.drop (((s_28.2.1).toNat)+(((s_28.1.length:Int)).toNat-(s_28.2.1).toNat)))) wz rfl (ae (vI s_28.2.1) wz rfl ?_))))))))
       obtain ⟨_,hr_50,hc_9⟩:=bind_some hc_9
       refine Gz nL sz3 rfl rfl hr_50 wz (ae (.vs (av 0) 1 0 ((s_28.2.1).toNat)) wz rfl (aj (EQ 0 rfl (DY 0 0 rfl rfl (LA 2 0 rfl rfl (pY hr_50) (DY 54 0 rfl rfl (DY 57 0 rfl rfl (LA 59 0 rfl rfl (pY hr_50) (Fu (i:=0) rfl ?_)))))))))
       obtain rfl:=ah hc_9
       obtain rfl:=ah hL_10
       obtain rfl:=ah hF
       exact aC (Hl (bs:=([]:List Box)) (os:=([]:List Box)) (xs:=s_1) (o:=none) (.inr rfl) [(vL eI (cutL (s_28.1.take ((s_28.2.1).toNat)++List.replicate (((s_28.1.length:Int)).toNat-(s_28.2.1).toNat) 0++s_28.1.drop (((s_28.2.1).toNat)+(((s_28.1.length:Int)).toNat-(s_28.2.1).toNat))) 0 ((s_28.2.1).toNat)))] ⟨rfl,trivial⟩ rfl rfl rfl rfl rfl (by kernel_rfl) vY rfl)
     ·refine aA rfl hc_20 (ax (aa (ae (vI s_8) wz rfl (ae (vI (w64 (s_8+1))) wz rfl (ae (vI (w64 (s_8+1))) wz rfl (aj ?_))))))
      obtain rfl:=ah hc_9
      exact aO (k_3,(w64 (s_8+1))) hL_10 (ls_ _) rfl (aK rfl)
    ·refine aA rfl hc_13 (aS ?_)
     obtain rfl:=ah hc_9
     obtain rfl:=ah hL_10
     exact aU (s_8) rfl rfl (aK rfl)
  ·rintro s_8 ho_ sl_ H_ hp_ hq_
   subst ho_
   refine aN _ hp_ hq_ (af (aa (ae (dV (av 0) 1 s_1) wz rfl (ae (dV (av 0) 1 s_1) wz rfl (aj (gX 0 rfl (x9 0 0 rfl rfl (x9 2 0 rfl rfl (x9 60 0 rfl rfl (Fu (i:=0) rfl ?_))))))))))
   obtain rfl:=ah hF
   exact aC (Hl (bs:=([]:List Box)) (os:=([]:List Box)) (xs:=s_1) (o:=none) (.inr rfl) [(vL eI s_1)] ⟨rfl,trivial⟩ rfl rfl rfl rfl rfl (by kernel_rfl) vY rfl)
theorem y5 {l_1:(List Entry)} {p_2:Player} {wv_3:Window} {r:(List Int)} (hF:lG l_1 p_2 wv_3=some r) :
  FnM Tryz.prog 55 [(vL Entry.enc l_1),(.d (.agg (Player.enc p_2))),(.d (.agg (Window.enc wv_3)))] [] (vL eI r) []:=by
 refine FnM.of_wH ⟨Tryz.prog,41,[15],[]⟩ rfl Tryz.func55 rfl rfl (lb_ rfl) (by kernel_rfl) ?_
 unfold lG at hF
 refine af (aa (dZ 0 (.inl rfl) [(vS p_2.Key),(vS p_2.Screen),(vI p_2.Zone),(vL eS p_2.Tags)] rfl rfl wz (λn_4=>dZ 0 (.inl rfl) [(vI wv_3.From),(vI wv_3.To)] rfl rfl wz (λn_5=>ae .nil wz rfl (aj (af (aa (aJ fw rfl 0 rfl wz (ay 0 1 il ft sz3 ag3 rfl rfl (vI wv_3.From) rfl wz (aJ dX rfl 1 rfl wz (ay 0 1 il ft sz3 ag3 rfl rfl (vI wv_3.To) rfl wz (M6 0 (.inl rfl) (([wv_3.From,wv_3.To]:List Int).map eI) iE pW rfl rfl rfl rfl rfl wz (λn_6=>ae (vV n_6 1 ([wv_3.From,wv_3.To]:List Int)) wz rfl (aj (af (af (aa (ae (vL Entry.enc l_1) wz rfl (ay 0 0 il ft p8 uI rfl rfl (.d (.agg (Player.enc p_2))) rfl wz (ay 0 1 il ft eP iO rfl rfl (.d (.agg (Window.enc wv_3))) rfl wz ?_))))))))))))))))))))
 obtain ⟨r_7,hr_8,hF⟩:=bind_some hF
 refine aF (yI hr_8) rfl hb51 rfl rfl rfl rfl wz (bX Cq rfl wz (ae (vI 0) wz rfl (aj ?_)))
 obtain ⟨o_19,hj_20,hF⟩:=bind_some hF
 obtain ⟨hn_13,hj_20⟩:=bn hj_20
 refine aG (β:=((List Int))×Nm) (λp=>(λ(s_14:List Int) (n_16:Nm)=>([(7,(vV n_16 1 s_14))]:SL_)) p.1 p.2) (λp=>(λ(s_14:List Int) (n_16:Nm)=>([(n_4,some (.cells 4 [(vS p_2.Key),(vS p_2.Screen),(vI p_2.Zone),(vL eS p_2.Tags)])),(n_5,some (.cells 2 [(vI wv_3.From),(vI wv_3.To)])),(n_16,some (bV 1 eI s_14))]:Hp)) p.1 p.2) (λp=>o_19 = .go p.1) ?_ ?_
 ·refine aD (aX (β:=Nat×(List Span)×((List Int))×Nm) (λp=>(λ(k_9:Nat) (l_10:List Span) (s_14:List Int) (n_16:Nm)=>([(5,(.ref n_5 0 0)),(7,(vV n_16 1 s_14)),(19,(vL Span.enc r_7)),(20,(vI (r_7.length:Int))),(21,(vI (k_9:Int)))]:SL_)) p.1 p.2.1 p.2.2.1 p.2.2.2) (λp=>(λ(k_9:Nat) (l_10:List Span) (s_14:List Int) (n_16:Nm)=>([(n_4,some (.cells 4 [(vS p_2.Key),(vS p_2.Screen),(vI p_2.Zone),(vL eS p_2.Tags)])),(n_5,some (.cells 2 [(vI wv_3.From),(vI wv_3.To)])),(n_16,some (bV 1 eI s_14))]:Hp)) p.1 p.2.1 p.2.2.1 p.2.2.2) (λp=>dG (λk x s=>jM wv_3 k x s) p.2.1 p.1 p.2.2.1=some o_19/\(r_7).drop p.1=p.2.1) (λp=>p.2.1.length) (0,r_7,([wv_3.From,wv_3.To]:List Int),n_6) ⟨hj_20,rfl⟩ rfl (aK rfl) ?_)
  rintro ⟨k_9,l_10,s_14,n_16⟩ ⟨hL_18,hD_12⟩
  dsimp only at hL_18 hD_12
  cases l_10 with
  | nil =>
   obtain rfl:=ah hL_18
   refine af (aa (ae (vB (decide ((k_9:Int)<(r_7.length:Int)))) wz rfl (aj ?_)))
   refine af (aA rfl (drop_nil hD_12) (aS ?_))
   exact aU (s_14,n_16) rfl rfl (aK rfl)
  | cons x_11 l_10 =>
   obtain ⟨c_,hc_17,hL_18⟩:=bind_some hL_18
   refine af (aa (ae (vB (decide ((k_9:Int)<(r_7.length:Int)))) wz rfl (aj ?_)))
   refine af (aB rfl (bE hD_12) (ax ?_))
   unfold jM at hc_17
   refine af (aD (af (aa (dL zu rfl rfl (bL hD_12) rfl wz (bz pI zS rfl (.d (.agg (Span.enc x_11))) rfl wz (bR 0 (.inl rfl) z90 rfl wz (λn_21=>eu 0 il ft 3 pI rfl rfl [(.d (dP Entry.enc x_11.f_e)),(vI x_11.f_time.From),(vI x_11.f_time.To)] (yH rfl (bP (mU _ _) (bP rfl (bP rfl rfl))) rfl rfl) wz (aj (af (aa (aJ xJ rfl 1 rfl wz (ay 0 3 il ft eP iO rfl rfl (.d (.agg (Window.enc x_11.f_time))) rfl wz (ay 0 1 il ft eP iO rfl rfl (.d (.agg (Window.enc wv_3))) rfl wz ?_)))))))))))))
   obtain ⟨r_22,hr_23,hc_17⟩:=bind_some hc_17
   refine aF (kW hr_23) rfl Lx rfl rfl rfl rfl wz (bR 0 (.inl rfl) z33 rfl wz (λn_24=>eu 0 il ft 4 eP rfl rfl [(vI r_22.From),(vI r_22.To)] rfl wz (aj (aa (ae (vV n_16 1 s_14) wz rfl (aJ fw rfl 0 rfl wz (ay 0 4 il ft sz3 ag3 rfl rfl (vI r_22.From) rfl wz (aJ dX rfl 1 rfl wz (ay 0 4 il ft sz3 ag3 rfl rfl (vI r_22.To) rfl wz (dW (([r_22.From,r_22.To]:List Int).map eI) iE pW rfl rfl rfl rfl rfl wz ?_))))))))))
   obtain ⟨a_25,hz_26,hc_17⟩:=bind_some hc_17
   refine Jr 0 il ft (i:=2) wP wP sz3 z3 rfl (by decide) by3 (by decide) (λ_=>rfl) rfl rfl rfl hz_26 wz (λn_27=>ae (vV n_27 1 a_25) wz rfl (aj (aa (gm (bH hD_12 hn_13) wz rfl (ae (vI ((k_9+1:Nat):Int)) wz rfl (aj ?_))))))
   obtain rfl:=ah hc_17
   exact aO (k_9+1,l_10,a_25,n_27) ⟨hL_18,aP hD_12⟩ (ls_ _) rfl (aK rfl)
 ·rintro ⟨s_14,n_16⟩ ho_ sl_ H_ hp_ hq_
  subst ho_
  refine aN _ hp_ hq_ (af (aa (ae (vV n_16 1 s_14) wz rfl ?_)))
  obtain ⟨_,hn_28,hF⟩:=bind_some hF
  replace hn_28:=FM hn_28
  refine Eg 2 rfl (zh hn_28).symm (bQ (v':=(gV n_16 1 s_14)) 37 rfl (Ke hn_28) (bQ (v':=(gV n_16 1 s_14)) 7 rfl (Ke hn_28) ?_))
  obtain ⟨r_29,hr_30,hF⟩:=bind_some hF
  obtain ⟨_,hs_31,hF⟩:=bind_some hF
  replace hs_31:=qi hs_31
  refine nQ 0 [] 2 0 il ft (jF hr_30) rfl hb44 rfl rfl rfl (by kernel_rfl) rfl (.inl rfl) rfl (by kernel_rfl) (by kernel_rfl) (by kernel_rfl) (by kernel_rfl) rfl (by decide) (by kernel_rfl) tY (Ap hs_31) wz ([(n_4,some (.cells 4 [(vS p_2.Key),(vS p_2.Screen),(vI p_2.Zone),(vL eS p_2.Tags)])),(n_5,some (.cells 2 [(vI wv_3.From),(vI wv_3.To)])),(n_16,gB 1 eI r_29)]:Hp) (by kernel_rfl) (bQ (v':=(gV n_16 1 r_29)) 37 rfl (bI hs_31.symm) (bQ (v':=(gV n_16 1 r_29)) 7 rfl (bI hs_31.symm) (aj (af (aa (ae (gV n_16 1 r_29) wz rfl ?_))))))
  obtain ⟨r_32,hr_33,hF⟩:=bind_some hF
  refine nQ 0 [] 2 0 il ft (ji hr_33) rfl hb45 rfl rfl rfl (by kernel_rfl) rfl (.inl rfl) rfl (by kernel_rfl) (by kernel_rfl) (by kernel_rfl) (by kernel_rfl) rfl (by decide) (by kernel_rfl) vY (λ_=>rfl) wz ([(n_4,some (.cells 4 [(vS p_2.Key),(vS p_2.Screen),(vI p_2.Zone),(vL eS p_2.Tags)])),(n_5,some (.cells 2 [(vI wv_3.From),(vI wv_3.To)])),(n_16,none)]:Hp) (by kernel_rfl) (ae (vL eI r_32) wz rfl (aj ?_))
  obtain rfl:=ah hF
  exact aC (bv (.inr rfl) [(vL eI r_32)] ⟨rfl,trivial⟩ rfl rfl rfl)
theorem lm {s_1:Span} {p_2:(List Int)} {p_3:Int} {r:Bool} (hF:fH s_1 p_2 p_3=some r) :
  FnM Tryz.prog 57 [(.d (.agg (Span.enc s_1))),(.ref (av 0) 0 0),(.ref (av 1) 0 0)] [(.cells 1 [(vL eI p_2)]),(.cells 1 [(vI p_3)])] (vB r) [some (.cells 1 [(vL eI p_2)]),some (.cells 1 [(vI p_3)])]:=by
 refine FnM.of_wH ⟨Tryz.prog,13,[],[]⟩ rfl Tryz.func57 rfl rfl (lb_ rfl) (by kernel_rfl) ?_
 unfold fH at hF
 refine af (aa (dZ 0 (.inl rfl) [(.d (dP Entry.enc s_1.f_e)),(vI s_1.f_time.From),(vI s_1.f_time.To)] rfl (bP (mU _ _) (bP rfl (bP rfl rfl))) wz (λn_4=>ae (vB false) wz rfl (aj (af (bN (aJ xJ rfl 1 rfl wz (aJ dX rfl 2 rfl wz (ay 2 2 (.inr (by kernel_rfl)) (λ_ _ ag=>trivial) sz3 ag3 rfl rfl (vI s_1.f_time.To) rfl wz (ay 3 0 (.inr (by kernel_rfl)) (λ_ _ ag=>⟨.inl ⟨rfl,rfl⟩,trivial⟩) qw sH rfl rfl (vL eI p_2) rfl wz (ay 4 1 (.inr (by kernel_rfl)) (λ_ _ ag=>⟨.inl ⟨rfl,rfl⟩,⟨.inl ⟨rfl,rfl⟩,trivial⟩⟩) sz3 ag3 rfl rfl (vI p_3) rfl wz ?_)))))))))))
 obtain ⟨y_5,hy_6,hF⟩:=bind_some hF
 refine dL iE rfl rfl hy_6 rfl wz (bz sz3 ag3 rfl (vI y_5) rfl wz (ae (vB (decide (s_1.f_time.To<=y_5))) wz rfl (ae (vB (decide (s_1.f_time.To<=y_5))) wz rfl (aj ?_))))
 obtain rfl:=ah hF
 exact aC (qK (.inr rfl) [(vB (decide (s_1.f_time.To<=y_5)))] _ [0,1] [av 0,av 1] ⟨rfl,trivial⟩ (.cons (iy rfl rfl) (.nil)) (by kernel_rfl) ⟨(by kernel_rfl),⟨(by kernel_rfl),trivial⟩⟩ (by decide) (by kernel_rfl))
theorem jA {s_1:(List Span)} {f2_3:(List Int)} {f2_4:Int} {r:Int} (hF:dR s_1 f2_3 f2_4=some r) :
  FnM Tryz.prog 77 [(vV (av 2) 3 s_1),(.fn 57 [(.ref (av 0) 0 0),(.ref (av 1) 0 0)])] (([(.cells 1 [(vL eI f2_3)]),(.cells 1 [(vI f2_4)])]:List Box)++[(bV 3 Span.enc s_1)]) (vI r) ((([(.cells 1 [(vL eI f2_3)]),(.cells 1 [(vI f2_4)])]:List Box)).map some++[some (bV 3 Span.enc s_1)]):=by
 refine FnM.of_wH ⟨Tryz.prog,19,[],[]⟩ rfl Tryz.func77 rfl rfl (lb_ rfl) (by kernel_rfl) ?_
 unfold dR at hF
 refine af (aa (ae (vI 0) wz rfl (aj (af (af (aa (ae (vV (av 2) 3 s_1) wz rfl (Fs Cq rfl wz (ae (vI 0) wz rfl (aj ?_))))))))))
 obtain ⟨o_13,hj_14,hF⟩:=bind_some hF
 obtain ⟨hn_9,hj_14⟩:=bn hj_14
 refine aG (β:=(Unit)) (λ(s_10:Unit)=>([]:SL_)) (λ(s_10:Unit)=>([((av 0),some (.cells 1 [(vL eI f2_3)])),((av 1),some (.cells 1 [(vI f2_4)])),((av 2),some (bV 3 Span.enc s_1))]:Hp)) (λp=>o_13 = .go p) ?_ ?_
 ·refine aD (aX (β:=Nat×(List Nat)×(Unit)) (λp=>(λ(k_5:Nat) (l_6:List Nat) (s_10:Unit)=>([(0,(vV (av 2) 3 s_1)),(1,(.fn 57 [(.ref (av 0) 0 0),(.ref (av 1) 0 0)])),(7,(vI (s_1.length:Int))),(8,(vI (k_5:Int)))]:SL_)) p.1 p.2.1 p.2.2) (λp=>(λ(k_5:Nat) (l_6:List Nat) (s_10:Unit)=>([((av 0),some (.cells 1 [(vL eI f2_3)])),((av 1),some (.cells 1 [(vI f2_4)])),((av 2),some (bV 3 Span.enc s_1))]:Hp)) p.1 p.2.1 p.2.2) (λp=>dG (λk x s=>dD s_1 f2_3 f2_4 k x s) p.2.1 p.1 p.2.2=some o_13/\((List.range ((s_1.length:Int)).toNat)).drop p.1=p.2.1) (λp=>p.2.1.length) (0,(List.range ((s_1.length:Int)).toNat),()) ⟨hj_14,rfl⟩ rfl (aK rfl) ?_)
  rintro ⟨k_5,l_6,s_10⟩ ⟨hL_12,hD_8⟩
  dsimp only at hL_12 hD_8
  cases l_6 with
  | nil =>
   obtain rfl:=ah hL_12
   refine af (aa (ae (vB (decide ((k_5:Int)<(s_1.length:Int)))) wz rfl (aj ?_)))
   refine af (aA rfl (zD hD_8) (aS ?_))
   exact aU (s_10) rfl rfl (aK rfl)
  | cons x_7 l_6 =>
   obtain ⟨c_,hc_11,hL_12⟩:=bind_some hL_12
   refine af (aa (ae (vB (decide ((k_5:Int)<(s_1.length:Int)))) wz rfl (aj ?_)))
   refine af (aB rfl (xy hD_8) (ax ?_))
   unfold dD at hc_11
   refine af (aD (af (aa (ae (vI (k_5:Int)) wz rfl (ae (vI (k_5:Int)) wz rfl (aj (af (aa (ae (.fn 57 [(.ref (av 0) 0 0),(.ref (av 1) 0 0)]) wz rfl (ae (vV (av 2) 3 s_1) wz rfl (ae (vI (k_5:Int)) wz rfl ?_)))))))))))
   obtain ⟨_,hi_15,hc_11⟩:=bind_some hc_11
   refine yh zu rfl rfl (jQ hi_15) (iq hi_15) wz ?_
   obtain ⟨e_16,hy_17,hc_11⟩:=bind_some hc_11
   refine DK 0 2 il ft pI zS rfl rfl hy_17 (.d (.agg (Span.enc e_16))) rfl wz ?_
   obtain ⟨r_18,hr_19,hc_11⟩:=bind_some hc_11
   refine aW 0 [0,1] il ft (lm hr_19) rfl hb57 rfl (by kernel_rfl) (by kernel_rfl) (by kernel_rfl) (by kernel_rfl) (by kernel_rfl) (by kernel_rfl) (by kernel_rfl) (by decide) (by kernel_rfl) wz (vB r_18) (by kernel_rfl) ([((av 0),some (.cells 1 [(vL eI f2_3)])),((av 1),some (.cells 1 [(vI f2_4)])),((av 2),some (bV 3 Span.enc s_1))]:Hp) (by kernel_rfl) (aj ?_)
   rcases au hc_11 with⟨hc_21,hc_11⟩|⟨hc_21,hc_11⟩
   ·refine aB rfl hc_21 (af (aa (ae (vI (k_5:Int)) wz rfl (ae (vI (k_5:Int)) wz rfl (aj ?_)))))
    obtain rfl:=ah hc_11
    obtain rfl:=ah hL_12
    obtain rfl:=ah hF
    exact aC (qK (.inr rfl) [(vI (k_5:Int))] _ [0,1,2] [av 0,av 1,av 2] ⟨rfl,trivial⟩ (.cons (iy rfl rfl) (.nil)) (by kernel_rfl) ⟨(by kernel_rfl),⟨(by kernel_rfl),⟨(by kernel_rfl),trivial⟩⟩⟩ (by decide) (by kernel_rfl))
   ·refine aA rfl hc_21 (ax (aa (gm (zC hD_8 hn_9) wz rfl (ae (vI ((k_5+1:Nat):Int)) wz rfl (aj ?_)))))
    obtain rfl:=ah hc_11
    exact aO (k_5+1,l_6,()) ⟨hL_12,aP hD_8⟩ (ls_ _) rfl (aK rfl)
 ·rintro s_10 ho_ sl_ H_ hp_ hq_
  subst ho_
  refine aN _ hp_ hq_ (af (aa (ae (vI (-1)) wz rfl (aj ?_))))
  obtain rfl:=ah hF
  exact aC (qK (.inr rfl) [(vI (-1))] _ [0,1,2] [av 0,av 1,av 2] ⟨rfl,trivial⟩ (.cons (iy rfl rfl) (.nil)) (by kernel_rfl) ⟨(by kernel_rfl),⟨(by kernel_rfl),⟨(by kernel_rfl),trivial⟩⟩⟩ (by decide) (by kernel_rfl))
theorem jv {s_1:(List Span)} {del2_3:(List Int)} {del2_4:Int} {r:(List Span)} (hF:bC s_1 del2_3 del2_4=some r) :
  FnM Tryz.prog 56 [(vV (av 2) 3 s_1),(.fn 57 [(.ref (av 0) 0 0),(.ref (av 1) 0 0)])] (([(.cells 1 [(vL eI del2_3)]),(.cells 1 [(vI del2_4)])]:List Box)++[(bV 3 Span.enc s_1)]) (vV (av 2) 3 r) ((([(.cells 1 [(vL eI del2_3)]),(.cells 1 [(vI del2_4)])]:List Box)).map some++[some (bV 3 Span.enc r)]):=by
 refine FnM.of_wH ⟨Tryz.prog,42,[],[]⟩ rfl Tryz.func56 rfl rfl (lb_ rfl) (by kernel_rfl) ?_
 unfold bC at hF
 refine af (aa (ae .nil wz rfl (aj (af (aa (ae (vV (av 2) 3 s_1) wz rfl (ae (.fn 57 [(.ref (av 0) 0 0),(.ref (av 1) 0 0)]) wz rfl ?_)))))))
 obtain ⟨r_5,hr_6,hF⟩:=bind_some hF
 refine G6 0 [0,1] 2 0 il ft (jA hr_6) rfl hb77 rfl rfl (by kernel_rfl) (by kernel_rfl) rfl rfl (by kernel_rfl) (by kernel_rfl) (by kernel_rfl) (by kernel_rfl) rfl (by decide) (by kernel_rfl) bV_ok wz (vI r_5) (by kernel_rfl) ([((av 0),some (.cells 1 [(vL eI del2_3)])),((av 1),some (.cells 1 [(vI del2_4)])),((av 2),some (bV 3 Span.enc s_1))]:Hp) (by kernel_rfl) (ae (vI r_5) wz rfl (aj (af (af (aa (ae (vI r_5) wz rfl (ae (vB (r_5==(-1))) wz rfl (aj ?_))))))))
 rcases au hF with⟨hc_7,hF⟩|⟨hc_7,hF⟩
 ·refine aB rfl hc_7 (af (aa (ae (vV (av 2) 3 s_1) wz rfl (ae (vV (av 2) 3 s_1) wz rfl (aj ?_)))))
  obtain rfl:=ah hF
  exact aC (qK (.inr rfl) [(vV (av 2) 3 s_1)] _ [0,1,2] [av 0,av 1,av 2] ⟨rfl,trivial⟩ (.cons (yD _) (.nil)) (by kernel_rfl) ⟨(by kernel_rfl),⟨(by kernel_rfl),⟨(by kernel_rfl),trivial⟩⟩⟩ (by decide) (by kernel_rfl))
 ·refine aA rfl hc_7 (ax (af (af (aa (ae (vI r_5) wz rfl (ae (vI (w64 (r_5+1))) wz rfl (ae (vI (w64 (r_5+1))) wz rfl (aj ?_))))))))
  obtain ⟨o_16,hj_17,hF⟩:=bind_some hF
  obtain ⟨nq_34,hj_17⟩:=ek hj_17
  refine aG (β:=((List Span)×Int×Int)) (λ(s_13:(List Span)×Int×Int)=>([(0,(vV (av 2) 3 s_13.1)),(5,(vI s_13.2.1))]:SL_)) (λ(s_13:(List Span)×Int×Int)=>([((av 0),some (.cells 1 [(vL eI del2_3)])),((av 1),some (.cells 1 [(vI del2_4)])),((av 2),some (bV 3 Span.enc s_13.1))]:Hp)) (λp=>o_16 = .go p) ?_ ?_
  ·refine aD (aX (β:=Nat×((List Span)×Int×Int)) (λp=>(λ(k_8:Nat) (s_13:(List Span)×Int×Int)=>([(0,(vV (av 2) 3 s_13.1)),(1,(.fn 57 [(.ref (av 0) 0 0),(.ref (av 1) 0 0)])),(5,(vI s_13.2.1)),(6,(vI s_13.2.2))]:SL_)) p.1 p.2) (λp=>(λ(k_8:Nat) (s_13:(List Span)×Int×Int)=>([((av 0),some (.cells 1 [(vL eI del2_3)])),((av 1),some (.cells 1 [(vI del2_4)])),((av 2),some (bV 3 Span.enc s_13.1))]:Hp)) p.1 p.2) (λp=>cO (λs=>dx del2_3 del2_4 s) p.1 p.2=some o_16) (λp=>p.1) (nq_34,(s_1,r_5,(w64 (r_5+1)))) hj_17 rfl (aK rfl) ?_)
   rintro ⟨k_8,s_13⟩ hL_15
   dsimp only at hL_15
   cases k_8 with
   | zero=>cases hL_15
   | succ k_8 =>
    obtain ⟨c_,hc_14,hL_15⟩:=bind_some hL_15
    unfold dx at hc_14
    refine af (af (aa (ae (vI s_13.2.2) wz rfl (ae (vV (av 2) 3 s_13.1) wz rfl (Fs Cq rfl wz (ae (vB (decide (s_13.2.2<(s_13.1.length:Int)))) wz rfl (aj ?_)))))))
    rcases au hc_14 with⟨hc_18,hc_14⟩|⟨hc_18,hc_14⟩
    ·refine aB rfl hc_18 (ax (af (aD (af (aa (ae (vV (av 2) 3 s_13.1) wz rfl (ae (vI s_13.2.2) wz rfl ?_)))))))
     obtain ⟨_,hi_19,hc_14⟩:=bind_some hc_14
     refine yh zu rfl rfl (jQ hi_19) (iq hi_19) wz ?_
     obtain ⟨e_20,hy_21,hc_14⟩:=bind_some hc_14
     refine DK 0 2 il ft pI zS rfl rfl hy_21 (.d (.agg (Span.enc e_20))) rfl wz (bR 0 (.inl rfl) z90 rfl wz (λn_22=>eu 0 il ft 3 pI rfl rfl [(.d (dP Entry.enc e_20.f_e)),(vI e_20.f_time.From),(vI e_20.f_time.To)] (yH rfl (bP (mU _ _) (bP rfl (bP rfl rfl))) rfl rfl) wz (aj (af (aa (ae (.fn 57 [(.ref (av 0) 0 0),(.ref (av 1) 0 0)]) wz rfl (ay 0 3 il ft pI zS rfl rfl (.d (.agg (Span.enc e_20))) rfl wz ?_)))))))
     obtain ⟨r_23,hr_24,hc_14⟩:=bind_some hc_14
     refine aW 0 [0,1] il ft (lm hr_24) rfl hb57 rfl (by kernel_rfl) (by kernel_rfl) (by kernel_rfl) (by kernel_rfl) (by kernel_rfl) (by kernel_rfl) (by kernel_rfl) (by decide) (by kernel_rfl) wz (vB r_23) (by kernel_rfl) ([((av 0),some (.cells 1 [(vL eI del2_3)])),((av 1),some (.cells 1 [(vI del2_4)])),((av 2),some (bV 3 Span.enc s_13.1)),(n_22,some (.cells 3 [(.d (dP Entry.enc e_20.f_e)),(vI e_20.f_time.From),(vI e_20.f_time.To)]))]:Hp) (by kernel_rfl) (ae (vB (!r_23)) wz rfl (aj ?_))
     obtain ⟨v_26,h_27,hc_14⟩:=bind_some hc_14
     refine aG (β:=Unit) (λ_=>([(0,(vV (av 2) 3 v_26.1)),(1,(.fn 57 [(.ref (av 0) 0 0),(.ref (av 1) 0 0)])),(5,(vI v_26.2)),(6,(vI s_13.2.2))]:SL_)) (λ_=>([((av 0),some (.cells 1 [(vL eI del2_3)])),((av 1),some (.cells 1 [(vI del2_4)])),((av 2),some (bV 3 Span.enc v_26.1)),(n_22,some (.cells 3 [(.d (dP Entry.enc e_20.f_e)),(vI e_20.f_time.From),(vI e_20.f_time.To)]))]:Hp)) (λ_=>True) ?_ ?_
     ·rcases au h_27 with⟨hc_28,h_27⟩|⟨hc_28,h_27⟩
      ·refine aB rfl hc_28 (af (aa (ae (vV (av 2) 3 s_13.1) wz rfl (ae (vI s_13.2.1) wz rfl (ay 0 3 il ft pI zS rfl rfl (.d (.agg (Span.enc e_20))) rfl wz ?_)))))
       obtain ⟨_,hi_29,h_27⟩:=bind_some h_27
       refine yh zu rfl rfl (jQ hi_29) (iq hi_29) wz ?_
       obtain ⟨e_30,hy_31,h_27⟩:=bind_some h_27
       refine LD 0 il ft 2 pI rfl rfl hy_31 e_20 (stD_one rfl rfl (bP (mU _ _) (bP rfl (bP rfl rfl))) rfl rfl) wz (bQ (v':=(vV (av 2) 3 (s_13.1.set (0+(s_13.2.1).toNat) e_20))) 0 rfl (rR (by simp)) (bQ (v':=(vV (av 2) 3 (s_13.1.set (0+(s_13.2.1).toNat) e_20))) 17 rfl (rR (by simp)) (bQ (v':=(vV (av 2) 3 (s_13.1.set (0+(s_13.2.1).toNat) e_20))) 22 rfl (rR (by simp)) (bQ (v':=(vV (av 2) 3 (s_13.1.set (0+(s_13.2.1).toNat) e_20))) 30 rfl (rR (by simp)) (aj (aa (ae (vI s_13.2.1) wz rfl (ae (vI (w64 (s_13.2.1+1))) wz rfl (ae (vI (w64 (s_13.2.1+1))) wz rfl (aj ?_))))))))))
       obtain rfl:=ah h_27
       exact cu
      ·refine aA rfl hc_28 (ax ?_)
       obtain rfl:=ah h_27
       exact cu
     ·rintro ⟨⟩ _ sl_ H_ hp_ hq_
      refine aN _ hp_ hq_ (aa (ae (vI s_13.2.2) wz rfl (ae (vI (w64 (s_13.2.2+1))) wz rfl (ae (vI (w64 (s_13.2.2+1))) wz rfl (aj ?_)))))
      obtain rfl:=ah hc_14
      exact aO (k_8,(v_26.1,v_26.2,(w64 (s_13.2.2+1)))) hL_15 (ls_ _) rfl (aK rfl)
    ·refine aA rfl hc_18 (aS ?_)
     obtain rfl:=ah hc_14
     obtain rfl:=ah hL_15
     exact aU ((s_13.1,s_13.2.1,s_13.2.2)) rfl rfl (aK rfl)
  ·rintro s_13 ho_ sl_ H_ hp_ hq_
   subst ho_
   refine aN _ hp_ hq_ (af (aa (ae (vV (av 2) 3 s_13.1) wz rfl (ae (vI s_13.2.1) wz rfl ?_))))
   obtain ⟨_,hr_32,hF⟩:=bind_some hF
   refine CW Cq pI rfl rfl hr_32 wz (J2 (i:=2) 0 il ft (⟨none,(⟨0,0⟩:Window)⟩:Span) IU pI z90 rfl rfl rfl (by decide) rfl (pY hr_32) rfl wz (bQ (v':=(vV (av 2) 3 (s_13.1.take ((s_13.2.1).toNat)++List.replicate (((s_13.1.length:Int)).toNat-(s_13.2.1).toNat) (⟨none,(⟨0,0⟩:Window)⟩:Span)++s_13.1.drop (((s_13.2.1).toNat)+(((s_13.1.length:Int)).toNat-(s_13.2.1).toNat))))) 0 rfl (rR (vZ (pY hr_32))) (bQ (v':=(vV (av 2) 3 (s_13.1.take ((s_13.2.1).toNat)++List.replicate (((s_13.1.length:Int)).toNat-(s_13.2.1).toNat) (⟨none,(⟨0,0⟩:Window)⟩:Span)++s_13.1.drop (((s_13.2.1).toNat)+(((s_13.1.length:Int)).toNat-(s_13.2.1).toNat))))) 36 rfl (rR (vZ (pY hr_32))) (aj (af (aa (ae (vV (av 2) 3 (s_13.1.take ((s_13.2.1).toNat)++List.replicate (((s_13.1.length:Int)).toNat-(s_13.2.1).toNat) (⟨none,(⟨0,0⟩:Window)⟩:Span)++s_13.1.drop (((s_13.2.1).toNat)+(((s_13.1.length:Int)).toNat-(s_13.2.1).toNat)))) wz rfl (ae (vI s_13.2.1) wz rfl ?_))))))))
   obtain ⟨_,hr_33,hF⟩:=bind_some hF
   refine Gz Cq pI rfl rfl hr_33 wz (ae (.vs (av 2) 3 0 ((s_13.2.1).toNat)) wz rfl (aj (LH (v':=(vV (av 2) 3 ((s_13.1.take ((s_13.2.1).toNat)++List.replicate (((s_13.1.length:Int)).toNat-(s_13.2.1).toNat) (⟨none,(⟨0,0⟩:Window)⟩:Span)++s_13.1.drop (((s_13.2.1).toNat)+(((s_13.1.length:Int)).toNat-(s_13.2.1).toNat))).take ((s_13.2.1).toNat)))) 4 rfl (vV_take (pY hr_33)) (wH_shr 2 ((s_13.2.1).toNat) rfl ?_))))
   obtain rfl:=ah hF
   exact aC (qK (.inr rfl) [(vV (av 2) 3 ((s_13.1.take ((s_13.2.1).toNat)++List.replicate (((s_13.1.length:Int)).toNat-(s_13.2.1).toNat) (⟨none,(⟨0,0⟩:Window)⟩:Span)++s_13.1.drop (((s_13.2.1).toNat)+(((s_13.1.length:Int)).toNat-(s_13.2.1).toNat))).take ((s_13.2.1).toNat)))] _ [0,1,2] [av 0,av 1,av 2] ⟨rfl,trivial⟩ (.cons (yD _) (.nil)) (by kernel_rfl) ⟨(by kernel_rfl),⟨(by kernel_rfl),⟨(by kernel_rfl),trivial⟩⟩⟩ (by decide) (by kernel_rfl))
theorem jN {s_1:(List Span)} {f_2:Span->Option Bool} {r:Int} {gid:FuncId} {caps:List V} {Sin:List Box} (hfn:∀x0 r,f_2 x0=some r->FnM Tryz.prog gid ([(.d (.agg (Span.enc x0)))]++caps) Sin (vB r) (Sin.map some)) (hbF:aI Tryz.prog gid=true) (hcapF:caps.flatMap frz=[]/\caps.map co0=caps) (hokF:okL Sin.length caps=true) (hsF:∀b∈Sin,b.ok Sin.length=true) (hmF:∀b∈Sin,b.mut=true) (hF:bJ s_1 f_2=some r) :
  FnM Tryz.prog 77 [(vL Span.enc s_1),(.fn gid caps)] Sin (vI r) (Sin.map some):=by
 refine FnM.of_wH ⟨Tryz.prog,19,[],[]⟩ rfl Tryz.func77 rfl rfl (lb_ rfl) (by kernel_rfl) ?_
 unfold bJ at hF
 refine af (aa (ae (vI 0) wz rfl (aj (af (af (aa (ae (vL Span.enc s_1) wz rfl (bX Cq rfl wz (ae (vI 0) wz rfl (aj ?_))))))))))
 obtain ⟨o_11,hj_12,hF⟩:=bind_some hF
 obtain ⟨hn_7,hj_12⟩:=bn hj_12
 refine aG (β:=(Unit)) (λ(s_8:Unit)=>([]:SL_)) (λ(s_8:Unit)=>(nA 0 Sin)) (λp=>o_11 = .go p) ?_ ?_
 ·refine aD (aX (β:=Nat×(List Span)×(Unit)) (λp=>(λ(k_3:Nat) (l_4:List Span) (s_8:Unit)=>([(0,(vL Span.enc s_1)),(1,(.fn gid caps)),(7,(vI (s_1.length:Int))),(8,(vI (k_3:Int)))]:SL_)) p.1 p.2.1 p.2.2) (λp=>(λ(k_3:Nat) (l_4:List Span) (s_8:Unit)=>(nA 0 Sin)) p.1 p.2.1 p.2.2) (λp=>dG (λk x s=>dS f_2 k x s) p.2.1 p.1 p.2.2=some o_11/\(s_1).drop p.1=p.2.1) (λp=>p.2.1.length) (0,s_1,()) ⟨hj_12,rfl⟩ rfl (sU _) ?_)
  rintro ⟨k_3,l_4,s_8⟩ ⟨hL_10,hD_6⟩
  dsimp only at hL_10 hD_6
  cases l_4 with
  | nil =>
   obtain rfl:=ah hL_10
   refine af (aa (ae (vB (decide ((k_3:Int)<(s_1.length:Int)))) wz rfl (aj ?_)))
   refine af (aA rfl (drop_nil hD_6) (aS ?_))
   exact aU (s_8) rfl rfl (sU _)
  | cons x_5 l_4 =>
   obtain ⟨c_,hc_9,hL_10⟩:=bind_some hL_10
   refine af (aa (ae (vB (decide ((k_3:Int)<(s_1.length:Int)))) wz rfl (aj ?_)))
   refine af (aB rfl (bE hD_6) (ax ?_))
   unfold dS at hc_9
   refine af (aD (af (aa (ae (vI (k_3:Int)) wz rfl (ae (vI (k_3:Int)) wz rfl (aj (af (aa (ae (.fn gid caps) wz rfl (ae (vL Span.enc s_1) wz rfl (ae (vI (k_3:Int)) wz rfl (dL zu rfl rfl (bL hD_6) rfl wz (bz pI zS rfl (.d (.agg (Span.enc x_5))) rfl wz ?_)))))))))))))
   obtain ⟨r_13,hr_14,hc_9⟩:=bind_some hc_9
   refine FR (hfn _ _ hr_14) rfl hbF rfl rfl hcapF hokF hsF hmF rfl wz rfl (aj ?_)
   rcases au hc_9 with⟨hc_15,hc_9⟩|⟨hc_15,hc_9⟩
   ·refine aB rfl hc_15 (af (aa (ae (vI (k_3:Int)) wz rfl (ae (vI (k_3:Int)) wz rfl (aj ?_)))))
    obtain rfl:=ah hc_9
    obtain rfl:=ah hL_10
    obtain rfl:=ah hF
    exact aC (Mk hsF (.inr rfl) [(vI (k_3:Int))] ⟨rfl,trivial⟩ rfl rfl rfl)
   ·refine aA rfl hc_15 (ax (aa (gm (bH hD_6 hn_7) wz rfl (ae (vI ((k_3+1:Nat):Int)) wz rfl (aj ?_)))))
    obtain rfl:=ah hc_9
    exact aO (k_3+1,l_4,()) ⟨hL_10,aP hD_6⟩ (ls_ _) rfl (sU _)
 ·rintro s_8 ho_ sl_ H_ hp_ hq_
  subst ho_
  refine aN _ hp_ hq_ (af (aa (ae (vI (-1)) wz rfl (aj ?_))))
  obtain rfl:=ah hF
  exact aC (Mk hsF (.inr rfl) [(vI (-1))] ⟨rfl,trivial⟩ rfl rfl rfl)
theorem jl {del2_3:(List Int)} {del2_4:Int} {r:Unit} (hF:bB del2_3 del2_4=some r) :
  FnM Tryz.prog 56 [.nil,(.fn 57 [(.ref (av 0) 0 0),(.ref (av 1) 0 0)])] [(.cells 1 [(vL eI del2_3)]),(.cells 1 [(vI del2_4)])] .nil [some (.cells 1 [(vL eI del2_3)]),some (.cells 1 [(vI del2_4)])]:=by
 refine FnM.of_wH ⟨Tryz.prog,42,[],[]⟩ rfl Tryz.func56 rfl rfl (lb_ rfl) (by kernel_rfl) ?_
 unfold bB at hF
 refine af (aa (ae .nil wz rfl (aj (af (aa (ae .nil wz rfl (ae (.fn 57 [(.ref (av 0) 0 0),(.ref (av 1) 0 0)]) wz rfl ?_)))))))
 obtain ⟨r_5,hr_6,hF⟩:=bind_some hF
 refine aW 0 [0,1] il ft (jN (gid:=57) (caps:=[.ref (av 0) 0 0,.ref (av 1) 0 0]) (Sin:=[(.cells 1 [(vL eI del2_3)]),(.cells 1 [(vI del2_4)])]) (λ_ _ h_=>lm h_) hb57 ⟨rfl,rfl⟩ (by kernel_rfl) (Mg (by kernel_rfl)) (JW (by kernel_rfl)) hr_6) rfl hb77 rfl (by kernel_rfl) (by kernel_rfl) (by kernel_rfl) (by kernel_rfl) (by kernel_rfl) (by kernel_rfl) (by kernel_rfl) (by decide) (by kernel_rfl) wz (vI r_5) (by kernel_rfl) ([((av 0),some (.cells 1 [(vL eI del2_3)])),((av 1),some (.cells 1 [(vI del2_4)]))]:Hp) (by kernel_rfl) (ae (vI r_5) wz rfl (aj (af (af (aa (ae (vI r_5) wz rfl (ae (vB (r_5==(-1))) wz rfl (aj ?_))))))))
 rcases au hF with⟨hc_8,hF⟩|⟨hc_8,hF⟩
 ·refine aB rfl hc_8 (af (aa (ae .nil wz rfl (ae .nil wz rfl (aj ?_)))))
  obtain rfl:=ah hF
  exact aC (qK (.inr rfl) [.nil] _ [0,1] [av 0,av 1] ⟨rfl,trivial⟩ (.cons (yD _) (.nil)) (by kernel_rfl) ⟨(by kernel_rfl),⟨(by kernel_rfl),trivial⟩⟩ (by decide) (by kernel_rfl))
 ·refine aA rfl hc_8 (ax (af (af (aa (ae (vI r_5) wz rfl (ae (vI (w64 (r_5+1))) wz rfl (ae (vI (w64 (r_5+1))) wz rfl (aj ?_))))))))
  obtain ⟨o_17,hj_18,hF⟩:=bind_some hF
  obtain ⟨nq_20,hj_18⟩:=ek hj_18
  refine aG (β:=(Unit)) (λ(s_14:Unit)=>([(0,.nil),(5,(vI r_5))]:SL_)) (λ(s_14:Unit)=>([((av 0),some (.cells 1 [(vL eI del2_3)])),((av 1),some (.cells 1 [(vI del2_4)]))]:Hp)) (λp=>o_17 = .go p) ?_ ?_
  ·refine aD (aX (β:=Nat×(Unit)) (λp=>(λ(k_9:Nat) (s_14:Unit)=>([(0,.nil),(1,(.fn 57 [(.ref (av 0) 0 0),(.ref (av 1) 0 0)])),(5,(vI r_5)),(6,(vI (w64 (r_5+1))))]:SL_)) p.1 p.2) (λp=>(λ(k_9:Nat) (s_14:Unit)=>([((av 0),some (.cells 1 [(vL eI del2_3)])),((av 1),some (.cells 1 [(vI del2_4)]))]:Hp)) p.1 p.2) (λp=>cO (λs=>dn r_5 s) p.1 p.2=some o_17) (λp=>p.1) (nq_20,()) hj_18 rfl (aK rfl) ?_)
   rintro ⟨k_9,s_14⟩ hL_16
   dsimp only at hL_16
   cases k_9 with
   | zero=>cases hL_16
   | succ k_9 =>
    obtain ⟨c_,hc_15,hL_16⟩:=bind_some hL_16
    unfold dn at hc_15
    refine af (af (aa (ae (vI (w64 (r_5+1))) wz rfl (ae .nil wz rfl (Jg Cq rfl wz (ae (vB (decide ((w64 (r_5+1))<0))) wz rfl (aj ?_)))))))
    rcases au hc_15 with⟨hc_19,hc_15⟩|⟨hc_19,hc_15⟩
    ·refine aB rfl hc_19 (ax (af (aD (af (aa (ae .nil wz rfl (ae (vI (w64 (r_5+1))) wz rfl ?_)))))))
     cases hc_15
    ·refine aA rfl hc_19 (aS ?_)
     obtain rfl:=ah hc_15
     obtain rfl:=ah hL_16
     exact aU (()) rfl rfl (aK rfl)
  ·rintro s_14 ho_ sl_ H_ hp_ hq_
   subst ho_
   refine aN _ hp_ hq_ (af (aa (ae .nil wz rfl (ae (vI r_5) wz rfl ?_))))
   cases hF
theorem nK {a_1:ByteArray} {b_2:ByteArray} {r:Int} (hF:iK a_1 b_2=some r) :
  FnM Tryz.prog 110 [(vS a_1),(vS b_2)] [] (vI r) []:=by
 refine FnM.of_wH ⟨Tryz.prog,8,[],[]⟩ rfl Tryz.func110 rfl rfl (lb_ rfl) (by kernel_rfl) ?_
 unfold iK at hF
 refine af (aa (ae (vI 0) wz rfl (aj (af (aa (ae (vS a_1) wz rfl (ae (vS b_2) wz rfl (h_ext (Lr (f:=129) Tryz.func129 rfl rfl (by kernel_rfl) (by kernel_rfl) _ _) rfl nb129 rfl wz (ae (vI (zZ a_1 b_2)) wz rfl (aj ?_))))))))))
 obtain rfl:=ah hF
 exact aC (bv (.inr rfl) [(vI (zZ a_1 b_2))] ⟨rfl,trivial⟩ rfl rfl rfl)
theorem qy {a_1:ByteArray} {b_2:ByteArray} {r:Int} (hF:strings_Compare a_1 b_2=some r) :
  FnM Tryz.prog 79 [(vS a_1),(vS b_2)] [] (vI r) []:=by
 refine FnM.of_wH ⟨Tryz.prog,8,[],[]⟩ rfl Tryz.func79 rfl rfl (lb_ rfl) (by kernel_rfl) ?_
 unfold strings_Compare at hF
 refine af (aa (ae (vI 0) wz rfl (aj (af (aa (ae (vS a_1) wz rfl (ae (vS b_2) wz rfl ?_)))))))
 obtain ⟨r_3,hr_4,hF⟩:=bind_some hF
 refine aF (nK hr_4) rfl hb110 rfl rfl rfl rfl wz (ae (vI r_3) wz rfl (aj ?_))
 obtain rfl:=ah hF
 exact aC (bv (.inr rfl) [(vI r_3)] ⟨rfl,trivial⟩ rfl rfl rfl)
theorem Dw {vals_1:(List Int)} {r:Int} (hF:qz vals_1=some r) :
  FnM Tryz.prog 78 [(vL eI vals_1)] [] (vI r) []:=by
 refine FnM.of_wH ⟨Tryz.prog,18,[],[]⟩ rfl Tryz.func78 rfl rfl (lb_ rfl) (by kernel_rfl) ?_
 unfold qz at hF
 refine af (aa (ae (vI 0) wz rfl (aj (af (aa (ae (vI 0) wz rfl (aj (af (af (aa (ae (vL eI vals_1) wz rfl (bX nL rfl wz (ae (vI 0) wz rfl (aj ?_))))))))))))))
 obtain ⟨o_10,hj_11,hF⟩:=bind_some hF
 obtain ⟨hn_6,hj_11⟩:=bn hj_11
 refine aG (β:=(Unit)) (λ(s_7:Unit)=>([(3,(vI 0))]:SL_)) (λ(s_7:Unit)=>([]:Hp)) (λp=>o_10 = .go p) ?_ ?_
 ·refine aD (aX (β:=Nat×(List Int)×(Unit)) (λp=>(λ(k_2:Nat) (l_3:List Int) (s_7:Unit)=>([(3,(vI 0)),(6,(vL eI vals_1)),(7,(vI (vals_1.length:Int))),(8,(vI (k_2:Int)))]:SL_)) p.1 p.2.1 p.2.2) (λp=>(λ(k_2:Nat) (l_3:List Int) (s_7:Unit)=>([]:Hp)) p.1 p.2.1 p.2.2) (λp=>dG (λk x s=>oP k x s) p.2.1 p.1 p.2.2=some o_10/\(vals_1).drop p.1=p.2.1) (λp=>p.2.1.length) (0,vals_1,()) ⟨hj_11,rfl⟩ rfl (aK rfl) ?_)
  rintro ⟨k_2,l_3,s_7⟩ ⟨hL_9,hD_5⟩
  dsimp only at hL_9 hD_5
  cases l_3 with
  | nil =>
   obtain rfl:=ah hL_9
   refine af (aa (ae (vB (decide ((k_2:Int)<(vals_1.length:Int)))) wz rfl (aj ?_)))
   refine af (aA rfl (drop_nil hD_5) (aS ?_))
   exact aU (s_7) rfl rfl (aK rfl)
  | cons x_4 l_3 =>
   obtain ⟨c_,hc_8,hL_9⟩:=bind_some hL_9
   refine af (aa (ae (vB (decide ((k_2:Int)<(vals_1.length:Int)))) wz rfl (aj ?_)))
   refine af (aB rfl (bE hD_5) (ax ?_))
   unfold oP at hc_8
   refine af (aD (af (aa (dL iE rfl rfl (bL hD_5) rfl wz (bz sz3 ag3 rfl (vI x_4) rfl wz (ae (vI x_4) wz rfl (aj (af (aa (ae (vI x_4) wz rfl (ae (vI 0) wz rfl (ae (vB (x_4 != 0)) wz rfl (aj ?_)))))))))))))
   rcases au hc_8 with⟨hc_12,hc_8⟩|⟨hc_12,hc_8⟩
   ·refine aB rfl hc_12 (af (aa (ae (vI x_4) wz rfl (ae (vI x_4) wz rfl (aj ?_)))))
    obtain rfl:=ah hc_8
    obtain rfl:=ah hL_9
    obtain rfl:=ah hF
    exact aC (bv (.inr rfl) [(vI x_4)] ⟨rfl,trivial⟩ rfl rfl rfl)
   ·refine aA rfl hc_12 (ax (aa (gm (bH hD_5 hn_6) wz rfl (ae (vI ((k_2+1:Nat):Int)) wz rfl (aj ?_)))))
    obtain rfl:=ah hc_8
    exact aO (k_2+1,l_3,()) ⟨hL_9,aP hD_5⟩ (ls_ _) rfl (aK rfl)
 ·rintro s_7 ho_ sl_ H_ hp_ hq_
  subst ho_
  refine aN _ hp_ hq_ (af (aa (ae (vI 0) wz rfl (ae (vI 0) wz rfl (aj ?_)))))
  obtain rfl:=ah hF
  exact aC (bv (.inr rfl) [(vI 0)] ⟨rfl,trivial⟩ rfl rfl rfl)
theorem wR {a_1:Span} {b_2:Span} {r:Int} (hF:iI a_1 b_2=some r) :
  FnM Tryz.prog 59 [(.d (.agg (Span.enc a_1))),(.d (.agg (Span.enc b_2)))] [] (vI r) []:=by
 refine FnM.of_wH ⟨Tryz.prog,36,[],[]⟩ rfl Tryz.func59 rfl rfl (lb_ rfl) (by kernel_rfl) ?_
 unfold iI at hF
 refine af (aa (dZ 0 (.inl rfl) [(.d (dP Entry.enc a_1.f_e)),(vI a_1.f_time.From),(vI a_1.f_time.To)] rfl (bP (mU _ _) (bP rfl (bP rfl rfl))) wz (λn_3=>dZ 0 (.inl rfl) [(.d (dP Entry.enc b_2.f_e)),(vI b_2.f_time.From),(vI b_2.f_time.To)] rfl (bP (mU _ _) (bP rfl (bP rfl rfl))) wz (λn_4=>ae (vI 0) wz rfl (aj (af (bN (aJ EI rfl 0 rfl wz (ay 1 1 (.inr (by kernel_rfl)) (λ_ _ ag=>trivial) sz61 ag61 rfl rfl (.d (dP Entry.enc b_2.f_e)) rfl wz ?_)))))))))
 obtain ⟨y_5,hy_6,hF⟩:=bind_some hF
 refine bQ (v':=(.d (.ptr (Entry.enc y_5)))) 6 rfl (yZ (enc:=Entry.enc) (y:=y_5) hy_6) (ae (.d (.ptr (Entry.enc y_5))) wz rfl (mF mQ rfl [.int .i64 y_5.Prio,dl eS y_5.Tags,.bool y_5.Gone] rfl rfl wz (bz sz3 ag3 rfl (vI y_5.Prio) rfl wz (aJ EI rfl 0 rfl wz (ay 6 0 (.inr (by kernel_rfl)) (λ_ _ ag=>⟨.inl ⟨rfl,rfl⟩,trivial⟩) sz61 ag61 rfl rfl (.d (dP Entry.enc a_1.f_e)) rfl wz ?_)))))
 obtain ⟨y_7,hy_8,hF⟩:=bind_some hF
 refine bQ (v':=(.d (.ptr (Entry.enc y_7)))) 11 rfl (yZ (enc:=Entry.enc) (y:=y_7) hy_8) (ae (.d (.ptr (Entry.enc y_7))) wz rfl (mF mQ rfl [.int .i64 y_7.Prio,dl eS y_7.Tags,.bool y_7.Gone] rfl rfl wz (bz sz3 ag3 rfl (vI y_7.Prio) rfl wz ?_)))
 obtain ⟨r_9,hr_10,hF⟩:=bind_some hF
 refine aF (kG hr_10) rfl hb54 rfl rfl rfl rfl wz (aJ xJ rfl 1 rfl wz (aJ fw rfl 1 rfl wz (ay 13 1 (.inr (by kernel_rfl)) (λ_ _ ag=>⟨.inl ⟨rfl,rfl⟩,⟨.inl ⟨rfl,rfl⟩,trivial⟩⟩) sz3 ag3 rfl rfl (vI b_2.f_time.From) rfl wz (aJ xJ rfl 1 rfl wz (aJ fw rfl 1 rfl wz (ay 16 0 (.inr (by kernel_rfl)) (λ_ _ ag=>⟨.inl ⟨rfl,rfl⟩,⟨.inl ⟨rfl,rfl⟩,⟨.inl ⟨rfl,rfl⟩,trivial⟩⟩⟩) sz3 ag3 rfl rfl (vI a_1.f_time.From) rfl wz ?_))))))
 obtain ⟨r_11,hr_12,hF⟩:=bind_some hF
 refine aF (kG hr_12) rfl hb54 rfl rfl rfl rfl wz (aJ EI rfl 0 rfl wz (ay 19 1 (.inr (by kernel_rfl)) (λ_ _ ag=>⟨.inl ⟨rfl,rfl⟩,⟨.inl ⟨rfl,rfl⟩,⟨.inl ⟨rfl,rfl⟩,⟨.inl ⟨rfl,rfl⟩,trivial⟩⟩⟩⟩) sz61 ag61 rfl rfl (.d (dP Entry.enc b_2.f_e)) rfl wz ?_))
 obtain ⟨y_13,hy_14,hF⟩:=bind_some hF
 refine bQ (v':=(.d (.ptr (Entry.enc y_13)))) 24 rfl (yZ (enc:=Entry.enc) (y:=y_13) hy_14) (ae (.d (.ptr (Entry.enc y_13))) wz rfl (mF j5 rfl (Entry.enc y_13) rfl rfl wz (bz sz9 ag9 rfl (vS y_13.Key) rfl wz (aJ EI rfl 0 rfl wz (ay 24 0 (.inr (by kernel_rfl)) (λ_ _ ag=>⟨.inl ⟨rfl,rfl⟩,⟨.inl ⟨rfl,rfl⟩,⟨.inl ⟨rfl,rfl⟩,⟨.inl ⟨rfl,rfl⟩,⟨.inl ⟨rfl,rfl⟩,trivial⟩⟩⟩⟩⟩) sz61 ag61 rfl rfl (.d (dP Entry.enc a_1.f_e)) rfl wz ?_)))))
 obtain ⟨y_15,hy_16,hF⟩:=bind_some hF
 refine bQ (v':=(.d (.ptr (Entry.enc y_15)))) 29 rfl (yZ (enc:=Entry.enc) (y:=y_15) hy_16) (ae (.d (.ptr (Entry.enc y_15))) wz rfl (mF j5 rfl (Entry.enc y_15) rfl rfl wz (bz sz9 ag9 rfl (vS y_15.Key) rfl wz ?_)))
 obtain ⟨r_17,hr_18,hF⟩:=bind_some hF
 refine aF (qy hr_18) rfl hb79 rfl rfl rfl rfl wz (dW (([r_9,r_11,r_17]:List Int).map eI) iE pW rfl rfl rfl rfl rfl wz ?_)
 obtain ⟨r_19,hr_20,hF⟩:=bind_some hF
 refine aF (Dw hr_20) rfl hb78 rfl rfl rfl rfl wz (ae (vI r_19) wz rfl (aj (aN (H0:=([(n_3,some (.cells 3 [(.d (dP Entry.enc a_1.f_e)),(vI a_1.f_time.From),(vI a_1.f_time.To)])),(n_4,some (.cells 3 [(.d (dP Entry.enc b_2.f_e)),(vI b_2.f_time.From),(vI b_2.f_time.To)]))]:Hp)) ([(4,(vI r_19))]:SL_) (by kernel_rfl) (xw (by kernel_rfl)) ?_)))
 obtain rfl:=ah hF
 exact aC (bv (.inr rfl) [(vI r_19)] ⟨rfl,trivial⟩ rfl rfl rfl)
end Go.Proofs.YtnjnggakgeommaaGreat.Law

