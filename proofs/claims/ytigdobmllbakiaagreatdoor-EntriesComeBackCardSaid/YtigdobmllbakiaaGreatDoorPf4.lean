/-
 The machine computes these plain functions (written by a program of ours).
-/
import Derived.Test.YtigdobmllbakiaaGreatDoorFacts
import Derived.Test.YtigdobmllbakiaaGreatDoorDefs
import Derived.Test.YtigdobmllbakiaaGreatDoorPf3
import Derived.Test.YtigdobmllbakiaaGreatDoorShelf
open Go Go.Eng Go.Proofs
namespace Go.Proofs.YtigdobmllbakiaaGreatDoor.Law
set_option maxRecDepth 100000
set_option linter.unusedVariables false
set_option maxHeartbeats 1000000
theorem yg {e_1:Entry} {zone_2:Int} {wv_3:Window} {r:(List Window)} (hF:ku e_1 zone_2 wv_3=some r) :
  FnM Tryz.prog 55 [(.d (.agg (Entry.enc e_1))),(vI zone_2),(.d (.agg (Window.enc wv_3)))] [] (gV (aF 0) 2 r) (([]:List Box).map some++gO 2 Window.enc r):=by
 refine FnM.of_wH ⟨Tryz.prog,72,[],[]⟩ rfl Tryz.func55 rfl rfl (lb_ rfl) (by kernel_rfl) ?_
 unfold ku at hF
 refine aj (ik 0 (.inl rfl) (Entry.v e_1) rfl rfl wz (λn_4=>ik 0 (.inl rfl) [(vI wv_3.From),(vI wv_3.To)] rfl rfl wz (λn_5=>aa .nil (af (aj (aa .nil (af (au (au ?_)))))))))
 obtain ⟨v_6,h_7,hF⟩:=bind_some hF
 refine aR [(1,(vI zone_2)),(3,(.ref n_4 0 0)),(5,(.ref n_5 0 0)),(7,.nil),(20,(vB v_6))] [(n_4,some (.cells 13 (Entry.v e_1))),(n_5,some (.cells 2 [(vI wv_3.From),(vI wv_3.To)]))] ?_ ?_
 ·refine av (aI Fe rfl 12 rfl wz (aG 0 0 il ft sz4 ag4 rfl rfl (vB e_1.Gone) rfl wz ?_))
  rcases ak h_7 with⟨hc_8,h_7⟩|⟨hc_8,h_7⟩
  ·refine aD rfl hc_8 wz (ah (ah (ah (ah (ah (aa (vB true) (af ?_)))))))
   obtain rfl:=ae h_7
   exact cu
  ·refine aD rfl hc_8 wz (aI nJ rfl 0 rfl wa (aG 0 1 il ft sz3 ag3 rfl rfl (vI wv_3.From) rfl wa (aI nE rfl 1 rfl wa (aG 0 1 il ft sz3 ag3 rfl rfl (vI wv_3.To) rfl wa (aJ (vB (decide (wv_3.From>=wv_3.To))) wa rfl (aa (vB (decide (wv_3.From>=wv_3.To))) (af ?_)))))))
   obtain rfl:=ae h_7
   exact cu
 ·rintro ⟨⟩ _ sl_ H_ hp_ hq_
  refine aQ _ hp_ hq_ ?_
  rcases ak hF with⟨hc_9,hF⟩|⟨hc_9,hF⟩
  ·refine aB rfl hc_9 (aj (aa .nil (af (lJ (λn_10 => ?_)))))
   obtain rfl:=ae hF
   exact ay (finG (outs:=([]:List Box)) (.inr rfl) 2 rfl rfl rfl (by kernel_rfl) (by kernel_rfl))
  ·refine aA rfl hc_9 (ax (aj (aI nJ rfl 0 rfl wz (aG 0 1 il ft sz3 ag3 rfl rfl (vI wv_3.From) rfl wz (aa (vI zone_2) (aa (vI (w64 (zone_2*60000))) (aa (vI (w64 (wv_3.From+(w64 (zone_2*60000))))) (aa (vI (w64 ((w64 (wv_3.From+(w64 (zone_2*60000)))).tdiv 86400000))) (aa (vI (w64 ((w64 ((w64 (wv_3.From+(w64 (zone_2*60000)))).tdiv 86400000))-2))) (aa (vI (w64 ((w64 ((w64 (wv_3.From+(w64 (zone_2*60000)))).tdiv 86400000))-2))) (af (aj (aI nE rfl 1 rfl wz (aG 0 1 il ft sz3 ag3 rfl rfl (vI wv_3.To) rfl wz (aa (vI zone_2) (aa (vI (w64 (zone_2*60000))) (aa (vI (w64 (wv_3.To+(w64 (zone_2*60000))))) (aa (vI (w64 ((w64 (wv_3.To+(w64 (zone_2*60000)))).tdiv 86400000))) (aa (vI (w64 ((w64 ((w64 (wv_3.To+(w64 (zone_2*60000)))).tdiv 86400000))+1))) (aa (vI (w64 ((w64 ((w64 (wv_3.To+(w64 (zone_2*60000)))).tdiv 86400000))+1))) (af (au (aj ?_)))))))))))))))))))))))
   refine aa (vI (w64 ((w64 ((w64 (wv_3.From+(w64 (zone_2*60000)))).tdiv 86400000))-2))) (aI xM rfl 3 rfl wz (aG 0 0 il ft sz3 ag3 rfl rfl (vI e_1.First) rfl wz (rU (vI (sw (w64 ((w64 ((w64 (wv_3.From+(w64 (zone_2*60000)))).tdiv 86400000))-2)) e_1.First)) rfl (.inr rfl) wz (aa (vI (sw (w64 ((w64 ((w64 (wv_3.From+(w64 (zone_2*60000)))).tdiv 86400000))-2)) e_1.First)) (af (lJ (λn_17 => ?_)))))))
   obtain ⟨o_22,hj_23,hF⟩:=bind_some hF
   obtain ⟨nq_41,hj_23⟩:=gu hj_23
   refine Ht (σ:=(List Window)×Int) (N:=Nm) (λp=>(λ(s_16:(List Window)×Int) (n_19:Nm)=>([(7,(gV n_19 2 s_16.1))]:SL_)) p.1 p.2) (λp=>(λ(s_16:(List Window)×Int) (n_19:Nm)=>([(n_4,some (.cells 13 (Entry.v e_1))),(n_5,some (.cells 2 [(vI wv_3.From),(vI wv_3.To)])),(n_19,gB 2 Window.enc s_16.1)]:Hp)) p.1 p.2) (λ(k_11:Nat)=>(λp=>(λ(s_16:(List Window)×Int) (n_19:Nm)=>([(1,(vI zone_2)),(3,(.ref n_4 0 0)),(5,(.ref n_5 0 0)),(7,(gV n_19 2 s_16.1)),(9,(vI (w64 ((w64 ((w64 (wv_3.To+(w64 (zone_2*60000)))).tdiv 86400000))+1)))),(10,(vI s_16.2))]:SL_)) p.1 p.2)) (λs=>je wv_3 zone_2 e_1 s) o_22 nq_41 ((([]:List Window),(sw (w64 ((w64 ((w64 (wv_3.From+(w64 (zone_2*60000)))).tdiv 86400000))-2)) e_1.First)),n_17) hj_23 rfl (aL rfl) ?_ ?_
   ·rintro ⟨k_11,s_16,n_19⟩ hL_21
    dsimp only at hL_21
    cases k_11 with
    | zero=>cases hL_21
    | succ k_11 =>
     obtain ⟨c_,hc_20,hL_21⟩:=bind_some hL_21
     unfold je at hc_20
     refine au (aj (aa (vI s_16.2) (aa (vI (w64 ((w64 ((w64 (wv_3.To+(w64 (zone_2*60000)))).tdiv 86400000))+1))) (aI xY rfl 4 rfl wz (aG 0 0 il ft sz3 ag3 rfl rfl (vI e_1.Last) rfl wz (rU (vI (Gg (w64 ((w64 ((w64 (wv_3.To+(w64 (zone_2*60000)))).tdiv 86400000))+1)) e_1.Last)) rfl (.inl rfl) wz (aa (vB (decide (s_16.2<=(Gg (w64 ((w64 ((w64 (wv_3.To+(w64 (zone_2*60000)))).tdiv 86400000))+1)) e_1.Last)))) (af ?_))))))))
     rcases ak hc_20 with⟨hc_24,hc_20⟩|⟨hc_24,hc_20⟩
     ·refine aB rfl hc_24 (ax (au (aO (au (aj (aG 0 0 il ft jW ql rfl rfl (.d (.agg (Entry.enc e_1))) rfl wz (aa (vI s_16.2) ?_)))))))
      obtain ⟨r_25,hr_26,hc_20⟩:=bind_some hc_20
      refine aC (yP hr_26) rfl hb84 rfl rfl rfl rfl wz (aa (vB (!r_25)) (af ?_))
      rcases ak hc_20 with⟨hc_27,hc_20⟩|⟨hc_27,hc_20⟩
      ·refine aB rfl hc_27 (bg (av (aa (vI s_16.2) (aa (vI (w64 (s_16.2+1))) (aa (vI (w64 (s_16.2+1))) (af ?_))))))
       obtain rfl:=ae hc_20
       exact aY (k_11,(s_16.1,(w64 (s_16.2+1))),n_19) hL_21 (ls_ _) rfl (aL rfl)
      ·refine aA rfl hc_27 (ax (aj (aG 0 0 il ft jW ql rfl rfl (.d (.agg (Entry.enc e_1))) rfl wz (aa (vI zone_2) (aa (vI s_16.2) ?_)))))
       obtain ⟨r_28,hr_29,hc_20⟩:=bind_some hc_20
       refine aC (xH hr_29) rfl hb85 rfl rfl rfl rfl wz (dE 0 (.inl rfl) z74 rfl wz (λn_30=>fo 0 il ft 3 xX rfl rfl [(vI r_28.From),(vI r_28.To)] rfl wz (af (au ?_))))
       obtain ⟨v_31,h_32,hc_20⟩:=bind_some hc_20
       refine aR [(1,(vI zone_2)),(3,(.ref n_4 0 0)),(5,(.ref n_5 0 0)),(7,(gV n_19 2 s_16.1)),(9,(vI (w64 ((w64 ((w64 (wv_3.To+(w64 (zone_2*60000)))).tdiv 86400000))+1)))),(10,(vI s_16.2)),(11,(.ref n_30 0 0)),(66,(vB v_31))] [(n_4,some (.cells 13 (Entry.v e_1))),(n_5,some (.cells 2 [(vI wv_3.From),(vI wv_3.To)])),(n_19,gB 2 Window.enc s_16.1),(n_30,some (.cells 2 [(vI r_28.From),(vI r_28.To)]))] ?_ ?_
       ·refine av (aI nJ rfl 0 rfl wz (aG 0 3 il ft sz3 ag3 rfl rfl (vI r_28.From) rfl wz (aI nE rfl 1 rfl wz (aG 0 1 il ft sz3 ag3 rfl rfl (vI wv_3.To) rfl wz (aa (vB (decide (r_28.From<wv_3.To))) ?_)))))
        rcases ak h_32 with⟨hc_33,h_32⟩|⟨hc_33,h_32⟩
        ·refine aD rfl hc_33 wz (aI nE rfl 1 rfl wa (aG 0 3 il ft sz3 ag3 rfl rfl (vI r_28.To) rfl wa (aI nJ rfl 0 rfl wa (aG 0 1 il ft sz3 ag3 rfl rfl (vI wv_3.From) rfl wa (aJ (vB (decide (r_28.To>wv_3.From))) wa rfl (aa (vB (decide (r_28.To>wv_3.From))) (af ?_)))))))
         obtain rfl:=ae h_32
         exact cu
        ·refine aD rfl hc_33 wz (ah (ah (ah (ah (ah (aa (vB false) (af ?_)))))))
         obtain rfl:=ae h_32
         exact cu
       ·rintro ⟨⟩ _ sl_ H_ hp_ hq_
        refine aQ _ hp_ hq_ ?_
        obtain ⟨v_34,h_35,hc_20⟩:=bind_some hc_20
        refine kZ (β:=Nm) (λ(n_36:Nm)=>([(1,(vI zone_2)),(3,(.ref n_4 0 0)),(5,(.ref n_5 0 0)),(7,(gV n_36 2 v_34)),(9,(vI (w64 ((w64 ((w64 (wv_3.To+(w64 (zone_2*60000)))).tdiv 86400000))+1)))),(10,(vI s_16.2))]:SL_)) (λ(n_36:Nm)=>([(n_4,some (.cells 13 (Entry.v e_1))),(n_5,some (.cells 2 [(vI wv_3.From),(vI wv_3.To)])),(n_36,gB 2 Window.enc v_34),(n_30,some (.cells 2 [(vI r_28.From),(vI r_28.To)]))]:Hp)) (λ_=>True) ?_ ?_
        ·rcases ak h_35 with⟨hc_37,h_35⟩|⟨hc_37,h_35⟩
         ·refine aB rfl hc_37 (av (aa (gV n_19 2 s_16.1) (aG 0 3 il ft xX EZ rfl rfl (.d (.agg (Window.enc r_28))) rfl wz (dW (([r_28]:List Window).map Window.enc) es70 ez70 rfl rfl rfl rfl rfl wz ?_))))
          obtain ⟨a_38,hz_39,h_35⟩:=bind_some h_35
          refine jV 0 il ft (i:=2) el70 el70 xX z74 rfl (by decide) by74 (by decide) (λ_=>rfl) rfl rfl rfl hz_39 wz (λn_40=>aa (gV n_40 2 a_38) (af ?_))
          obtain rfl:=ae h_35
          exact aZ n_40 trivial rfl (aL rfl)
         ·refine aA rfl hc_37 (ax ?_)
          obtain rfl:=ae h_35
          exact aZ n_19 trivial rfl (aL rfl)
        ·rintro n_36 _ sl_ H_ hp_ hq_
         refine aQ _ hp_ hq_ (av (aa (vI s_16.2) (aa (vI (w64 (s_16.2+1))) (aa (vI (w64 (s_16.2+1))) (af ?_)))))
         obtain rfl:=ae hc_20
         exact aY (k_11,(v_34,(w64 (s_16.2+1))),n_36) hL_21 (ls_ _) rfl (aL rfl)
     ·refine aA rfl hc_24 (bg ?_)
      obtain rfl:=ae hc_20
      obtain rfl:=ae hL_21
      exact aZ ((s_16.1,s_16.2),n_19) rfl rfl (aL rfl)
   ·rintro ⟨s_16,n_19⟩ ho_ sl_ H_ hp_ hq_
    subst ho_
    refine aQ _ hp_ hq_ (aj (aa (gV n_19 2 s_16.1) (aa (gV n_19 2 s_16.1) (af ?_))))
    obtain rfl:=ae hF
    exact ay (finG (outs:=([]:List Box)) (.inr rfl) 2 rfl rfl rfl (by kernel_rfl) (by kernel_rfl))
theorem y7 {e_1:Entry} {zone_2:Int} {wv_3:Window} {r:(List Window)×Int} (hF:kJ e_1 zone_2 wv_3=some r) :
  FnM Tryz.prog 29 [(.d (.agg (Entry.enc e_1))),(vI zone_2),(.d (.agg (Window.enc wv_3)))] [] (.tup [(vL Window.enc r.1),(vI r.2)]) []:=by
 refine FnM.of_wH ⟨Tryz.prog,45,[],[]⟩ rfl Tryz.func29 rfl rfl (lb_ rfl) (by kernel_rfl) ?_
 unfold kJ at hF
 refine aj (ik 0 (.inl rfl) (Entry.v e_1) rfl rfl wz (λn_4=>ik 0 (.inl rfl) [(vI wv_3.From),(vI wv_3.To)] rfl rfl wz (λn_5=>aa .nil (aa (vI 0) (af (au (aj (aG 0 0 il ft jW ql rfl rfl (.d (.agg (Entry.enc e_1))) rfl wz (dW (([e_1]:List Entry).map Entry.enc) EI ez26 rfl rfl rfl rfl rfl wz ?_)))))))))
 obtain ⟨r_6,hr_7,hF⟩:=bind_some hF
 refine aC (jh hr_7) rfl hb15 rfl rfl rfl rfl wz (aa (vI r_6) (af (aj (aa (vI r_6) (aa (vB (r_6 != 0)) (af ?_))))))
 rcases ak hF with⟨hc_8,hF⟩|⟨hc_8,hF⟩
 ·refine aB rfl hc_8 (aj (aa (vI r_6) (aa .nil (aa (vI r_6) (af ?_)))))
  obtain rfl:=ae hF
  exact ay (aK [.nil,(vI r_6)] ⟨rfl,⟨rfl,trivial⟩⟩)
 ·refine aA rfl hc_8 (ax (au (aj (aa (vI zone_2) ?_))))
  obtain ⟨r_9,hr_10,hF⟩:=bind_some hF
  refine aC (bn hr_10) rfl qN rfl rfl rfl rfl wz (af ?_)
  rcases ak hF with⟨hc_11,hF⟩|⟨hc_11,hF⟩
  ·refine aB rfl hc_11 (aj (aa .nil (aa (vI 1) (af ?_))))
   obtain rfl:=ae hF
   exact ay (aK [.nil,(vI 1)] ⟨rfl,⟨rfl,trivial⟩⟩)
  ·refine aA rfl hc_11 (ax (au (aj (aG 0 1 il ft xX EZ rfl rfl (.d (.agg (Window.enc wv_3))) rfl wz ?_))))
   obtain ⟨r_12,hr_13,hF⟩:=bind_some hF
   refine aC (rP hr_13) rfl hb54 rfl rfl rfl rfl wz (aa (vI r_12) (af (aj (aa (vI r_12) (aa (vB (r_12 != 0)) (af ?_))))))
   rcases ak hF with⟨hc_14,hF⟩|⟨hc_14,hF⟩
   ·refine aB rfl hc_14 (aj (aa (vI r_12) (aa .nil (aa (vI r_12) (af ?_)))))
    obtain rfl:=ae hF
    exact ay (aK [.nil,(vI r_12)] ⟨rfl,⟨rfl,trivial⟩⟩)
   ·refine aA rfl hc_14 (ax (aj (aG 0 0 il ft jW ql rfl rfl (.d (.agg (Entry.enc e_1))) rfl wz (aa (vI zone_2) (aG 0 1 il ft xX EZ rfl rfl (.d (.agg (Window.enc wv_3))) rfl wz ?_)))))
    obtain ⟨r_15,hr_16,hF⟩:=bind_some hF
    refine h_callg [] (yg hr_16) rfl hb55 rfl (by kernel_rfl) (by kernel_rfl) (by kernel_rfl) (by kernel_rfl) (by kernel_rfl) rfl (by decide) (by kernel_rfl) wz ([(n_4,some (.cells 13 (Entry.v e_1))),(n_5,some (.cells 2 [(vI wv_3.From),(vI wv_3.To)]))]:Hp) (λ_=>by kernel_rfl) (λn_18=>aa (gV n_18 2 r_15) (af (au (aj (aa (gV n_18 2 r_15) (IE un70 rfl wz (aa (vI 0) (af ?_))))))))
    obtain ⟨o_27,hj_28,hF⟩:=bind_some hF
    obtain ⟨hn_23,hj_28⟩:=aX hj_28
    refine di (λ(s_24:List Window)=>[(10,(gV n_18 2 s_24))]) (λ(s_24:List Window)=>[(n_4,some (.cells 13 (Entry.v e_1))),(n_5,some (.cells 2 [(vI wv_3.From),(vI wv_3.To)])),(n_18,gB 2 Window.enc s_24)]) (λ(k_19:Nat)=>(λ(s_24:List Window)=>[(5,(.ref n_5 0 0)),(10,(gV n_18 2 s_24)),(30,(gV n_18 2 s_24)),(31,(vI (r_15.length:Int))),(32,(vI (k_19:Int)))])) (λk x s=>kg wv_3 k x s) o_27 (List.range ((r_15.length:Int)).toNat) r_15 hj_28 rfl (aL rfl) ?_ ?_
    ·rintro ⟨k_19,l_20,s_24⟩ ⟨hL_26,hD_22⟩
     dsimp only at hL_26 hD_22
     cases l_20 with
     | nil =>
      obtain rfl:=ae hL_26
      refine aj (aa (vB (decide ((k_19:Int)<(r_15.length:Int)))) (af ?_))
      refine au (aA rfl (Et hD_22) (bg ?_))
      exact aZ (s_24) rfl rfl (aL rfl)
     | cons x_21 l_20 =>
      obtain ⟨c_,hc_25,hL_26⟩:=bind_some hL_26
      refine aj (aa (vB (decide ((k_19:Int)<(r_15.length:Int)))) (af ?_))
      refine au (aB rfl (Du hD_22) (ax ?_))
      unfold kg at hc_25
      refine au (aO (aj (aa (vI (k_19:Int)) ?_)))
      obtain ⟨_,hi_29,hc_25⟩:=bind_some hc_25
      refine CQ es70 rfl rfl (ru hi_29) (mM hi_29) wz ?_
      obtain ⟨e_30,hy_31,hc_25⟩:=bind_some hc_25
      refine uB 0 2 il ft xX EZ rfl rfl hy_31 (.d (.agg (Window.enc e_30))) rfl wz (dE 0 (.inl rfl) z74 rfl wz (λn_32=>aa (vI (k_19:Int)) (fo 0 il ft 3 xX rfl rfl [(vI e_30.From),(vI e_30.To)] rfl wz (af (av (aa (gV n_18 2 s_24) (aa (vI (k_19:Int)) (aG 0 3 il ft xX EZ rfl rfl (.d (.agg (Window.enc e_30))) rfl wz (aG 0 1 il ft xX EZ rfl rfl (.d (.agg (Window.enc wv_3))) rfl wz ?_)))))))))
      obtain ⟨r_33,hr_34,hc_25⟩:=bind_some hc_25
      refine aC (Bf hr_34) rfl hb56 rfl rfl rfl rfl wz ?_
      obtain ⟨_,hi_35,hc_25⟩:=bind_some hc_25
      refine CQ es70 rfl rfl (ru hi_35) (mM hi_35) wz ?_
      obtain ⟨e_36,hy_37,hc_25⟩:=bind_some hc_25
      refine F6 0 il ft 2 xX rfl rfl hy_37 r_33 rfl wz (lm (v':=(gV n_18 2 (s_24.set (0+((k_19:Int)).toNat) r_33))) 10 rfl (rG (by simp)) (lm (v':=(gV n_18 2 (s_24.set (0+((k_19:Int)).toNat) r_33))) 30 rfl (rG (by simp)) (lm (v':=(gV n_18 2 (s_24.set (0+((k_19:Int)).toNat) r_33))) 37 rfl (rG (by simp)) (af (av (eY (Ev hD_22 hn_23) wz rfl (aa (vI ((k_19+1:Nat):Int)) (af ?_))))))))
      obtain rfl:=ae hc_25
      exact aY (k_19+1,l_20,(s_24.set (0+((k_19:Int)).toNat) r_33)) ⟨hL_26,aV hD_22⟩ (ls_ _) rfl (aL rfl)
    ·rintro s_24 ho_ sl_ H_ hp_ hq_
     subst ho_
     refine aQ _ hp_ hq_ (aj (aa (gV n_18 2 s_24) (aa (gV n_18 2 s_24) (aa (vI 0) (af (gH 2 rfl (fO 6 2 rfl rfl (fO 10 2 rfl rfl (fO 44 2 rfl rfl ?_)))))))))
     obtain rfl:=ae hF
     exact ay (aK [(vL Window.enc s_24),(vI 0)] ⟨rfl,⟨rfl,trivial⟩⟩)
theorem zg {wv_1:Window} {r:Bool} (hF:mZ wv_1=some r) :
  FnM Tryz.prog 86 [(.d (.agg (Window.enc wv_1)))] [] (vB r) []:=by
 refine FnM.of_wH ⟨Tryz.prog,18,[],[]⟩ rfl Tryz.func86 rfl rfl (lb_ rfl) (by kernel_rfl) ?_
 unfold mZ at hF
 refine aj (ik 0 (.inl rfl) [(vI wv_1.From),(vI wv_1.To)] rfl rfl wz (λn_2=>aa (vB false) (af (au ?_))))
 obtain ⟨v_3,h_4,hF⟩:=bind_some hF
 refine aR [(2,(vB v_3))] [(n_2,some (.cells 2 [(vI wv_1.From),(vI wv_1.To)]))] ?_ ?_
 ·refine av (aI nJ rfl 0 rfl wz (aG 0 0 il ft sz3 ag3 rfl rfl (vI wv_1.From) rfl wz (aa (vB (decide (wv_1.From>=0))) ?_)))
  rcases ak h_4 with⟨hc_5,h_4⟩|⟨hc_5,h_4⟩
  ·refine aD rfl hc_5 wz (aI nJ rfl 0 rfl wa (aG 0 0 il ft sz3 ag3 rfl rfl (vI wv_1.From) rfl wa (aI nE rfl 1 rfl wa (aG 0 0 il ft sz3 ag3 rfl rfl (vI wv_1.To) rfl wa (aJ (vB (decide (wv_1.From<wv_1.To))) wa rfl (aa (vB (decide (wv_1.From<wv_1.To))) ?_))))))
   rcases ak h_4 with⟨hc_6,h_4⟩|⟨hc_6,h_4⟩
   ·refine aD rfl hc_6 wz (aI nE rfl 1 rfl wa (aG 0 0 il ft sz3 ag3 rfl rfl (vI wv_1.To) rfl wa (aJ (vB (decide (wv_1.To<=345686400000))) wa rfl (aa (vB (decide (wv_1.To<=345686400000))) (aa (vB (decide (wv_1.To<=345686400000))) (af ?_))))))
    obtain rfl:=ae h_4
    exact cu
   ·refine aD rfl hc_6 wz (ah (ah (ah (aa (vB false) (aa (vB false) (af ?_))))))
    obtain rfl:=ae h_4
    exact cu
  ·refine aD rfl hc_5 wz (ah (ah (ah (ah (ah (aa (vB false) (aa (vB false) (ah (ah (ah (aa (vB false) (aa (vB false) (af ?_)))))))))))))
   obtain rfl:=ae h_4
   exact cu
 ·rintro ⟨⟩ _ sl_ H_ hp_ hq_
  refine aQ _ hp_ hq_ ?_
  obtain rfl:=ae hF
  exact ay (aK [(vB v_3)] ⟨rfl,trivial⟩)
theorem vv {l_1:(List ByteArray)} {r:Int} (hF:iZ l_1=some r) :
  FnM Tryz.prog 87 [(vL eS l_1)] [] (vI r) []:=by
 refine FnM.of_wH ⟨Tryz.prog,8,[],[]⟩ rfl Tryz.func87 rfl rfl (lb_ rfl) (by kernel_rfl) ?_
 unfold iZ at hF
 refine aj (aa (vI 0) (af (au (aj (aa (vL eS l_1) (bI qQ rfl wz (aa (vB (decide ((l_1.length:Int)>20))) (af ?_))))))))
 rcases ak hF with⟨hc_2,hF⟩|⟨hc_2,hF⟩
 ·refine aB rfl hc_2 (aj (aa (vI 2) (af ?_)))
  obtain rfl:=ae hF
  exact ay (aK [(vI 2)] ⟨rfl,trivial⟩)
 ·refine aA rfl hc_2 (ax (aj (aa (vL eS l_1) ?_)))
  obtain ⟨r_3,hr_4,hF⟩:=bind_some hF
  refine aC (qo hr_4) rfl hb96 rfl rfl rfl rfl wz (aa (vI r_3) (af ?_))
  obtain rfl:=ae hF
  exact ay (aK [(vI r_3)] ⟨rfl,trivial⟩)
theorem qP {l_1:(List Campaign)} {r:Int} (hF:fH l_1=some r) :
  FnM Tryz.prog 57 [(vL Campaign.enc l_1)] [] (vI r) []:=by
 refine FnM.of_wH ⟨Tryz.prog,73,[],[]⟩ rfl Tryz.func57 rfl rfl (lb_ rfl) (by kernel_rfl) ?_
 unfold fH at hF
 refine aj (aa (vI 0) (af (au (aj (aa (vL Campaign.enc l_1) (bI un111 rfl wz (aa (vB (decide ((l_1.length:Int)>30))) (af ?_))))))))
 rcases ak hF with⟨hc_2,hF⟩|⟨hc_2,hF⟩
 ·refine aB rfl hc_2 (aj (aa (vI 2) (af ?_)))
  obtain rfl:=ae hF
  exact ay (aK [(vI 2)] ⟨rfl,trivial⟩)
 ·refine aA rfl hc_2 (ax (au (aj (aa (vL Campaign.enc l_1) (bI un111 rfl wz (aa (vI 0) (af ?_)))))))
  obtain ⟨o_11,hj_12,hF⟩:=bind_some hF
  obtain ⟨hn_7,hj_12⟩:=aX hj_12
  refine di (λ(s_8:Unit)=>[]) (λ(s_8:Unit)=>[]) (λ(k_3:Nat)=>(λ(s_8:Unit)=>[(0,(vL Campaign.enc l_1)),(9,(vL Campaign.enc l_1)),(10,(vI (l_1.length:Int))),(11,(vI (k_3:Int)))])) (λk x s=>eQ l_1 k x s) o_11 l_1 () hj_12 rfl (aL rfl) ?_ ?_
  ·rintro ⟨k_3,l_4,s_8⟩ ⟨hL_10,hD_6⟩
   dsimp only at hL_10 hD_6
   cases l_4 with
   | nil =>
    obtain rfl:=ae hL_10
    refine aj (aa (vB (decide ((k_3:Int)<(l_1.length:Int)))) (af ?_))
    refine au (aA rfl (drop_nil hD_6) (bg ?_))
    exact aZ (s_8) rfl rfl (aL rfl)
   | cons x_5 l_4 =>
    obtain ⟨c_,hc_9,hL_10⟩:=bind_some hL_10
    refine aj (aa (vB (decide ((k_3:Int)<(l_1.length:Int)))) (af ?_))
    refine au (aB rfl (bz hD_6) (ax ?_))
    unfold eQ at hc_9
    refine au (aO (aj (aa (vI (k_3:Int)) (cZ Ny rfl rfl (bH hD_6) rfl wz (bC sz77 ag77 rfl (.d (.agg (Campaign.enc x_5))) rfl wz (dE 0 (.inl rfl) z77 rfl wz (λn_13=>aa (vI (k_3:Int)) (fo 0 il ft 0 sz77 rfl rfl (Campaign.v x_5) rfl wz (af (au (aO (au ?_))))))))))))
    obtain ⟨v_14,h_15,hc_9⟩:=bind_some hc_9
    refine aR [(0,(vL Campaign.enc l_1)),(3,(vI (k_3:Int))),(4,(.ref n_13 0 0)),(9,(vL Campaign.enc l_1)),(10,(vI (l_1.length:Int))),(11,(vI (k_3:Int))),(16,(vB v_14))] [(n_13,some (.cells 8 (Campaign.v x_5)))] ?_ ?_
    ·refine av (aI Jp rfl 0 rfl wz (aG 0 0 il ft sz9 ag9 rfl rfl (vS x_5.Key) rfl wz ?_))
     obtain ⟨r_16,hr_17,h_15⟩:=bind_some h_15
     refine aC (fJ hr_17) rfl CW rfl rfl rfl rfl wz (aa (vB (!r_16)) ?_)
     rcases ak h_15 with⟨hc_18,h_15⟩|⟨hc_18,h_15⟩
     ·refine aD rfl hc_18 wz (ah (ah (ah (ah (bG (wn rfl rfl) (bG (wn rfl rfl) (bG (wn rfl rfl) (bG (wn rfl rfl) (ah (aa (vB true) (aa (vB true) (af ?_))))))))))))
      obtain rfl:=ae h_15
      exact cu
     ·refine aD rfl hc_18 wz (aI M3 rfl 1 rfl wa (aG 0 0 il ft sz9 ag9 rfl rfl (vS x_5.Class) rfl wa (aJ (vB (sNe x_5.Class (⟨#[]⟩:ByteArray))) wa rfl ?_)))
      rcases ak h_15 with⟨hc_19,h_15⟩|⟨hc_19,h_15⟩
      ·refine aD rfl hc_19 wa (aI M3 rfl 1 rfl wa (aG 0 0 il ft sz9 ag9 rfl rfl (vS x_5.Class) rfl wa ?_))
       obtain ⟨r_20,hr_21,h_15⟩:=bind_some h_15
       refine aC (fJ hr_21) rfl CW rfl rfl rfl rfl wa (aJ (vB (!r_20)) wa rfl (aJ (vB (!r_20)) wa rfl (aa (vB (!r_20)) (aa (vB (!r_20)) (af ?_)))))
       obtain rfl:=ae h_15
       exact cu
      ·refine aD rfl hc_19 wa (ah (ah (ah (ah (aJ (vB false) wa rfl (aa (vB false) (aa (vB false) (af ?_))))))))
       obtain rfl:=ae h_15
       exact cu
    ·rintro ⟨⟩ _ sl_ H_ hp_ hq_
     refine aQ _ hp_ hq_ ?_
     rcases ak hc_9 with⟨hc_22,hc_9⟩|⟨hc_22,hc_9⟩
     ·refine aB rfl hc_22 (aj (aa (vI 5) (af ?_)))
      obtain rfl:=ae hc_9
      obtain rfl:=ae hL_10
      obtain rfl:=ae hF
      exact ay (aK [(vI 5)] ⟨rfl,trivial⟩)
     ·refine aA rfl hc_22 (au ?_)
      obtain ⟨v_23,h_24,hc_9⟩:=bind_some hc_9
      refine aR [(0,(vL Campaign.enc l_1)),(4,(.ref n_13 0 0)),(9,(vL Campaign.enc l_1)),(10,(vI (l_1.length:Int))),(11,(vI (k_3:Int))),(32,(vB v_23))] [(n_13,some (.cells 8 (Campaign.v x_5)))] ?_ ?_
      ·refine bL (aa (vI (k_3:Int)) (aa (vB (decide ((k_3:Int)>0))) ?_))
       rcases ak h_24 with⟨hc_25,h_24⟩|⟨hc_25,h_24⟩
       ·refine aD rfl hc_25 wz (aI Jp rfl 0 rfl wa (aG 4 0 (.inr (by kernel_rfl)) (λ_ _ ag=>trivial) sz9 ag9 rfl rfl (vS x_5.Key) rfl wa (aJ (vL Campaign.enc l_1) wa rfl (aJ (vI (k_3:Int)) wa rfl (aJ (vI (w64 ((k_3:Int)-1))) wa rfl ?_)))))
        obtain ⟨y_26,hy_27,h_24⟩:=bind_some h_24
        refine cZ Ny rfl rfl hy_27 rfl wa (qi Jp rfl (Campaign.enc y_26) rfl rfl wa (bC sz9 ag9 rfl (vS y_26.Key) rfl wa (aJ (vB (sLe x_5.Key y_26.Key)) wa rfl (aa (vB (sLe x_5.Key y_26.Key)) (aa (vB (sLe x_5.Key y_26.Key)) (af ?_))))))
        obtain rfl:=ae h_24
        exact cu
       ·refine aD rfl hc_25 wz (ah (ah (ah (ah (ah (ah (ah (ah (ah (aa (vB false) (aa (vB false) (af ?_))))))))))))
        obtain rfl:=ae h_24
        exact cu
      ·rintro ⟨⟩ _ sl_ H_ hp_ hq_
       refine aQ _ hp_ hq_ ?_
       rcases ak hc_9 with⟨hc_28,hc_9⟩|⟨hc_28,hc_9⟩
       ·refine aB rfl hc_28 (aj (aa (vI 7) (af ?_)))
        obtain rfl:=ae hc_9
        obtain rfl:=ae hL_10
        obtain rfl:=ae hF
        exact ay (aK [(vI 7)] ⟨rfl,trivial⟩)
       ·refine aA rfl hc_28 (au ?_)
        obtain ⟨v_29,h_30,hc_9⟩:=bind_some hc_9
        refine aR [(0,(vL Campaign.enc l_1)),(4,(.ref n_13 0 0)),(9,(vL Campaign.enc l_1)),(10,(vI (l_1.length:Int))),(11,(vI (k_3:Int))),(46,(vB v_29))] [(n_13,some (.cells 8 (Campaign.v x_5)))] ?_ ?_
        ·refine av (aI zX rfl 2 rfl wz (aG 0 0 il ft xX EZ rfl rfl (.d (.agg (Window.enc x_5.Time))) rfl wz ?_))
         obtain ⟨r_31,hr_32,h_30⟩:=bind_some h_30
         refine aC (zg hr_32) rfl hb86 rfl rfl rfl rfl wz (aa (vB (!r_31)) ?_)
         rcases ak h_30 with⟨hc_33,h_30⟩|⟨hc_33,h_30⟩
         ·refine aD rfl hc_33 wz (ah (ah (ah (aa (vB true) (aa (vB true) (ah (ah (ah (aa (vB true) (aa (vB true) (ah (ah (ah (aa (vB true) (aa (vB true) (af ?_))))))))))))))))
          obtain rfl:=ae h_30
          exact cu
         ·refine aD rfl hc_33 wz (aI Jc rfl 5 rfl wa (aG 0 0 il ft sz3 ag3 rfl rfl (vI x_5.Goal) rfl wa ?_))
          obtain ⟨r_34,hr_35,h_30⟩:=bind_some h_30
          refine aC (bn hr_35) rfl qN rfl rfl rfl rfl wa (aa (vB r_34) ?_)
          rcases ak h_30 with⟨hc_36,h_30⟩|⟨hc_36,h_30⟩
          ·refine aD rfl hc_36 wz (ah (ah (ah (aa (vB true) (aa (vB true) (ah (ah (ah (aa (vB true) (aa (vB true) (af ?_)))))))))))
           obtain rfl:=ae h_30
           exact cu
          ·refine aD rfl hc_36 wz (aI pl77_5 rfl 6 rfl wa (aG 0 0 il ft sz3 ag3 rfl rfl (vI x_5.Most) rfl wa ?_))
           obtain ⟨r_37,hr_38,h_30⟩:=bind_some h_30
           refine aC (bn hr_38) rfl qN rfl rfl rfl rfl wa (aa (vB r_37) ?_)
           rcases ak h_30 with⟨hc_39,h_30⟩|⟨hc_39,h_30⟩
           ·refine aD rfl hc_39 wz (ah (ah (ah (aa (vB true) (aa (vB true) (af ?_))))))
            obtain rfl:=ae h_30
            exact cu
           ·refine aD rfl hc_39 wz (aI pl77_6 rfl 7 rfl wa (aG 0 0 il ft sz3 ag3 rfl rfl (vI x_5.Cents) rfl wa ?_))
            obtain ⟨r_40,hr_41,h_30⟩:=bind_some h_30
            refine aC (bn hr_41) rfl qN rfl rfl rfl rfl wa (aa (vB r_40) (aa (vB r_40) (af ?_)))
            obtain rfl:=ae h_30
            exact cu
        ·rintro ⟨⟩ _ sl_ H_ hp_ hq_
         refine aQ _ hp_ hq_ ?_
         rcases ak hc_9 with⟨hc_42,hc_9⟩|⟨hc_42,hc_9⟩
         ·refine aB rfl hc_42 (aj (aa (vI 1) (af ?_)))
          obtain rfl:=ae hc_9
          obtain rfl:=ae hL_10
          obtain rfl:=ae hF
          exact ay (aK [(vI 1)] ⟨rfl,trivial⟩)
         ·refine aA rfl hc_42 (ax (aj (aI pl77_3 rfl 4 rfl wz (aG 0 0 il ft yZ Cs rfl rfl (vL eS x_5.Tags) rfl wz ?_))))
          obtain ⟨r_43,hr_44,hc_9⟩:=bind_some hc_9
          refine aC (vv hr_44) rfl hb87 rfl rfl rfl rfl wz (aa (vI r_43) (af (aj (aa (vI r_43) (aa (vB (r_43 != 0)) (af ?_))))))
          rcases ak hc_9 with⟨hc_45,hc_9⟩|⟨hc_45,hc_9⟩
          ·refine aB rfl hc_45 (aj (aa (vI r_43) (aa (vI r_43) (af ?_))))
           obtain rfl:=ae hc_9
           obtain rfl:=ae hL_10
           obtain rfl:=ae hF
           exact ay (aK [(vI r_43)] ⟨rfl,trivial⟩)
          ·refine aA rfl hc_45 (ax (av (eY (bD hD_6 hn_7) wz rfl (aa (vI ((k_3+1:Nat):Int)) (af ?_)))))
           obtain rfl:=ae hc_9
           exact aY (k_3+1,l_4,()) ⟨hL_10,aV hD_6⟩ (ls_ _) rfl (aL rfl)
  ·rintro s_8 ho_ sl_ H_ hp_ hq_
   subst ho_
   refine aQ _ hp_ hq_ (aj (aa (vI 0) (af ?_)))
   obtain rfl:=ae hF
   exact ay (aK [(vI 0)] ⟨rfl,trivial⟩)
theorem gX {n_1:Int} {r:Bool} (hF:dx n_1=some r) :
  FnM Tryz.prog 58 [(vI n_1)] [] (vB r) []:=by
 refine FnM.of_wH ⟨Tryz.prog,9,[],[]⟩ rfl Tryz.func58 rfl rfl (lb_ rfl) (by kernel_rfl) ?_
 unfold dx at hF
 refine aj (aa (vB false) (af (au ?_)))
 obtain ⟨v_2,h_3,hF⟩:=bind_some hF
 refine aR [(2,(vB v_2))] [] ?_ ?_
 ·refine av (aa (vI n_1) (aa (vB (decide (n_1>=0))) ?_))
  rcases ak h_3 with⟨hc_4,h_3⟩|⟨hc_4,h_3⟩
  ·refine aD rfl hc_4 wz (aJ (vI n_1) wa rfl (aJ (vB (decide (n_1<345686400000))) wa rfl (aa (vB (decide (n_1<345686400000))) (aa (vB (decide (n_1<345686400000))) (af ?_)))))
   obtain rfl:=ae h_3
   exact cu
  ·refine aD rfl hc_4 wz (ah (ah (aa (vB false) (aa (vB false) (af ?_)))))
   obtain rfl:=ae h_3
   exact cu
 ·rintro ⟨⟩ _ sl_ H_ hp_ hq_
  refine aQ _ hp_ hq_ ?_
  obtain rfl:=ae hF
  exact ay (aK [(vB v_2)] ⟨rfl,trivial⟩)
theorem Cv {c_1:Campaign} {atv_2:Int} {r:Int} (hF:qX c_1 atv_2=some r) :
  FnM Tryz.prog 59 [(.d (.agg (Campaign.enc c_1))),(vI atv_2)] [] (vI r) []:=by
 refine FnM.of_wH ⟨Tryz.prog,35,[],[]⟩ rfl Tryz.func59 rfl rfl (lb_ rfl) (by kernel_rfl) ?_
 unfold qX at hF
 refine aj (ik 0 (.inl rfl) (Campaign.v c_1) rfl rfl wz (λn_3=>aa (vI 0) (af (au (aO (aj (aa (vI atv_2) (aI zX rfl 2 rfl wz (aI nJ rfl 2 rfl wz (aG 0 0 il ft sz3 ag3 rfl rfl (vI c_1.Time.From) rfl wz (aa (vB (decide (atv_2<c_1.Time.From))) (aa (vB (decide (atv_2<c_1.Time.From))) (af ?_)))))))))))))
 rcases ak hF with⟨hc_4,hF⟩|⟨hc_4,hF⟩
 ·refine aB rfl hc_4 (aj (aa (vI 0) (af ?_)))
  obtain rfl:=ae hF
  exact ay (aK [(vI 0)] ⟨rfl,trivial⟩)
 ·refine aA rfl hc_4 (aj (aa (vI atv_2) (aI zX rfl 2 rfl wz (aI nE rfl 3 rfl wz (aG 0 0 il ft sz3 ag3 rfl rfl (vI c_1.Time.To) rfl wz (aa (vB (decide (atv_2>=c_1.Time.To))) (aa (vB (decide (atv_2>=c_1.Time.To))) (af ?_))))))))
  rcases ak hF with⟨hc_5,hF⟩|⟨hc_5,hF⟩
  ·refine aB rfl hc_5 (aj (aI Jc rfl 5 rfl wz (aG 0 0 il ft sz3 ag3 rfl rfl (vI c_1.Goal) rfl wz (aa (vI c_1.Goal) (af ?_)))))
   obtain rfl:=ae hF
   exact ay (aK [(vI c_1.Goal)] ⟨rfl,trivial⟩)
  ·refine aA rfl hc_5 (ax (aj (aI Jc rfl 5 rfl wz (aG 0 0 il ft sz3 ag3 rfl rfl (vI c_1.Goal) rfl wz (aa (vI atv_2) (aI zX rfl 2 rfl wz (aI nJ rfl 2 rfl wz (aG 0 0 il ft sz3 ag3 rfl rfl (vI c_1.Time.From) rfl wz (aa (vI (w64 (atv_2-c_1.Time.From))) (aa (vI (w64 (c_1.Goal*(w64 (atv_2-c_1.Time.From))))) (aI zX rfl 2 rfl wz (aI nE rfl 3 rfl wz (aG 0 0 il ft sz3 ag3 rfl rfl (vI c_1.Time.To) rfl wz (aI zX rfl 2 rfl wz (aI nJ rfl 2 rfl wz (aG 0 0 il ft sz3 ag3 rfl rfl (vI c_1.Time.From) rfl wz (aa (vI (w64 (c_1.Time.To-c_1.Time.From))) ?_)))))))))))))))))
   obtain ⟨q_6,hz_7,hF⟩:=bind_some hF
   refine Nt rfl rfl hz_7 wz (aa (vI q_6) (af (aQ (H0:=([(n_3,some (.cells 8 (Campaign.v c_1)))]:Hp)) ([(4,(vI q_6))]:SL_) (by kernel_rfl) (rE (by kernel_rfl)) ?_)))
   obtain rfl:=ae hF
   exact ay (aK [(vI q_6)] ⟨rfl,trivial⟩)
theorem CS {c_1:Campaign} {atv_2:Int} {r:Int×Int} (hF:oD c_1 atv_2=some r) :
  FnM Tryz.prog 30 [(.d (.agg (Campaign.enc c_1))),(vI atv_2)] [] (.tup [(vI r.1),(vI r.2)]) []:=by
 refine FnM.of_wH ⟨Tryz.prog,19,[],[]⟩ rfl Tryz.func30 rfl rfl (lb_ rfl) (by kernel_rfl) ?_
 unfold oD at hF
 refine aj (ik 0 (.inl rfl) (Campaign.v c_1) rfl rfl wz (λn_3=>aa (vI 0) (aa (vI 0) (af (au (aj (aG 0 0 il ft sz77 ag77 rfl rfl (.d (.agg (Campaign.enc c_1))) rfl wz (dW (([c_1]:List Campaign).map Campaign.enc) Ny ez111 rfl rfl rfl rfl rfl wz ?_))))))))
 obtain ⟨r_4,hr_5,hF⟩:=bind_some hF
 refine aC (qP hr_5) rfl hb57 rfl rfl rfl rfl wz (aa (vI r_4) (af (aj (aa (vI r_4) (aa (vB (r_4 != 0)) (af ?_))))))
 rcases ak hF with⟨hc_6,hF⟩|⟨hc_6,hF⟩
 ·refine aB rfl hc_6 (aj (aa (vI r_4) (aa (vI 0) (aa (vI r_4) (af ?_)))))
  obtain rfl:=ae hF
  exact ay (aK [(vI 0),(vI r_4)] ⟨rfl,⟨rfl,trivial⟩⟩)
 ·refine aA rfl hc_6 (ax (au (aj (aa (vI atv_2) ?_))))
  obtain ⟨r_7,hr_8,hF⟩:=bind_some hF
  refine aC (gX hr_8) rfl JC rfl rfl rfl rfl wz (aa (vB (!r_7)) (af ?_))
  rcases ak hF with⟨hc_9,hF⟩|⟨hc_9,hF⟩
  ·refine aB rfl hc_9 (aj (aa (vI 0) (aa (vI 1) (af ?_))))
   obtain rfl:=ae hF
   exact ay (aK [(vI 0),(vI 1)] ⟨rfl,⟨rfl,trivial⟩⟩)
  ·refine aA rfl hc_9 (ax (aj (aG 0 0 il ft sz77 ag77 rfl rfl (.d (.agg (Campaign.enc c_1))) rfl wz (aa (vI atv_2) ?_))))
   obtain ⟨r_10,hr_11,hF⟩:=bind_some hF
   refine aC (Cv hr_11) rfl hb59 rfl rfl rfl rfl wz (aa (vI r_10) (aa (vI 0) (af ?_)))
   obtain rfl:=ae hF
   exact ay (aK [(vI r_10),(vI 0)] ⟨rfl,⟨rfl,trivial⟩⟩)
theorem mK {a_1:ByteArray} {b_2:ByteArray} {r:Int} (hF:gm a_1 b_2=some r) :
  FnM Tryz.prog 163 [(vS a_1),(vS b_2)] [] (vI r) []:=by
 refine FnM.of_wH ⟨Tryz.prog,8,[],[]⟩ rfl Tryz.func163 rfl rfl (lb_ rfl) (by kernel_rfl) ?_
 unfold gm at hF
 refine aj (aa (vI 0) (af (aj (aa (vS a_1) (aa (vS b_2) (h_ext (NK (f:=179) Tryz.func179 rfl rfl (by kernel_rfl) (by kernel_rfl) _ _) rfl nb179 rfl wz (aa (vI (NJ a_1 b_2)) (af ?_))))))))
 obtain rfl:=ae hF
 exact ay (aK [(vI (NJ a_1 b_2))] ⟨rfl,trivial⟩)
theorem qF {a_1:ByteArray} {b_2:ByteArray} {r:Int} (hF:strings_Compare a_1 b_2=some r) :
  FnM Tryz.prog 138 [(vS a_1),(vS b_2)] [] (vI r) []:=by
 refine FnM.of_wH ⟨Tryz.prog,8,[],[]⟩ rfl Tryz.func138 rfl rfl (lb_ rfl) (by kernel_rfl) ?_
 unfold strings_Compare at hF
 refine aj (aa (vI 0) (af (aj (aa (vS a_1) (aa (vS b_2) ?_)))))
 obtain ⟨r_3,hr_4,hF⟩:=bind_some hF
 refine aC (mK hr_4) rfl hb163 rfl rfl rfl rfl wz (aa (vI r_3) (af ?_))
 obtain rfl:=ae hF
 exact ay (aK [(vI r_3)] ⟨rfl,trivial⟩)
theorem qG {x_1:Int} {y_2:Int} {r:Int} (hF:cmp_Compare_int x_1 y_2=some r) :
  FnM Tryz.prog 139 [(vI x_1),(vI y_2)] [] (vI r) []:=by
 refine FnM.of_wH ⟨Tryz.prog,20,[],[]⟩ rfl Tryz.func139 rfl rfl (lb_ rfl) (by kernel_rfl) ?_
 unfold cmp_Compare_int at hF
 refine aj (aa (vI 0) (af (aj (aa (vI x_1) ?_))))
 obtain ⟨r_3,hr_4,hF⟩:=bind_some hF
 refine aC (kX hr_4) rfl KC rfl rfl rfl rfl wz (aa (vB r_3) (af (aj (aa (vI y_2) ?_))))
 obtain ⟨r_5,hr_6,hF⟩:=bind_some hF
 refine aC (kX hr_6) rfl KC rfl rfl rfl rfl wz (aa (vB r_5) (af (au (aj (aa (vB r_3) (af ?_))))))
 rcases ak hF with⟨hc_7,hF⟩|⟨hc_7,hF⟩
 ·refine aB rfl hc_7 (au (aj (aa (vB r_5) (af ?_))))
  rcases ak hF with⟨hc_8,hF⟩|⟨hc_8,hF⟩
  ·refine aB rfl hc_8 (aj (aa (vI 0) (af ?_)))
   obtain rfl:=ae hF
   exact ay (aK [(vI 0)] ⟨rfl,trivial⟩)
  ·refine aA rfl hc_8 (ax (aj (aa (vI (-1)) (af ?_))))
   obtain rfl:=ae hF
   exact ay (aK [(vI (-1))] ⟨rfl,trivial⟩)
 ·refine aA rfl hc_7 (ax (au (aj (aa (vB r_5) (af ?_)))))
  rcases ak hF with⟨hc_9,hF⟩|⟨hc_9,hF⟩
  ·refine aB rfl hc_9 (aj (aa (vI 1) (af ?_)))
   obtain rfl:=ae hF
   exact ay (aK [(vI 1)] ⟨rfl,trivial⟩)
  ·refine aA rfl hc_9 (ax (au (aj (aa (vI x_1) (aa (vI y_2) (aa (vB (decide (x_1<y_2))) (af ?_)))))))
   rcases ak hF with⟨hc_10,hF⟩|⟨hc_10,hF⟩
   ·refine aB rfl hc_10 (aj (aa (vI (-1)) (af ?_)))
    obtain rfl:=ae hF
    exact ay (aK [(vI (-1))] ⟨rfl,trivial⟩)
   ·refine aA rfl hc_10 (ax (au (aj (aa (vI x_1) (aa (vI y_2) (aa (vB (decide (x_1>y_2))) (af ?_)))))))
    rcases ak hF with⟨hc_11,hF⟩|⟨hc_11,hF⟩
    ·refine aB rfl hc_11 (aj (aa (vI 1) (af ?_)))
     obtain rfl:=ae hF
     exact ay (aK [(vI 1)] ⟨rfl,trivial⟩)
    ·refine aA rfl hc_11 (ax (aj (aa (vI 0) (af ?_))))
     obtain rfl:=ae hF
     exact ay (aK [(vI 0)] ⟨rfl,trivial⟩)
theorem xq {vals_1:(List Int)} {r:Int} (hF:tJ vals_1=some r) :
  FnM Tryz.prog 137 [(vL eI vals_1)] [] (vI r) []:=by
 refine FnM.of_wH ⟨Tryz.prog,18,[],[]⟩ rfl Tryz.func137 rfl rfl (lb_ rfl) (by kernel_rfl) ?_
 unfold tJ at hF
 refine aj (aa (vI 0) (af (aj (aa (vI 0) (af (au (aj (aa (vL eI vals_1) (bI pV rfl wz (aa (vI 0) (af ?_)))))))))))
 obtain ⟨o_10,hj_11,hF⟩:=bind_some hF
 obtain ⟨hn_6,hj_11⟩:=aX hj_11
 refine di (λ(s_7:Unit)=>[(3,(vI 0))]) (λ(s_7:Unit)=>[]) (λ(k_2:Nat)=>(λ(s_7:Unit)=>[(3,(vI 0)),(6,(vL eI vals_1)),(7,(vI (vals_1.length:Int))),(8,(vI (k_2:Int)))])) (λk x s=>rA k x s) o_10 vals_1 () hj_11 rfl (aL rfl) ?_ ?_
 ·rintro ⟨k_2,l_3,s_7⟩ ⟨hL_9,hD_5⟩
  dsimp only at hL_9 hD_5
  cases l_3 with
  | nil =>
   obtain rfl:=ae hL_9
   refine aj (aa (vB (decide ((k_2:Int)<(vals_1.length:Int)))) (af ?_))
   refine au (aA rfl (drop_nil hD_5) (bg ?_))
   exact aZ (s_7) rfl rfl (aL rfl)
  | cons x_4 l_3 =>
   obtain ⟨c_,hc_8,hL_9⟩:=bind_some hL_9
   refine aj (aa (vB (decide ((k_2:Int)<(vals_1.length:Int)))) (af ?_))
   refine au (aB rfl (bz hD_5) (ax ?_))
   unfold rA at hc_8
   refine au (aO (aj (cZ iQ rfl rfl (bH hD_5) rfl wz (bC sz3 ag3 rfl (vI x_4) rfl wz (aa (vI x_4) (af (aj (aa (vI x_4) (aa (vI 0) (aa (vB (x_4 != 0)) (af ?_)))))))))))
   rcases ak hc_8 with⟨hc_12,hc_8⟩|⟨hc_12,hc_8⟩
   ·refine aB rfl hc_12 (aj (aa (vI x_4) (aa (vI x_4) (af ?_))))
    obtain rfl:=ae hc_8
    obtain rfl:=ae hL_9
    obtain rfl:=ae hF
    exact ay (aK [(vI x_4)] ⟨rfl,trivial⟩)
   ·refine aA rfl hc_12 (ax (av (eY (bD hD_5 hn_6) wz rfl (aa (vI ((k_2+1:Nat):Int)) (af ?_)))))
    obtain rfl:=ae hc_8
    exact aY (k_2+1,l_3,()) ⟨hL_9,aV hD_5⟩ (ls_ _) rfl (aL rfl)
 ·rintro s_7 ho_ sl_ H_ hp_ hq_
  subst ho_
  refine aQ _ hp_ hq_ (aj (aa (vI 0) (aa (vI 0) (af ?_))))
  obtain rfl:=ae hF
  exact ay (aK [(vI 0)] ⟨rfl,trivial⟩)
theorem uO {a_1:Beat} {b_2:Beat} {r:Int} (hF:jK a_1 b_2=some r) :
  FnM Tryz.prog 112 [(.d (.agg (Beat.enc a_1))),(.d (.agg (Beat.enc b_2)))] [] (vI r) []:=by
 refine FnM.of_wH ⟨Tryz.prog,17,[],[]⟩ rfl Tryz.func112 rfl rfl (lb_ rfl) (by kernel_rfl) ?_
 unfold jK at hF
 refine aj (ik 0 (.inl rfl) (Beat.v a_1) rfl rfl wz (λn_3=>ik 0 (.inl rfl) (Beat.v b_2) rfl rfl wz (λn_4=>aa (vI 0) (af (au (bL (aI zn rfl 0 rfl wz (aG 1 0 (.inr (by kernel_rfl)) (λ_ _ ag=>trivial) sz9 ag9 rfl rfl (vS a_1.Player) rfl wz (aI zn rfl 0 rfl wz (aG 3 1 (.inr (by kernel_rfl)) (λ_ _ ag=>⟨.inl ⟨rfl,rfl⟩,trivial⟩) sz9 ag9 rfl rfl (vS b_2.Player) rfl wz ?_))))))))))
 obtain ⟨r_5,hr_6,hF⟩:=bind_some hF
 refine aC (qF hr_6) rfl hb138 rfl rfl rfl rfl wz (aI Da rfl 1 rfl wz (aG 6 0 (.inr (by kernel_rfl)) (λ_ _ ag=>⟨.inl ⟨rfl,rfl⟩,⟨.inl ⟨rfl,rfl⟩,trivial⟩⟩) sz3 ag3 rfl rfl (vI a_1.At) rfl wz (aI Da rfl 1 rfl wz (aG 8 1 (.inr (by kernel_rfl)) (λ_ _ ag=>⟨.inl ⟨rfl,rfl⟩,⟨.inl ⟨rfl,rfl⟩,⟨.inl ⟨rfl,rfl⟩,trivial⟩⟩⟩) sz3 ag3 rfl rfl (vI b_2.At) rfl wz ?_))))
 obtain ⟨r_7,hr_8,hF⟩:=bind_some hF
 refine aC (qG hr_8) rfl hb139 rfl rfl rfl rfl wz (dW (([r_5,r_7]:List Int).map eI) iQ wX rfl rfl rfl rfl rfl wz ?_)
 obtain ⟨r_9,hr_10,hF⟩:=bind_some hF
 refine aC (xq hr_10) rfl hb137 rfl rfl rfl rfl wz (aa (vI r_9) (af ?_))
 obtain rfl:=ae hF
 exact ay (aK [(vI r_9)] ⟨rfl,trivial⟩)
theorem wW {l_1:(List Beat)} {r:Int} (hF:jq l_1=some r) :
  FnM Tryz.prog 88 [(vL Beat.enc l_1)] [] (vI r) []:=by
 refine FnM.of_wH ⟨Tryz.prog,69,[],[]⟩ rfl Tryz.func88 rfl rfl (lb_ rfl) (by kernel_rfl) ?_
 unfold jq at hF
 refine aj (aa (vI 0) (af (au (aj (aa (vL Beat.enc l_1) (bI un81 rfl wz (aa (vB (decide ((l_1.length:Int)>500))) (af ?_))))))))
 rcases ak hF with⟨hc_2,hF⟩|⟨hc_2,hF⟩
 ·refine aB rfl hc_2 (aj (aa (vI 2) (af ?_)))
  obtain rfl:=ae hF
  exact ay (aK [(vI 2)] ⟨rfl,trivial⟩)
 ·refine aA rfl hc_2 (ax (au (aj (aa (vL Beat.enc l_1) (bI un81 rfl wz (aa (vI 0) (af ?_)))))))
  obtain ⟨o_11,hj_12,hF⟩:=bind_some hF
  obtain ⟨hn_7,hj_12⟩:=aX hj_12
  refine di (λ(s_8:Unit)=>[]) (λ(s_8:Unit)=>[]) (λ(k_3:Nat)=>(λ(s_8:Unit)=>[(0,(vL Beat.enc l_1)),(8,(vL Beat.enc l_1)),(9,(vI (l_1.length:Int))),(10,(vI (k_3:Int)))])) (λk x s=>gZ l_1 k x s) o_11 l_1 () hj_12 rfl (aL rfl) ?_ ?_
  ·rintro ⟨k_3,l_4,s_8⟩ ⟨hL_10,hD_6⟩
   dsimp only at hL_10 hD_6
   cases l_4 with
   | nil =>
    obtain rfl:=ae hL_10
    refine aj (aa (vB (decide ((k_3:Int)<(l_1.length:Int)))) (af ?_))
    refine au (aA rfl (drop_nil hD_6) (bg ?_))
    exact aZ (s_8) rfl rfl (aL rfl)
   | cons x_5 l_4 =>
    obtain ⟨c_,hc_9,hL_10⟩:=bind_some hL_10
    refine aj (aa (vB (decide ((k_3:Int)<(l_1.length:Int)))) (af ?_))
    refine au (aB rfl (bz hD_6) (ax ?_))
    unfold gZ at hc_9
    refine au (aO (aj (aa (vI (k_3:Int)) (cZ Li rfl rfl (bH hD_6) rfl wz (bC K3 ag80 rfl (.d (.agg (Beat.enc x_5))) rfl wz (dE 0 (.inl rfl) z80 rfl wz (λn_13=>aa (vI (k_3:Int)) (fo 0 il ft 0 K3 rfl rfl (Beat.v x_5) rfl wz (af (aO (aj (aI zn rfl 0 rfl wz (aG 0 0 il ft sz9 ag9 rfl rfl (vS x_5.Player) rfl wz ?_)))))))))))))
    obtain ⟨r_14,hr_15,hc_9⟩:=bind_some hc_9
    refine aC (fJ hr_15) rfl CW rfl rfl rfl rfl wz (aa (vB (!r_14)) (aa (vB (!r_14)) (af ?_)))
    rcases ak hc_9 with⟨hc_16,hc_9⟩|⟨hc_16,hc_9⟩
    ·refine aB rfl hc_16 (aj (aa (vI 5) (af ?_)))
     obtain rfl:=ae hc_9
     obtain rfl:=ae hL_10
     obtain rfl:=ae hF
     exact ay (aK [(vI 5)] ⟨rfl,trivial⟩)
    ·refine aA rfl hc_16 (au ?_)
     obtain ⟨v_17,h_18,hc_9⟩:=bind_some hc_9
     refine aR [(0,(vL Beat.enc l_1)),(3,(vI (k_3:Int))),(4,(.ref n_13 0 0)),(8,(vL Beat.enc l_1)),(9,(vI (l_1.length:Int))),(10,(vI (k_3:Int))),(20,(vB v_17))] [(n_13,some (.cells 3 (Beat.v x_5)))] ?_ ?_
     ·refine av (aI Da rfl 1 rfl wz (aG 0 0 il ft sz3 ag3 rfl rfl (vI x_5.At) rfl wz ?_))
      obtain ⟨r_19,hr_20,h_18⟩:=bind_some h_18
      refine aC (gX hr_20) rfl JC rfl rfl rfl rfl wz (aa (vB (!r_19)) ?_)
      rcases ak h_18 with⟨hc_21,h_18⟩|⟨hc_21,h_18⟩
      ·refine aD rfl hc_21 wz (ah (ah (ah (aa (vB true) (aa (vB true) (af ?_))))))
       obtain rfl:=ae h_18
       exact cu
      ·refine aD rfl hc_21 wz (aI Ch rfl 2 rfl wa (aG 0 0 il ft sz3 ag3 rfl rfl (vI x_5.Clock) rfl wa ?_))
       obtain ⟨r_22,hr_23,h_18⟩:=bind_some h_18
       refine aC (bn hr_23) rfl qN rfl rfl rfl rfl wa (aa (vB r_22) (aa (vB r_22) (af ?_)))
       obtain rfl:=ae h_18
       exact cu
     ·rintro ⟨⟩ _ sl_ H_ hp_ hq_
      refine aQ _ hp_ hq_ ?_
      rcases ak hc_9 with⟨hc_24,hc_9⟩|⟨hc_24,hc_9⟩
      ·refine aB rfl hc_24 (aj (aa (vI 1) (af ?_)))
       obtain rfl:=ae hc_9
       obtain rfl:=ae hL_10
       obtain rfl:=ae hF
       exact ay (aK [(vI 1)] ⟨rfl,trivial⟩)
      ·refine aA rfl hc_24 (au ?_)
       obtain ⟨v_25,h_26,hc_9⟩:=bind_some hc_9
       refine aR [(0,(vL Beat.enc l_1)),(3,(vI (k_3:Int))),(4,(.ref n_13 0 0)),(8,(vL Beat.enc l_1)),(9,(vI (l_1.length:Int))),(10,(vI (k_3:Int))),(30,(vB v_25))] [(n_13,some (.cells 3 (Beat.v x_5)))] ?_ ?_
       ·refine bL (aa (vI (k_3:Int)) (aa (vB (decide ((k_3:Int)>0))) ?_))
        rcases ak h_26 with⟨hc_27,h_26⟩|⟨hc_27,h_26⟩
        ·refine aD rfl hc_27 wz (aJ (vL Beat.enc l_1) wa rfl (aJ (vI (k_3:Int)) wa rfl (aJ (vI (w64 ((k_3:Int)-1))) wa rfl ?_)))
         obtain ⟨y_28,hy_29,h_26⟩:=bind_some h_26
         refine cZ Li rfl rfl hy_29 rfl wa (bC K3 ag80 rfl (.d (.agg (Beat.enc y_28))) rfl wa (aG 8 0 (.inr (by kernel_rfl)) (λ_ _ ag=>trivial) K3 ag80 rfl rfl (.d (.agg (Beat.enc x_5))) rfl wa ?_))
         obtain ⟨r_30,hr_31,h_26⟩:=bind_some h_26
         refine aC (uO hr_31) rfl hb112 rfl rfl rfl rfl wa (aJ (vB (decide (r_30>=0))) wa rfl (aa (vB (decide (r_30>=0))) (aa (vB (decide (r_30>=0))) (af ?_))))
         obtain rfl:=ae h_26
         exact cu
        ·refine aD rfl hc_27 wz (ah (ah (ah (ah (ah (ah (ah (ah (aa (vB false) (aa (vB false) (af ?_)))))))))))
         obtain rfl:=ae h_26
         exact cu
       ·rintro ⟨⟩ _ sl_ H_ hp_ hq_
        refine aQ _ hp_ hq_ ?_
        rcases ak hc_9 with⟨hc_32,hc_9⟩|⟨hc_32,hc_9⟩
        ·refine aB rfl hc_32 (aj (aa (vI 7) (af ?_)))
         obtain rfl:=ae hc_9
         obtain rfl:=ae hL_10
         obtain rfl:=ae hF
         exact ay (aK [(vI 7)] ⟨rfl,trivial⟩)
        ·refine aA rfl hc_32 (au ?_)
         obtain ⟨v_33,h_34,hc_9⟩:=bind_some hc_9
         refine aR [(0,(vL Beat.enc l_1)),(8,(vL Beat.enc l_1)),(9,(vI (l_1.length:Int))),(10,(vI (k_3:Int))),(43,(vB v_33))] [(n_13,some (.cells 3 (Beat.v x_5)))] ?_ ?_
         ·refine bL (aa (vI (k_3:Int)) (aa (vB (decide ((k_3:Int)>0))) ?_))
          rcases ak h_34 with⟨hc_35,h_34⟩|⟨hc_35,h_34⟩
          ·refine aD rfl hc_35 wz (aI zn rfl 0 rfl wa (aG 4 0 (.inr (by kernel_rfl)) (λ_ _ ag=>trivial) sz9 ag9 rfl rfl (vS x_5.Player) rfl wa (aJ (vL Beat.enc l_1) wa rfl (aJ (vI (k_3:Int)) wa rfl (aJ (vI (w64 ((k_3:Int)-1))) wa rfl ?_)))))
           obtain ⟨y_36,hy_37,h_34⟩:=bind_some h_34
           refine cZ Li rfl rfl hy_37 rfl wa (qi zn rfl [.str y_36.Player,.int .i64 y_36.At,.int .i64 y_36.Clock] rfl rfl wa (bC sz9 ag9 rfl (vS y_36.Player) rfl wa (aJ (vB (sEq x_5.Player y_36.Player)) wa rfl (aa (vB (sEq x_5.Player y_36.Player)) ?_))))
           rcases ak h_34 with⟨hc_38,h_34⟩|⟨hc_38,h_34⟩
           ·refine aD rfl hc_38 wz (aI Ch rfl 2 rfl wa (aG 15 0 (.inr (by kernel_rfl)) (λ_ _ ag=>⟨.inl ⟨rfl,rfl⟩,trivial⟩) sz3 ag3 rfl rfl (vI x_5.Clock) rfl wa (aJ (vL Beat.enc l_1) wa rfl (aJ (vI (k_3:Int)) wa rfl (aJ (vI (w64 ((k_3:Int)-1))) wa rfl ?_)))))
            obtain ⟨y_39,hy_40,h_34⟩:=bind_some h_34
            refine cZ Li rfl rfl hy_40 rfl wa (qi Ch rfl [.int .i64 y_39.Clock] rfl rfl wa (bC sz3 ag3 rfl (vI y_39.Clock) rfl wa (aJ (vB (decide (x_5.Clock<=y_39.Clock))) wa rfl (aa (vB (decide (x_5.Clock<=y_39.Clock))) (aa (vB (decide (x_5.Clock<=y_39.Clock))) (af ?_))))))
            obtain rfl:=ae h_34
            exact cu
           ·refine aD rfl hc_38 wz (ah (ah (ah (ah (ah (ah (ah (ah (ah (aa (vB false) (aa (vB false) (af ?_))))))))))))
            obtain rfl:=ae h_34
            exact cu
          ·refine aD rfl hc_35 wz (ah (ah (ah (ah (ah (ah (ah (ah (ah (aa (vB false) (aa (vB false) (ah (ah (ah (ah (ah (ah (ah (ah (ah (aa (vB false) (aa (vB false) (af ?_)))))))))))))))))))))))
           obtain rfl:=ae h_34
           exact cu
         ·rintro ⟨⟩ _ sl_ H_ hp_ hq_
          refine aQ _ hp_ hq_ ?_
          rcases ak hc_9 with⟨hc_41,hc_9⟩|⟨hc_41,hc_9⟩
          ·refine aB rfl hc_41 (aj (aa (vI 16) (af ?_)))
           obtain rfl:=ae hc_9
           obtain rfl:=ae hL_10
           obtain rfl:=ae hF
           exact ay (aK [(vI 16)] ⟨rfl,trivial⟩)
          ·refine aA rfl hc_41 (ax (av (eY (bD hD_6 hn_7) wz rfl (aa (vI ((k_3+1:Nat):Int)) (af ?_)))))
           obtain rfl:=ae hc_9
           exact aY (k_3+1,l_4,()) ⟨hL_10,aV hD_6⟩ (ls_ _) rfl (aL rfl)
  ·rintro s_8 ho_ sl_ H_ hp_ hq_
   subst ho_
   refine aQ _ hp_ hq_ (aj (aa (vI 0) (af ?_)))
   obtain rfl:=ae hF
   exact ay (aK [(vI 0)] ⟨rfl,trivial⟩)
theorem zQ {l_1:(List Beat)} {player_2:ByteArray} {back_3:Bool} {r:(List Beat_)} (hF:oo l_1 player_2 back_3=some r) :
  FnM Tryz.prog 90 [(vL Beat.enc l_1),(vS player_2),(vB back_3)] [] (vL Beat_.enc r) []:=by
 refine FnM.of_wH ⟨Tryz.prog,41,[],[]⟩ rfl Tryz.func90 rfl rfl (lb_ rfl) (by kernel_rfl) ?_
 unfold oo at hF
 refine aj (aa .nil (af (aj (aa .nil (af (au (aj (aa (vL Beat.enc l_1) (bI un81 rfl wz (aa (vI 0) (af (lJ (λn_10 => ?_)))))))))))))
 obtain ⟨o_15,hj_16,hF⟩:=bind_some hF
 obtain ⟨hn_8,hj_16⟩:=aX hj_16
 refine fV (σ:=(List Beat_)) (N:=Nm) (λp=>(λ(s_9:List Beat_) (n_12:Nm)=>([(7,(gV n_12 2 s_9))]:SL_)) p.1 p.2) (λp=>(λ(s_9:List Beat_) (n_12:Nm)=>([(n_12,gB 2 Beat_.enc s_9)]:Hp)) p.1 p.2) (λ(k_4:Nat)=>(λp=>(λ(s_9:List Beat_) (n_12:Nm)=>([(1,(vS player_2)),(2,(vB back_3)),(7,(gV n_12 2 s_9)),(10,(vL Beat.enc l_1)),(11,(vI (l_1.length:Int))),(12,(vI (k_4:Int)))]:SL_)) p.1 p.2)) (λk x s=>nN player_2 back_3 k x s) o_15 l_1 (([]:List Beat_),n_10) hj_16 rfl (aL rfl) ?_ ?_
 ·rintro ⟨k_4,l_5,s_9,n_12⟩ ⟨hL_14,hD_7⟩
  dsimp only at hL_14 hD_7
  cases l_5 with
  | nil =>
   obtain rfl:=ae hL_14
   refine aj (aa (vB (decide ((k_4:Int)<(l_1.length:Int)))) (af ?_))
   refine au (aA rfl (drop_nil hD_7) (bg ?_))
   exact aZ (s_9,n_12) rfl rfl (aL rfl)
  | cons x_6 l_5 =>
   obtain ⟨c_,hc_13,hL_14⟩:=bind_some hL_14
   refine aj (aa (vB (decide ((k_4:Int)<(l_1.length:Int)))) (af ?_))
   refine au (aB rfl (bz hD_7) (ax ?_))
   unfold nN at hc_13
   refine au (aO (aj (cZ Li rfl rfl (bH hD_7) rfl wz (bC K3 ag80 rfl (.d (.agg (Beat.enc x_6))) rfl wz (dE 0 (.inl rfl) z80 rfl wz (λn_17=>fo 0 il ft 1 K3 rfl rfl (Beat.v x_6) rfl wz (af (aO (aj (aI zn rfl 0 rfl wz (aG 0 1 il ft sz9 ag9 rfl rfl (vS x_6.Player) rfl wz (aa (vS player_2) (aa (vB (sNe x_6.Player player_2)) (aa (vB (sNe x_6.Player player_2)) (af ?_)))))))))))))))
   obtain ⟨v_18,h_19,hc_13⟩:=bind_some hc_13
   refine kZ (β:=Nm) (λ(n_20:Nm)=>([(1,(vS player_2)),(2,(vB back_3)),(7,(gV n_20 2 v_18)),(10,(vL Beat.enc l_1)),(11,(vI (l_1.length:Int))),(12,(vI (k_4:Int)))]:SL_)) (λ(n_20:Nm)=>([(n_20,gB 2 Beat_.enc v_18),(n_17,some (.cells 3 (Beat.v x_6)))]:Hp)) (λ_=>True) ?_ ?_
   ·rcases ak h_19 with⟨hc_21,h_19⟩|⟨hc_21,h_19⟩
    ·refine aB rfl hc_21 (ax ?_)
     obtain rfl:=ae h_19
     exact aZ n_12 trivial rfl (aL rfl)
    ·refine aA rfl hc_21 (aj (aa (vB back_3) (aa (vB back_3) (af ?_))))
     rcases ak h_19 with⟨hc_22,h_19⟩|⟨hc_22,h_19⟩
     ·refine aB rfl hc_22 (av (aa (gV n_12 2 s_9) (aI Da rfl 1 rfl wz (aG 0 1 il ft sz3 ag3 rfl rfl (vI x_6.At) rfl wz (aI Ch rfl 2 rfl wz (aG 0 1 il ft sz3 ag3 rfl rfl (vI x_6.Clock) rfl wz (aJ (.d (.agg (Beat_.enc (⟨x_6.At,x_6.Clock⟩:Beat_)))) wz (by kernel_rfl) (dW (([(⟨x_6.At,x_6.Clock⟩:Beat_)]:List Beat_).map Beat_.enc) yw ez145 rfl rfl rfl rfl rfl wz ?_))))))))
      obtain ⟨a_23,hz_24,h_19⟩:=bind_some h_19
      refine jV 0 il ft (i:=0) KA KA Ep z170 rfl (by decide) by170 (by decide) (λ_=>rfl) rfl rfl rfl hz_24 wz (λn_25=>aa (gV n_25 2 a_23) (af ?_))
      obtain rfl:=ae h_19
      exact aZ n_25 trivial rfl (aL rfl)
     ·refine aA rfl hc_22 (av (aa (gV n_12 2 s_9) (aI Ch rfl 2 rfl wz (aG 0 1 il ft sz3 ag3 rfl rfl (vI x_6.Clock) rfl wz (aI Da rfl 1 rfl wz (aG 0 1 il ft sz3 ag3 rfl rfl (vI x_6.At) rfl wz (aJ (.d (.agg (Beat_.enc (⟨x_6.Clock,x_6.At⟩:Beat_)))) wz (by kernel_rfl) (dW (([(⟨x_6.Clock,x_6.At⟩:Beat_)]:List Beat_).map Beat_.enc) yw ez145 rfl rfl rfl rfl rfl wz ?_))))))))
      obtain ⟨a_26,hz_27,h_19⟩:=bind_some h_19
      refine jV 0 il ft (i:=0) KA KA Ep z170 rfl (by decide) by170 (by decide) (λ_=>rfl) rfl rfl rfl hz_27 wz (λn_28=>aa (gV n_28 2 a_26) (af ?_))
      obtain rfl:=ae h_19
      exact aZ n_28 trivial rfl (aL rfl)
   ·rintro n_20 _ sl_ H_ hp_ hq_
    refine aQ _ hp_ hq_ (av (eY (bD hD_7 hn_8) wz rfl (aa (vI ((k_4+1:Nat):Int)) (af ?_))))
    obtain rfl:=ae hc_13
    exact aY (k_4+1,l_5,v_18,n_20) ⟨hL_14,aV hD_7⟩ (ls_ _) rfl (aL rfl)
 ·rintro ⟨s_9,n_12⟩ ho_ sl_ H_ hp_ hq_
  subst ho_
  refine aQ _ hp_ hq_ (aj (aa (gV n_12 2 s_9) (aa (gV n_12 2 s_9) (af (gH 0 rfl (fO 6 0 rfl rfl (fO 7 0 rfl rfl (fO 40 0 rfl rfl ?_))))))))
  obtain rfl:=ae hF
  exact ay (aK [(vL Beat_.enc s_9)] ⟨rfl,trivial⟩)
theorem AY {l_1:(List Beat_)} {n_2:Int} {r:Int×Int} (hF:nk l_1 n_2=some r) :
  FnM Tryz.prog 89 [(vL Beat_.enc l_1),(vI n_2)] [] (.tup [(vI r.1),(vI r.2)]) []:=by
 refine FnM.of_wH ⟨Tryz.prog,108,[],[]⟩ rfl Tryz.func89 rfl rfl (lb_ rfl) (by kernel_rfl) ?_
 unfold nk at hF
 refine aj (aa (vI 0) (aa (vI 0) (af (au (aj (aa (vL Beat_.enc l_1) (bI Md rfl wz (aa (vB ((l_1.length:Int)==0)) (af ?_)))))))))
 rcases ak hF with⟨hc_3,hF⟩|⟨hc_3,hF⟩
 ·refine aB rfl hc_3 (aj (aa (vI 0) (aa (vI 8) (af ?_))))
  obtain rfl:=ae hF
  exact ay (aK [(vI 0),(vI 8)] ⟨rfl,⟨rfl,trivial⟩⟩)
 ·refine aA rfl hc_3 (ax (aj (aa (vI 0) (af (au ?_)))))
  obtain ⟨o_12,hj_13,hF⟩:=bind_some hF
  obtain ⟨nq_51,hj_13⟩:=gu hj_13
  refine jB (λ(s_9:Int)=>[(0,(vL Beat_.enc l_1)),(1,(vI n_2)),(6,(vI s_9))]) (λ(s_9:Int)=>[]) (λ(k_4:Nat)=>(λ(s_9:Int)=>[(0,(vL Beat_.enc l_1)),(1,(vI n_2)),(6,(vI s_9))])) (λs=>lU l_1 n_2 s) o_12 nq_51 0 hj_13 rfl (aL rfl) ?_ ?_
  ·rintro ⟨k_4,s_9⟩ hL_11
   dsimp only at hL_11
   cases k_4 with
   | zero=>cases hL_11
   | succ k_4 =>
    obtain ⟨c_,hc_10,hL_11⟩:=bind_some hL_11
    unfold lU at hc_10
    refine au (au ?_)
    obtain ⟨v_14,h_15,hc_10⟩:=bind_some hc_10
    refine aR [(0,(vL Beat_.enc l_1)),(1,(vI n_2)),(6,(vI s_9)),(25,(vB v_14))] [] ?_ ?_
    ·refine av (aa (vI s_9) (aa (vL Beat_.enc l_1) (bI Md rfl wz (aa (vB (decide (s_9<(l_1.length:Int)))) ?_))))
     rcases ak h_15 with⟨hc_16,h_15⟩|⟨hc_16,h_15⟩
     ·refine aD rfl hc_16 wz (aJ (vL Beat_.enc l_1) wa rfl (aJ (vI s_9) wa rfl ?_))
      obtain ⟨y_17,hy_18,h_15⟩:=bind_some h_15
      refine cZ yw rfl rfl hy_18 rfl wa (qi qV rfl [.int .i64 y_17.f_from,.int .i64 y_17.f_to] rfl rfl wa (bC sz3 ag3 rfl (vI y_17.f_from) rfl wa (aJ (vI n_2) wa rfl (aJ (vB (decide (y_17.f_from<=n_2))) wa rfl (aa (vB (decide (y_17.f_from<=n_2))) (af ?_))))))
      obtain rfl:=ae h_15
      exact cu
     ·refine aD rfl hc_16 wz (ah (ah (ah (ah (ah (ah (ah (aa (vB false) (af ?_)))))))))
      obtain rfl:=ae h_15
      exact cu
    ·rintro ⟨⟩ _ sl_ H_ hp_ hq_
     refine aQ _ hp_ hq_ ?_
     rcases ak hc_10 with⟨hc_19,hc_10⟩|⟨hc_19,hc_10⟩
     ·refine aB rfl hc_19 (ax (aO (av (aa (vI s_9) (aa (vI (w64 (s_9+1))) (aa (vI (w64 (s_9+1))) (af ?_)))))))
      obtain rfl:=ae hc_10
      exact aY (k_4,(w64 (s_9+1))) hL_11 (ls_ _) rfl (aL rfl)
     ·refine aA rfl hc_19 (bg ?_)
      obtain rfl:=ae hc_10
      obtain rfl:=ae hL_11
      exact aZ (s_9) rfl rfl (aL rfl)
  ·rintro s_9 ho_ sl_ H_ hp_ hq_
   subst ho_
   refine aQ _ hp_ hq_ (aj (aa (vI 0) (af (au (aO (aj (aa (vI s_9) (aa (vB (s_9==0)) (aa (vB (s_9==0)) (af ?_))))))))))
   rcases ak hF with⟨hc_20,hF⟩|⟨hc_20,hF⟩
   ·refine aB rfl hc_20 (bL (aa (vL Beat_.enc l_1) ?_))
    obtain ⟨y_21,hy_22,hF⟩:=bind_some hF
    refine cZ yw rfl rfl hy_22 rfl wz (qi uE rfl [.int .i64 y_21.f_to] rfl rfl wz (bC sz3 ag3 rfl (vI y_21.f_to) rfl wz (aa (vL Beat_.enc l_1) ?_)))
    obtain ⟨y_23,hy_24,hF⟩:=bind_some hF
    refine cZ yw rfl rfl hy_24 rfl wz (qi qV rfl [.int .i64 y_23.f_from,.int .i64 y_23.f_to] rfl rfl wz (bC sz3 ag3 rfl (vI y_23.f_from) rfl wz (aa (vI n_2) (aa (vI (w64 (y_23.f_from-n_2))) (aa (vI (w64 (y_21.f_to-(w64 (y_23.f_from-n_2))))) (aa (vI (w64 (y_21.f_to-(w64 (y_23.f_from-n_2))))) (af (au (aj (aa (vI (w64 (y_21.f_to-(w64 (y_23.f_from-n_2))))) ?_))))))))))
    obtain ⟨r_25,hr_26,hF⟩:=bind_some hF
    refine aC (gX hr_26) rfl JC rfl rfl rfl rfl wz (aa (vB (!r_25)) (af ?_))
    rcases ak hF with⟨hc_27,hF⟩|⟨hc_27,hF⟩
    ·refine aB rfl hc_27 (aj (aa (vI 0) (aa (vI 11) (af ?_))))
     obtain rfl:=ae hF
     exact ay (aK [(vI 0),(vI 11)] ⟨rfl,⟨rfl,trivial⟩⟩)
    ·refine aA rfl hc_27 (ax (aj (aa (vI (w64 (y_21.f_to-(w64 (y_23.f_from-n_2))))) (aa (vI (w64 (y_21.f_to-(w64 (y_23.f_from-n_2))))) (aa (vI 0) (af ?_))))))
     obtain rfl:=ae hF
     exact ay (aK [(vI (w64 (y_21.f_to-(w64 (y_23.f_from-n_2))))),(vI 0)] ⟨rfl,⟨rfl,trivial⟩⟩)
   ·refine aA rfl hc_20 (aj (aa (vI s_9) (aa (vL Beat_.enc l_1) (bI Md rfl wz (aa (vB (s_9==(l_1.length:Int))) (aa (vB (s_9==(l_1.length:Int))) (af ?_)))))))
    rcases ak hF with⟨hc_28,hF⟩|⟨hc_28,hF⟩
    ·refine aB rfl hc_28 (bL (aa (vL Beat_.enc l_1) (aa (vI s_9) (aa (vI (w64 (s_9-1))) ?_))))
     obtain ⟨y_29,hy_30,hF⟩:=bind_some hF
     refine cZ yw rfl rfl hy_30 rfl wz (qi uE rfl [.int .i64 y_29.f_to] rfl rfl wz (bC sz3 ag3 rfl (vI y_29.f_to) rfl wz (aa (vI n_2) (aa (vI (w64 (y_29.f_to+n_2))) (aa (vL Beat_.enc l_1) (aa (vI s_9) (aa (vI (w64 (s_9-1))) ?_)))))))
     obtain ⟨y_31,hy_32,hF⟩:=bind_some hF
     refine cZ yw rfl rfl hy_32 rfl wz (qi qV rfl [.int .i64 y_31.f_from,.int .i64 y_31.f_to] rfl rfl wz (bC sz3 ag3 rfl (vI y_31.f_from) rfl wz (aa (vI (w64 ((w64 (y_29.f_to+n_2))-y_31.f_from))) (aa (vI (w64 ((w64 (y_29.f_to+n_2))-y_31.f_from))) (af (au (aj (aa (vI (w64 ((w64 (y_29.f_to+n_2))-y_31.f_from))) ?_))))))))
     obtain ⟨r_33,hr_34,hF⟩:=bind_some hF
     refine aC (gX hr_34) rfl JC rfl rfl rfl rfl wz (aa (vB (!r_33)) (af ?_))
     rcases ak hF with⟨hc_35,hF⟩|⟨hc_35,hF⟩
     ·refine aB rfl hc_35 (aj (aa (vI 0) (aa (vI 11) (af (aQ (H0:=([]:Hp)) ([(4,(vI 0)),(5,(vI 11))]:SL_) (by kernel_rfl) (rE (by kernel_rfl)) ?_)))))
      obtain rfl:=ae hF
      exact ay (aK [(vI 0),(vI 11)] ⟨rfl,⟨rfl,trivial⟩⟩)
     ·refine aA rfl hc_35 (ax (aj (aa (vI (w64 ((w64 (y_29.f_to+n_2))-y_31.f_from))) (aa (vI (w64 ((w64 (y_29.f_to+n_2))-y_31.f_from))) (aa (vI 0) (af (aQ (H0:=([]:Hp)) ([(4,(vI (w64 ((w64 (y_29.f_to+n_2))-y_31.f_from)))),(5,(vI 0))]:SL_) (by kernel_rfl) (rE (by kernel_rfl)) ?_)))))))
      obtain rfl:=ae hF
      exact ay (aK [(vI (w64 ((w64 (y_29.f_to+n_2))-y_31.f_from))),(vI 0)] ⟨rfl,⟨rfl,trivial⟩⟩)
    ·refine aA rfl hc_28 (au (bL (aa (vL Beat_.enc l_1) (aa (vI s_9) (aa (vI (w64 (s_9-1))) ?_)))))
     obtain ⟨y_36,hy_37,hF⟩:=bind_some hF
     refine cZ yw rfl rfl hy_37 rfl wz (bC Ep ag170 rfl (.d (.agg (Beat_.enc y_36))) rfl wz (aa (vL Beat_.enc l_1) (aa (vI s_9) ?_)))
     obtain ⟨y_38,hy_39,hF⟩:=bind_some hF
     refine cZ yw rfl rfl hy_39 rfl wz (bC Ep ag170 rfl (.d (.agg (Beat_.enc y_38))) rfl wz (dE 9 (.inr (by kernel_rfl)) z170 rfl wz (λn_40=>dE 10 (.inr (by kernel_rfl)) z170 rfl wz (λn_41=>fo 11 (.inr (by kernel_rfl)) (λ_ _ ag=>⟨.inr (.inr (by kernel_rfl)),⟨.inr (.inr (by kernel_rfl)),trivial⟩⟩) 0 Ep rfl rfl [(vI y_36.f_from),(vI y_36.f_to)] rfl wz (fo 12 (.inr (by kernel_rfl)) (λ_ _ ag=>⟨.inr (.inr (by kernel_rfl)),⟨.inr (.inr (by kernel_rfl)),⟨.inr (.inr (by kernel_rfl)),trivial⟩⟩⟩) 1 Ep rfl rfl [(vI y_38.f_from),(vI y_38.f_to)] rfl wz (af (au (au ?_))))))))
     obtain ⟨v_42,h_43,hF⟩:=bind_some hF
     refine aR [(1,(vI n_2)),(8,(.ref n_40 0 0)),(9,(.ref n_41 0 0)),(50,(vB v_42))] [(n_40,some (.cells 2 [(vI y_36.f_from),(vI y_36.f_to)])),(n_41,some (.cells 2 [(vI y_38.f_from),(vI y_38.f_to)]))] ?_ ?_
     ·refine av (aI qV rfl 0 rfl wz (aG 0 1 il ft sz3 ag3 rfl rfl (vI y_38.f_from) rfl wz (aI qV rfl 0 rfl wz (aG 0 0 il ft sz3 ag3 rfl rfl (vI y_36.f_from) rfl wz (aa (vI (w64 (y_38.f_from-y_36.f_from))) (aa (vB (decide ((w64 (y_38.f_from-y_36.f_from))>2592000000))) ?_))))))
      rcases ak h_43 with⟨hc_44,h_43⟩|⟨hc_44,h_43⟩
      ·refine aD rfl hc_44 wz (ah (ah (ah (ah (ah (ah (aa (vB true) (af ?_))))))))
       obtain rfl:=ae h_43
       exact cu
      ·refine aD rfl hc_44 wz (aI uE rfl 1 rfl wa (aG 0 1 il ft sz3 ag3 rfl rfl (vI y_38.f_to) rfl wa (aI uE rfl 1 rfl wa (aG 0 0 il ft sz3 ag3 rfl rfl (vI y_36.f_to) rfl wa (aJ (vI (w64 (y_38.f_to-y_36.f_to))) wa rfl (aJ (vB (decide ((w64 (y_38.f_to-y_36.f_to))>2592000000))) wa rfl (aa (vB (decide ((w64 (y_38.f_to-y_36.f_to))>2592000000))) (af ?_))))))))
       obtain rfl:=ae h_43
       exact cu
     ·rintro ⟨⟩ _ sl_ H_ hp_ hq_
      refine aQ _ hp_ hq_ ?_
      rcases ak hF with⟨hc_45,hF⟩|⟨hc_45,hF⟩
      ·refine aB rfl hc_45 (aj (aa (vI 0) (aa (vI 2) (af ?_))))
       obtain rfl:=ae hF
       exact ay (aK [(vI 0),(vI 2)] ⟨rfl,⟨rfl,trivial⟩⟩)
      ·refine aA rfl hc_45 (ax (bL (aI uE rfl 1 rfl wz (aG 1 0 (.inr (by kernel_rfl)) (λ_ _ ag=>trivial) sz3 ag3 rfl rfl (vI y_36.f_to) rfl wz (aa (vI n_2) (aI qV rfl 0 rfl wz (aG 4 0 (.inr (by kernel_rfl)) (λ_ _ ag=>⟨.inl ⟨rfl,rfl⟩,trivial⟩) sz3 ag3 rfl rfl (vI y_36.f_from) rfl wz (aa (vI (w64 (n_2-y_36.f_from))) (aI uE rfl 1 rfl wz (aG 7 1 (.inr (by kernel_rfl)) (λ_ _ ag=>⟨.inl ⟨rfl,rfl⟩,⟨.inl ⟨rfl,rfl⟩,trivial⟩⟩) sz3 ag3 rfl rfl (vI y_38.f_to) rfl wz (aI uE rfl 1 rfl wz (aG 9 0 (.inr (by kernel_rfl)) (λ_ _ ag=>⟨.inl ⟨rfl,rfl⟩,⟨.inl ⟨rfl,rfl⟩,⟨.inl ⟨rfl,rfl⟩,trivial⟩⟩⟩) sz3 ag3 rfl rfl (vI y_36.f_to) rfl wz (aa (vI (w64 (y_38.f_to-y_36.f_to))) (aa (vI (w64 ((w64 (n_2-y_36.f_from))*(w64 (y_38.f_to-y_36.f_to))))) (aI qV rfl 0 rfl wz (aG 13 1 (.inr (by kernel_rfl)) (λ_ _ ag=>⟨.inl ⟨rfl,rfl⟩,⟨.inl ⟨rfl,rfl⟩,⟨.inl ⟨rfl,rfl⟩,⟨.inl ⟨rfl,rfl⟩,trivial⟩⟩⟩⟩) sz3 ag3 rfl rfl (vI y_38.f_from) rfl wz (aI qV rfl 0 rfl wz (aG 15 0 (.inr (by kernel_rfl)) (λ_ _ ag=>⟨.inl ⟨rfl,rfl⟩,⟨.inl ⟨rfl,rfl⟩,⟨.inl ⟨rfl,rfl⟩,⟨.inl ⟨rfl,rfl⟩,⟨.inl ⟨rfl,rfl⟩,trivial⟩⟩⟩⟩⟩) sz3 ag3 rfl rfl (vI y_36.f_from) rfl wz (aa (vI (w64 (y_38.f_from-y_36.f_from))) ?_)))))))))))))))))))
       obtain ⟨q_46,hz_47,hF⟩:=bind_some hF
       refine Nt rfl rfl hz_47 wz (aa (vI (w64 (y_36.f_to+q_46))) (aa (vI (w64 (y_36.f_to+q_46))) (af (au (aj (aa (vI (w64 (y_36.f_to+q_46))) ?_))))))
       obtain ⟨r_48,hr_49,hF⟩:=bind_some hF
       refine aC (gX hr_49) rfl JC rfl rfl rfl rfl wz (aa (vB (!r_48)) (af ?_))
       rcases ak hF with⟨hc_50,hF⟩|⟨hc_50,hF⟩
       ·refine aB rfl hc_50 (aj (aa (vI 0) (aa (vI 11) (af ?_))))
        obtain rfl:=ae hF
        exact ay (aK [(vI 0),(vI 11)] ⟨rfl,⟨rfl,trivial⟩⟩)
       ·refine aA rfl hc_50 (ax (aj (aa (vI (w64 (y_36.f_to+q_46))) (aa (vI (w64 (y_36.f_to+q_46))) (aa (vI 0) (af ?_))))))
        obtain rfl:=ae hF
        exact ay (aK [(vI (w64 (y_36.f_to+q_46))),(vI 0)] ⟨rfl,⟨rfl,trivial⟩⟩)
theorem CY {l_1:(List Beat)} {player_2:ByteArray} {n_3:Int} {back_4:Bool} {r:Int×Int} (hF:oQ l_1 player_2 n_3 back_4=some r) :
  FnM Tryz.prog 60 [(vL Beat.enc l_1),(vS player_2),(vI n_3),(vB back_4)] [] (.tup [(vI r.1),(vI r.2)]) []:=by
 refine FnM.of_wH ⟨Tryz.prog,30,[],[]⟩ rfl Tryz.func60 rfl rfl (lb_ rfl) (by kernel_rfl) ?_
 unfold oQ at hF
 refine aj (aa (vI 0) (aa (vI 0) (af (au (aj (aa (vL Beat.enc l_1) ?_))))))
 obtain ⟨r_5,hr_6,hF⟩:=bind_some hF
 refine aC (wW hr_6) rfl hb88 rfl rfl rfl rfl wz (aa (vI r_5) (af (aj (aa (vI r_5) (aa (vB (r_5 != 0)) (af ?_))))))
 rcases ak hF with⟨hc_7,hF⟩|⟨hc_7,hF⟩
 ·refine aB rfl hc_7 (aj (aa (vI r_5) (aa (vI 0) (aa (vI r_5) (af ?_)))))
  obtain rfl:=ae hF
  exact ay (aK [(vI 0),(vI r_5)] ⟨rfl,⟨rfl,trivial⟩⟩)
 ·refine aA rfl hc_7 (ax (au (aj (aa (vS player_2) ?_))))
  obtain ⟨r_8,hr_9,hF⟩:=bind_some hF
  refine aC (fJ hr_9) rfl CW rfl rfl rfl rfl wz (aa (vB (!r_8)) (af ?_))
  rcases ak hF with⟨hc_10,hF⟩|⟨hc_10,hF⟩
  ·refine aB rfl hc_10 (aj (aa (vI 0) (aa (vI 5) (af ?_))))
   obtain rfl:=ae hF
   exact ay (aK [(vI 0),(vI 5)] ⟨rfl,⟨rfl,trivial⟩⟩)
  ·refine aA rfl hc_10 (ax (au (aj (aa (vI n_3) ?_))))
   obtain ⟨r_11,hr_12,hF⟩:=bind_some hF
   refine aC (gX hr_12) rfl JC rfl rfl rfl rfl wz (aa (vB (!r_11)) (af ?_))
   rcases ak hF with⟨hc_13,hF⟩|⟨hc_13,hF⟩
   ·refine aB rfl hc_13 (aj (aa (vI 0) (aa (vI 1) (af ?_))))
    obtain rfl:=ae hF
    exact ay (aK [(vI 0),(vI 1)] ⟨rfl,⟨rfl,trivial⟩⟩)
   ·refine aA rfl hc_13 (ax (aj (aa (vL Beat.enc l_1) (aa (vS player_2) (aa (vB back_4) ?_)))))
    obtain ⟨r_14,hr_15,hF⟩:=bind_some hF
    refine aC (zQ hr_15) rfl hb90 rfl rfl rfl rfl wz (aa (vI n_3) ?_)
    obtain ⟨r_16,hr_17,hF⟩:=bind_some hF
    refine aC (AY hr_17) rfl hb89 rfl rfl rfl rfl wz (aa (vI r_16.1) (aa (vI r_16.2) (aa (vI r_16.1) (aa (vI r_16.2) (af ?_)))))
    obtain rfl:=ae hF
    exact ay (aK [(vI r_16.1),(vI r_16.2)] ⟨rfl,⟨rfl,trivial⟩⟩)
theorem Cc {l_1:(List Beat)} {player_2:ByteArray} {clock_3:Int} {r:Int×Int} (hF:oL l_1 player_2 clock_3=some r) :
  FnM Tryz.prog 31 [(vL Beat.enc l_1),(vS player_2),(vI clock_3)] [] (.tup [(vI r.1),(vI r.2)]) []:=by
 refine FnM.of_wH ⟨Tryz.prog,14,[],[]⟩ rfl Tryz.func31 rfl rfl (lb_ rfl) (by kernel_rfl) ?_
 unfold oL at hF
 refine aj (aa (vI 0) (aa (vI 0) (af (aj (aa (vL Beat.enc l_1) (aa (vS player_2) (aa (vI clock_3) ?_)))))))
 obtain ⟨r_4,hr_5,hF⟩:=bind_some hF
 refine aC (CY hr_5) rfl hb60 rfl rfl rfl rfl wz (aa (vI r_4.1) (aa (vI r_4.2) (aa (vI r_4.1) (aa (vI r_4.2) (af ?_)))))
 obtain rfl:=ae hF
 exact ay (aK [(vI r_4.1),(vI r_4.2)] ⟨rfl,⟨rfl,trivial⟩⟩)
theorem xU {a_1:Alert} {r:Int} (hF:jT a_1=some r) :
  FnM Tryz.prog 140 [(.d (.agg (Alert.enc a_1)))] [] (vI r) []:=by
 refine FnM.of_wH ⟨Tryz.prog,48,[],[]⟩ rfl Tryz.func140 rfl rfl (lb_ rfl) (by kernel_rfl) ?_
 unfold jT at hF
 refine aj (ik 0 (.inl rfl) (Alert.v a_1) rfl rfl wz (λn_2=>aa (vI 0) (af (au (aj (aI Fw rfl 3 rfl wz (aG 0 0 il ft yZ Cs rfl rfl (vL eS a_1.Refs) rfl wz (bI qQ rfl wz (aa (vB (decide ((a_1.Refs.length:Int)>20))) (af ?_))))))))))
 rcases ak hF with⟨hc_3,hF⟩|⟨hc_3,hF⟩
 ·refine aB rfl hc_3 (aj (aa (vI 2) (af ?_)))
  obtain rfl:=ae hF
  exact ay (aK [(vI 2)] ⟨rfl,trivial⟩)
 ·refine aA rfl hc_3 (ax (au (aj (aI Fw rfl 3 rfl wz (aG 0 0 il ft yZ Cs rfl rfl (vL eS a_1.Refs) rfl wz (bI qQ rfl wz (aa (vI 0) (af ?_))))))))
  obtain ⟨o_12,hj_13,hF⟩:=bind_some hF
  obtain ⟨hn_8,hj_13⟩:=aX hj_13
  refine di (λ(s_9:Unit)=>[(1,(.ref n_2 0 0))]) (λ(s_9:Unit)=>[(n_2,some (.cells 9 (Alert.v a_1)))]) (λ(k_4:Nat)=>(λ(s_9:Unit)=>[(1,(.ref n_2 0 0)),(10,(vL eS a_1.Refs)),(11,(vI (a_1.Refs.length:Int))),(12,(vI (k_4:Int)))])) (λk x s=>iJ a_1 k x s) o_12 a_1.Refs () hj_13 rfl (aL rfl) ?_ ?_
  ·rintro ⟨k_4,l_5,s_9⟩ ⟨hL_11,hD_7⟩
   dsimp only at hL_11 hD_7
   cases l_5 with
   | nil =>
    obtain rfl:=ae hL_11
    refine aj (aa (vB (decide ((k_4:Int)<(a_1.Refs.length:Int)))) (af ?_))
    refine au (aA rfl (drop_nil hD_7) (bg ?_))
    exact aZ (s_9) rfl rfl (aL rfl)
   | cons x_6 l_5 =>
    obtain ⟨c_,hc_10,hL_11⟩:=bind_some hL_11
    refine aj (aa (vB (decide ((k_4:Int)<(a_1.Refs.length:Int)))) (af ?_))
    refine au (aB rfl (bz hD_7) (ax ?_))
    unfold iJ at hc_10
    refine au (aO (aj (aa (vI (k_4:Int)) (cZ lH rfl rfl (bH hD_7) rfl wz (bC sz9 ag9 rfl (vS x_6) rfl wz (aa (vI (k_4:Int)) (aa (vS x_6) (af (aO (aj (aa (vS x_6) ?_)))))))))))
    obtain ⟨r_14,hr_15,hc_10⟩:=bind_some hc_10
    refine aC (fJ hr_15) rfl CW rfl rfl rfl rfl wz (aa (vB (!r_14)) (aa (vB (!r_14)) (af ?_)))
    rcases ak hc_10 with⟨hc_16,hc_10⟩|⟨hc_16,hc_10⟩
    ·refine aB rfl hc_16 (aj (aa (vI 5) (af ?_)))
     obtain rfl:=ae hc_10
     obtain rfl:=ae hL_11
     obtain rfl:=ae hF
     exact ay (aK [(vI 5)] ⟨rfl,trivial⟩)
    ·refine aA rfl hc_16 (au ?_)
     obtain ⟨v_17,h_18,hc_10⟩:=bind_some hc_10
     refine aR [(1,(.ref n_2 0 0)),(4,(vS x_6)),(10,(vL eS a_1.Refs)),(11,(vI (a_1.Refs.length:Int))),(12,(vI (k_4:Int))),(21,(vB v_17))] [(n_2,some (.cells 9 (Alert.v a_1)))] ?_ ?_
     ·refine av (aa (vI (k_4:Int)) (aa (vB (decide ((k_4:Int)>0))) ?_))
      rcases ak h_18 with⟨hc_19,h_18⟩|⟨hc_19,h_18⟩
      ·refine aD rfl hc_19 wz (aJ (vS x_6) wa rfl (aI Fw rfl 3 rfl wa (aG 0 0 il ft yZ Cs rfl rfl (vL eS a_1.Refs) rfl wa (aJ (vI (k_4:Int)) wa rfl (aJ (vI (w64 ((k_4:Int)-1))) wa rfl ?_)))))
       obtain ⟨y_20,hy_21,h_18⟩:=bind_some h_18
       refine cZ lH rfl rfl hy_21 rfl wa (bC sz9 ag9 rfl (vS y_20) rfl wa (aJ (vB (sLe x_6 y_20)) wa rfl (aa (vB (sLe x_6 y_20)) (aa (vB (sLe x_6 y_20)) (af ?_)))))
       obtain rfl:=ae h_18
       exact cu
      ·refine aD rfl hc_19 wz (ah (ah (ah (ah (ah (ah (ah (ah (aa (vB false) (aa (vB false) (af ?_)))))))))))
       obtain rfl:=ae h_18
       exact cu
     ·rintro ⟨⟩ _ sl_ H_ hp_ hq_
      refine aQ _ hp_ hq_ ?_
      rcases ak hc_10 with⟨hc_22,hc_10⟩|⟨hc_22,hc_10⟩
      ·refine aB rfl hc_22 (aj (aa (vI 7) (af ?_)))
       obtain rfl:=ae hc_10
       obtain rfl:=ae hL_11
       obtain rfl:=ae hF
       exact ay (aK [(vI 7)] ⟨rfl,trivial⟩)
      ·refine aA rfl hc_22 (aj (aa (vS x_6) (aI zo rfl 0 rfl wz (aG 0 0 il ft sz9 ag9 rfl rfl (vS a_1.Id) rfl wz (aa (vB (sEq x_6 a_1.Id)) (aa (vB (sEq x_6 a_1.Id)) (af ?_)))))))
       rcases ak hc_10 with⟨hc_23,hc_10⟩|⟨hc_23,hc_10⟩
       ·refine aB rfl hc_23 (aj (aa (vI 14) (af ?_)))
        obtain rfl:=ae hc_10
        obtain rfl:=ae hL_11
        obtain rfl:=ae hF
        exact ay (aK [(vI 14)] ⟨rfl,trivial⟩)
       ·refine aA rfl hc_23 (ax (av (eY (bD hD_7 hn_8) wz rfl (aa (vI ((k_4+1:Nat):Int)) (af ?_)))))
        obtain rfl:=ae hc_10
        exact aY (k_4+1,l_5,()) ⟨hL_11,aV hD_7⟩ (ls_ _) rfl (aL rfl)
  ·rintro s_9 ho_ sl_ H_ hp_ hq_
   subst ho_
   refine aQ _ hp_ hq_ (au (aj (aI Jw rfl 2 rfl wz (aG 0 0 il ft sz3 ag3 rfl rfl (vI a_1.Kind) rfl wz (aa (vB (a_1.Kind==1)) (aI Fw rfl 3 rfl wz (aG 0 0 il ft yZ Cs rfl rfl (vL eS a_1.Refs) rfl wz (bI qQ rfl wz (aa (vB ((a_1.Refs.length:Int)==0)) (MZ un4 rfl rfl wz (af ?_)))))))))))
   rcases ak hF with⟨hc_24,hF⟩|⟨hc_24,hF⟩
   ·refine aB rfl hc_24 (aj (aa (vI 3) (af ?_)))
    obtain rfl:=ae hF
    exact ay (aK [(vI 3)] ⟨rfl,trivial⟩)
   ·refine aA rfl hc_24 (ax (aj (aa (vI 0) (af ?_))))
    obtain rfl:=ae hF
    exact ay (aK [(vI 0)] ⟨rfl,trivial⟩)
theorem qa {x0:ByteArray} {r:Bool} (hF:jg x0=some r) :
  FnM Tryz.prog 164 [(vS x0)] [] (vB r) [] :=
 NP rfl Tryz.utf8_ValidString LA hF
theorem AX {x0:ByteArray} {x1:ByteArray} {r:ByteArray} (hF:sW x0 x1=some r) :
  FnM Tryz.prog 165 [(vS x0),(vS x1)] [] (vS r) [] :=
 MX rfl Tryz.strings_Trim_ascii  hF
theorem wQ {x0:ByteArray} {x1:ByteArray} {r:Bool} (hF:strings_Contains x0 x1=some r) :
  FnM Tryz.prog 166 [(vS x0),(vS x1)] [] (vB r) [] :=
 GI Tryz.strings_Contains vo hF
theorem BC {s_1:ByteArray} {r:Bool} (hF:ow s_1=some r) :
  FnM Tryz.prog 141 [(vS s_1)] [] (vB r) []:=by
 refine FnM.of_wH ⟨Tryz.prog,33,[],[]⟩ rfl Tryz.func141 rfl rfl (lb_ rfl) (by kernel_rfl) ?_
 unfold ow at hF
 refine aj (aa (vB false) (af (au (aj (aa (vI 0) (af ?_))))))
 obtain ⟨o_10,hj_11,hF⟩:=bind_some hF
 obtain ⟨nq_31,hj_11⟩:=gu hj_11
 refine jB (λ(s_7:Int)=>[(0,(vS s_1))]) (λ(s_7:Int)=>[]) (λ(k_2:Nat)=>(λ(s_7:Int)=>[(0,(vS s_1)),(3,(vI s_7))])) (λs=>ny s_1 s) o_10 nq_31 0 hj_11 rfl (aL rfl) ?_ ?_
 ·rintro ⟨k_2,s_7⟩ hL_9
  dsimp only at hL_9
  cases k_2 with
  | zero=>cases hL_9
  | succ k_2 =>
   obtain ⟨c_,hc_8,hL_9⟩:=bind_some hL_9
   unfold ny at hc_8
   refine au (aj (aa (vI s_7) (aa (vS s_1) (nH un9 rfl wz (aa (vB (decide (s_7<(s_1.size:Int)))) (af ?_))))))
   rcases ak hc_8 with⟨hc_12,hc_8⟩|⟨hc_12,hc_8⟩
   ·refine aB rfl hc_12 (ax (au (aO (au ?_))))
    obtain ⟨v_13,h_14,hc_8⟩:=bind_some hc_8
    refine aR [(0,(vS s_1)),(3,(vI s_7)),(19,(vB v_13))] [] ?_ ?_
    ·refine av (aa (vS s_1) (aa (vI s_7) ?_))
     obtain ⟨b_15,hy_16,h_14⟩:=bind_some h_14
     refine vw un9 rfl rfl hy_16 wz (aa (vB (decide ((b_15.toNat:Int)<32))) ?_)
     rcases ak h_14 with⟨hc_17,h_14⟩|⟨hc_17,h_14⟩
     ·refine aD rfl hc_17 wz (ah (ah (ah (ah (aa (vB true) (af ?_))))))
      obtain rfl:=ae h_14
      exact cu
     ·refine aD rfl hc_17 wz (aJ (vS s_1) wa rfl (aJ (vI s_7) wa rfl ?_))
      obtain ⟨b_18,hy_19,h_14⟩:=bind_some h_14
      refine vw un9 rfl rfl hy_19 wa (aJ (vB ((b_18.toNat:Int)==127)) wa rfl (aa (vB ((b_18.toNat:Int)==127)) (af ?_)))
      obtain rfl:=ae h_14
      exact cu
    ·rintro ⟨⟩ _ sl_ H_ hp_ hq_
     refine aQ _ hp_ hq_ ?_
     rcases ak hc_8 with⟨hc_20,hc_8⟩|⟨hc_20,hc_8⟩
     ·refine aB rfl hc_20 (aj (aa (vB false) (af ?_)))
      obtain rfl:=ae hc_8
      obtain rfl:=ae hL_9
      obtain rfl:=ae hF
      exact ay (aK [(vB false)] ⟨rfl,trivial⟩)
     ·refine aA rfl hc_20 (ax (av (aa (vI s_7) (aa (vI (w64 (s_7+1))) (aa (vI (w64 (s_7+1))) (af ?_))))))
      obtain rfl:=ae hc_8
      exact aY (k_2,(w64 (s_7+1))) hL_9 (ls_ _) rfl (aL rfl)
   ·refine aA rfl hc_12 (bg ?_)
    obtain rfl:=ae hc_8
    obtain rfl:=ae hL_9
    exact aZ (s_7) rfl rfl (aL rfl)
 ·rintro s_7 ho_ sl_ H_ hp_ hq_
  subst ho_
  refine aQ _ hp_ hq_ (au ?_)
  obtain ⟨v_21,h_22,hF⟩:=bind_some hF
  refine aR [(2,(vB v_21))] [] ?_ ?_
  ·refine av (aa (vS s_1) ?_)
   obtain ⟨r_23,hr_24,h_22⟩:=bind_some h_22
   refine aC (qa hr_24) rfl hb164 rfl rfl rfl rfl wz ?_
   rcases ak h_22 with⟨hc_25,h_22⟩|⟨hc_25,h_22⟩
   ·refine aD rfl hc_25 wz (aJ (vS s_1) wa rfl ?_)
    obtain ⟨r_26,hr_27,h_22⟩:=bind_some h_22
    refine aC (AX hr_27) rfl hb165 rfl rfl rfl rfl wa (aJ (vS s_1) wa rfl (aJ (vB (sEq r_26 s_1)) wa rfl (aa (vB (sEq r_26 s_1)) ?_)))
    rcases ak h_22 with⟨hc_28,h_22⟩|⟨hc_28,h_22⟩
    ·refine aD rfl hc_28 wz (aJ (vS s_1) wa rfl ?_)
     obtain ⟨r_29,hr_30,h_22⟩:=bind_some h_22
     refine aC (wQ hr_30) rfl hb166 rfl rfl rfl rfl wa (aJ (vB (!r_29)) wa rfl (aa (vB (!r_29)) (aa (vB (!r_29)) (af ?_))))
     obtain rfl:=ae h_22
     exact cu
    ·refine aD rfl hc_28 wz (ah (ah (ah (aa (vB false) (aa (vB false) (af ?_))))))
     obtain rfl:=ae h_22
     exact cu
   ·refine aD rfl hc_25 wz (ah (ah (ah (ah (aa (vB false) (aa (vB false) (ah (ah (ah (aa (vB false) (aa (vB false) (af ?_))))))))))))
    obtain rfl:=ae h_22
    exact cu
  ·rintro ⟨⟩ _ sl_ H_ hp_ hq_
   refine aQ _ hp_ hq_ ?_
   obtain rfl:=ae hF
   exact ay (aK [(vB v_21)] ⟨rfl,trivial⟩)
end Go.Proofs.YtigdobmllbakiaaGreatDoor.Law

