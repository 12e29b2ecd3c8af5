/-
 The machine computes these plain functions (written by a program of ours).
-/
import Derived.Test.YtmkljmjhcegapaaGreatDoorFacts
import Derived.Test.YtmkljmjhcegapaaGreatDoorDefs
import Derived.Test.YtmkljmjhcegapaaGreatDoorPf5
open Go Go.Eng Go.Proofs
namespace Go.Proofs.YtmkljmjhcegapaaGreatDoor.Law
set_option maxRecDepth 100000
set_option linter.unusedVariables false
set_option maxHeartbeats 1000000
theorem zY {e_1:Entry} {zone_2:Int} {wv_3:Window} {r:(List Window)} (hF:gQ e_1 zone_2 wv_3=some r) :
  FnM Tryz.prog 70 [(.d (.agg (Entry.enc e_1))),(vI zone_2),(.d (.agg (Window.enc wv_3)))] [] (gV (aG 0) 2 r) (([]:List Box).map some++gO 2 Window.enc r):=by
 refine FnM.of_wH ⟨Tryz.prog,72,[],[]⟩ rfl Tryz.func70 rfl rfl (lb_ rfl) (by kernel_rfl) ?_
 unfold gQ at hF
 refine aj (d9 0 (.inl rfl) (Entry.v e_1) rfl rfl wz (λn_4=>d9 0 (.inl rfl) [(vI wv_3.From),(vI wv_3.To)] rfl rfl wz (λn_5=>aa .nil (af (aj (aa .nil (af (au (au ?_)))))))))
 obtain ⟨v_6,h_7,hF⟩:=bind_some hF
 refine aS [(1,(vI zone_2)),(3,(.ref n_4 0 0)),(5,(.ref n_5 0 0)),(7,.nil),(20,(vB v_6))] [(n_4,some (.cells 13 (Entry.v e_1))),(n_5,some (.cells 2 [(vI wv_3.From),(vI wv_3.To)]))] ?_ ?_
 ·refine av (aJ Nj rfl 12 rfl wz (aB 0 0 il ft sz4 ag4 rfl rfl (vB e_1.Gone) rfl wz ?_))
  rcases ak h_7 with⟨hc_8,h_7⟩|⟨hc_8,h_7⟩
  ·refine aI rfl hc_8 wz (ah (ah (ah (ah (ah (aa (vB true) (af ?_)))))))
   obtain rfl:=ae h_7
   exact cu
  ·refine aI rfl hc_8 wz (aJ iI rfl 0 rfl wa (aB 0 1 il ft sz3 ag3 rfl rfl (vI wv_3.From) rfl wa (aJ iK rfl 1 rfl wa (aB 0 1 il ft sz3 ag3 rfl rfl (vI wv_3.To) rfl wa (aM (vB (decide (wv_3.From>=wv_3.To))) wa rfl (aa (vB (decide (wv_3.From>=wv_3.To))) (af ?_)))))))
   obtain rfl:=ae h_7
   exact cu
 ·rintro ⟨⟩ _ sl_ H_ hp_ hq_
  refine aO _ hp_ hq_ ?_
  rcases ak hF with⟨hc_9,hF⟩|⟨hc_9,hF⟩
  ·refine aA rfl hc_9 (aj (aa .nil (af (jH (λn_10 => ?_)))))
   obtain rfl:=ae hF
   exact aH (Qp (outs:=([]:List Box)) (.inr rfl) 2 rfl rfl rfl (by kernel_rfl) (by kernel_rfl))
  ·refine ay rfl hc_9 (ax (aj (aJ iI rfl 0 rfl wz (aB 0 1 il ft sz3 ag3 rfl rfl (vI wv_3.From) rfl wz (aa (vI zone_2) (aa (vI (w64 (zone_2*60000))) (aa (vI (w64 (wv_3.From+(w64 (zone_2*60000))))) (aa (vI (w64 ((w64 (wv_3.From+(w64 (zone_2*60000)))).tdiv 86400000))) (aa (vI (w64 ((w64 ((w64 (wv_3.From+(w64 (zone_2*60000)))).tdiv 86400000))-2))) (aa (vI (w64 ((w64 ((w64 (wv_3.From+(w64 (zone_2*60000)))).tdiv 86400000))-2))) (af (aj (aJ iK rfl 1 rfl wz (aB 0 1 il ft sz3 ag3 rfl rfl (vI wv_3.To) rfl wz (aa (vI zone_2) (aa (vI (w64 (zone_2*60000))) (aa (vI (w64 (wv_3.To+(w64 (zone_2*60000))))) (aa (vI (w64 ((w64 (wv_3.To+(w64 (zone_2*60000)))).tdiv 86400000))) (aa (vI (w64 ((w64 ((w64 (wv_3.To+(w64 (zone_2*60000)))).tdiv 86400000))+1))) (aa (vI (w64 ((w64 ((w64 (wv_3.To+(w64 (zone_2*60000)))).tdiv 86400000))+1))) (af (au (aj ?_)))))))))))))))))))))))
   refine aa (vI (w64 ((w64 ((w64 (wv_3.From+(w64 (zone_2*60000)))).tdiv 86400000))-2))) (aJ Cw rfl 3 rfl wz (aB 0 0 il ft sz3 ag3 rfl rfl (vI e_1.First) rfl wz (ni (vI (fZ (w64 ((w64 ((w64 (wv_3.From+(w64 (zone_2*60000)))).tdiv 86400000))-2)) e_1.First)) rfl (.inr rfl) wz (aa (vI (fZ (w64 ((w64 ((w64 (wv_3.From+(w64 (zone_2*60000)))).tdiv 86400000))-2)) e_1.First)) (af (jH (λn_17 => ?_)))))))
   obtain ⟨o_22,hj_23,hF⟩:=bind_some hF
   obtain ⟨nq_41,hj_23⟩:=cK hj_23
   refine sV (σ:=(List Window)×Int) (N:=Nm) (λp=>(λ(s_16:(List Window)×Int) (n_19:Nm)=>([(7,(gV n_19 2 s_16.1))]:SL_)) p.1 p.2) (λp=>(λ(s_16:(List Window)×Int) (n_19:Nm)=>([(n_4,some (.cells 13 (Entry.v e_1))),(n_5,some (.cells 2 [(vI wv_3.From),(vI wv_3.To)])),(n_19,gB 2 Window.enc s_16.1)]:Hp)) p.1 p.2) (λ(k_11:Nat)=>(λp=>(λ(s_16:(List Window)×Int) (n_19:Nm)=>([(1,(vI zone_2)),(3,(.ref n_4 0 0)),(5,(.ref n_5 0 0)),(7,(gV n_19 2 s_16.1)),(9,(vI (w64 ((w64 ((w64 (wv_3.To+(w64 (zone_2*60000)))).tdiv 86400000))+1)))),(10,(vI s_16.2))]:SL_)) p.1 p.2)) (λs=>eB wv_3 zone_2 e_1 s) o_22 nq_41 ((([]:List Window),(fZ (w64 ((w64 ((w64 (wv_3.From+(w64 (zone_2*60000)))).tdiv 86400000))-2)) e_1.First)),n_17) hj_23 rfl (aK rfl) ?_ ?_
   ·rintro ⟨k_11,s_16,n_19⟩ hL_21
    dsimp only at hL_21
    cases k_11 with
    | zero=>cases hL_21
    | succ k_11 =>
     obtain ⟨c_,hc_20,hL_21⟩:=bind_some hL_21
     unfold eB at hc_20
     refine au (aj (aa (vI s_16.2) (aa (vI (w64 ((w64 ((w64 (wv_3.To+(w64 (zone_2*60000)))).tdiv 86400000))+1))) (aJ Ce rfl 4 rfl wz (aB 0 0 il ft sz3 ag3 rfl rfl (vI e_1.Last) rfl wz (ni (vI (nP (w64 ((w64 ((w64 (wv_3.To+(w64 (zone_2*60000)))).tdiv 86400000))+1)) e_1.Last)) rfl (.inl rfl) wz (aa (vB (decide (s_16.2<=(nP (w64 ((w64 ((w64 (wv_3.To+(w64 (zone_2*60000)))).tdiv 86400000))+1)) e_1.Last)))) (af ?_))))))))
     rcases ak hc_20 with⟨hc_24,hc_20⟩|⟨hc_24,hc_20⟩
     ·refine aA rfl hc_24 (ax (au (aQ (au (aj (aB 0 0 il ft zh CR rfl rfl (.d (.agg (Entry.enc e_1))) rfl wz (aa (vI s_16.2) ?_)))))))
      obtain ⟨r_25,hr_26,hc_20⟩:=bind_some hc_20
      refine aC (uC hr_26) rfl hb104 rfl rfl rfl rfl wz (aa (vB (!r_25)) (af ?_))
      rcases ak hc_20 with⟨hc_27,hc_20⟩|⟨hc_27,hc_20⟩
      ·refine aA rfl hc_27 (aX (av (aa (vI s_16.2) (aa (vI (w64 (s_16.2+1))) (aa (vI (w64 (s_16.2+1))) (af ?_))))))
       obtain rfl:=ae hc_20
       exact aY (k_11,(s_16.1,(w64 (s_16.2+1))),n_19) hL_21 (ls_ _) rfl (aK rfl)
      ·refine ay rfl hc_27 (ax (aj (aB 0 0 il ft zh CR rfl rfl (.d (.agg (Entry.enc e_1))) rfl wz (aa (vI zone_2) (aa (vI s_16.2) ?_)))))
       obtain ⟨r_28,hr_29,hc_20⟩:=bind_some hc_20
       refine aC (sN hr_29) rfl hb105 rfl rfl rfl rfl wz (dC 0 (.inl rfl) z33 rfl wz (λn_30=>fA 0 il ft 3 jZ rfl rfl [(vI r_28.From),(vI r_28.To)] rfl wz (af (au ?_))))
       obtain ⟨v_31,h_32,hc_20⟩:=bind_some hc_20
       refine aS [(1,(vI zone_2)),(3,(.ref n_4 0 0)),(5,(.ref n_5 0 0)),(7,(gV n_19 2 s_16.1)),(9,(vI (w64 ((w64 ((w64 (wv_3.To+(w64 (zone_2*60000)))).tdiv 86400000))+1)))),(10,(vI s_16.2)),(11,(.ref n_30 0 0)),(66,(vB v_31))] [(n_4,some (.cells 13 (Entry.v e_1))),(n_5,some (.cells 2 [(vI wv_3.From),(vI wv_3.To)])),(n_19,gB 2 Window.enc s_16.1),(n_30,some (.cells 2 [(vI r_28.From),(vI r_28.To)]))] ?_ ?_
       ·refine av (aJ iI rfl 0 rfl wz (aB 0 3 il ft sz3 ag3 rfl rfl (vI r_28.From) rfl wz (aJ iK rfl 1 rfl wz (aB 0 1 il ft sz3 ag3 rfl rfl (vI wv_3.To) rfl wz (aa (vB (decide (r_28.From<wv_3.To))) ?_)))))
        rcases ak h_32 with⟨hc_33,h_32⟩|⟨hc_33,h_32⟩
        ·refine aI rfl hc_33 wz (aJ iK rfl 1 rfl wa (aB 0 3 il ft sz3 ag3 rfl rfl (vI r_28.To) rfl wa (aJ iI rfl 0 rfl wa (aB 0 1 il ft sz3 ag3 rfl rfl (vI wv_3.From) rfl wa (aM (vB (decide (r_28.To>wv_3.From))) wa rfl (aa (vB (decide (r_28.To>wv_3.From))) (af ?_)))))))
         obtain rfl:=ae h_32
         exact cu
        ·refine aI rfl hc_33 wz (ah (ah (ah (ah (ah (aa (vB false) (af ?_)))))))
         obtain rfl:=ae h_32
         exact cu
       ·rintro ⟨⟩ _ sl_ H_ hp_ hq_
        refine aO _ hp_ hq_ ?_
        obtain ⟨v_34,h_35,hc_20⟩:=bind_some hc_20
        refine jA (β:=Nm) (λ(n_36:Nm)=>([(1,(vI zone_2)),(3,(.ref n_4 0 0)),(5,(.ref n_5 0 0)),(7,(gV n_36 2 v_34)),(9,(vI (w64 ((w64 ((w64 (wv_3.To+(w64 (zone_2*60000)))).tdiv 86400000))+1)))),(10,(vI s_16.2))]:SL_)) (λ(n_36:Nm)=>([(n_4,some (.cells 13 (Entry.v e_1))),(n_5,some (.cells 2 [(vI wv_3.From),(vI wv_3.To)])),(n_36,gB 2 Window.enc v_34),(n_30,some (.cells 2 [(vI r_28.From),(vI r_28.To)]))]:Hp)) (λ_=>True) ?_ ?_
        ·rcases ak h_35 with⟨hc_37,h_35⟩|⟨hc_37,h_35⟩
         ·refine aA rfl hc_37 (av (aa (gV n_19 2 s_16.1) (aB 0 3 il ft jZ nX rfl rfl (.d (.agg (Window.enc r_28))) rfl wz (eQ (([r_28]:List Window).map Window.enc) Fj Qq rfl rfl rfl rfl rfl wz ?_))))
          obtain ⟨a_38,hz_39,h_35⟩:=bind_some h_35
          refine jh 0 il ft (i:=2) GQ GQ jZ z33 rfl (by decide) RS (by decide) (λ_=>rfl) rfl rfl rfl hz_39 wz (λn_40=>aa (gV n_40 2 a_38) (af ?_))
          obtain rfl:=ae h_35
          exact aV n_40 trivial rfl (aK rfl)
         ·refine ay rfl hc_37 (ax ?_)
          obtain rfl:=ae h_35
          exact aV n_19 trivial rfl (aK rfl)
        ·rintro n_36 _ sl_ H_ hp_ hq_
         refine aO _ hp_ hq_ (av (aa (vI s_16.2) (aa (vI (w64 (s_16.2+1))) (aa (vI (w64 (s_16.2+1))) (af ?_)))))
         obtain rfl:=ae hc_20
         exact aY (k_11,(v_34,(w64 (s_16.2+1))),n_36) hL_21 (ls_ _) rfl (aK rfl)
     ·refine ay rfl hc_24 (aX ?_)
      obtain rfl:=ae hc_20
      obtain rfl:=ae hL_21
      exact aV ((s_16.1,s_16.2),n_19) rfl rfl (aK rfl)
   ·rintro ⟨s_16,n_19⟩ ho_ sl_ H_ hp_ hq_
    subst ho_
    refine aO _ hp_ hq_ (aj (aa (gV n_19 2 s_16.1) (aa (gV n_19 2 s_16.1) (af ?_))))
    obtain rfl:=ae hF
    exact aH (Qp (outs:=([]:List Box)) (.inr rfl) 2 rfl rfl rfl (by kernel_rfl) (by kernel_rfl))
theorem Bq {e_1:Entry} {zone_2:Int} {wv_3:Window} {r:(List Window)×Int} (hF:mV e_1 zone_2 wv_3=some r) :
  FnM Tryz.prog 38 [(.d (.agg (Entry.enc e_1))),(vI zone_2),(.d (.agg (Window.enc wv_3)))] [] (.tup [(vL Window.enc r.1),(vI r.2)]) []:=by
 refine FnM.of_wH ⟨Tryz.prog,45,[],[]⟩ rfl Tryz.func38 rfl rfl (lb_ rfl) (by kernel_rfl) ?_
 unfold mV at hF
 refine aj (d9 0 (.inl rfl) (Entry.v e_1) rfl rfl wz (λn_4=>d9 0 (.inl rfl) [(vI wv_3.From),(vI wv_3.To)] rfl rfl wz (λn_5=>aa .nil (aa (vI 0) (af (au (aj (aB 0 0 il ft zh CR rfl rfl (.d (.agg (Entry.enc e_1))) rfl wz (eQ (([e_1]:List Entry).map Entry.enc) GK ez26 rfl rfl rfl rfl rfl wz ?_)))))))))
 obtain ⟨r_6,hr_7,hF⟩:=bind_some hF
 refine aC (kK hr_7) rfl hb40 rfl rfl rfl rfl wz (aa (vI r_6) (af (aj (aa (vI r_6) (aa (vB (r_6 != 0)) (af ?_))))))
 rcases ak hF with⟨hc_8,hF⟩|⟨hc_8,hF⟩
 ·refine aA rfl hc_8 (aj (aa (vI r_6) (aa .nil (aa (vI r_6) (af ?_)))))
  obtain rfl:=ae hF
  exact aH (aN [.nil,(vI r_6)] ⟨rfl,⟨rfl,trivial⟩⟩)
 ·refine ay rfl hc_8 (ax (au (aj (aa (vI zone_2) ?_))))
  obtain ⟨r_9,hr_10,hF⟩:=bind_some hF
  refine aC (bD hr_10) rfl rT rfl rfl rfl rfl wz (af ?_)
  rcases ak hF with⟨hc_11,hF⟩|⟨hc_11,hF⟩
  ·refine aA rfl hc_11 (aj (aa .nil (aa (vI 1) (af ?_))))
   obtain rfl:=ae hF
   exact aH (aN [.nil,(vI 1)] ⟨rfl,⟨rfl,trivial⟩⟩)
  ·refine ay rfl hc_11 (ax (au (aj (aB 0 1 il ft jZ nX rfl rfl (.d (.agg (Window.enc wv_3))) rfl wz ?_))))
   obtain ⟨r_12,hr_13,hF⟩:=bind_some hF
   refine aC (oG hr_13) rfl hb42 rfl rfl rfl rfl wz (aa (vI r_12) (af (aj (aa (vI r_12) (aa (vB (r_12 != 0)) (af ?_))))))
   rcases ak hF with⟨hc_14,hF⟩|⟨hc_14,hF⟩
   ·refine aA rfl hc_14 (aj (aa (vI r_12) (aa .nil (aa (vI r_12) (af ?_)))))
    obtain rfl:=ae hF
    exact aH (aN [.nil,(vI r_12)] ⟨rfl,⟨rfl,trivial⟩⟩)
   ·refine ay rfl hc_14 (ax (aj (aB 0 0 il ft zh CR rfl rfl (.d (.agg (Entry.enc e_1))) rfl wz (aa (vI zone_2) (aB 0 1 il ft jZ nX rfl rfl (.d (.agg (Window.enc wv_3))) rfl wz ?_)))))
    obtain ⟨r_15,hr_16,hF⟩:=bind_some hF
    refine DX [] (zY hr_16) rfl hb70 rfl (by kernel_rfl) (by kernel_rfl) (by kernel_rfl) (by kernel_rfl) (by kernel_rfl) rfl (by decide) (by kernel_rfl) wz ([(n_4,some (.cells 13 (Entry.v e_1))),(n_5,some (.cells 2 [(vI wv_3.From),(vI wv_3.To)]))]:Hp) (λ_=>by kernel_rfl) (λn_18=>aa (gV n_18 2 r_15) (af (au (aj (aa (gV n_18 2 r_15) (Ar MZ rfl wz (aa (vI 0) (af ?_))))))))
    obtain ⟨o_27,hj_28,hF⟩:=bind_some hF
    obtain ⟨hn_23,hj_28⟩:=bI hj_28
    refine fH (λ(s_24:List Window)=>[(10,(gV n_18 2 s_24))]) (λ(s_24:List Window)=>[(n_4,some (.cells 13 (Entry.v e_1))),(n_5,some (.cells 2 [(vI wv_3.From),(vI wv_3.To)])),(n_18,gB 2 Window.enc s_24)]) (λ(k_19:Nat)=>(λ(s_24:List Window)=>[(5,(.ref n_5 0 0)),(10,(gV n_18 2 s_24)),(30,(gV n_18 2 s_24)),(31,(vI (r_15.length:Int))),(32,(vI (k_19:Int)))])) (λk x s=>mq wv_3 k x s) o_27 (List.range ((r_15.length:Int)).toNat) r_15 hj_28 rfl (aK rfl) ?_ ?_
    ·rintro ⟨k_19,l_20,s_24⟩ ⟨hL_26,hD_22⟩
     dsimp only at hL_26 hD_22
     cases l_20 with
     | nil =>
      obtain rfl:=ae hL_26
      refine aj (aa (vB (decide ((k_19:Int)<(r_15.length:Int)))) (af ?_))
      refine au (ay rfl (Cu hD_22) (aX ?_))
      exact aV (s_24) rfl rfl (aK rfl)
     | cons x_21 l_20 =>
      obtain ⟨c_,hc_25,hL_26⟩:=bind_some hL_26
      refine aj (aa (vB (decide ((k_19:Int)<(r_15.length:Int)))) (af ?_))
      refine au (aA rfl (Ad hD_22) (ax ?_))
      unfold mq at hc_25
      refine au (aQ (aj (aa (vI (k_19:Int)) ?_)))
      obtain ⟨_,hi_29,hc_25⟩:=bind_some hc_25
      refine uP Fj rfl rfl (jW hi_29) (ik hi_29) wz ?_
      obtain ⟨e_30,hy_31,hc_25⟩:=bind_some hc_25
      refine lK 0 2 il ft jZ nX rfl rfl hy_31 (.d (.agg (Window.enc e_30))) rfl wz (dC 0 (.inl rfl) z33 rfl wz (λn_32=>aa (vI (k_19:Int)) (fA 0 il ft 3 jZ rfl rfl [(vI e_30.From),(vI e_30.To)] rfl wz (af (av (aa (gV n_18 2 s_24) (aa (vI (k_19:Int)) (aB 0 3 il ft jZ nX rfl rfl (.d (.agg (Window.enc e_30))) rfl wz (aB 0 1 il ft jZ nX rfl rfl (.d (.agg (Window.enc wv_3))) rfl wz ?_)))))))))
      obtain ⟨r_33,hr_34,hc_25⟩:=bind_some hc_25
      refine aC (xz hr_34) rfl hb71 rfl rfl rfl rfl wz ?_
      obtain ⟨_,hi_35,hc_25⟩:=bind_some hc_25
      refine uP Fj rfl rfl (jW hi_35) (ik hi_35) wz ?_
      obtain ⟨e_36,hy_37,hc_25⟩:=bind_some hc_25
      refine yF 0 il ft 2 jZ rfl rfl hy_37 r_33 rfl wz (dU (v':=(gV n_18 2 (s_24.set (0+((k_19:Int)).toNat) r_33))) 10 rfl (jm (by simp)) (dU (v':=(gV n_18 2 (s_24.set (0+((k_19:Int)).toNat) r_33))) 30 rfl (jm (by simp)) (dU (v':=(gV n_18 2 (s_24.set (0+((k_19:Int)).toNat) r_33))) 37 rfl (jm (by simp)) (af (av (fQ (BX hD_22 hn_23) wz rfl (aa (vI ((k_19+1:Nat):Int)) (af ?_))))))))
      obtain rfl:=ae hc_25
      exact aY (k_19+1,l_20,(s_24.set (0+((k_19:Int)).toNat) r_33)) ⟨hL_26,aW hD_22⟩ (ls_ _) rfl (aK rfl)
    ·rintro s_24 ho_ sl_ H_ hp_ hq_
     subst ho_
     refine aO _ hp_ hq_ (aj (aa (gV n_18 2 s_24) (aa (gV n_18 2 s_24) (aa (vI 0) (af (fB 2 rfl (bX 6 2 rfl rfl (bX 10 2 rfl rfl (bX 44 2 rfl rfl ?_)))))))))
     obtain rfl:=ae hF
     exact aH (aN [(vL Window.enc s_24),(vI 0)] ⟨rfl,⟨rfl,trivial⟩⟩)
theorem zn {r:Bool} (hF:jJ  = some r) :
  FnM Tryz.prog 14 [] [] (vB r) []:=by
 refine FnM.of_wH ⟨Tryz.prog,66,[],[]⟩ rfl Tryz.func14 rfl rfl (lb_ rfl) (by kernel_rfl) ?_
 unfold jJ at hF
 refine aj (aa (vB false) (af (aj (aM (.d (.agg (Rect.enc (⟨0,0,2,2⟩:Rect)))) wz (by kernel_rfl) (aM (.d (.agg (Rect.enc (⟨1,1,2,2⟩:Rect)))) wz (by kernel_rfl) (eQ (([(⟨0,0,2,2⟩:Rect),(⟨1,1,2,2⟩:Rect)]:List Rect).map Rect.enc) O9 ez97 rfl rfl rfl rfl rfl wz ?_))))))
 obtain ⟨r_1,hr_2,hF⟩:=bind_some hF
 refine aC (Fq hr_2) rfl hb35 rfl rfl rfl rfl wz (aa (.tup [(vI r_1.1),(vI r_1.2)]) (aa (vI r_1.1) (aa (vI r_1.2) (aa (vI r_1.1) (aa (vI r_1.2) (af (aj (aM (.d (.agg (Window.enc (⟨0,100⟩:Window)))) wz (by kernel_rfl) (aM (.agg [(vS (⟨#[97]⟩:ByteArray)),(vS (⟨#[]⟩:ByteArray)),(vI 0),(vI 100),.nil,(vI 10),(vI 0),(vI 0)]) wz (by kernel_rfl) ?_)))))))))
 obtain ⟨r_3,hr_4,hF⟩:=bind_some hF
 refine aC (FV hr_4) rfl hb36 rfl rfl rfl rfl wz (aa (.tup [(vI r_3.1),(vI r_3.2)]) (aa (vI r_3.1) (aa (vI r_3.2) (aa (vI r_3.1) (aa (vI r_3.2) (af (aj (aM (.d (.agg (Beat.enc (⟨(⟨#[112]⟩:ByteArray),0,100⟩:Beat)))) wz (by kernel_rfl) (aM (.d (.agg (Beat.enc (⟨(⟨#[112]⟩:ByteArray),1000,1300⟩:Beat)))) wz (by kernel_rfl) (eQ (([(⟨(⟨#[112]⟩:ByteArray),0,100⟩:Beat),(⟨(⟨#[112]⟩:ByteArray),1000,1300⟩:Beat)]:List Beat).map Beat.enc) LF ez41 rfl rfl rfl rfl rfl wz ?_))))))))))
 obtain ⟨r_5,hr_6,hF⟩:=bind_some hF
 refine aC (Gj hr_6) rfl hb37 rfl rfl rfl rfl wz (aa (.tup [(vI r_5.1),(vI r_5.2)]) (aa (vI r_5.1) (aa (vI r_5.2) (aa (vI r_5.1) (aa (vI r_5.2) (af (aj (aM (.agg [(vS (⟨#[97]⟩:ByteArray)),(vS (⟨#[98]⟩:ByteArray)),(vI 0),(vI 0),(vI 0),(vI 1),(vI 127),.nil,(vI 1),(vI 2),(vI 0),.nil,(vB false)]) wz (by kernel_rfl) (aM (.d (.agg (Window.enc (⟨0,86400000⟩:Window)))) wz (by kernel_rfl) ?_)))))))))
 obtain ⟨r_7,hr_8,hF⟩:=bind_some hF
 refine aC (Bq hr_8) rfl hb38 rfl rfl rfl rfl wz (aa (.tup [(vL Window.enc r_7.1),(vI r_7.2)]) (aa (vL Window.enc r_7.1) (aa (vI r_7.2) (aa (vL Window.enc r_7.1) (aa (vI r_7.2) (af (aO (H0:=([]:Hp)) ([(1,(vI r_1.1)),(2,(vI r_1.2)),(3,(vI r_3.1)),(4,(vI r_3.2)),(5,(vI r_5.1)),(6,(vI r_5.2)),(7,(vL Window.enc r_7.1)),(8,(vI r_7.2))]:SL_) (by kernel_rfl) (xm (by kernel_rfl)) (au ?_))))))))
 obtain ⟨v_9,h_10,hF⟩:=bind_some hF
 refine aS [(0,(vB v_9))] [] ?_ ?_
 ·refine av (aa (vI r_1.2) (aa (vB (r_1.2==0)) ?_))
  rcases ak h_10 with⟨hc_11,h_10⟩|⟨hc_11,h_10⟩
  ·refine aI rfl hc_11 wz (aM (vI r_3.2) wa rfl (aM (vB (r_3.2==0)) wa rfl (aa (vB (r_3.2==0)) ?_)))
   rcases ak h_10 with⟨hc_12,h_10⟩|⟨hc_12,h_10⟩
   ·refine aI rfl hc_12 wz (aM (vI r_5.2) wa rfl (aM (vB (r_5.2==0)) wa rfl (aa (vB (r_5.2==0)) ?_)))
    rcases ak h_10 with⟨hc_13,h_10⟩|⟨hc_13,h_10⟩
    ·refine aI rfl hc_13 wz (aM (vI r_7.2) wa rfl (aM (vB (r_7.2==0)) wa rfl (aa (vB (r_7.2==0)) ?_)))
     rcases ak h_10 with⟨hc_14,h_10⟩|⟨hc_14,h_10⟩
     ·refine aI rfl hc_14 wz (aM (vI r_1.1) wa rfl (aM (vB (r_1.1==7)) wa rfl (aa (vB (r_1.1==7)) ?_)))
      rcases ak h_10 with⟨hc_15,h_10⟩|⟨hc_15,h_10⟩
      ·refine aI rfl hc_15 wz (aM (vI r_3.1) wa rfl (aM (vB (r_3.1==5)) wa rfl (aa (vB (r_3.1==5)) ?_)))
       rcases ak h_10 with⟨hc_16,h_10⟩|⟨hc_16,h_10⟩
       ·refine aI rfl hc_16 wz (aM (vI r_5.1) wa rfl (aM (vB (r_5.1==500)) wa rfl (aa (vB (r_5.1==500)) ?_)))
        rcases ak h_10 with⟨hc_17,h_10⟩|⟨hc_17,h_10⟩
        ·refine aI rfl hc_17 wz (aM (vL Window.enc r_7.1) wa rfl (dx MZ rfl wa (aM (vB ((r_7.1.length:Int)==1)) wa rfl (aa (vB ((r_7.1.length:Int)==1)) (aa (vB ((r_7.1.length:Int)==1)) (af ?_))))))
         obtain rfl:=ae h_10
         exact cu
        ·refine aI rfl hc_17 wz (ah (ah (ah (aa (vB false) (aa (vB false) (af ?_))))))
         obtain rfl:=ae h_10
         exact cu
       ·refine aI rfl hc_16 wz (ah (ah (aa (vB false) (aa (vB false) (ah (ah (ah (aa (vB false) (aa (vB false) (af ?_))))))))))
        obtain rfl:=ae h_10
        exact cu
      ·refine aI rfl hc_15 wz (ah (ah (aa (vB false) (aa (vB false) (ah (ah (aa (vB false) (aa (vB false) (ah (ah (ah (aa (vB false) (aa (vB false) (af ?_))))))))))))))
       obtain rfl:=ae h_10
       exact cu
     ·refine aI rfl hc_14 wz (ah (ah (aa (vB false) (aa (vB false) (ah (ah (aa (vB false) (aa (vB false) (ah (ah (aa (vB false) (aa (vB false) (ah (ah (ah (aa (vB false) (aa (vB false) (af ?_))))))))))))))))))
      obtain rfl:=ae h_10
      exact cu
    ·refine aI rfl hc_13 wz (ah (ah (aa (vB false) (aa (vB false) (ah (ah (aa (vB false) (aa (vB false) (ah (ah (aa (vB false) (aa (vB false) (ah (ah (aa (vB false) (aa (vB false) (ah (ah (ah (aa (vB false) (aa (vB false) (af ?_))))))))))))))))))))))
     obtain rfl:=ae h_10
     exact cu
   ·refine aI rfl hc_12 wz (ah (ah (aa (vB false) (aa (vB false) (ah (ah (aa (vB false) (aa (vB false) (ah (ah (aa (vB false) (aa (vB false) (ah (ah (aa (vB false) (aa (vB false) (ah (ah (aa (vB false) (aa (vB false) (ah (ah (ah ?_)))))))))))))))))))))))
    refine aa (vB false) (aa (vB false) (af ?_))
    obtain rfl:=ae h_10
    exact cu
  ·refine aI rfl hc_11 wz (ah (ah (aa (vB false) (aa (vB false) (ah (ah (aa (vB false) (aa (vB false) (ah (ah (aa (vB false) (aa (vB false) (ah (ah (aa (vB false) (aa (vB false) (ah (ah (aa (vB false) (aa (vB false) (ah (ah (aa (vB false) ?_)))))))))))))))))))))))
   refine aa (vB false) (ah (ah (ah (aa (vB false) (aa (vB false) (af ?_))))))
   obtain rfl:=ae h_10
   exact cu
 ·rintro ⟨⟩ _ sl_ H_ hp_ hq_
  refine aO _ hp_ hq_ ?_
  obtain rfl:=ae hF
  exact aH (aN [(vB v_9)] ⟨rfl,trivial⟩)
theorem ru {l_1:(List Int)} {r:Bool} (hF:iZ l_1=some r) :
  FnM Tryz.prog 3 [(vL eI l_1)] [] (vB r) []:=by
 refine FnM.of_wH ⟨Tryz.prog,174,[],[]⟩ rfl Tryz.func3 rfl rfl (lb_ rfl) (by kernel_rfl) ?_
 unfold iZ at hF
 refine aj (aa (vB false) (af (aj (aa (vL eI l_1) (aM (.d (.agg (Stream.enc (⟨l_1,0⟩:Stream)))) wz (by kernel_rfl) (d9 0 (.inl rfl) [(vL eI l_1),(vI 0)] rfl rfl wz (λn_2=>aa (.ref n_2 0 0) (af (aj (aa (.ref n_2 0 0) ?_))))))))))
 obtain ⟨r_3,hr_4,hF⟩:=bind_some hF
 refine gY 0 [0] il ft (tT hr_4) rfl hb4 rfl (by kernel_rfl) (by kernel_rfl) (by kernel_rfl) (by kernel_rfl) (by kernel_rfl) (by kernel_rfl) (by kernel_rfl) (by decide) (by kernel_rfl) wz (vL Entry.enc r_3.1) (by kernel_rfl) ([(n_2,some (.cells 2 [(vL eI r_3.2.L),(vI r_3.2.f_at)]))]:Hp) (by kernel_rfl) (aa (.ref n_2 0 0) ?_)
 obtain ⟨r_6,hr_7,hF⟩:=bind_some hF
 refine gY 0 [0] il ft (uN hr_7) rfl hb5 rfl (by kernel_rfl) (by kernel_rfl) (by kernel_rfl) (by kernel_rfl) (by kernel_rfl) (by kernel_rfl) (by kernel_rfl) (by decide) (by kernel_rfl) wz (.d (.agg (Player.enc r_6.1))) (by kernel_rfl) ([(n_2,some (.cells 2 [(vL eI r_6.2.L),(vI r_6.2.f_at)]))]:Hp) (by kernel_rfl) (dC 0 (.inl rfl) z30 rfl wz (λn_9=>aa (vL Entry.enc r_3.1) (fA 0 il ft 1 uR rfl rfl (Player.v r_6.1) rfl wz (af (aj (aJ P8 rfl 0 rfl wz (fA 0 il ft 1 sz9 rfl rfl [(vS (⟨#[112,97]⟩:ByteArray)),(vS r_6.1.Screen),(vI r_6.1.Zone),(vL eS r_6.1.Tags)] rfl wz (af (aj (aM (.d (.agg (Window.enc (⟨86400000,172800000⟩:Window)))) wz (by kernel_rfl) (dC 0 (.inl rfl) z33 rfl wz (λn_10=>fA 0 il ft 2 jZ rfl rfl [(vI 86400000),(vI 172800000)] rfl wz (af (aj (aa (vL Entry.enc r_3.1) (aB 0 1 il ft uR xL rfl rfl (.d (.agg (Player.enc (⟨(⟨#[112,97]⟩:ByteArray),r_6.1.Screen,r_6.1.Zone,r_6.1.Tags⟩:Player)))) rfl wz (aB 0 2 il ft jZ nX rfl rfl (.d (.agg (Window.enc (⟨86400000,172800000⟩:Window)))) rfl wz ?_)))))))))))))))))
 obtain ⟨r_11,hr_12,hF⟩:=bind_some hF
 refine aC (ze hr_12) rfl hb6 rfl rfl rfl rfl wz (aa (.tup [(vL Slot_.enc r_11.1),(vI r_11.2)]) (aa (vL Slot_.enc r_11.1) (aa (vI r_11.2) (aa (vL Slot_.enc r_11.1) (aa (vI r_11.2) (af (aj (aa (.ref n_2 0 0) ?_))))))))
 obtain ⟨r_13,hr_14,hF⟩:=bind_some hF
 refine gY 0 [0] il ft (sH hr_14) rfl hb7 rfl (by kernel_rfl) (by kernel_rfl) (by kernel_rfl) (by kernel_rfl) (by kernel_rfl) (by kernel_rfl) (by kernel_rfl) (by decide) (by kernel_rfl) wz (vI r_13.1) (by kernel_rfl) ([(n_2,some (.cells 2 [(vL eI r_13.2.L),(vI r_13.2.f_at)])),(n_9,some (.cells 4 [(vS (⟨#[112,97]⟩:ByteArray)),(vS r_6.1.Screen),(vI r_6.1.Zone),(vL eS r_6.1.Tags)])),(n_10,some (.cells 2 [(vI 86400000),(vI 172800000)]))]:Hp) (by kernel_rfl) (aa (vI r_13.1) (af (aj (aJ iI rfl 0 rfl wz (aB 0 2 il ft sz3 ag3 rfl rfl (vI 86400000) rfl wz (aJ iI rfl 0 rfl wz (aB 0 2 il ft sz3 ag3 rfl rfl (vI 86400000) rfl wz (aa (vI r_13.1) (aa (vI (w64 (86400000+r_13.1))) (aM (.d (.agg (Beat.enc (⟨(⟨#[112,97]⟩:ByteArray),86400000,(w64 (86400000+r_13.1))⟩:Beat)))) wz (by kernel_rfl) (aJ iK rfl 1 rfl wz (aB 0 2 il ft sz3 ag3 rfl rfl (vI 172800000) rfl wz (aJ iK rfl 1 rfl wz (aB 0 2 il ft sz3 ag3 rfl rfl (vI 172800000) rfl wz (aa (vI r_13.1) (aa (vI (w64 (172800000+r_13.1))) (aM (.d (.agg (Beat.enc (⟨(⟨#[112,97]⟩:ByteArray),172800000,(w64 (172800000+r_13.1))⟩:Beat)))) wz (by kernel_rfl) (eQ (([(⟨(⟨#[112,97]⟩:ByteArray),86400000,(w64 (86400000+r_13.1))⟩:Beat),(⟨(⟨#[112,97]⟩:ByteArray),172800000,(w64 (172800000+r_13.1))⟩:Beat)]:List Beat).map Beat.enc) LF ez41 rfl rfl rfl rfl rfl wz (aa (vL Beat.enc ([(⟨(⟨#[112,97]⟩:ByteArray),86400000,(w64 (86400000+r_13.1))⟩:Beat),(⟨(⟨#[112,97]⟩:ByteArray),172800000,(w64 (172800000+r_13.1))⟩:Beat)]:List Beat)) (af (aO (H0:=([(n_2,some (.cells 2 [(vL eI r_13.2.L),(vI r_13.2.f_at)])),(n_9,some (.cells 4 [(vS (⟨#[112,97]⟩:ByteArray)),(vS r_6.1.Screen),(vI r_6.1.Zone),(vL eS r_6.1.Tags)])),(n_10,some (.cells 2 [(vI 86400000),(vI 172800000)]))]:Hp)) ([(4,(vL Entry.enc r_3.1)),(5,(.ref n_9 0 0)),(6,(.ref n_10 0 0)),(7,(vL Slot_.enc r_11.1)),(8,(vI r_11.2)),(9,(vI r_13.1)),(10,(vL Beat.enc ([(⟨(⟨#[112,97]⟩:ByteArray),86400000,(w64 (86400000+r_13.1))⟩:Beat),(⟨(⟨#[112,97]⟩:ByteArray),172800000,(w64 (172800000+r_13.1))⟩:Beat)]:List Beat)))]:SL_) (by kernel_rfl) (xm (by kernel_rfl)) (aj (aa .nil ?_)))))))))))))))))))))))
 refine af (au (aj (aa (vL Slot_.enc r_11.1) (dx un34 rfl wz (aa (vI 0) (af (jH (λn_22 => ?_))))))))
 obtain ⟨o_27,hj_28,hF⟩:=bind_some hF
 obtain ⟨hn_20,hj_28⟩:=bI hj_28
 refine iw (σ:=(List Log_)) (N:=Nm) (λp=>(λ(s_21:List Log_) (n_24:Nm)=>([(4,(vL Entry.enc r_3.1)),(5,(.ref n_9 0 0)),(6,(.ref n_10 0 0)),(8,(vI r_11.2)),(10,(vL Beat.enc ([(⟨(⟨#[112,97]⟩:ByteArray),86400000,(w64 (86400000+r_13.1))⟩:Beat),(⟨(⟨#[112,97]⟩:ByteArray),172800000,(w64 (172800000+r_13.1))⟩:Beat)]:List Beat))),(11,(gV n_24 6 s_21))]:SL_)) p.1 p.2) (λp=>(λ(s_21:List Log_) (n_24:Nm)=>([(n_2,some (.cells 2 [(vL eI r_13.2.L),(vI r_13.2.f_at)])),(n_9,some (.cells 4 [(vS (⟨#[112,97]⟩:ByteArray)),(vS r_6.1.Screen),(vI r_6.1.Zone),(vL eS r_6.1.Tags)])),(n_10,some (.cells 2 [(vI 86400000),(vI 172800000)])),(n_24,gB 6 Log_.enc s_21)]:Hp)) p.1 p.2) (λ(k_16:Nat)=>(λp=>(λ(s_21:List Log_) (n_24:Nm)=>([(4,(vL Entry.enc r_3.1)),(5,(.ref n_9 0 0)),(6,(.ref n_10 0 0)),(8,(vI r_11.2)),(9,(vI r_13.1)),(10,(vL Beat.enc ([(⟨(⟨#[112,97]⟩:ByteArray),86400000,(w64 (86400000+r_13.1))⟩:Beat),(⟨(⟨#[112,97]⟩:ByteArray),172800000,(w64 (172800000+r_13.1))⟩:Beat)]:List Beat))),(11,(gV n_24 6 s_21)),(60,(vL Slot_.enc r_11.1)),(61,(vI (r_11.1.length:Int))),(62,(vI (k_16:Int)))]:SL_)) p.1 p.2)) (λk x s=>bZ r_13 k x s) o_27 r_11.1 (([]:List Log_),n_22) hj_28 rfl (aK rfl) ?_ ?_
 ·rintro ⟨k_16,l_17,s_21,n_24⟩ ⟨hL_26,hD_19⟩
  dsimp only at hL_26 hD_19
  cases l_17 with
  | nil =>
   obtain rfl:=ae hL_26
   refine aj (aa (vB (decide ((k_16:Int)<(r_11.1.length:Int)))) (af ?_))
   refine au (ay rfl (drop_nil hD_19) (aX ?_))
   exact aV (s_21,n_24) rfl rfl (aK rfl)
  | cons x_18 l_17 =>
   obtain ⟨c_,hc_25,hL_26⟩:=bind_some hL_26
   refine aj (aa (vB (decide ((k_16:Int)<(r_11.1.length:Int)))) (af ?_))
   refine au (aA rfl (bO hD_19) (ax ?_))
   unfold bZ at hc_25
   refine au (aQ (aj (dW PT rfl rfl (bU hD_19) rfl wz (bK Qa ag44 rfl (.d (.agg (Slot_.enc x_18))) rfl wz (dC 0 (.inl rfl) z44 rfl wz (λn_29=>fA 0 il ft 4 Qa rfl rfl (Slot_.v x_18) rfl wz (af (aj (aJ IC rfl 2 rfl wz (aB 0 4 il ft sz9 ag9 rfl rfl (vS x_18.Entry) rfl wz (aa (vB (sNe x_18.Entry (⟨#[]⟩:ByteArray))) (af ?_))))))))))))
   obtain ⟨v_30,h_31,hc_25⟩:=bind_some hc_25
   refine jA (β:=Nm) (λ(n_32:Nm)=>([(4,(vL Entry.enc r_3.1)),(5,(.ref n_9 0 0)),(6,(.ref n_10 0 0)),(8,(vI r_11.2)),(9,(vI r_13.1)),(10,(vL Beat.enc ([(⟨(⟨#[112,97]⟩:ByteArray),86400000,(w64 (86400000+r_13.1))⟩:Beat),(⟨(⟨#[112,97]⟩:ByteArray),172800000,(w64 (172800000+r_13.1))⟩:Beat)]:List Beat))),(11,(gV n_32 6 v_30)),(60,(vL Slot_.enc r_11.1)),(61,(vI (r_11.1.length:Int))),(62,(vI (k_16:Int)))]:SL_)) (λ(n_32:Nm)=>([(n_2,some (.cells 2 [(vL eI r_13.2.L),(vI r_13.2.f_at)])),(n_9,some (.cells 4 [(vS (⟨#[112,97]⟩:ByteArray)),(vS r_6.1.Screen),(vI r_6.1.Zone),(vL eS r_6.1.Tags)])),(n_10,some (.cells 2 [(vI 86400000),(vI 172800000)])),(n_32,gB 6 Log_.enc v_30),(n_29,some (.cells 3 (Slot_.v x_18)))]:Hp)) (λ_=>True) ?_ ?_
   ·rcases ak h_31 with⟨hc_33,h_31⟩|⟨hc_33,h_31⟩
    ·refine aA rfl hc_33 (av (aa (gV n_24 6 s_21) (aJ IC rfl 2 rfl wz (aB 0 4 il ft sz9 ag9 rfl rfl (vS x_18.Entry) rfl wz (aa (gV n_24 6 s_21) (Ar Lx rfl wz (aa (vI (w64 ((s_21.length:Int)+1))) (aJ Gq rfl 0 rfl wz (aJ iI rfl 0 rfl wz (aB 0 4 il ft sz3 ag3 rfl rfl (vI x_18.Time.From) rfl wz (aa (vI r_13.1) (aa (vI (w64 (x_18.Time.From+r_13.1))) (aJ Gq rfl 0 rfl wz (aJ iK rfl 1 rfl wz (aB 0 4 il ft sz3 ag3 rfl rfl (vI x_18.Time.To) rfl wz (aJ Gq rfl 0 rfl wz (aJ iI rfl 0 rfl wz (aB 0 4 il ft sz3 ag3 rfl rfl (vI x_18.Time.From) rfl wz (aa (vI (w64 (x_18.Time.To-x_18.Time.From))) (aM (.d (.agg (Log_.enc (⟨(⟨#[112,97]⟩:ByteArray),x_18.Entry,(w64 ((s_21.length:Int)+1)),(w64 (x_18.Time.From+r_13.1)),(w64 (x_18.Time.To-x_18.Time.From)),(⟨#[]⟩:ByteArray)⟩:Log_)))) wz (by kernel_rfl) (eQ (([(⟨(⟨#[112,97]⟩:ByteArray),x_18.Entry,(w64 ((s_21.length:Int)+1)),(w64 (x_18.Time.From+r_13.1)),(w64 (x_18.Time.To-x_18.Time.From)),(⟨#[]⟩:ByteArray)⟩:Log_)]:List Log_).map Log_.enc) Bd ez42 rfl rfl rfl rfl rfl wz ?_)))))))))))))))))))))
     obtain ⟨a_34,hz_35,h_31⟩:=bind_some h_31
     refine jh 0 il ft (i:=3) el42 el42 Ay z46 rfl (by decide) by46 (by decide) (λ_=>rfl) rfl rfl rfl hz_35 wz (λn_36=>aa (gV n_36 6 a_34) (af ?_))
     obtain rfl:=ae h_31
     exact aV n_36 trivial rfl (aK rfl)
    ·refine ay rfl hc_33 (ax ?_)
     obtain rfl:=ae h_31
     exact aV n_24 trivial rfl (aK rfl)
   ·rintro n_32 _ sl_ H_ hp_ hq_
    refine aO _ hp_ hq_ (av (fQ (bN hD_19 hn_20) wz rfl (aa (vI ((k_16+1:Nat):Int)) (af ?_))))
    obtain rfl:=ae hc_25
    exact aY (k_16+1,l_17,v_30,n_32) ⟨hL_26,aW hD_19⟩ (ls_ _) rfl (aK rfl)
 ·rintro ⟨s_21,n_24⟩ ho_ sl_ H_ hp_ hq_
  subst ho_
  refine aO _ hp_ hq_ (au (fB 3 rfl (bX 11 3 rfl rfl (av (aa (vL Log_.enc s_21) ?_)))))
  obtain ⟨r_37,hr_38,hF⟩:=bind_some hF
  refine aC (El hr_38) rfl hb8 rfl rfl rfl rfl wz (aa (.tup [(vL Log_.enc r_37.1),(vI r_37.2)]) (aa (vL Log_.enc r_37.1) (aa (vI r_37.2) (aa (vL Log_.enc r_37.1) (aa (vI r_37.2) (af (aj (aa (vL Log_.enc r_37.1) (aa (vL Beat.enc ([(⟨(⟨#[112,97]⟩:ByteArray),86400000,(w64 (86400000+r_13.1))⟩:Beat),(⟨(⟨#[112,97]⟩:ByteArray),172800000,(w64 (172800000+r_13.1))⟩:Beat)]:List Beat)) ?_)))))))))
  obtain ⟨r_39,hr_40,hF⟩:=bind_some hF
  refine aC (EX hr_40) rfl hb9 rfl rfl rfl rfl wz (aa (.tup [(vL Play.enc r_39.1),(vL eI r_39.2.1),(vI r_39.2.2)]) (aa (vL Play.enc r_39.1) (aa (vL eI r_39.2.1) (aa (vI r_39.2.2) (aa (vL Play.enc r_39.1) (aa (vL eI r_39.2.1) (aa (vI r_39.2.2) (af (aj (aa (vL Play.enc r_39.1) (aB 0 2 il ft jZ nX rfl rfl (.d (.agg (Window.enc (⟨86400000,172800000⟩:Window)))) rfl wz ?_)))))))))))
  obtain ⟨r_41,hr_42,hF⟩:=bind_some hF
  refine aC (GR hr_42) rfl hb10 rfl rfl rfl rfl wz (aa (.tup [(vL Window.enc r_41.1),(vI r_41.2)]) (aa (vL Window.enc r_41.1) (aa (vI r_41.2) (aa (vL Window.enc r_41.1) (aa (vI r_41.2) (af (aj (aa (vL Entry.enc r_3.1) (aB 0 1 il ft uR xL rfl rfl (.d (.agg (Player.enc (⟨(⟨#[112,97]⟩:ByteArray),r_6.1.Screen,r_6.1.Zone,r_6.1.Tags⟩:Player)))) rfl wz (aB 0 2 il ft jZ nX rfl rfl (.d (.agg (Window.enc (⟨86400000,172800000⟩:Window)))) rfl wz ?_))))))))))
  obtain ⟨r_43,hr_44,hF⟩:=bind_some hF
  refine aC (Cn hr_44) rfl hb11 rfl rfl rfl rfl wz (aa (.tup [(vL Window.enc r_43.1),(vI r_43.2)]) (aa (vL Window.enc r_43.1) (aa (vI r_43.2) (aa (vL Window.enc r_43.1) (aa (vI r_43.2) (af (aO (H0:=([(n_2,some (.cells 2 [(vL eI r_13.2.L),(vI r_13.2.f_at)])),(n_9,some (.cells 4 [(vS (⟨#[112,97]⟩:ByteArray)),(vS r_6.1.Screen),(vI r_6.1.Zone),(vL eS r_6.1.Tags)])),(n_10,some (.cells 2 [(vI 86400000),(vI 172800000)])),(n_24,gF 6 Log_.enc s_21)]:Hp)) ([(4,(vL Entry.enc r_3.1)),(5,(.ref n_9 0 0)),(8,(vI r_11.2)),(14,(vI r_37.2)),(15,(vL Play.enc r_39.1)),(16,(vL eI r_39.2.1)),(17,(vI r_39.2.2)),(18,(vL Window.enc r_41.1)),(19,(vI r_41.2)),(20,(vL Window.enc r_43.1)),(21,(vI r_43.2))]:SL_) (by kernel_rfl) (xm (by kernel_rfl)) (au (au ?_)))))))))
  obtain ⟨v_45,h_46,hF⟩:=bind_some hF
  refine aS [(4,(vL Entry.enc r_3.1)),(5,(.ref n_9 0 0)),(15,(vL Play.enc r_39.1)),(144,(vB v_45))] [(n_2,some (.cells 2 [(vL eI r_13.2.L),(vI r_13.2.f_at)])),(n_9,some (.cells 4 [(vS (⟨#[112,97]⟩:ByteArray)),(vS r_6.1.Screen),(vI r_6.1.Zone),(vL eS r_6.1.Tags)])),(n_10,some (.cells 2 [(vI 86400000),(vI 172800000)])),(n_24,gF 6 Log_.enc s_21)] ?_ ?_
  ·refine av (aa (vI r_11.2) (aa (vB (r_11.2 != 0)) ?_))
   rcases ak h_46 with⟨hc_47,h_46⟩|⟨hc_47,h_46⟩
   ·refine aI rfl hc_47 wz (ah (ah (aa (vB true) (aa (vB true) (ah (ah (aa (vB true) (aa (vB true) (ah (ah (aa (vB true) (aa (vB true) (ah (ah (aa (vB true) (aa (vB true) (ah (ah (ah (aa (vB true) (aa (vB true) (ah (ah ?_)))))))))))))))))))))))
    refine ah (ah (aa (vB true) (af ?_)))
    obtain rfl:=ae h_46
    exact cu
   ·refine aI rfl hc_47 wz (aM (vI r_37.2) wa rfl (aM (vB (r_37.2 != 0)) wa rfl (aa (vB (r_37.2 != 0)) ?_)))
    rcases ak h_46 with⟨hc_48,h_46⟩|⟨hc_48,h_46⟩
    ·refine aI rfl hc_48 wz (ah (ah (aa (vB true) (aa (vB true) (ah (ah (aa (vB true) (aa (vB true) (ah (ah (aa (vB true) (aa (vB true) (ah (ah (ah (aa (vB true) (aa (vB true) (ah (ah (ah (ah (aa (vB true) (af ?_)))))))))))))))))))))))
     obtain rfl:=ae h_46
     exact cu
    ·refine aI rfl hc_48 wz (aM (vI r_39.2.2) wa rfl (aM (vB (r_39.2.2 != 0)) wa rfl (aa (vB (r_39.2.2 != 0)) ?_)))
     rcases ak h_46 with⟨hc_49,h_46⟩|⟨hc_49,h_46⟩
     ·refine aI rfl hc_49 wz (ah (ah (aa (vB true) (aa (vB true) (ah (ah (aa (vB true) (aa (vB true) (ah (ah (ah (aa (vB true) (aa (vB true) (ah (ah (ah (ah (aa (vB true) (af ?_)))))))))))))))))))
      obtain rfl:=ae h_46
      exact cu
     ·refine aI rfl hc_49 wz (aM (vI r_41.2) wa rfl (aM (vB (r_41.2 != 0)) wa rfl (aa (vB (r_41.2 != 0)) ?_)))
      rcases ak h_46 with⟨hc_50,h_46⟩|⟨hc_50,h_46⟩
      ·refine aI rfl hc_50 wz (ah (ah (aa (vB true) (aa (vB true) (ah (ah (ah (aa (vB true) (aa (vB true) (ah (ah (ah (ah (aa (vB true) (af ?_)))))))))))))))
       obtain rfl:=ae h_46
       exact cu
      ·refine aI rfl hc_50 wz (aM (vI r_43.2) wa rfl (aM (vB (r_43.2 != 0)) wa rfl (aa (vB (r_43.2 != 0)) ?_)))
       rcases ak h_46 with⟨hc_51,h_46⟩|⟨hc_51,h_46⟩
       ·refine aI rfl hc_51 wz (ah (ah (ah (aa (vB true) (aa (vB true) (ah (ah (ah (ah (aa (vB true) (af ?_)))))))))))
        obtain rfl:=ae h_46
        exact cu
       ·refine aI rfl hc_51 wz (aM (vL eI r_39.2.1) wa rfl (dx w9 rfl wa (aM (vB ((r_39.2.1.length:Int) != 0)) wa rfl (aa (vB ((r_39.2.1.length:Int) != 0)) ?_))))
        rcases ak h_46 with⟨hc_52,h_46⟩|⟨hc_52,h_46⟩
        ·refine aI rfl hc_52 wz (ah (ah (ah (ah (aa (vB true) (af ?_))))))
         obtain rfl:=ae h_46
         exact cu
        ·refine aI rfl hc_52 wz (aM (vL Window.enc r_41.1) wa rfl (aM (vL Window.enc r_43.1) wa rfl ?_))
         obtain ⟨r_53,hr_54,h_46⟩:=bind_some h_46
         refine aC (nH hr_54) rfl hb12 rfl rfl rfl rfl wa (aM (vB (!r_53)) wa rfl (aa (vB (!r_53)) (af ?_)))
         obtain rfl:=ae h_46
         exact cu
  ·rintro ⟨⟩ _ sl_ H_ hp_ hq_
   refine aO _ hp_ hq_ ?_
   rcases ak hF with⟨hc_55,hF⟩|⟨hc_55,hF⟩
   ·refine aA rfl hc_55 (aj (aa (vB false) (af ?_)))
    obtain rfl:=ae hF
    exact aH (aN [(vB false)] ⟨rfl,trivial⟩)
   ·refine ay rfl hc_55 (ax (au (aj (aa (vL Play.enc r_39.1) (dx un49 rfl wz (aa (vI 0) (af ?_)))))))
    obtain ⟨o_64,hj_65,hF⟩:=bind_some hF
    obtain ⟨hn_60,hj_65⟩:=bI hj_65
    refine fH (λ(s_61:Unit)=>[]) (λ(s_61:Unit)=>[(n_2,some (.cells 2 [(vL eI r_13.2.L),(vI r_13.2.f_at)])),(n_9,some (.cells 4 [(vS (⟨#[112,97]⟩:ByteArray)),(vS r_6.1.Screen),(vI r_6.1.Zone),(vL eS r_6.1.Tags)])),(n_10,some (.cells 2 [(vI 86400000),(vI 172800000)])),(n_24,gF 6 Log_.enc s_21)]) (λ(k_56:Nat)=>(λ(s_61:Unit)=>[(4,(vL Entry.enc r_3.1)),(5,(.ref n_9 0 0)),(145,(vL Play.enc r_39.1)),(146,(vI (r_39.1.length:Int))),(147,(vI (k_56:Int)))])) (λk x s=>eU r_3 r_6 k x s) o_64 r_39.1 () hj_65 rfl (aK rfl) ?_ ?_
    ·rintro ⟨k_56,l_57,s_61⟩ ⟨hL_63,hD_59⟩
     dsimp only at hL_63 hD_59
     cases l_57 with
     | nil =>
      obtain rfl:=ae hL_63
      refine aj (aa (vB (decide ((k_56:Int)<(r_39.1.length:Int)))) (af ?_))
      refine au (ay rfl (drop_nil hD_59) (aX ?_))
      exact aV (s_61) rfl rfl (aK rfl)
     | cons x_58 l_57 =>
      obtain ⟨c_,hc_62,hL_63⟩:=bind_some hL_63
      refine aj (aa (vB (decide ((k_56:Int)<(r_39.1.length:Int)))) (af ?_))
      refine au (aA rfl (bO hD_59) (ax ?_))
      unfold eU at hc_62
      refine au (aQ (aj (dW RD rfl rfl (bU hD_59) rfl wz (bK Jp RJ rfl (.d (.agg (Play.enc x_58))) rfl wz (dC 0 (.inl rfl) z58 rfl wz (λn_66=>fA 0 il ft 4 Jp rfl rfl (Play.v x_58) rfl wz (af (aj (aa (vL Entry.enc r_3.1) (aB 0 1 il ft uR xL rfl rfl (.d (.agg (Player.enc (⟨(⟨#[112,97]⟩:ByteArray),r_6.1.Screen,r_6.1.Zone,r_6.1.Tags⟩:Player)))) rfl wz (aJ BZ rfl 2 rfl wz (aB 0 4 il ft sz3 ag3 rfl rfl (vI x_58.At) rfl wz ?_))))))))))))
      obtain ⟨r_67,hr_68,hc_62⟩:=bind_some hc_62
      refine aC (Es hr_68) rfl hb13 rfl rfl rfl rfl wz (aa (.tup [(vS r_67.1),(vB r_67.2.1),(vI r_67.2.2)]) (aa (vS r_67.1) (aa (vB r_67.2.1) (aa (vI r_67.2.2) (aa (vS r_67.1) (aa (vB r_67.2.1) (aa (vI r_67.2.2) (af (au ?_)))))))))
      obtain ⟨v_69,h_70,hc_62⟩:=bind_some hc_62
      refine aS [(4,(vL Entry.enc r_3.1)),(5,(.ref n_9 0 0)),(145,(vL Play.enc r_39.1)),(146,(vI (r_39.1.length:Int))),(147,(vI (k_56:Int))),(171,(vB v_69))] [(n_2,some (.cells 2 [(vL eI r_13.2.L),(vI r_13.2.f_at)])),(n_9,some (.cells 4 [(vS (⟨#[112,97]⟩:ByteArray)),(vS r_6.1.Screen),(vI r_6.1.Zone),(vL eS r_6.1.Tags)])),(n_10,some (.cells 2 [(vI 86400000),(vI 172800000)])),(n_24,gF 6 Log_.enc s_21),(n_66,some (.cells 4 (Play.v x_58)))] ?_ ?_
      ·refine av (aa (vI r_67.2.2) (aa (vB (r_67.2.2 != 0)) ?_))
       rcases ak h_70 with⟨hc_71,h_70⟩|⟨hc_71,h_70⟩
       ·refine aI rfl hc_71 wz (ah (ah (aa (vB true) (aa (vB true) (ah (ah (ah (ah (aa (vB true) (af ?_))))))))))
        obtain rfl:=ae h_70
        exact cu
       ·refine aI rfl hc_71 wz (aM (vB r_67.2.1) wa rfl (aM (vB (!r_67.2.1)) wa rfl (aa (vB (!r_67.2.1)) ?_)))
        rcases ak h_70 with⟨hc_72,h_70⟩|⟨hc_72,h_70⟩
        ·refine aI rfl hc_72 wz (ah (ah (ah (ah (aa (vB true) (af ?_))))))
         obtain rfl:=ae h_70
         exact cu
        ·refine aI rfl hc_72 wz (aM (vS r_67.1) wa rfl (aJ QU rfl 1 rfl wa (aB 0 4 il ft sz9 ag9 rfl rfl (vS x_58.Item) rfl wa (aM (vB (sNe r_67.1 x_58.Item)) wa rfl (aa (vB (sNe r_67.1 x_58.Item)) (af ?_))))))
         obtain rfl:=ae h_70
         exact cu
      ·rintro ⟨⟩ _ sl_ H_ hp_ hq_
       refine aO _ hp_ hq_ ?_
       rcases ak hc_62 with⟨hc_73,hc_62⟩|⟨hc_73,hc_62⟩
       ·refine aA rfl hc_73 (aj (aa (vB false) (af ?_)))
        obtain rfl:=ae hc_62
        obtain rfl:=ae hL_63
        obtain rfl:=ae hF
        exact aH (aN [(vB false)] ⟨rfl,trivial⟩)
       ·refine ay rfl hc_73 (ax (av (fQ (bN hD_59 hn_60) wz rfl (aa (vI ((k_56+1:Nat):Int)) (af ?_)))))
        obtain rfl:=ae hc_62
        exact aY (k_56+1,l_57,()) ⟨hL_63,aW hD_59⟩ (ls_ _) rfl (aK rfl)
    ·rintro s_61 ho_ sl_ H_ hp_ hq_
     subst ho_
     refine aO _ hp_ hq_ (aj ?_)
     obtain ⟨r_74,hr_75,hF⟩:=bind_some hF
     refine aC (zn hr_75) rfl hb14 rfl rfl rfl rfl wz (aa (vB r_74) (af ?_))
     obtain rfl:=ae hF
     exact aH (aN [(vB r_74)] ⟨rfl,trivial⟩)
end Go.Proofs.YtmkljmjhcegapaaGreatDoor.Law

