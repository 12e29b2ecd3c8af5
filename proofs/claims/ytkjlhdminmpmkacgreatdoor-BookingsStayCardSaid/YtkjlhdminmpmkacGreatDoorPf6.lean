/-
 The machine computes these plain functions (written by a program of ours).
-/
import Derived.Test.YtkjlhdminmpmkacGreatDoorFacts
import Derived.Test.YtkjlhdminmpmkacGreatDoorDefs
import Derived.Test.YtkjlhdminmpmkacGreatDoorPf5
import Derived.Test.YtkjlhdminmpmkacGreatDoorShelf
open Go Go.Eng Go.Proofs
namespace Go.Proofs.YtkjlhdminmpmkacGreatDoor.Law
set_option maxRecDepth 100000
set_option linter.unusedVariables false
set_option maxHeartbeats 1000000
theorem Dc {t_1:Window} {wv_2:Window} {r:Window} (hF:w9 t_1 wv_2=some r) :
  FnM Tryz.prog 68 [(.d (.agg (Window.enc t_1))),(.d (.agg (Window.enc wv_2)))] [] (.d (.agg (Window.enc r))) []:=by
 refine FnM.of_wH ⟨Tryz.prog,16,[],[]⟩ rfl Tryz.func68 rfl rfl (lb_ rfl) (by kernel_rfl) ?_
 unfold w9 at hF
 refine ai (gz 0 (.inl rfl) [(vI t_1.From),(vI t_1.To)] rfl rfl wz (λn_3=>gz 0 (.inl rfl) [(vI wv_2.From),(vI wv_2.To)] rfl rfl wz (λn_4=>cz 0 (.inl rfl) z46 rfl wz (λn_5=>af (ai (aG mF rfl 0 rfl wz (aC 0 0 il ft sz3 ag3 rfl rfl (vI t_1.From) rfl wz (aG mF rfl 0 rfl wz (aC 0 1 il ft sz3 ag3 rfl rfl (vI wv_2.From) rfl wz (tF (vI (vE t_1.From wv_2.From)) rfl (.inr rfl) wz (aG mq rfl 1 rfl wz (aC 0 0 il ft sz3 ag3 rfl rfl (vI t_1.To) rfl wz (aG mq rfl 1 rfl wz (aC 0 1 il ft sz3 ag3 rfl rfl (vI wv_2.To) rfl wz (tF (vI (zS t_1.To wv_2.To)) rfl (.inl rfl) wz (aJ (.d (.agg (Window.enc (⟨(vE t_1.From wv_2.From),(zS t_1.To wv_2.To)⟩:Window)))) wz (by kernel_rfl) (eB 0 il ft 2 xC rfl rfl [(vI (vE t_1.From wv_2.From)),(vI (zS t_1.To wv_2.To))] rfl wz (af ?_))))))))))))))))))
 obtain rfl:=ae hF
 exact aA (aL [(.d (.agg (Window.enc (⟨(vE t_1.From wv_2.From),(zS t_1.To wv_2.To)⟩:Window))))] ⟨⟨2,_,_,_,_,_,_,_,rfl,rfl,xC,Dj,rfl⟩,trivial⟩)
theorem zL {e_1:Entry} {zone_2:Int} {wv_3:Window} {r:(List Window)} (hF:mI e_1 zone_2 wv_3=some r) :
  FnM Tryz.prog 67 [(.d (.agg (Entry.enc e_1))),(vI zone_2),(.d (.agg (Window.enc wv_3)))] [] (gV (av 0) 2 r) (([]:List Box).map some++gO 2 Window.enc r):=by
 refine FnM.of_wH ⟨Tryz.prog,72,[],[]⟩ rfl Tryz.func67 rfl rfl (lb_ rfl) (by kernel_rfl) ?_
 unfold mI at hF
 refine ai (gz 0 (.inl rfl) (Entry.v e_1) rfl rfl wz (λn_4=>gz 0 (.inl rfl) [(vI wv_3.From),(vI wv_3.To)] rfl rfl wz (λn_5=>aa .nil (af (ai (aa .nil (af (ak (ak ?_)))))))))
 obtain ⟨v_6,h_7,hF⟩:=bind_some hF
 refine aS [(1,(vI zone_2)),(3,(.ref n_4 0 0)),(5,(.ref n_5 0 0)),(7,.nil),(20,(vB v_6))] [(n_4,some (.cells 13 (Entry.v e_1))),(n_5,some (.cells 2 [(vI wv_3.From),(vI wv_3.To)]))] ?_ ?_
 ·refine au (aG pl98_12 rfl 12 rfl wz (aC 0 0 il ft sz4 ag4 rfl rfl (vB e_1.Gone) rfl wz ?_))
  rcases aj h_7 with⟨hc_8,h_7⟩|⟨hc_8,h_7⟩
  ·refine aD rfl hc_8 wz (ah (ah (ah (ah (ah (aa (vB true) (af ?_)))))))
   obtain rfl:=ae h_7
   exact cu
  ·refine aD rfl hc_8 wz (aG mF rfl 0 rfl wa (aC 0 1 il ft sz3 ag3 rfl rfl (vI wv_3.From) rfl wa (aG mq rfl 1 rfl wa (aC 0 1 il ft sz3 ag3 rfl rfl (vI wv_3.To) rfl wa (aJ (vB (decide (wv_3.From>=wv_3.To))) wa rfl (aa (vB (decide (wv_3.From>=wv_3.To))) (af ?_)))))))
   obtain rfl:=ae h_7
   exact cu
 ·rintro ⟨⟩ _ sl_ H_ hp_ hq_
  refine aO _ hp_ hq_ ?_
  rcases aj hF with⟨hc_9,hF⟩|⟨hc_9,hF⟩
  ·refine aB rfl hc_9 (ai (aa .nil (af (jv (λn_10 => ?_)))))
   obtain rfl:=ae hF
   exact aA (Ma (outs:=([]:List Box)) (.inr rfl) 2 rfl rfl rfl (by kernel_rfl) (by kernel_rfl))
  ·refine ay rfl hc_9 (ax (ai (aG mF rfl 0 rfl wz (aC 0 1 il ft sz3 ag3 rfl rfl (vI wv_3.From) rfl wz (aa (vI zone_2) (aa (vI (w64 (zone_2*60000))) (aa (vI (w64 (wv_3.From+(w64 (zone_2*60000))))) (aa (vI (w64 ((w64 (wv_3.From+(w64 (zone_2*60000)))).tdiv 86400000))) (aa (vI (w64 ((w64 ((w64 (wv_3.From+(w64 (zone_2*60000)))).tdiv 86400000))-2))) (aa (vI (w64 ((w64 ((w64 (wv_3.From+(w64 (zone_2*60000)))).tdiv 86400000))-2))) (af (ai (aG mq rfl 1 rfl wz (aC 0 1 il ft sz3 ag3 rfl rfl (vI wv_3.To) rfl wz (aa (vI zone_2) (aa (vI (w64 (zone_2*60000))) (aa (vI (w64 (wv_3.To+(w64 (zone_2*60000))))) (aa (vI (w64 ((w64 (wv_3.To+(w64 (zone_2*60000)))).tdiv 86400000))) (aa (vI (w64 ((w64 ((w64 (wv_3.To+(w64 (zone_2*60000)))).tdiv 86400000))+1))) (aa (vI (w64 ((w64 ((w64 (wv_3.To+(w64 (zone_2*60000)))).tdiv 86400000))+1))) (af (ak (ai ?_)))))))))))))))))))))))
   refine aa (vI (w64 ((w64 ((w64 (wv_3.From+(w64 (zone_2*60000)))).tdiv 86400000))-2))) (aG Ik rfl 3 rfl wz (aC 0 0 il ft sz3 ag3 rfl rfl (vI e_1.First) rfl wz (tF (vI (vE (w64 ((w64 ((w64 (wv_3.From+(w64 (zone_2*60000)))).tdiv 86400000))-2)) e_1.First)) rfl (.inr rfl) wz (aa (vI (vE (w64 ((w64 ((w64 (wv_3.From+(w64 (zone_2*60000)))).tdiv 86400000))-2)) e_1.First)) (af (jv (λn_17 => ?_)))))))
   obtain ⟨o_22,hj_23,hF⟩:=bind_some hF
   obtain ⟨nq_41,hj_23⟩:=dR hj_23
   refine D8 (σ:=(List Window)×Int) (N:=Nm) (λp=>(λ(s_16:(List Window)×Int) (n_19:Nm)=>([(7,(gV n_19 2 s_16.1))]:SL_)) p.1 p.2) (λp=>(λ(s_16:(List Window)×Int) (n_19:Nm)=>([(n_4,some (.cells 13 (Entry.v e_1))),(n_5,some (.cells 2 [(vI wv_3.From),(vI wv_3.To)])),(n_19,gB 2 Window.enc s_16.1)]:Hp)) p.1 p.2) (λ(k_11:Nat)=>(λp=>(λ(s_16:(List Window)×Int) (n_19:Nm)=>([(1,(vI zone_2)),(3,(.ref n_4 0 0)),(5,(.ref n_5 0 0)),(7,(gV n_19 2 s_16.1)),(9,(vI (w64 ((w64 ((w64 (wv_3.To+(w64 (zone_2*60000)))).tdiv 86400000))+1)))),(10,(vI s_16.2))]:SL_)) p.1 p.2)) (λs=>jR wv_3 zone_2 e_1 s) o_22 nq_41 ((([]:List Window),(vE (w64 ((w64 ((w64 (wv_3.From+(w64 (zone_2*60000)))).tdiv 86400000))-2)) e_1.First)),n_17) hj_23 rfl (aK rfl) ?_ ?_
   ·rintro ⟨k_11,s_16,n_19⟩ hL_21
    dsimp only at hL_21
    cases k_11 with
    | zero=>cases hL_21
    | succ k_11 =>
     obtain ⟨c_,hc_20,hL_21⟩:=bind_some hL_21
     unfold jR at hc_20
     refine ak (ai (aa (vI s_16.2) (aa (vI (w64 ((w64 ((w64 (wv_3.To+(w64 (zone_2*60000)))).tdiv 86400000))+1))) (aG IL rfl 4 rfl wz (aC 0 0 il ft sz3 ag3 rfl rfl (vI e_1.Last) rfl wz (tF (vI (zS (w64 ((w64 ((w64 (wv_3.To+(w64 (zone_2*60000)))).tdiv 86400000))+1)) e_1.Last)) rfl (.inl rfl) wz (aa (vB (decide (s_16.2<=(zS (w64 ((w64 ((w64 (wv_3.To+(w64 (zone_2*60000)))).tdiv 86400000))+1)) e_1.Last)))) (af ?_))))))))
     rcases aj hc_20 with⟨hc_24,hc_20⟩|⟨hc_24,hc_20⟩
     ·refine aB rfl hc_24 (ax (ak (aM (ak (ai (aC 0 0 il ft KY Ov rfl rfl (.d (.agg (Entry.enc e_1))) rfl wz (aa (vI s_16.2) ?_)))))))
      obtain ⟨r_25,hr_26,hc_20⟩:=bind_some hc_20
      refine aF (Bp hr_26) rfl hb88 rfl rfl rfl rfl wz (aa (vB (!r_25)) (af ?_))
      rcases aj hc_20 with⟨hc_27,hc_20⟩|⟨hc_27,hc_20⟩
      ·refine aB rfl hc_27 (aW (au (aa (vI s_16.2) (aa (vI (w64 (s_16.2+1))) (aa (vI (w64 (s_16.2+1))) (af ?_))))))
       obtain rfl:=ae hc_20
       exact aV (k_11,(s_16.1,(w64 (s_16.2+1))),n_19) hL_21 (ls_ _) rfl (aK rfl)
      ·refine ay rfl hc_27 (ax (ai (aC 0 0 il ft KY Ov rfl rfl (.d (.agg (Entry.enc e_1))) rfl wz (aa (vI zone_2) (aa (vI s_16.2) ?_)))))
       obtain ⟨r_28,hr_29,hc_20⟩:=bind_some hc_20
       refine aF (zQ hr_29) rfl hb89 rfl rfl rfl rfl wz (cz 0 (.inl rfl) z46 rfl wz (λn_30=>eB 0 il ft 3 xC rfl rfl [(vI r_28.From),(vI r_28.To)] rfl wz (af (ak ?_))))
       obtain ⟨v_31,h_32,hc_20⟩:=bind_some hc_20
       refine aS [(1,(vI zone_2)),(3,(.ref n_4 0 0)),(5,(.ref n_5 0 0)),(7,(gV n_19 2 s_16.1)),(9,(vI (w64 ((w64 ((w64 (wv_3.To+(w64 (zone_2*60000)))).tdiv 86400000))+1)))),(10,(vI s_16.2)),(11,(.ref n_30 0 0)),(66,(vB v_31))] [(n_4,some (.cells 13 (Entry.v e_1))),(n_5,some (.cells 2 [(vI wv_3.From),(vI wv_3.To)])),(n_19,gB 2 Window.enc s_16.1),(n_30,some (.cells 2 [(vI r_28.From),(vI r_28.To)]))] ?_ ?_
       ·refine au (aG mF rfl 0 rfl wz (aC 0 3 il ft sz3 ag3 rfl rfl (vI r_28.From) rfl wz (aG mq rfl 1 rfl wz (aC 0 1 il ft sz3 ag3 rfl rfl (vI wv_3.To) rfl wz (aa (vB (decide (r_28.From<wv_3.To))) ?_)))))
        rcases aj h_32 with⟨hc_33,h_32⟩|⟨hc_33,h_32⟩
        ·refine aD rfl hc_33 wz (aG mq rfl 1 rfl wa (aC 0 3 il ft sz3 ag3 rfl rfl (vI r_28.To) rfl wa (aG mF rfl 0 rfl wa (aC 0 1 il ft sz3 ag3 rfl rfl (vI wv_3.From) rfl wa (aJ (vB (decide (r_28.To>wv_3.From))) wa rfl (aa (vB (decide (r_28.To>wv_3.From))) (af ?_)))))))
         obtain rfl:=ae h_32
         exact cu
        ·refine aD rfl hc_33 wz (ah (ah (ah (ah (ah (aa (vB false) (af ?_)))))))
         obtain rfl:=ae h_32
         exact cu
       ·rintro ⟨⟩ _ sl_ H_ hp_ hq_
        refine aO _ hp_ hq_ ?_
        obtain ⟨v_34,h_35,hc_20⟩:=bind_some hc_20
        refine ko (β:=Nm) (λ(n_36:Nm)=>([(1,(vI zone_2)),(3,(.ref n_4 0 0)),(5,(.ref n_5 0 0)),(7,(gV n_36 2 v_34)),(9,(vI (w64 ((w64 ((w64 (wv_3.To+(w64 (zone_2*60000)))).tdiv 86400000))+1)))),(10,(vI s_16.2))]:SL_)) (λ(n_36:Nm)=>([(n_4,some (.cells 13 (Entry.v e_1))),(n_5,some (.cells 2 [(vI wv_3.From),(vI wv_3.To)])),(n_36,gB 2 Window.enc v_34),(n_30,some (.cells 2 [(vI r_28.From),(vI r_28.To)]))]:Hp)) (λ_=>True) ?_ ?_
        ·rcases aj h_35 with⟨hc_37,h_35⟩|⟨hc_37,h_35⟩
         ·refine aB rfl hc_37 (au (aa (gV n_19 2 s_16.1) (aC 0 3 il ft xC Dj rfl rfl (.d (.agg (Window.enc r_28))) rfl wz (dU (([r_28]:List Window).map Window.enc) es94 ez94 rfl rfl rfl rfl rfl wz ?_))))
          obtain ⟨a_38,hz_39,h_35⟩:=bind_some h_35
          refine kT 0 il ft (i:=2) el94 el94 xC z46 rfl (by decide) by46 (by decide) (λ_=>rfl) rfl rfl rfl hz_39 wz (λn_40=>aa (gV n_40 2 a_38) (af ?_))
          obtain rfl:=ae h_35
          exact aU n_40 trivial rfl (aK rfl)
         ·refine ay rfl hc_37 (ax ?_)
          obtain rfl:=ae h_35
          exact aU n_19 trivial rfl (aK rfl)
        ·rintro n_36 _ sl_ H_ hp_ hq_
         refine aO _ hp_ hq_ (au (aa (vI s_16.2) (aa (vI (w64 (s_16.2+1))) (aa (vI (w64 (s_16.2+1))) (af ?_)))))
         obtain rfl:=ae hc_20
         exact aV (k_11,(v_34,(w64 (s_16.2+1))),n_36) hL_21 (ls_ _) rfl (aK rfl)
     ·refine ay rfl hc_24 (aW ?_)
      obtain rfl:=ae hc_20
      obtain rfl:=ae hL_21
      exact aU ((s_16.1,s_16.2),n_19) rfl rfl (aK rfl)
   ·rintro ⟨s_16,n_19⟩ ho_ sl_ H_ hp_ hq_
    subst ho_
    refine aO _ hp_ hq_ (ai (aa (gV n_19 2 s_16.1) (aa (gV n_19 2 s_16.1) (af ?_))))
    obtain rfl:=ae hF
    exact aA (Ma (outs:=([]:List Box)) (.inr rfl) 2 rfl rfl rfl (by kernel_rfl) (by kernel_rfl))
theorem Aq {e_1:Entry} {zone_2:Int} {wv_3:Window} {r:(List Window)×Int} (hF:mD e_1 zone_2 wv_3=some r) :
  FnM Tryz.prog 43 [(.d (.agg (Entry.enc e_1))),(vI zone_2),(.d (.agg (Window.enc wv_3)))] [] (.tup [(vL Window.enc r.1),(vI r.2)]) []:=by
 refine FnM.of_wH ⟨Tryz.prog,45,[],[]⟩ rfl Tryz.func43 rfl rfl (lb_ rfl) (by kernel_rfl) ?_
 unfold mD at hF
 refine ai (gz 0 (.inl rfl) (Entry.v e_1) rfl rfl wz (λn_4=>gz 0 (.inl rfl) [(vI wv_3.From),(vI wv_3.To)] rfl rfl wz (λn_5=>aa .nil (aa (vI 0) (af (ak (ai (aC 0 0 il ft KY Ov rfl rfl (.d (.agg (Entry.enc e_1))) rfl wz (dU (([e_1]:List Entry).map Entry.enc) Pz ez129 rfl rfl rfl rfl rfl wz ?_)))))))))
 obtain ⟨r_6,hr_7,hF⟩:=bind_some hF
 refine aF (u7 hr_7) rfl hb65 rfl rfl rfl rfl wz (aa (vI r_6) (af (ai (aa (vI r_6) (aa (vB (r_6 != 0)) (af ?_))))))
 rcases aj hF with⟨hc_8,hF⟩|⟨hc_8,hF⟩
 ·refine aB rfl hc_8 (ai (aa (vI r_6) (aa .nil (aa (vI r_6) (af ?_)))))
  obtain rfl:=ae hF
  exact aA (aL [.nil,(vI r_6)] ⟨rfl,⟨rfl,trivial⟩⟩)
 ·refine ay rfl hc_8 (ax (ak (ai (aa (vI zone_2) ?_))))
  obtain ⟨r_9,hr_10,hF⟩:=bind_some hF
  refine aF (bA hr_10) rfl rC rfl rfl rfl rfl wz (af ?_)
  rcases aj hF with⟨hc_11,hF⟩|⟨hc_11,hF⟩
  ·refine aB rfl hc_11 (ai (aa .nil (aa (vI 1) (af ?_))))
   obtain rfl:=ae hF
   exact aA (aL [.nil,(vI 1)] ⟨rfl,⟨rfl,trivial⟩⟩)
  ·refine ay rfl hc_11 (ax (ak (ai (aC 0 1 il ft xC Dj rfl rfl (.d (.agg (Window.enc wv_3))) rfl wz ?_))))
   obtain ⟨r_12,hr_13,hF⟩:=bind_some hF
   refine aF (vT hr_13) rfl hb66 rfl rfl rfl rfl wz (aa (vI r_12) (af (ai (aa (vI r_12) (aa (vB (r_12 != 0)) (af ?_))))))
   rcases aj hF with⟨hc_14,hF⟩|⟨hc_14,hF⟩
   ·refine aB rfl hc_14 (ai (aa (vI r_12) (aa .nil (aa (vI r_12) (af ?_)))))
    obtain rfl:=ae hF
    exact aA (aL [.nil,(vI r_12)] ⟨rfl,⟨rfl,trivial⟩⟩)
   ·refine ay rfl hc_14 (ax (ai (aC 0 0 il ft KY Ov rfl rfl (.d (.agg (Entry.enc e_1))) rfl wz (aa (vI zone_2) (aC 0 1 il ft xC Dj rfl rfl (.d (.agg (Window.enc wv_3))) rfl wz ?_)))))
    obtain ⟨r_15,hr_16,hF⟩:=bind_some hF
    refine Ip [] (zL hr_16) rfl hb67 rfl (by kernel_rfl) (by kernel_rfl) (by kernel_rfl) (by kernel_rfl) (by kernel_rfl) rfl (by decide) (by kernel_rfl) wz ([(n_4,some (.cells 13 (Entry.v e_1))),(n_5,some (.cells 2 [(vI wv_3.From),(vI wv_3.To)]))]:Hp) (λ_=>by kernel_rfl) (λn_18=>aa (gV n_18 2 r_15) (af (ak (ai (aa (gV n_18 2 r_15) (IB un94 rfl wz (aa (vI 0) (af ?_))))))))
    obtain ⟨o_27,hj_28,hF⟩:=bind_some hF
    obtain ⟨hn_23,hj_28⟩:=aY hj_28
    refine bN (λ(s_24:List Window)=>[(10,(gV n_18 2 s_24))]) (λ(s_24:List Window)=>[(n_4,some (.cells 13 (Entry.v e_1))),(n_5,some (.cells 2 [(vI wv_3.From),(vI wv_3.To)])),(n_18,gB 2 Window.enc s_24)]) (λ(k_19:Nat)=>(λ(s_24:List Window)=>[(5,(.ref n_5 0 0)),(10,(gV n_18 2 s_24)),(30,(gV n_18 2 s_24)),(31,(vI (r_15.length:Int))),(32,(vI (k_19:Int)))])) (λk x s=>ma wv_3 k x s) o_27 (List.range ((r_15.length:Int)).toNat) r_15 hj_28 rfl (aK rfl) ?_ ?_
    ·rintro ⟨k_19,l_20,s_24⟩ ⟨hL_26,hD_22⟩
     dsimp only at hL_26 hD_22
     cases l_20 with
     | nil =>
      obtain rfl:=ae hL_26
      refine ai (aa (vB (decide ((k_19:Int)<(r_15.length:Int)))) (af ?_))
      refine ak (ay rfl (oV hD_22) (aW ?_))
      exact aU (s_24) rfl rfl (aK rfl)
     | cons x_21 l_20 =>
      obtain ⟨c_,hc_25,hL_26⟩:=bind_some hL_26
      refine ai (aa (vB (decide ((k_19:Int)<(r_15.length:Int)))) (af ?_))
      refine ak (aB rfl (mP hD_22) (ax ?_))
      unfold ma at hc_25
      refine ak (aM (ai (aa (vI (k_19:Int)) ?_)))
      obtain ⟨_,hi_29,hc_25⟩:=bind_some hc_25
      refine jG es94 rfl rfl (gp hi_29) (dK hi_29) wz ?_
      obtain ⟨e_30,hy_31,hc_25⟩:=bind_some hc_25
      refine uh 0 2 il ft xC Dj rfl rfl hy_31 (.d (.agg (Window.enc e_30))) rfl wz (cz 0 (.inl rfl) z46 rfl wz (λn_32=>aa (vI (k_19:Int)) (eB 0 il ft 3 xC rfl rfl [(vI e_30.From),(vI e_30.To)] rfl wz (af (au (aa (gV n_18 2 s_24) (aa (vI (k_19:Int)) (aC 0 3 il ft xC Dj rfl rfl (.d (.agg (Window.enc e_30))) rfl wz (aC 0 1 il ft xC Dj rfl rfl (.d (.agg (Window.enc wv_3))) rfl wz ?_)))))))))
      obtain ⟨r_33,hr_34,hc_25⟩:=bind_some hc_25
      refine aF (Dc hr_34) rfl hb68 rfl rfl rfl rfl wz ?_
      obtain ⟨_,hi_35,hc_25⟩:=bind_some hc_25
      refine jG es94 rfl rfl (gp hi_35) (dK hi_35) wz ?_
      obtain ⟨e_36,hy_37,hc_25⟩:=bind_some hc_25
      refine wI 0 il ft 2 xC rfl rfl hy_37 r_33 rfl wz (gG (v':=(gV n_18 2 (s_24.set (0+((k_19:Int)).toNat) r_33))) 10 rfl (jE (by simp)) (gG (v':=(gV n_18 2 (s_24.set (0+((k_19:Int)).toNat) r_33))) 30 rfl (jE (by simp)) (gG (v':=(gV n_18 2 (s_24.set (0+((k_19:Int)).toNat) r_33))) 37 rfl (jE (by simp)) (af (au (dB (oO hD_22 hn_23) wz rfl (aa (vI ((k_19+1:Nat):Int)) (af ?_))))))))
      obtain rfl:=ae hc_25
      exact aV (k_19+1,l_20,(s_24.set (0+((k_19:Int)).toNat) r_33)) ⟨hL_26,aR hD_22⟩ (ls_ _) rfl (aK rfl)
    ·rintro s_24 ho_ sl_ H_ hp_ hq_
     subst ho_
     refine aO _ hp_ hq_ (ai (aa (gV n_18 2 s_24) (aa (gV n_18 2 s_24) (aa (vI 0) (af (iQ 2 rfl (fF 6 2 rfl rfl (fF 10 2 rfl rfl (fF 44 2 rfl rfl ?_)))))))))
     obtain rfl:=ae hF
     exact aA (aL [(vL Window.enc s_24),(vI 0)] ⟨rfl,⟨rfl,trivial⟩⟩)
theorem Fq {c_1:Campaign} {atv_2:Int} {r:Int×Int} (hF:qK c_1 atv_2=some r) :
  FnM Tryz.prog 44 [(.d (.agg (Campaign.enc c_1))),(vI atv_2)] [] (.tup [(vI r.1),(vI r.2)]) []:=by
 refine FnM.of_wH ⟨Tryz.prog,19,[],[]⟩ rfl Tryz.func44 rfl rfl (lb_ rfl) (by kernel_rfl) ?_
 unfold qK at hF
 refine ai (gz 0 (.inl rfl) (Campaign.v c_1) rfl rfl wz (λn_3=>aa (vI 0) (aa (vI 0) (af (ak (ai (aC 0 0 il ft oD vG rfl rfl (.d (.agg (Campaign.enc c_1))) rfl wz (dU (([c_1]:List Campaign).map Campaign.enc) Am Oz rfl rfl rfl rfl rfl wz ?_))))))))
 obtain ⟨r_4,hr_5,hF⟩:=bind_some hF
 refine aF (gK hr_5) rfl hb35 rfl rfl rfl rfl wz (aa (vI r_4) (af (ai (aa (vI r_4) (aa (vB (r_4 != 0)) (af ?_))))))
 rcases aj hF with⟨hc_6,hF⟩|⟨hc_6,hF⟩
 ·refine aB rfl hc_6 (ai (aa (vI r_4) (aa (vI 0) (aa (vI r_4) (af ?_)))))
  obtain rfl:=ae hF
  exact aA (aL [(vI 0),(vI r_4)] ⟨rfl,⟨rfl,trivial⟩⟩)
 ·refine ay rfl hc_6 (ax (ak (ai (aa (vI atv_2) ?_))))
  obtain ⟨r_7,hr_8,hF⟩:=bind_some hF
  refine aF (fJ hr_8) rfl IU rfl rfl rfl rfl wz (aa (vB (!r_7)) (af ?_))
  rcases aj hF with⟨hc_9,hF⟩|⟨hc_9,hF⟩
  ·refine aB rfl hc_9 (ai (aa (vI 0) (aa (vI 1) (af ?_))))
   obtain rfl:=ae hF
   exact aA (aL [(vI 0),(vI 1)] ⟨rfl,⟨rfl,trivial⟩⟩)
  ·refine ay rfl hc_9 (ax (ai (aC 0 0 il ft oD vG rfl rfl (.d (.agg (Campaign.enc c_1))) rfl wz (aa (vI atv_2) ?_))))
   obtain ⟨r_10,hr_11,hF⟩:=bind_some hF
   refine aF (xV hr_11) rfl hb58 rfl rfl rfl rfl wz (aa (vI r_10) (aa (vI 0) (af ?_)))
   obtain rfl:=ae hF
   exact aA (aL [(vI r_10),(vI 0)] ⟨rfl,⟨rfl,trivial⟩⟩)
theorem o8 {a_1:ByteArray} {b_2:ByteArray} {r:Int} (hF:gY a_1 b_2=some r) :
  FnM Tryz.prog 153 [(vS a_1),(vS b_2)] [] (vI r) []:=by
 refine FnM.of_wH ⟨Tryz.prog,8,[],[]⟩ rfl Tryz.func153 rfl rfl (lb_ rfl) (by kernel_rfl) ?_
 unfold gY at hF
 refine ai (aa (vI 0) (af (ai (aa (vS a_1) (aa (vS b_2) (h_ext (OD (f:=165) Tryz.func165 rfl rfl (by kernel_rfl) (by kernel_rfl) _ _) rfl nb165 rfl wz (aa (vI (Pd a_1 b_2)) (af ?_))))))))
 obtain rfl:=ae hF
 exact aA (aL [(vI (Pd a_1 b_2))] ⟨rfl,trivial⟩)
theorem sO {a_1:ByteArray} {b_2:ByteArray} {r:Int} (hF:strings_Compare a_1 b_2=some r) :
  FnM Tryz.prog 131 [(vS a_1),(vS b_2)] [] (vI r) []:=by
 refine FnM.of_wH ⟨Tryz.prog,8,[],[]⟩ rfl Tryz.func131 rfl rfl (lb_ rfl) (by kernel_rfl) ?_
 unfold strings_Compare at hF
 refine ai (aa (vI 0) (af (ai (aa (vS a_1) (aa (vS b_2) ?_)))))
 obtain ⟨r_3,hr_4,hF⟩:=bind_some hF
 refine aF (o8 hr_4) rfl hb153 rfl rfl rfl rfl wz (aa (vI r_3) (af ?_))
 obtain rfl:=ae hF
 exact aA (aL [(vI r_3)] ⟨rfl,trivial⟩)
theorem tL {x_1:Int} {y_2:Int} {r:Int} (hF:cmp_Compare_int x_1 y_2=some r) :
  FnM Tryz.prog 132 [(vI x_1),(vI y_2)] [] (vI r) []:=by
 refine FnM.of_wH ⟨Tryz.prog,20,[],[]⟩ rfl Tryz.func132 rfl rfl (lb_ rfl) (by kernel_rfl) ?_
 unfold cmp_Compare_int at hF
 refine ai (aa (vI 0) (af (ai (aa (vI x_1) ?_))))
 obtain ⟨r_3,hr_4,hF⟩:=bind_some hF
 refine aF (nz hr_4) rfl Na rfl rfl rfl rfl wz (aa (vB r_3) (af (ai (aa (vI y_2) ?_))))
 obtain ⟨r_5,hr_6,hF⟩:=bind_some hF
 refine aF (nz hr_6) rfl Na rfl rfl rfl rfl wz (aa (vB r_5) (af (ak (ai (aa (vB r_3) (af ?_))))))
 rcases aj hF with⟨hc_7,hF⟩|⟨hc_7,hF⟩
 ·refine aB rfl hc_7 (ak (ai (aa (vB r_5) (af ?_))))
  rcases aj hF with⟨hc_8,hF⟩|⟨hc_8,hF⟩
  ·refine aB rfl hc_8 (ai (aa (vI 0) (af ?_)))
   obtain rfl:=ae hF
   exact aA (aL [(vI 0)] ⟨rfl,trivial⟩)
  ·refine ay rfl hc_8 (ax (ai (aa (vI (-1)) (af ?_))))
   obtain rfl:=ae hF
   exact aA (aL [(vI (-1))] ⟨rfl,trivial⟩)
 ·refine ay rfl hc_7 (ax (ak (ai (aa (vB r_5) (af ?_)))))
  rcases aj hF with⟨hc_9,hF⟩|⟨hc_9,hF⟩
  ·refine aB rfl hc_9 (ai (aa (vI 1) (af ?_)))
   obtain rfl:=ae hF
   exact aA (aL [(vI 1)] ⟨rfl,trivial⟩)
  ·refine ay rfl hc_9 (ax (ak (ai (aa (vI x_1) (aa (vI y_2) (aa (vB (decide (x_1<y_2))) (af ?_)))))))
   rcases aj hF with⟨hc_10,hF⟩|⟨hc_10,hF⟩
   ·refine aB rfl hc_10 (ai (aa (vI (-1)) (af ?_)))
    obtain rfl:=ae hF
    exact aA (aL [(vI (-1))] ⟨rfl,trivial⟩)
   ·refine ay rfl hc_10 (ax (ak (ai (aa (vI x_1) (aa (vI y_2) (aa (vB (decide (x_1>y_2))) (af ?_)))))))
    rcases aj hF with⟨hc_11,hF⟩|⟨hc_11,hF⟩
    ·refine aB rfl hc_11 (ai (aa (vI 1) (af ?_)))
     obtain rfl:=ae hF
     exact aA (aL [(vI 1)] ⟨rfl,trivial⟩)
    ·refine ay rfl hc_11 (ax (ai (aa (vI 0) (af ?_))))
     obtain rfl:=ae hF
     exact aA (aL [(vI 0)] ⟨rfl,trivial⟩)
theorem zl {vals_1:(List Int)} {r:Int} (hF:wD vals_1=some r) :
  FnM Tryz.prog 130 [(vL eI vals_1)] [] (vI r) []:=by
 refine FnM.of_wH ⟨Tryz.prog,18,[],[]⟩ rfl Tryz.func130 rfl rfl (lb_ rfl) (by kernel_rfl) ?_
 unfold wD at hF
 refine ai (aa (vI 0) (af (ai (aa (vI 0) (af (ak (ai (aa (vL eI vals_1) (bH uT rfl wz (aa (vI 0) (af ?_)))))))))))
 obtain ⟨o_10,hj_11,hF⟩:=bind_some hF
 obtain ⟨hn_6,hj_11⟩:=aY hj_11
 refine bN (λ(s_7:Unit)=>[(3,(vI 0))]) (λ(s_7:Unit)=>[]) (λ(k_2:Nat)=>(λ(s_7:Unit)=>[(3,(vI 0)),(6,(vL eI vals_1)),(7,(vI (vals_1.length:Int))),(8,(vI (k_2:Int)))])) (λk x s=>uQ k x s) o_10 vals_1 () hj_11 rfl (aK rfl) ?_ ?_
 ·rintro ⟨k_2,l_3,s_7⟩ ⟨hL_9,hD_5⟩
  dsimp only at hL_9 hD_5
  cases l_3 with
  | nil =>
   obtain rfl:=ae hL_9
   refine ai (aa (vB (decide ((k_2:Int)<(vals_1.length:Int)))) (af ?_))
   refine ak (ay rfl (drop_nil hD_5) (aW ?_))
   exact aU (s_7) rfl rfl (aK rfl)
  | cons x_4 l_3 =>
   obtain ⟨c_,hc_8,hL_9⟩:=bind_some hL_9
   refine ai (aa (vB (decide ((k_2:Int)<(vals_1.length:Int)))) (af ?_))
   refine ak (aB rfl (bu hD_5) (ax ?_))
   unfold uQ at hc_8
   refine ak (aM (ai (dC gq rfl rfl (bD hD_5) rfl wz (bK sz3 ag3 rfl (vI x_4) rfl wz (aa (vI x_4) (af (ai (aa (vI x_4) (aa (vI 0) (aa (vB (x_4 != 0)) (af ?_)))))))))))
   rcases aj hc_8 with⟨hc_12,hc_8⟩|⟨hc_12,hc_8⟩
   ·refine aB rfl hc_12 (ai (aa (vI x_4) (aa (vI x_4) (af ?_))))
    obtain rfl:=ae hc_8
    obtain rfl:=ae hL_9
    obtain rfl:=ae hF
    exact aA (aL [(vI x_4)] ⟨rfl,trivial⟩)
   ·refine ay rfl hc_12 (ax (au (dB (bv hD_5 hn_6) wz rfl (aa (vI ((k_2+1:Nat):Int)) (af ?_)))))
    obtain rfl:=ae hc_8
    exact aV (k_2+1,l_3,()) ⟨hL_9,aR hD_5⟩ (ls_ _) rfl (aK rfl)
 ·rintro s_7 ho_ sl_ H_ hp_ hq_
  subst ho_
  refine aO _ hp_ hq_ (ai (aa (vI 0) (aa (vI 0) (af ?_))))
  obtain rfl:=ae hF
  exact aA (aL [(vI 0)] ⟨rfl,trivial⟩)
theorem xD {a_1:Beat} {b_2:Beat} {r:Int} (hF:lg a_1 b_2=some r) :
  FnM Tryz.prog 109 [(.d (.agg (Beat.enc a_1))),(.d (.agg (Beat.enc b_2)))] [] (vI r) []:=by
 refine FnM.of_wH ⟨Tryz.prog,17,[],[]⟩ rfl Tryz.func109 rfl rfl (lb_ rfl) (by kernel_rfl) ?_
 unfold lg at hF
 refine ai (gz 0 (.inl rfl) (Beat.v a_1) rfl rfl wz (λn_3=>gz 0 (.inl rfl) (Beat.v b_2) rfl rfl wz (λn_4=>aa (vI 0) (af (ak (bE (aG yK rfl 0 rfl wz (aC 1 0 (.inr (by kernel_rfl)) (λ_ _ ag=>trivial) sz9 ag9 rfl rfl (vS a_1.Player) rfl wz (aG yK rfl 0 rfl wz (aC 3 1 (.inr (by kernel_rfl)) (λ_ _ ag=>⟨.inl ⟨rfl,rfl⟩,trivial⟩) sz9 ag9 rfl rfl (vS b_2.Player) rfl wz ?_))))))))))
 obtain ⟨r_5,hr_6,hF⟩:=bind_some hF
 refine aF (sO hr_6) rfl hb131 rfl rfl rfl rfl wz (aG Av rfl 1 rfl wz (aC 6 0 (.inr (by kernel_rfl)) (λ_ _ ag=>⟨.inl ⟨rfl,rfl⟩,⟨.inl ⟨rfl,rfl⟩,trivial⟩⟩) sz3 ag3 rfl rfl (vI a_1.At) rfl wz (aG Av rfl 1 rfl wz (aC 8 1 (.inr (by kernel_rfl)) (λ_ _ ag=>⟨.inl ⟨rfl,rfl⟩,⟨.inl ⟨rfl,rfl⟩,⟨.inl ⟨rfl,rfl⟩,trivial⟩⟩⟩) sz3 ag3 rfl rfl (vI b_2.At) rfl wz ?_))))
 obtain ⟨r_7,hr_8,hF⟩:=bind_some hF
 refine aF (tL hr_8) rfl hb132 rfl rfl rfl rfl wz (dU (([r_5,r_7]:List Int).map eI) gq zJ rfl rfl rfl rfl rfl wz ?_)
 obtain ⟨r_9,hr_10,hF⟩:=bind_some hF
 refine aF (zl hr_10) rfl hb130 rfl rfl rfl rfl wz (aa (vI r_9) (af ?_))
 obtain rfl:=ae hF
 exact aA (aL [(vI r_9)] ⟨rfl,trivial⟩)
theorem yU {l_1:(List Beat)} {r:Int} (hF:kw l_1=some r) :
  FnM Tryz.prog 90 [(vL Beat.enc l_1)] [] (vI r) []:=by
 refine FnM.of_wH ⟨Tryz.prog,69,[],[]⟩ rfl Tryz.func90 rfl rfl (lb_ rfl) (by kernel_rfl) ?_
 unfold kw at hF
 refine ai (aa (vI 0) (af (ak (ai (aa (vL Beat.enc l_1) (bH OP rfl wz (aa (vB (decide ((l_1.length:Int)>500))) (af ?_))))))))
 rcases aj hF with⟨hc_2,hF⟩|⟨hc_2,hF⟩
 ·refine aB rfl hc_2 (ai (aa (vI 2) (af ?_)))
  obtain rfl:=ae hF
  exact aA (aL [(vI 2)] ⟨rfl,trivial⟩)
 ·refine ay rfl hc_2 (ax (ak (ai (aa (vL Beat.enc l_1) (bH OP rfl wz (aa (vI 0) (af ?_)))))))
  obtain ⟨o_11,hj_12,hF⟩:=bind_some hF
  obtain ⟨hn_7,hj_12⟩:=aY hj_12
  refine bN (λ(s_8:Unit)=>[]) (λ(s_8:Unit)=>[]) (λ(k_3:Nat)=>(λ(s_8:Unit)=>[(0,(vL Beat.enc l_1)),(8,(vL Beat.enc l_1)),(9,(vI (l_1.length:Int))),(10,(vI (k_3:Int)))])) (λk x s=>iO l_1 k x s) o_11 l_1 () hj_12 rfl (aK rfl) ?_ ?_
  ·rintro ⟨k_3,l_4,s_8⟩ ⟨hL_10,hD_6⟩
   dsimp only at hL_10 hD_6
   cases l_4 with
   | nil =>
    obtain rfl:=ae hL_10
    refine ai (aa (vB (decide ((k_3:Int)<(l_1.length:Int)))) (af ?_))
    refine ak (ay rfl (drop_nil hD_6) (aW ?_))
    exact aU (s_8) rfl rfl (aK rfl)
   | cons x_5 l_4 =>
    obtain ⟨c_,hc_9,hL_10⟩:=bind_some hL_10
    refine ai (aa (vB (decide ((k_3:Int)<(l_1.length:Int)))) (af ?_))
    refine ak (aB rfl (bu hD_6) (ax ?_))
    unfold iO at hc_9
    refine ak (aM (ai (aa (vI (k_3:Int)) (dC Gr rfl rfl (bD hD_6) rfl wz (bK GZ Mt rfl (.d (.agg (Beat.enc x_5))) rfl wz (cz 0 (.inl rfl) z102 rfl wz (λn_13=>aa (vI (k_3:Int)) (eB 0 il ft 0 GZ rfl rfl (Beat.v x_5) rfl wz (af (aM (ai (aG yK rfl 0 rfl wz (aC 0 0 il ft sz9 ag9 rfl rfl (vS x_5.Player) rfl wz ?_)))))))))))))
    obtain ⟨r_14,hr_15,hc_9⟩:=bind_some hc_9
    refine aF (d9 hr_15) rfl AQ rfl rfl rfl rfl wz (aa (vB (!r_14)) (aa (vB (!r_14)) (af ?_)))
    rcases aj hc_9 with⟨hc_16,hc_9⟩|⟨hc_16,hc_9⟩
    ·refine aB rfl hc_16 (ai (aa (vI 5) (af ?_)))
     obtain rfl:=ae hc_9
     obtain rfl:=ae hL_10
     obtain rfl:=ae hF
     exact aA (aL [(vI 5)] ⟨rfl,trivial⟩)
    ·refine ay rfl hc_16 (ak ?_)
     obtain ⟨v_17,h_18,hc_9⟩:=bind_some hc_9
     refine aS [(0,(vL Beat.enc l_1)),(3,(vI (k_3:Int))),(4,(.ref n_13 0 0)),(8,(vL Beat.enc l_1)),(9,(vI (l_1.length:Int))),(10,(vI (k_3:Int))),(20,(vB v_17))] [(n_13,some (.cells 3 (Beat.v x_5)))] ?_ ?_
     ·refine au (aG Av rfl 1 rfl wz (aC 0 0 il ft sz3 ag3 rfl rfl (vI x_5.At) rfl wz ?_))
      obtain ⟨r_19,hr_20,h_18⟩:=bind_some h_18
      refine aF (fJ hr_20) rfl IU rfl rfl rfl rfl wz (aa (vB (!r_19)) ?_)
      rcases aj h_18 with⟨hc_21,h_18⟩|⟨hc_21,h_18⟩
      ·refine aD rfl hc_21 wz (ah (ah (ah (aa (vB true) (aa (vB true) (af ?_))))))
       obtain rfl:=ae h_18
       exact cu
      ·refine aD rfl hc_21 wz (aG Bv rfl 2 rfl wa (aC 0 0 il ft sz3 ag3 rfl rfl (vI x_5.Clock) rfl wa ?_))
       obtain ⟨r_22,hr_23,h_18⟩:=bind_some h_18
       refine aF (bA hr_23) rfl rC rfl rfl rfl rfl wa (aa (vB r_22) (aa (vB r_22) (af ?_)))
       obtain rfl:=ae h_18
       exact cu
     ·rintro ⟨⟩ _ sl_ H_ hp_ hq_
      refine aO _ hp_ hq_ ?_
      rcases aj hc_9 with⟨hc_24,hc_9⟩|⟨hc_24,hc_9⟩
      ·refine aB rfl hc_24 (ai (aa (vI 1) (af ?_)))
       obtain rfl:=ae hc_9
       obtain rfl:=ae hL_10
       obtain rfl:=ae hF
       exact aA (aL [(vI 1)] ⟨rfl,trivial⟩)
      ·refine ay rfl hc_24 (ak ?_)
       obtain ⟨v_25,h_26,hc_9⟩:=bind_some hc_9
       refine aS [(0,(vL Beat.enc l_1)),(3,(vI (k_3:Int))),(4,(.ref n_13 0 0)),(8,(vL Beat.enc l_1)),(9,(vI (l_1.length:Int))),(10,(vI (k_3:Int))),(30,(vB v_25))] [(n_13,some (.cells 3 (Beat.v x_5)))] ?_ ?_
       ·refine bE (aa (vI (k_3:Int)) (aa (vB (decide ((k_3:Int)>0))) ?_))
        rcases aj h_26 with⟨hc_27,h_26⟩|⟨hc_27,h_26⟩
        ·refine aD rfl hc_27 wz (aJ (vL Beat.enc l_1) wa rfl (aJ (vI (k_3:Int)) wa rfl (aJ (vI (w64 ((k_3:Int)-1))) wa rfl ?_)))
         obtain ⟨y_28,hy_29,h_26⟩:=bind_some h_26
         refine dC Gr rfl rfl hy_29 rfl wa (bK GZ Mt rfl (.d (.agg (Beat.enc y_28))) rfl wa (aC 8 0 (.inr (by kernel_rfl)) (λ_ _ ag=>trivial) GZ Mt rfl rfl (.d (.agg (Beat.enc x_5))) rfl wa ?_))
         obtain ⟨r_30,hr_31,h_26⟩:=bind_some h_26
         refine aF (xD hr_31) rfl hb109 rfl rfl rfl rfl wa (aJ (vB (decide (r_30>=0))) wa rfl (aa (vB (decide (r_30>=0))) (aa (vB (decide (r_30>=0))) (af ?_))))
         obtain rfl:=ae h_26
         exact cu
        ·refine aD rfl hc_27 wz (ah (ah (ah (ah (ah (ah (ah (ah (aa (vB false) (aa (vB false) (af ?_)))))))))))
         obtain rfl:=ae h_26
         exact cu
       ·rintro ⟨⟩ _ sl_ H_ hp_ hq_
        refine aO _ hp_ hq_ ?_
        rcases aj hc_9 with⟨hc_32,hc_9⟩|⟨hc_32,hc_9⟩
        ·refine aB rfl hc_32 (ai (aa (vI 7) (af ?_)))
         obtain rfl:=ae hc_9
         obtain rfl:=ae hL_10
         obtain rfl:=ae hF
         exact aA (aL [(vI 7)] ⟨rfl,trivial⟩)
        ·refine ay rfl hc_32 (ak ?_)
         obtain ⟨v_33,h_34,hc_9⟩:=bind_some hc_9
         refine aS [(0,(vL Beat.enc l_1)),(8,(vL Beat.enc l_1)),(9,(vI (l_1.length:Int))),(10,(vI (k_3:Int))),(43,(vB v_33))] [(n_13,some (.cells 3 (Beat.v x_5)))] ?_ ?_
         ·refine bE (aa (vI (k_3:Int)) (aa (vB (decide ((k_3:Int)>0))) ?_))
          rcases aj h_34 with⟨hc_35,h_34⟩|⟨hc_35,h_34⟩
          ·refine aD rfl hc_35 wz (aG yK rfl 0 rfl wa (aC 4 0 (.inr (by kernel_rfl)) (λ_ _ ag=>trivial) sz9 ag9 rfl rfl (vS x_5.Player) rfl wa (aJ (vL Beat.enc l_1) wa rfl (aJ (vI (k_3:Int)) wa rfl (aJ (vI (w64 ((k_3:Int)-1))) wa rfl ?_)))))
           obtain ⟨y_36,hy_37,h_34⟩:=bind_some h_34
           refine dC Gr rfl rfl hy_37 rfl wa (rQ yK rfl [.str y_36.Player,.int .i64 y_36.At,.int .i64 y_36.Clock] rfl rfl wa (bK sz9 ag9 rfl (vS y_36.Player) rfl wa (aJ (vB (sEq x_5.Player y_36.Player)) wa rfl (aa (vB (sEq x_5.Player y_36.Player)) ?_))))
           rcases aj h_34 with⟨hc_38,h_34⟩|⟨hc_38,h_34⟩
           ·refine aD rfl hc_38 wz (aG Bv rfl 2 rfl wa (aC 15 0 (.inr (by kernel_rfl)) (λ_ _ ag=>⟨.inl ⟨rfl,rfl⟩,trivial⟩) sz3 ag3 rfl rfl (vI x_5.Clock) rfl wa (aJ (vL Beat.enc l_1) wa rfl (aJ (vI (k_3:Int)) wa rfl (aJ (vI (w64 ((k_3:Int)-1))) wa rfl ?_)))))
            obtain ⟨y_39,hy_40,h_34⟩:=bind_some h_34
            refine dC Gr rfl rfl hy_40 rfl wa (rQ Bv rfl [.int .i64 y_39.Clock] rfl rfl wa (bK sz3 ag3 rfl (vI y_39.Clock) rfl wa (aJ (vB (decide (x_5.Clock<=y_39.Clock))) wa rfl (aa (vB (decide (x_5.Clock<=y_39.Clock))) (aa (vB (decide (x_5.Clock<=y_39.Clock))) (af ?_))))))
            obtain rfl:=ae h_34
            exact cu
           ·refine aD rfl hc_38 wz (ah (ah (ah (ah (ah (ah (ah (ah (ah (aa (vB false) (aa (vB false) (af ?_))))))))))))
            obtain rfl:=ae h_34
            exact cu
          ·refine aD rfl hc_35 wz (ah (ah (ah (ah (ah (ah (ah (ah (ah (aa (vB false) (aa (vB false) (ah (ah (ah (ah (ah (ah (ah (ah (ah (aa (vB false) (aa (vB false) (af ?_)))))))))))))))))))))))
           obtain rfl:=ae h_34
           exact cu
         ·rintro ⟨⟩ _ sl_ H_ hp_ hq_
          refine aO _ hp_ hq_ ?_
          rcases aj hc_9 with⟨hc_41,hc_9⟩|⟨hc_41,hc_9⟩
          ·refine aB rfl hc_41 (ai (aa (vI 16) (af ?_)))
           obtain rfl:=ae hc_9
           obtain rfl:=ae hL_10
           obtain rfl:=ae hF
           exact aA (aL [(vI 16)] ⟨rfl,trivial⟩)
          ·refine ay rfl hc_41 (ax (au (dB (bv hD_6 hn_7) wz rfl (aa (vI ((k_3+1:Nat):Int)) (af ?_)))))
           obtain rfl:=ae hc_9
           exact aV (k_3+1,l_4,()) ⟨hL_10,aR hD_6⟩ (ls_ _) rfl (aK rfl)
  ·rintro s_8 ho_ sl_ H_ hp_ hq_
   subst ho_
   refine aO _ hp_ hq_ (ai (aa (vI 0) (af ?_)))
   obtain rfl:=ae hF
   exact aA (aL [(vI 0)] ⟨rfl,trivial⟩)
theorem Cb {l_1:(List Beat)} {player_2:ByteArray} {back_3:Bool} {r:(List Beat_)} (hF:qo l_1 player_2 back_3=some r) :
  FnM Tryz.prog 92 [(vL Beat.enc l_1),(vS player_2),(vB back_3)] [] (vL Beat_.enc r) []:=by
 refine FnM.of_wH ⟨Tryz.prog,41,[],[]⟩ rfl Tryz.func92 rfl rfl (lb_ rfl) (by kernel_rfl) ?_
 unfold qo at hF
 refine ai (aa .nil (af (ai (aa .nil (af (ak (ai (aa (vL Beat.enc l_1) (bH OP rfl wz (aa (vI 0) (af (jv (λn_10 => ?_)))))))))))))
 obtain ⟨o_15,hj_16,hF⟩:=bind_some hF
 obtain ⟨hn_8,hj_16⟩:=aY hj_16
 refine fT (σ:=(List Beat_)) (N:=Nm) (λp=>(λ(s_9:List Beat_) (n_12:Nm)=>([(7,(gV n_12 2 s_9))]:SL_)) p.1 p.2) (λp=>(λ(s_9:List Beat_) (n_12:Nm)=>([(n_12,gB 2 Beat_.enc s_9)]:Hp)) p.1 p.2) (λ(k_4:Nat)=>(λp=>(λ(s_9:List Beat_) (n_12:Nm)=>([(1,(vS player_2)),(2,(vB back_3)),(7,(gV n_12 2 s_9)),(10,(vL Beat.enc l_1)),(11,(vI (l_1.length:Int))),(12,(vI (k_4:Int)))]:SL_)) p.1 p.2)) (λk x s=>qd player_2 back_3 k x s) o_15 l_1 (([]:List Beat_),n_10) hj_16 rfl (aK rfl) ?_ ?_
 ·rintro ⟨k_4,l_5,s_9,n_12⟩ ⟨hL_14,hD_7⟩
  dsimp only at hL_14 hD_7
  cases l_5 with
  | nil =>
   obtain rfl:=ae hL_14
   refine ai (aa (vB (decide ((k_4:Int)<(l_1.length:Int)))) (af ?_))
   refine ak (ay rfl (drop_nil hD_7) (aW ?_))
   exact aU (s_9,n_12) rfl rfl (aK rfl)
  | cons x_6 l_5 =>
   obtain ⟨c_,hc_13,hL_14⟩:=bind_some hL_14
   refine ai (aa (vB (decide ((k_4:Int)<(l_1.length:Int)))) (af ?_))
   refine ak (aB rfl (bu hD_7) (ax ?_))
   unfold qd at hc_13
   refine ak (aM (ai (dC Gr rfl rfl (bD hD_7) rfl wz (bK GZ Mt rfl (.d (.agg (Beat.enc x_6))) rfl wz (cz 0 (.inl rfl) z102 rfl wz (λn_17=>eB 0 il ft 1 GZ rfl rfl (Beat.v x_6) rfl wz (af (aM (ai (aG yK rfl 0 rfl wz (aC 0 1 il ft sz9 ag9 rfl rfl (vS x_6.Player) rfl wz (aa (vS player_2) (aa (vB (sNe x_6.Player player_2)) (aa (vB (sNe x_6.Player player_2)) (af ?_)))))))))))))))
   obtain ⟨v_18,h_19,hc_13⟩:=bind_some hc_13
   refine ko (β:=Nm) (λ(n_20:Nm)=>([(1,(vS player_2)),(2,(vB back_3)),(7,(gV n_20 2 v_18)),(10,(vL Beat.enc l_1)),(11,(vI (l_1.length:Int))),(12,(vI (k_4:Int)))]:SL_)) (λ(n_20:Nm)=>([(n_20,gB 2 Beat_.enc v_18),(n_17,some (.cells 3 (Beat.v x_6)))]:Hp)) (λ_=>True) ?_ ?_
   ·rcases aj h_19 with⟨hc_21,h_19⟩|⟨hc_21,h_19⟩
    ·refine aB rfl hc_21 (ax ?_)
     obtain rfl:=ae h_19
     exact aU n_12 trivial rfl (aK rfl)
    ·refine ay rfl hc_21 (ai (aa (vB back_3) (aa (vB back_3) (af ?_))))
     rcases aj h_19 with⟨hc_22,h_19⟩|⟨hc_22,h_19⟩
     ·refine aB rfl hc_22 (au (aa (gV n_12 2 s_9) (aG Av rfl 1 rfl wz (aC 0 1 il ft sz3 ag3 rfl rfl (vI x_6.At) rfl wz (aG Bv rfl 2 rfl wz (aC 0 1 il ft sz3 ag3 rfl rfl (vI x_6.Clock) rfl wz (aJ (.d (.agg (Beat_.enc (⟨x_6.At,x_6.Clock⟩:Beat_)))) wz (by kernel_rfl) (dU (([(⟨x_6.At,x_6.Clock⟩:Beat_)]:List Beat_).map Beat_.enc) Ay ez167 rfl rfl rfl rfl rfl wz ?_))))))))
      obtain ⟨a_23,hz_24,h_19⟩:=bind_some h_19
      refine kT 0 il ft (i:=0) MZ MZ F4 z184 rfl (by decide) by184 (by decide) (λ_=>rfl) rfl rfl rfl hz_24 wz (λn_25=>aa (gV n_25 2 a_23) (af ?_))
      obtain rfl:=ae h_19
      exact aU n_25 trivial rfl (aK rfl)
     ·refine ay rfl hc_22 (au (aa (gV n_12 2 s_9) (aG Bv rfl 2 rfl wz (aC 0 1 il ft sz3 ag3 rfl rfl (vI x_6.Clock) rfl wz (aG Av rfl 1 rfl wz (aC 0 1 il ft sz3 ag3 rfl rfl (vI x_6.At) rfl wz (aJ (.d (.agg (Beat_.enc (⟨x_6.Clock,x_6.At⟩:Beat_)))) wz (by kernel_rfl) (dU (([(⟨x_6.Clock,x_6.At⟩:Beat_)]:List Beat_).map Beat_.enc) Ay ez167 rfl rfl rfl rfl rfl wz ?_))))))))
      obtain ⟨a_26,hz_27,h_19⟩:=bind_some h_19
      refine kT 0 il ft (i:=0) MZ MZ F4 z184 rfl (by decide) by184 (by decide) (λ_=>rfl) rfl rfl rfl hz_27 wz (λn_28=>aa (gV n_28 2 a_26) (af ?_))
      obtain rfl:=ae h_19
      exact aU n_28 trivial rfl (aK rfl)
   ·rintro n_20 _ sl_ H_ hp_ hq_
    refine aO _ hp_ hq_ (au (dB (bv hD_7 hn_8) wz rfl (aa (vI ((k_4+1:Nat):Int)) (af ?_))))
    obtain rfl:=ae hc_13
    exact aV (k_4+1,l_5,v_18,n_20) ⟨hL_14,aR hD_7⟩ (ls_ _) rfl (aK rfl)
 ·rintro ⟨s_9,n_12⟩ ho_ sl_ H_ hp_ hq_
  subst ho_
  refine aO _ hp_ hq_ (ai (aa (gV n_12 2 s_9) (aa (gV n_12 2 s_9) (af (iQ 0 rfl (fF 6 0 rfl rfl (fF 7 0 rfl rfl (fF 40 0 rfl rfl ?_))))))))
  obtain rfl:=ae hF
  exact aA (aL [(vL Beat_.enc s_9)] ⟨rfl,trivial⟩)
theorem Da {l_1:(List Beat_)} {n_2:Int} {r:Int×Int} (hF:pq l_1 n_2=some r) :
  FnM Tryz.prog 91 [(vL Beat_.enc l_1),(vI n_2)] [] (.tup [(vI r.1),(vI r.2)]) []:=by
 refine FnM.of_wH ⟨Tryz.prog,108,[],[]⟩ rfl Tryz.func91 rfl rfl (lb_ rfl) (by kernel_rfl) ?_
 unfold pq at hF
 refine ai (aa (vI 0) (aa (vI 0) (af (ak (ai (aa (vL Beat_.enc l_1) (bH OG rfl wz (aa (vB ((l_1.length:Int)==0)) (af ?_)))))))))
 rcases aj hF with⟨hc_3,hF⟩|⟨hc_3,hF⟩
 ·refine aB rfl hc_3 (ai (aa (vI 0) (aa (vI 8) (af ?_))))
  obtain rfl:=ae hF
  exact aA (aL [(vI 0),(vI 8)] ⟨rfl,⟨rfl,trivial⟩⟩)
 ·refine ay rfl hc_3 (ax (ai (aa (vI 0) (af (ak ?_)))))
  obtain ⟨o_12,hj_13,hF⟩:=bind_some hF
  obtain ⟨nq_51,hj_13⟩:=dR hj_13
  refine gD (λ(s_9:Int)=>[(0,(vL Beat_.enc l_1)),(1,(vI n_2)),(6,(vI s_9))]) (λ(s_9:Int)=>[]) (λ(k_4:Nat)=>(λ(s_9:Int)=>[(0,(vL Beat_.enc l_1)),(1,(vI n_2)),(6,(vI s_9))])) (λs=>oq l_1 n_2 s) o_12 nq_51 0 hj_13 rfl (aK rfl) ?_ ?_
  ·rintro ⟨k_4,s_9⟩ hL_11
   dsimp only at hL_11
   cases k_4 with
   | zero=>cases hL_11
   | succ k_4 =>
    obtain ⟨c_,hc_10,hL_11⟩:=bind_some hL_11
    unfold oq at hc_10
    refine ak (ak ?_)
    obtain ⟨v_14,h_15,hc_10⟩:=bind_some hc_10
    refine aS [(0,(vL Beat_.enc l_1)),(1,(vI n_2)),(6,(vI s_9)),(25,(vB v_14))] [] ?_ ?_
    ·refine au (aa (vI s_9) (aa (vL Beat_.enc l_1) (bH OG rfl wz (aa (vB (decide (s_9<(l_1.length:Int)))) ?_))))
     rcases aj h_15 with⟨hc_16,h_15⟩|⟨hc_16,h_15⟩
     ·refine aD rfl hc_16 wz (aJ (vL Beat_.enc l_1) wa rfl (aJ (vI s_9) wa rfl ?_))
      obtain ⟨y_17,hy_18,h_15⟩:=bind_some h_15
      refine dC Ay rfl rfl hy_18 rfl wa (rQ uF rfl [.int .i64 y_17.f_from,.int .i64 y_17.f_to] rfl rfl wa (bK sz3 ag3 rfl (vI y_17.f_from) rfl wa (aJ (vI n_2) wa rfl (aJ (vB (decide (y_17.f_from<=n_2))) wa rfl (aa (vB (decide (y_17.f_from<=n_2))) (af ?_))))))
      obtain rfl:=ae h_15
      exact cu
     ·refine aD rfl hc_16 wz (ah (ah (ah (ah (ah (ah (ah (aa (vB false) (af ?_)))))))))
      obtain rfl:=ae h_15
      exact cu
    ·rintro ⟨⟩ _ sl_ H_ hp_ hq_
     refine aO _ hp_ hq_ ?_
     rcases aj hc_10 with⟨hc_19,hc_10⟩|⟨hc_19,hc_10⟩
     ·refine aB rfl hc_19 (ax (aM (au (aa (vI s_9) (aa (vI (w64 (s_9+1))) (aa (vI (w64 (s_9+1))) (af ?_)))))))
      obtain rfl:=ae hc_10
      exact aV (k_4,(w64 (s_9+1))) hL_11 (ls_ _) rfl (aK rfl)
     ·refine ay rfl hc_19 (aW ?_)
      obtain rfl:=ae hc_10
      obtain rfl:=ae hL_11
      exact aU (s_9) rfl rfl (aK rfl)
  ·rintro s_9 ho_ sl_ H_ hp_ hq_
   subst ho_
   refine aO _ hp_ hq_ (ai (aa (vI 0) (af (ak (aM (ai (aa (vI s_9) (aa (vB (s_9==0)) (aa (vB (s_9==0)) (af ?_))))))))))
   rcases aj hF with⟨hc_20,hF⟩|⟨hc_20,hF⟩
   ·refine aB rfl hc_20 (bE (aa (vL Beat_.enc l_1) ?_))
    obtain ⟨y_21,hy_22,hF⟩:=bind_some hF
    refine dC Ay rfl rfl hy_22 rfl wz (rQ xh rfl [.int .i64 y_21.f_to] rfl rfl wz (bK sz3 ag3 rfl (vI y_21.f_to) rfl wz (aa (vL Beat_.enc l_1) ?_)))
    obtain ⟨y_23,hy_24,hF⟩:=bind_some hF
    refine dC Ay rfl rfl hy_24 rfl wz (rQ uF rfl [.int .i64 y_23.f_from,.int .i64 y_23.f_to] rfl rfl wz (bK sz3 ag3 rfl (vI y_23.f_from) rfl wz (aa (vI n_2) (aa (vI (w64 (y_23.f_from-n_2))) (aa (vI (w64 (y_21.f_to-(w64 (y_23.f_from-n_2))))) (aa (vI (w64 (y_21.f_to-(w64 (y_23.f_from-n_2))))) (af (ak (ai (aa (vI (w64 (y_21.f_to-(w64 (y_23.f_from-n_2))))) ?_))))))))))
    obtain ⟨r_25,hr_26,hF⟩:=bind_some hF
    refine aF (fJ hr_26) rfl IU rfl rfl rfl rfl wz (aa (vB (!r_25)) (af ?_))
    rcases aj hF with⟨hc_27,hF⟩|⟨hc_27,hF⟩
    ·refine aB rfl hc_27 (ai (aa (vI 0) (aa (vI 11) (af ?_))))
     obtain rfl:=ae hF
     exact aA (aL [(vI 0),(vI 11)] ⟨rfl,⟨rfl,trivial⟩⟩)
    ·refine ay rfl hc_27 (ax (ai (aa (vI (w64 (y_21.f_to-(w64 (y_23.f_from-n_2))))) (aa (vI (w64 (y_21.f_to-(w64 (y_23.f_from-n_2))))) (aa (vI 0) (af ?_))))))
     obtain rfl:=ae hF
     exact aA (aL [(vI (w64 (y_21.f_to-(w64 (y_23.f_from-n_2))))),(vI 0)] ⟨rfl,⟨rfl,trivial⟩⟩)
   ·refine ay rfl hc_20 (ai (aa (vI s_9) (aa (vL Beat_.enc l_1) (bH OG rfl wz (aa (vB (s_9==(l_1.length:Int))) (aa (vB (s_9==(l_1.length:Int))) (af ?_)))))))
    rcases aj hF with⟨hc_28,hF⟩|⟨hc_28,hF⟩
    ·refine aB rfl hc_28 (bE (aa (vL Beat_.enc l_1) (aa (vI s_9) (aa (vI (w64 (s_9-1))) ?_))))
     obtain ⟨y_29,hy_30,hF⟩:=bind_some hF
     refine dC Ay rfl rfl hy_30 rfl wz (rQ xh rfl [.int .i64 y_29.f_to] rfl rfl wz (bK sz3 ag3 rfl (vI y_29.f_to) rfl wz (aa (vI n_2) (aa (vI (w64 (y_29.f_to+n_2))) (aa (vL Beat_.enc l_1) (aa (vI s_9) (aa (vI (w64 (s_9-1))) ?_)))))))
     obtain ⟨y_31,hy_32,hF⟩:=bind_some hF
     refine dC Ay rfl rfl hy_32 rfl wz (rQ uF rfl [.int .i64 y_31.f_from,.int .i64 y_31.f_to] rfl rfl wz (bK sz3 ag3 rfl (vI y_31.f_from) rfl wz (aa (vI (w64 ((w64 (y_29.f_to+n_2))-y_31.f_from))) (aa (vI (w64 ((w64 (y_29.f_to+n_2))-y_31.f_from))) (af (ak (ai (aa (vI (w64 ((w64 (y_29.f_to+n_2))-y_31.f_from))) ?_))))))))
     obtain ⟨r_33,hr_34,hF⟩:=bind_some hF
     refine aF (fJ hr_34) rfl IU rfl rfl rfl rfl wz (aa (vB (!r_33)) (af ?_))
     rcases aj hF with⟨hc_35,hF⟩|⟨hc_35,hF⟩
     ·refine aB rfl hc_35 (ai (aa (vI 0) (aa (vI 11) (af (aO (H0:=([]:Hp)) ([(4,(vI 0)),(5,(vI 11))]:SL_) (by kernel_rfl) (wG (by kernel_rfl)) ?_)))))
      obtain rfl:=ae hF
      exact aA (aL [(vI 0),(vI 11)] ⟨rfl,⟨rfl,trivial⟩⟩)
     ·refine ay rfl hc_35 (ax (ai (aa (vI (w64 ((w64 (y_29.f_to+n_2))-y_31.f_from))) (aa (vI (w64 ((w64 (y_29.f_to+n_2))-y_31.f_from))) (aa (vI 0) (af (aO (H0:=([]:Hp)) ([(4,(vI (w64 ((w64 (y_29.f_to+n_2))-y_31.f_from)))),(5,(vI 0))]:SL_) (by kernel_rfl) (wG (by kernel_rfl)) ?_)))))))
      obtain rfl:=ae hF
      exact aA (aL [(vI (w64 ((w64 (y_29.f_to+n_2))-y_31.f_from))),(vI 0)] ⟨rfl,⟨rfl,trivial⟩⟩)
    ·refine ay rfl hc_28 (ak (bE (aa (vL Beat_.enc l_1) (aa (vI s_9) (aa (vI (w64 (s_9-1))) ?_)))))
     obtain ⟨y_36,hy_37,hF⟩:=bind_some hF
     refine dC Ay rfl rfl hy_37 rfl wz (bK F4 ag184 rfl (.d (.agg (Beat_.enc y_36))) rfl wz (aa (vL Beat_.enc l_1) (aa (vI s_9) ?_)))
     obtain ⟨y_38,hy_39,hF⟩:=bind_some hF
     refine dC Ay rfl rfl hy_39 rfl wz (bK F4 ag184 rfl (.d (.agg (Beat_.enc y_38))) rfl wz (cz 9 (.inr (by kernel_rfl)) z184 rfl wz (λn_40=>cz 10 (.inr (by kernel_rfl)) z184 rfl wz (λn_41=>eB 11 (.inr (by kernel_rfl)) (λ_ _ ag=>⟨.inr (.inr (by kernel_rfl)),⟨.inr (.inr (by kernel_rfl)),trivial⟩⟩) 0 F4 rfl rfl [(vI y_36.f_from),(vI y_36.f_to)] rfl wz (eB 12 (.inr (by kernel_rfl)) (λ_ _ ag=>⟨.inr (.inr (by kernel_rfl)),⟨.inr (.inr (by kernel_rfl)),⟨.inr (.inr (by kernel_rfl)),trivial⟩⟩⟩) 1 F4 rfl rfl [(vI y_38.f_from),(vI y_38.f_to)] rfl wz (af (ak (ak ?_))))))))
     obtain ⟨v_42,h_43,hF⟩:=bind_some hF
     refine aS [(1,(vI n_2)),(8,(.ref n_40 0 0)),(9,(.ref n_41 0 0)),(50,(vB v_42))] [(n_40,some (.cells 2 [(vI y_36.f_from),(vI y_36.f_to)])),(n_41,some (.cells 2 [(vI y_38.f_from),(vI y_38.f_to)]))] ?_ ?_
     ·refine au (aG uF rfl 0 rfl wz (aC 0 1 il ft sz3 ag3 rfl rfl (vI y_38.f_from) rfl wz (aG uF rfl 0 rfl wz (aC 0 0 il ft sz3 ag3 rfl rfl (vI y_36.f_from) rfl wz (aa (vI (w64 (y_38.f_from-y_36.f_from))) (aa (vB (decide ((w64 (y_38.f_from-y_36.f_from))>2592000000))) ?_))))))
      rcases aj h_43 with⟨hc_44,h_43⟩|⟨hc_44,h_43⟩
      ·refine aD rfl hc_44 wz (ah (ah (ah (ah (ah (ah (aa (vB true) (af ?_))))))))
       obtain rfl:=ae h_43
       exact cu
      ·refine aD rfl hc_44 wz (aG xh rfl 1 rfl wa (aC 0 1 il ft sz3 ag3 rfl rfl (vI y_38.f_to) rfl wa (aG xh rfl 1 rfl wa (aC 0 0 il ft sz3 ag3 rfl rfl (vI y_36.f_to) rfl wa (aJ (vI (w64 (y_38.f_to-y_36.f_to))) wa rfl (aJ (vB (decide ((w64 (y_38.f_to-y_36.f_to))>2592000000))) wa rfl (aa (vB (decide ((w64 (y_38.f_to-y_36.f_to))>2592000000))) (af ?_))))))))
       obtain rfl:=ae h_43
       exact cu
     ·rintro ⟨⟩ _ sl_ H_ hp_ hq_
      refine aO _ hp_ hq_ ?_
      rcases aj hF with⟨hc_45,hF⟩|⟨hc_45,hF⟩
      ·refine aB rfl hc_45 (ai (aa (vI 0) (aa (vI 2) (af ?_))))
       obtain rfl:=ae hF
       exact aA (aL [(vI 0),(vI 2)] ⟨rfl,⟨rfl,trivial⟩⟩)
      ·refine ay rfl hc_45 (ax (bE (aG xh rfl 1 rfl wz (aC 1 0 (.inr (by kernel_rfl)) (λ_ _ ag=>trivial) sz3 ag3 rfl rfl (vI y_36.f_to) rfl wz (aa (vI n_2) (aG uF rfl 0 rfl wz (aC 4 0 (.inr (by kernel_rfl)) (λ_ _ ag=>⟨.inl ⟨rfl,rfl⟩,trivial⟩) sz3 ag3 rfl rfl (vI y_36.f_from) rfl wz (aa (vI (w64 (n_2-y_36.f_from))) (aG xh rfl 1 rfl wz (aC 7 1 (.inr (by kernel_rfl)) (λ_ _ ag=>⟨.inl ⟨rfl,rfl⟩,⟨.inl ⟨rfl,rfl⟩,trivial⟩⟩) sz3 ag3 rfl rfl (vI y_38.f_to) rfl wz (aG xh rfl 1 rfl wz (aC 9 0 (.inr (by kernel_rfl)) (λ_ _ ag=>⟨.inl ⟨rfl,rfl⟩,⟨.inl ⟨rfl,rfl⟩,⟨.inl ⟨rfl,rfl⟩,trivial⟩⟩⟩) sz3 ag3 rfl rfl (vI y_36.f_to) rfl wz (aa (vI (w64 (y_38.f_to-y_36.f_to))) (aa (vI (w64 ((w64 (n_2-y_36.f_from))*(w64 (y_38.f_to-y_36.f_to))))) (aG uF rfl 0 rfl wz (aC 13 1 (.inr (by kernel_rfl)) (λ_ _ ag=>⟨.inl ⟨rfl,rfl⟩,⟨.inl ⟨rfl,rfl⟩,⟨.inl ⟨rfl,rfl⟩,⟨.inl ⟨rfl,rfl⟩,trivial⟩⟩⟩⟩) sz3 ag3 rfl rfl (vI y_38.f_from) rfl wz (aG uF rfl 0 rfl wz (aC 15 0 (.inr (by kernel_rfl)) (λ_ _ ag=>⟨.inl ⟨rfl,rfl⟩,⟨.inl ⟨rfl,rfl⟩,⟨.inl ⟨rfl,rfl⟩,⟨.inl ⟨rfl,rfl⟩,⟨.inl ⟨rfl,rfl⟩,trivial⟩⟩⟩⟩⟩) sz3 ag3 rfl rfl (vI y_36.f_from) rfl wz (aa (vI (w64 (y_38.f_from-y_36.f_from))) ?_)))))))))))))))))))
       obtain ⟨q_46,hz_47,hF⟩:=bind_some hF
       refine Qx rfl rfl hz_47 wz (aa (vI (w64 (y_36.f_to+q_46))) (aa (vI (w64 (y_36.f_to+q_46))) (af (ak (ai (aa (vI (w64 (y_36.f_to+q_46))) ?_))))))
       obtain ⟨r_48,hr_49,hF⟩:=bind_some hF
       refine aF (fJ hr_49) rfl IU rfl rfl rfl rfl wz (aa (vB (!r_48)) (af ?_))
       rcases aj hF with⟨hc_50,hF⟩|⟨hc_50,hF⟩
       ·refine aB rfl hc_50 (ai (aa (vI 0) (aa (vI 11) (af ?_))))
        obtain rfl:=ae hF
        exact aA (aL [(vI 0),(vI 11)] ⟨rfl,⟨rfl,trivial⟩⟩)
       ·refine ay rfl hc_50 (ax (ai (aa (vI (w64 (y_36.f_to+q_46))) (aa (vI (w64 (y_36.f_to+q_46))) (aa (vI 0) (af ?_))))))
        obtain rfl:=ae hF
        exact aA (aL [(vI (w64 (y_36.f_to+q_46))),(vI 0)] ⟨rfl,⟨rfl,trivial⟩⟩)
theorem E8 {l_1:(List Beat)} {player_2:ByteArray} {n_3:Int} {back_4:Bool} {r:Int×Int} (hF:qL l_1 player_2 n_3 back_4=some r) :
  FnM Tryz.prog 69 [(vL Beat.enc l_1),(vS player_2),(vI n_3),(vB back_4)] [] (.tup [(vI r.1),(vI r.2)]) []:=by
 refine FnM.of_wH ⟨Tryz.prog,30,[],[]⟩ rfl Tryz.func69 rfl rfl (lb_ rfl) (by kernel_rfl) ?_
 unfold qL at hF
 refine ai (aa (vI 0) (aa (vI 0) (af (ak (ai (aa (vL Beat.enc l_1) ?_))))))
 obtain ⟨r_5,hr_6,hF⟩:=bind_some hF
 refine aF (yU hr_6) rfl hb90 rfl rfl rfl rfl wz (aa (vI r_5) (af (ai (aa (vI r_5) (aa (vB (r_5 != 0)) (af ?_))))))
 rcases aj hF with⟨hc_7,hF⟩|⟨hc_7,hF⟩
 ·refine aB rfl hc_7 (ai (aa (vI r_5) (aa (vI 0) (aa (vI r_5) (af ?_)))))
  obtain rfl:=ae hF
  exact aA (aL [(vI 0),(vI r_5)] ⟨rfl,⟨rfl,trivial⟩⟩)
 ·refine ay rfl hc_7 (ax (ak (ai (aa (vS player_2) ?_))))
  obtain ⟨r_8,hr_9,hF⟩:=bind_some hF
  refine aF (d9 hr_9) rfl AQ rfl rfl rfl rfl wz (aa (vB (!r_8)) (af ?_))
  rcases aj hF with⟨hc_10,hF⟩|⟨hc_10,hF⟩
  ·refine aB rfl hc_10 (ai (aa (vI 0) (aa (vI 5) (af ?_))))
   obtain rfl:=ae hF
   exact aA (aL [(vI 0),(vI 5)] ⟨rfl,⟨rfl,trivial⟩⟩)
  ·refine ay rfl hc_10 (ax (ak (ai (aa (vI n_3) ?_))))
   obtain ⟨r_11,hr_12,hF⟩:=bind_some hF
   refine aF (fJ hr_12) rfl IU rfl rfl rfl rfl wz (aa (vB (!r_11)) (af ?_))
   rcases aj hF with⟨hc_13,hF⟩|⟨hc_13,hF⟩
   ·refine aB rfl hc_13 (ai (aa (vI 0) (aa (vI 1) (af ?_))))
    obtain rfl:=ae hF
    exact aA (aL [(vI 0),(vI 1)] ⟨rfl,⟨rfl,trivial⟩⟩)
   ·refine ay rfl hc_13 (ax (ai (aa (vL Beat.enc l_1) (aa (vS player_2) (aa (vB back_4) ?_)))))
    obtain ⟨r_14,hr_15,hF⟩:=bind_some hF
    refine aF (Cb hr_15) rfl hb92 rfl rfl rfl rfl wz (aa (vI n_3) ?_)
    obtain ⟨r_16,hr_17,hF⟩:=bind_some hF
    refine aF (Da hr_17) rfl hb91 rfl rfl rfl rfl wz (aa (vI r_16.1) (aa (vI r_16.2) (aa (vI r_16.1) (aa (vI r_16.2) (af ?_)))))
    obtain rfl:=ae hF
    exact aA (aL [(vI r_16.1),(vI r_16.2)] ⟨rfl,⟨rfl,trivial⟩⟩)
theorem ET {l_1:(List Beat)} {player_2:ByteArray} {clock_3:Int} {r:Int×Int} (hF:qC l_1 player_2 clock_3=some r) :
  FnM Tryz.prog 45 [(vL Beat.enc l_1),(vS player_2),(vI clock_3)] [] (.tup [(vI r.1),(vI r.2)]) []:=by
 refine FnM.of_wH ⟨Tryz.prog,14,[],[]⟩ rfl Tryz.func45 rfl rfl (lb_ rfl) (by kernel_rfl) ?_
 unfold qC at hF
 refine ai (aa (vI 0) (aa (vI 0) (af (ai (aa (vL Beat.enc l_1) (aa (vS player_2) (aa (vI clock_3) ?_)))))))
 obtain ⟨r_4,hr_5,hF⟩:=bind_some hF
 refine aF (E8 hr_5) rfl hb69 rfl rfl rfl rfl wz (aa (vI r_4.1) (aa (vI r_4.2) (aa (vI r_4.1) (aa (vI r_4.2) (af ?_)))))
 obtain rfl:=ae hF
 exact aA (aL [(vI r_4.1),(vI r_4.2)] ⟨rfl,⟨rfl,trivial⟩⟩)
theorem zF {a_1:Alert} {r:Int} (hF:lI a_1=some r) :
  FnM Tryz.prog 133 [(.d (.agg (Alert.enc a_1)))] [] (vI r) []:=by
 refine FnM.of_wH ⟨Tryz.prog,48,[],[]⟩ rfl Tryz.func133 rfl rfl (lb_ rfl) (by kernel_rfl) ?_
 unfold lI at hF
 refine ai (gz 0 (.inl rfl) (Alert.v a_1) rfl rfl wz (λn_2=>aa (vI 0) (af (ak (ai (aG DT rfl 3 rfl wz (aC 0 0 il ft zf AR rfl rfl (vL eS a_1.Refs) rfl wz (bH xq rfl wz (aa (vB (decide ((a_1.Refs.length:Int)>20))) (af ?_))))))))))
 rcases aj hF with⟨hc_3,hF⟩|⟨hc_3,hF⟩
 ·refine aB rfl hc_3 (ai (aa (vI 2) (af ?_)))
  obtain rfl:=ae hF
  exact aA (aL [(vI 2)] ⟨rfl,trivial⟩)
 ·refine ay rfl hc_3 (ax (ak (ai (aG DT rfl 3 rfl wz (aC 0 0 il ft zf AR rfl rfl (vL eS a_1.Refs) rfl wz (bH xq rfl wz (aa (vI 0) (af ?_))))))))
  obtain ⟨o_12,hj_13,hF⟩:=bind_some hF
  obtain ⟨hn_8,hj_13⟩:=aY hj_13
  refine bN (λ(s_9:Unit)=>[(1,(.ref n_2 0 0))]) (λ(s_9:Unit)=>[(n_2,some (.cells 9 (Alert.v a_1)))]) (λ(k_4:Nat)=>(λ(s_9:Unit)=>[(1,(.ref n_2 0 0)),(10,(vL eS a_1.Refs)),(11,(vI (a_1.Refs.length:Int))),(12,(vI (k_4:Int)))])) (λk x s=>jm a_1 k x s) o_12 a_1.Refs () hj_13 rfl (aK rfl) ?_ ?_
  ·rintro ⟨k_4,l_5,s_9⟩ ⟨hL_11,hD_7⟩
   dsimp only at hL_11 hD_7
   cases l_5 with
   | nil =>
    obtain rfl:=ae hL_11
    refine ai (aa (vB (decide ((k_4:Int)<(a_1.Refs.length:Int)))) (af ?_))
    refine ak (ay rfl (drop_nil hD_7) (aW ?_))
    exact aU (s_9) rfl rfl (aK rfl)
   | cons x_6 l_5 =>
    obtain ⟨c_,hc_10,hL_11⟩:=bind_some hL_11
    refine ai (aa (vB (decide ((k_4:Int)<(a_1.Refs.length:Int)))) (af ?_))
    refine ak (aB rfl (bu hD_7) (ax ?_))
    unfold jm at hc_10
    refine ak (aM (ai (aa (vI (k_4:Int)) (dC pz rfl rfl (bD hD_7) rfl wz (bK sz9 ag9 rfl (vS x_6) rfl wz (aa (vI (k_4:Int)) (aa (vS x_6) (af (aM (ai (aa (vS x_6) ?_)))))))))))
    obtain ⟨r_14,hr_15,hc_10⟩:=bind_some hc_10
    refine aF (d9 hr_15) rfl AQ rfl rfl rfl rfl wz (aa (vB (!r_14)) (aa (vB (!r_14)) (af ?_)))
    rcases aj hc_10 with⟨hc_16,hc_10⟩|⟨hc_16,hc_10⟩
    ·refine aB rfl hc_16 (ai (aa (vI 5) (af ?_)))
     obtain rfl:=ae hc_10
     obtain rfl:=ae hL_11
     obtain rfl:=ae hF
     exact aA (aL [(vI 5)] ⟨rfl,trivial⟩)
    ·refine ay rfl hc_16 (ak ?_)
     obtain ⟨v_17,h_18,hc_10⟩:=bind_some hc_10
     refine aS [(1,(.ref n_2 0 0)),(4,(vS x_6)),(10,(vL eS a_1.Refs)),(11,(vI (a_1.Refs.length:Int))),(12,(vI (k_4:Int))),(21,(vB v_17))] [(n_2,some (.cells 9 (Alert.v a_1)))] ?_ ?_
     ·refine au (aa (vI (k_4:Int)) (aa (vB (decide ((k_4:Int)>0))) ?_))
      rcases aj h_18 with⟨hc_19,h_18⟩|⟨hc_19,h_18⟩
      ·refine aD rfl hc_19 wz (aJ (vS x_6) wa rfl (aG DT rfl 3 rfl wa (aC 0 0 il ft zf AR rfl rfl (vL eS a_1.Refs) rfl wa (aJ (vI (k_4:Int)) wa rfl (aJ (vI (w64 ((k_4:Int)-1))) wa rfl ?_)))))
       obtain ⟨y_20,hy_21,h_18⟩:=bind_some h_18
       refine dC pz rfl rfl hy_21 rfl wa (bK sz9 ag9 rfl (vS y_20) rfl wa (aJ (vB (sLe x_6 y_20)) wa rfl (aa (vB (sLe x_6 y_20)) (aa (vB (sLe x_6 y_20)) (af ?_)))))
       obtain rfl:=ae h_18
       exact cu
      ·refine aD rfl hc_19 wz (ah (ah (ah (ah (ah (ah (ah (ah (aa (vB false) (aa (vB false) (af ?_)))))))))))
       obtain rfl:=ae h_18
       exact cu
     ·rintro ⟨⟩ _ sl_ H_ hp_ hq_
      refine aO _ hp_ hq_ ?_
      rcases aj hc_10 with⟨hc_22,hc_10⟩|⟨hc_22,hc_10⟩
      ·refine aB rfl hc_22 (ai (aa (vI 7) (af ?_)))
       obtain rfl:=ae hc_10
       obtain rfl:=ae hL_11
       obtain rfl:=ae hF
       exact aA (aL [(vI 7)] ⟨rfl,trivial⟩)
      ·refine ay rfl hc_22 (ai (aa (vS x_6) (aG yJ rfl 0 rfl wz (aC 0 0 il ft sz9 ag9 rfl rfl (vS a_1.Id) rfl wz (aa (vB (sEq x_6 a_1.Id)) (aa (vB (sEq x_6 a_1.Id)) (af ?_)))))))
       rcases aj hc_10 with⟨hc_23,hc_10⟩|⟨hc_23,hc_10⟩
       ·refine aB rfl hc_23 (ai (aa (vI 14) (af ?_)))
        obtain rfl:=ae hc_10
        obtain rfl:=ae hL_11
        obtain rfl:=ae hF
        exact aA (aL [(vI 14)] ⟨rfl,trivial⟩)
       ·refine ay rfl hc_23 (ax (au (dB (bv hD_7 hn_8) wz rfl (aa (vI ((k_4+1:Nat):Int)) (af ?_)))))
        obtain rfl:=ae hc_10
        exact aV (k_4+1,l_5,()) ⟨hL_11,aR hD_7⟩ (ls_ _) rfl (aK rfl)
  ·rintro s_9 ho_ sl_ H_ hp_ hq_
   subst ho_
   refine aO _ hp_ hq_ (ak (ai (aG IP rfl 2 rfl wz (aC 0 0 il ft sz3 ag3 rfl rfl (vI a_1.Kind) rfl wz (aa (vB (a_1.Kind==1)) (aG DT rfl 3 rfl wz (aC 0 0 il ft zf AR rfl rfl (vL eS a_1.Refs) rfl wz (bH xq rfl wz (aa (vB ((a_1.Refs.length:Int)==0)) (Qy un4 rfl rfl wz (af ?_)))))))))))
   rcases aj hF with⟨hc_24,hF⟩|⟨hc_24,hF⟩
   ·refine aB rfl hc_24 (ai (aa (vI 3) (af ?_)))
    obtain rfl:=ae hF
    exact aA (aL [(vI 3)] ⟨rfl,trivial⟩)
   ·refine ay rfl hc_24 (ax (ai (aa (vI 0) (af ?_))))
    obtain rfl:=ae hF
    exact aA (aL [(vI 0)] ⟨rfl,trivial⟩)
theorem rX {x0:ByteArray} {r:Bool} (hF:jZ x0=some r) :
  FnM Tryz.prog 154 [(vS x0)] [] (vB r) [] :=
 OU rfl Tryz.utf8_ValidString NJ hF
theorem uZ {s_1:ByteArray} {c_2:Int} {r:ByteArray} (hF:strings_trimRightByte s_1 c_2=some r) :
  FnM Tryz.prog 168 [(vS s_1),(.d (.int .u8 c_2))] [] (vS r) []:=by
 refine FnM.of_wH ⟨Tryz.prog,23,[],[]⟩ rfl Tryz.func168 rfl rfl (lb_ rfl) (by kernel_rfl) ?_
 unfold strings_trimRightByte at hF
 refine ai (aa (vS (⟨#[]⟩:ByteArray)) (af (ak ?_)))
 obtain ⟨o_11,hj_12,hF⟩:=bind_some hF
 obtain ⟨nq_21,hj_12⟩:=dR hj_12
 refine gD (λ(s_8:ByteArray)=>[(0,(vS s_8))]) (λ(s_8:ByteArray)=>[]) (λ(k_3:Nat)=>(λ(s_8:ByteArray)=>[(0,(vS s_8)),(1,(.d (.int .u8 c_2)))])) (λs=>ig c_2 s) o_11 nq_21 s_1 hj_12 rfl (aK rfl) ?_ ?_
 ·rintro ⟨k_3,s_8⟩ hL_10
  dsimp only at hL_10
  cases k_3 with
  | zero=>cases hL_10
  | succ k_3 =>
   obtain ⟨c_,hc_9,hL_10⟩:=bind_some hL_10
   unfold ig at hc_9
   refine ak (ak ?_)
   obtain ⟨v_13,h_14,hc_9⟩:=bind_some hc_9
   refine aS [(0,(vS s_8)),(1,(.d (.int .u8 c_2))),(16,(vB v_13))] [] ?_ ?_
   ·refine au (aa (vS s_8) (wF un9 rfl wz (aa (vB (decide ((s_8.size:Int)>0))) ?_)))
    rcases aj h_14 with⟨hc_15,h_14⟩|⟨hc_15,h_14⟩
    ·refine aD rfl hc_15 wz (aJ (vS s_8) wa rfl (aJ (vS s_8) wa rfl (wF un9 rfl wa (aJ (vI (w64 ((s_8.size:Int)-1))) wa rfl ?_))))
     obtain ⟨b_16,hy_17,h_14⟩:=bind_some h_14
     refine wO un9 rfl rfl hy_17 wa (aJ (.d (.int .u8 c_2)) wa rfl (aJ (vB ((b_16.toNat:Int)==c_2)) wa rfl (aa (vB ((b_16.toNat:Int)==c_2)) (af ?_))))
     obtain rfl:=ae h_14
     exact cu
    ·refine aD rfl hc_15 wz (ah (ah (ah (ah (ah (ah (ah (aa (vB false) (af ?_)))))))))
     obtain rfl:=ae h_14
     exact cu
   ·rintro ⟨⟩ _ sl_ H_ hp_ hq_
    refine aO _ hp_ hq_ ?_
    rcases aj hc_9 with⟨hc_18,hc_9⟩|⟨hc_18,hc_9⟩
    ·refine aB rfl hc_18 (ax (aM (au (aa (vS s_8) (aa (vS s_8) (wF un9 rfl wz (aa (vI (w64 ((s_8.size:Int)-1))) ?_)))))))
     obtain ⟨y_19,hy_20,hc_9⟩:=bind_some hc_9
     refine EA un9 rfl rfl hy_20 wz (aa (vS y_19) (af ?_))
     obtain rfl:=ae hc_9
     exact aV (k_3,y_19) hL_10 (ls_ _) rfl (aK rfl)
    ·refine ay rfl hc_18 (aW ?_)
     obtain rfl:=ae hc_9
     obtain rfl:=ae hL_10
     exact aU (s_8) rfl rfl (aK rfl)
 ·rintro s_8 ho_ sl_ H_ hp_ hq_
  subst ho_
  refine aO _ hp_ hq_ (ai (aa (vS s_8) (aa (vS s_8) (af ?_))))
  obtain rfl:=ae hF
  exact aA (aL [(vS s_8)] ⟨rfl,trivial⟩)
theorem vM {s_1:ByteArray} {c_2:Int} {r:ByteArray} (hF:strings_trimLeftByte s_1 c_2=some r) :
  FnM Tryz.prog 167 [(vS s_1),(.d (.int .u8 c_2))] [] (vS r) []:=by
 refine FnM.of_wH ⟨Tryz.prog,17,[],[]⟩ rfl Tryz.func167 rfl rfl (lb_ rfl) (by kernel_rfl) ?_
 unfold strings_trimLeftByte at hF
 refine ai (aa (vS (⟨#[]⟩:ByteArray)) (af (ak ?_)))
 obtain ⟨o_11,hj_12,hF⟩:=bind_some hF
 obtain ⟨nq_21,hj_12⟩:=dR hj_12
 refine gD (λ(s_8:ByteArray)=>[(0,(vS s_8))]) (λ(s_8:ByteArray)=>[]) (λ(k_3:Nat)=>(λ(s_8:ByteArray)=>[(0,(vS s_8)),(1,(.d (.int .u8 c_2)))])) (λs=>iB c_2 s) o_11 nq_21 s_1 hj_12 rfl (aK rfl) ?_ ?_
 ·rintro ⟨k_3,s_8⟩ hL_10
  dsimp only at hL_10
  cases k_3 with
  | zero=>cases hL_10
  | succ k_3 =>
   obtain ⟨c_,hc_9,hL_10⟩:=bind_some hL_10
   unfold iB at hc_9
   refine ak (ak ?_)
   obtain ⟨v_13,h_14,hc_9⟩:=bind_some hc_9
   refine aS [(0,(vS s_8)),(1,(.d (.int .u8 c_2))),(13,(vB v_13))] [] ?_ ?_
   ·refine au (aa (vS s_8) (wF un9 rfl wz (aa (vB (decide ((s_8.size:Int)>0))) ?_)))
    rcases aj h_14 with⟨hc_15,h_14⟩|⟨hc_15,h_14⟩
    ·refine aD rfl hc_15 wz (aJ (vS s_8) wa rfl ?_)
     obtain ⟨b_16,hy_17,h_14⟩:=bind_some h_14
     refine wO un9 rfl rfl hy_17 wa (aJ (.d (.int .u8 c_2)) wa rfl (aJ (vB ((b_16.toNat:Int)==c_2)) wa rfl (aa (vB ((b_16.toNat:Int)==c_2)) (af ?_))))
     obtain rfl:=ae h_14
     exact cu
    ·refine aD rfl hc_15 wz (ah (ah (ah (ah (aa (vB false) (af ?_))))))
     obtain rfl:=ae h_14
     exact cu
   ·rintro ⟨⟩ _ sl_ H_ hp_ hq_
    refine aO _ hp_ hq_ ?_
    rcases aj hc_9 with⟨hc_18,hc_9⟩|⟨hc_18,hc_9⟩
    ·refine aB rfl hc_18 (ax (aM (au (aa (vS s_8) ?_))))
     obtain ⟨y_19,hy_20,hc_9⟩:=bind_some hc_9
     refine EX un9 rfl rfl hy_20 wz (aa (vS y_19) (af ?_))
     obtain rfl:=ae hc_9
     exact aV (k_3,y_19) hL_10 (ls_ _) rfl (aK rfl)
    ·refine ay rfl hc_18 (aW ?_)
     obtain rfl:=ae hc_9
     obtain rfl:=ae hL_10
     exact aU (s_8) rfl rfl (aK rfl)
 ·rintro s_8 ho_ sl_ H_ hp_ hq_
  subst ho_
  refine aO _ hp_ hq_ (ai (aa (vS s_8) (aa (vS s_8) (af ?_))))
  obtain rfl:=ae hF
  exact aA (aL [(vS s_8)] ⟨rfl,trivial⟩)
theorem De {s_1:ByteArray} {cutset_2:ByteArray} {r:ByteArray} (hF:pV s_1 cutset_2=some r) :
  FnM Tryz.prog 155 [(vS s_1),(vS cutset_2)] [] (vS r) []:=by
 refine FnM.of_wH ⟨Tryz.prog,43,[],[]⟩ rfl Tryz.func155 rfl rfl (lb_ rfl) (by kernel_rfl) ?_
 unfold pV at hF
 refine ai (aa (vS (⟨#[]⟩:ByteArray)) (af (ak (ak ?_))))
 obtain ⟨v_3,h_4,hF⟩:=bind_some hF
 refine aS [(0,(vS s_1)),(1,(vS cutset_2)),(12,(vB v_3))] [] ?_ ?_
 ·refine au (aa (vS s_1) (aa (vB (sEq s_1 (⟨#[]⟩:ByteArray))) ?_))
  rcases aj h_4 with⟨hc_5,h_4⟩|⟨hc_5,h_4⟩
  ·refine aD rfl hc_5 wz (ah (ah (aa (vB true) (af ?_))))
   obtain rfl:=ae h_4
   exact cu
  ·refine aD rfl hc_5 wz (aJ (vS cutset_2) wa rfl (aJ (vB (sEq cutset_2 (⟨#[]⟩:ByteArray))) wa rfl (aa (vB (sEq cutset_2 (⟨#[]⟩:ByteArray))) (af ?_))))
   obtain rfl:=ae h_4
   exact cu
 ·rintro ⟨⟩ _ sl_ H_ hp_ hq_
  refine aO _ hp_ hq_ ?_
  rcases aj hF with⟨hc_6,hF⟩|⟨hc_6,hF⟩
  ·refine aB rfl hc_6 (ai (aa (vS s_1) (aa (vS s_1) (af ?_))))
   obtain rfl:=ae hF
   exact aA (aL [(vS s_1)] ⟨rfl,trivial⟩)
  ·refine ay rfl hc_6 (ax (ak (ak ?_)))
   obtain ⟨v_7,h_8,hF⟩:=bind_some hF
   refine aS [(0,(vS s_1)),(1,(vS cutset_2)),(21,(vB v_7))] [] ?_ ?_
   ·refine au (aa (vS cutset_2) (wF un9 rfl wz (aa (vB ((cutset_2.size:Int)==1)) ?_)))
    rcases aj h_8 with⟨hc_9,h_8⟩|⟨hc_9,h_8⟩
    ·refine aD rfl hc_9 wz (aJ (vS cutset_2) wa rfl ?_)
     obtain ⟨b_10,hy_11,h_8⟩:=bind_some h_8
     refine wO un9 rfl rfl hy_11 wa (aJ (vB (decide ((b_10.toNat:Int)<128))) wa rfl (aa (vB (decide ((b_10.toNat:Int)<128))) (af ?_)))
     obtain rfl:=ae h_8
     exact cu
    ·refine aD rfl hc_9 wz (ah (ah (ah (aa (vB false) (af ?_)))))
     obtain rfl:=ae h_8
     exact cu
   ·rintro ⟨⟩ _ sl_ H_ hp_ hq_
    refine aO _ hp_ hq_ ?_
    rcases aj hF with⟨hc_12,hF⟩|⟨hc_12,hF⟩
    ·refine aB rfl hc_12 (ak (bE (aa (vS s_1) (aa (vS cutset_2) ?_))))
     obtain ⟨b_13,hy_14,hF⟩:=bind_some hF
     refine wO un9 rfl rfl hy_14 wz ?_
     obtain ⟨r_15,hr_16,hF⟩:=bind_some hF
     refine aF (uZ hr_16) rfl hb168 rfl rfl rfl rfl wz (aa (vS cutset_2) ?_)
     obtain ⟨b_17,hy_18,hF⟩:=bind_some hF
     refine wO un9 rfl rfl hy_18 wz ?_
     obtain ⟨r_19,hr_20,hF⟩:=bind_some hF
     refine aF (vM hr_20) rfl hb167 rfl rfl rfl rfl wz (aa (vS r_19) (af ?_))
     obtain rfl:=ae hF
     exact aA (aL [(vS r_19)] ⟨rfl,trivial⟩)
    ·refine ay rfl hc_12 (ax (ak (ai (aa (vS cutset_2) ?_))))
     cases hF
theorem yX {x0:ByteArray} {x1:ByteArray} {r:Bool} (hF:strings_Contains x0 x1=some r) :
  FnM Tryz.prog 156 [(vS x0),(vS x1)] [] (vB r) [] :=
 Ku Tryz.strings_Contains JE hF
theorem Fh {s_1:ByteArray} {r:Bool} (hF:oW s_1=some r) :
  FnM Tryz.prog 134 [(vS s_1)] [] (vB r) []:=by
 refine FnM.of_wH ⟨Tryz.prog,33,[],[]⟩ rfl Tryz.func134 rfl rfl (lb_ rfl) (by kernel_rfl) ?_
 unfold oW at hF
 refine ai (aa (vB false) (af (ak (ai (aa (vI 0) (af ?_))))))
 obtain ⟨o_10,hj_11,hF⟩:=bind_some hF
 obtain ⟨nq_31,hj_11⟩:=dR hj_11
 refine gD (λ(s_7:Int)=>[(0,(vS s_1))]) (λ(s_7:Int)=>[]) (λ(k_2:Nat)=>(λ(s_7:Int)=>[(0,(vS s_1)),(3,(vI s_7))])) (λs=>pg s_1 s) o_10 nq_31 0 hj_11 rfl (aK rfl) ?_ ?_
 ·rintro ⟨k_2,s_7⟩ hL_9
  dsimp only at hL_9
  cases k_2 with
  | zero=>cases hL_9
  | succ k_2 =>
   obtain ⟨c_,hc_8,hL_9⟩:=bind_some hL_9
   unfold pg at hc_8
   refine ak (ai (aa (vI s_7) (aa (vS s_1) (wF un9 rfl wz (aa (vB (decide (s_7<(s_1.size:Int)))) (af ?_))))))
   rcases aj hc_8 with⟨hc_12,hc_8⟩|⟨hc_12,hc_8⟩
   ·refine aB rfl hc_12 (ax (ak (aM (ak ?_))))
    obtain ⟨v_13,h_14,hc_8⟩:=bind_some hc_8
    refine aS [(0,(vS s_1)),(3,(vI s_7)),(19,(vB v_13))] [] ?_ ?_
    ·refine au (aa (vS s_1) (aa (vI s_7) ?_))
     obtain ⟨b_15,hy_16,h_14⟩:=bind_some h_14
     refine wO un9 rfl rfl hy_16 wz (aa (vB (decide ((b_15.toNat:Int)<32))) ?_)
     rcases aj h_14 with⟨hc_17,h_14⟩|⟨hc_17,h_14⟩
     ·refine aD rfl hc_17 wz (ah (ah (ah (ah (aa (vB true) (af ?_))))))
      obtain rfl:=ae h_14
      exact cu
     ·refine aD rfl hc_17 wz (aJ (vS s_1) wa rfl (aJ (vI s_7) wa rfl ?_))
      obtain ⟨b_18,hy_19,h_14⟩:=bind_some h_14
      refine wO un9 rfl rfl hy_19 wa (aJ (vB ((b_18.toNat:Int)==127)) wa rfl (aa (vB ((b_18.toNat:Int)==127)) (af ?_)))
      obtain rfl:=ae h_14
      exact cu
    ·rintro ⟨⟩ _ sl_ H_ hp_ hq_
     refine aO _ hp_ hq_ ?_
     rcases aj hc_8 with⟨hc_20,hc_8⟩|⟨hc_20,hc_8⟩
     ·refine aB rfl hc_20 (ai (aa (vB false) (af ?_)))
      obtain rfl:=ae hc_8
      obtain rfl:=ae hL_9
      obtain rfl:=ae hF
      exact aA (aL [(vB false)] ⟨rfl,trivial⟩)
     ·refine ay rfl hc_20 (ax (au (aa (vI s_7) (aa (vI (w64 (s_7+1))) (aa (vI (w64 (s_7+1))) (af ?_))))))
      obtain rfl:=ae hc_8
      exact aV (k_2,(w64 (s_7+1))) hL_9 (ls_ _) rfl (aK rfl)
   ·refine ay rfl hc_12 (aW ?_)
    obtain rfl:=ae hc_8
    obtain rfl:=ae hL_9
    exact aU (s_7) rfl rfl (aK rfl)
 ·rintro s_7 ho_ sl_ H_ hp_ hq_
  subst ho_
  refine aO _ hp_ hq_ (ak ?_)
  obtain ⟨v_21,h_22,hF⟩:=bind_some hF
  refine aS [(2,(vB v_21))] [] ?_ ?_
  ·refine au (aa (vS s_1) ?_)
   obtain ⟨r_23,hr_24,h_22⟩:=bind_some h_22
   refine aF (rX hr_24) rfl hb154 rfl rfl rfl rfl wz ?_
   rcases aj h_22 with⟨hc_25,h_22⟩|⟨hc_25,h_22⟩
   ·refine aD rfl hc_25 wz (aJ (vS s_1) wa rfl ?_)
    obtain ⟨r_26,hr_27,h_22⟩:=bind_some h_22
    refine aF (De hr_27) rfl hb155 rfl rfl rfl rfl wa (aJ (vS s_1) wa rfl (aJ (vB (sEq r_26 s_1)) wa rfl (aa (vB (sEq r_26 s_1)) ?_)))
    rcases aj h_22 with⟨hc_28,h_22⟩|⟨hc_28,h_22⟩
    ·refine aD rfl hc_28 wz (aJ (vS s_1) wa rfl ?_)
     obtain ⟨r_29,hr_30,h_22⟩:=bind_some h_22
     refine aF (yX hr_30) rfl hb156 rfl rfl rfl rfl wa (aJ (vB (!r_29)) wa rfl (aa (vB (!r_29)) (aa (vB (!r_29)) (af ?_))))
     obtain rfl:=ae h_22
     exact cu
    ·refine aD rfl hc_28 wz (ah (ah (ah (aa (vB false) (aa (vB false) (af ?_))))))
     obtain rfl:=ae h_22
     exact cu
   ·refine aD rfl hc_25 wz (ah (ah (ah (ah (aa (vB false) (aa (vB false) (ah (ah (ah (aa (vB false) (aa (vB false) (af ?_))))))))))))
    obtain rfl:=ae h_22
    exact cu
  ·rintro ⟨⟩ _ sl_ H_ hp_ hq_
   refine aO _ hp_ hq_ ?_
   obtain rfl:=ae hF
   exact aA (aL [(vB v_21)] ⟨rfl,trivial⟩)
theorem ze {a_1:Alert} {r:Int} (hF:kU a_1=some r) :
  FnM Tryz.prog 110 [(.d (.agg (Alert.enc a_1)))] [] (vI r) []:=by
 refine FnM.of_wH ⟨Tryz.prog,92,[],[]⟩ rfl Tryz.func110 rfl rfl (lb_ rfl) (by kernel_rfl) ?_
 unfold kU at hF
 refine ai (gz 0 (.inl rfl) (Alert.v a_1) rfl rfl wz (λn_2=>aa (vI 0) (af (ak (ak ?_)))))
 obtain ⟨v_3,h_4,hF⟩:=bind_some hF
 refine aS [(1,(.ref n_2 0 0)),(17,(vB v_3))] [(n_2,some (.cells 9 (Alert.v a_1)))] ?_ ?_
 ·refine au (aG yJ rfl 0 rfl wz (aC 0 0 il ft sz9 ag9 rfl rfl (vS a_1.Id) rfl wz ?_))
  obtain ⟨r_5,hr_6,h_4⟩:=bind_some h_4
  refine aF (d9 hr_6) rfl AQ rfl rfl rfl rfl wz (aa (vB (!r_5)) ?_)
  rcases aj h_4 with⟨hc_7,h_4⟩|⟨hc_7,h_4⟩
  ·refine aD rfl hc_7 wz (ah (ah (ah (ah (aa (vB true) (af ?_))))))
   obtain rfl:=ae h_4
   exact cu
  ·refine aD rfl hc_7 wz (aG pl105_1 rfl 1 rfl wa (aC 0 0 il ft sz9 ag9 rfl rfl (vS a_1.Sender) rfl wa ?_))
   obtain ⟨r_8,hr_9,h_4⟩:=bind_some h_4
   refine aF (d9 hr_9) rfl AQ rfl rfl rfl rfl wa (aJ (vB (!r_8)) wa rfl (aa (vB (!r_8)) (af ?_)))
   obtain rfl:=ae h_4
   exact cu
 ·rintro ⟨⟩ _ sl_ H_ hp_ hq_
  refine aO _ hp_ hq_ ?_
  rcases aj hF with⟨hc_10,hF⟩|⟨hc_10,hF⟩
  ·refine aB rfl hc_10 (ai (aa (vI 5) (af ?_)))
   obtain rfl:=ae hF
   exact aA (aL [(vI 5)] ⟨rfl,trivial⟩)
  ·refine ay rfl hc_10 (ax (ak (ai (aG IP rfl 2 rfl wz (aC 0 0 il ft sz3 ag3 rfl rfl (vI a_1.Kind) rfl wz ?_)))))
   obtain ⟨r_11,hr_12,hF⟩:=bind_some hF
   refine aF (bA hr_12) rfl rC rfl rfl rfl rfl wz (af ?_)
   rcases aj hF with⟨hc_13,hF⟩|⟨hc_13,hF⟩
   ·refine aB rfl hc_13 (ai (aa (vI 4) (af ?_)))
    obtain rfl:=ae hF
    exact aA (aL [(vI 4)] ⟨rfl,trivial⟩)
   ·refine ay rfl hc_13 (ax (ak (ai (aC 0 0 il ft xy Bo rfl rfl (.d (.agg (Alert.enc a_1))) rfl wz ?_))))
    obtain ⟨r_14,hr_15,hF⟩:=bind_some hF
    refine aF (zF hr_15) rfl hb133 rfl rfl rfl rfl wz (aa (vI r_14) (af (ai (aa (vI r_14) (aa (vB (r_14 != 0)) (af ?_))))))
    rcases aj hF with⟨hc_16,hF⟩|⟨hc_16,hF⟩
    ·refine aB rfl hc_16 (ai (aa (vI r_14) (aa (vI r_14) (af ?_))))
     obtain rfl:=ae hF
     exact aA (aL [(vI r_14)] ⟨rfl,trivial⟩)
    ·refine ay rfl hc_16 (ax (ak (ak ?_)))
     obtain ⟨v_17,h_18,hF⟩:=bind_some hF
     refine aS [(1,(.ref n_2 0 0)),(45,(vB v_17))] [(n_2,some (.cells 9 (Alert.v a_1)))] ?_ ?_
     ·refine au (aG Ar rfl 4 rfl wz (aC 0 0 il ft sz3 ag3 rfl rfl (vI a_1.At) rfl wz ?_))
      obtain ⟨r_19,hr_20,h_18⟩:=bind_some h_18
      refine aF (fJ hr_20) rfl IU rfl rfl rfl rfl wz (aa (vB (!r_19)) ?_)
      rcases aj h_18 with⟨hc_21,h_18⟩|⟨hc_21,h_18⟩
      ·refine aD rfl hc_21 wz (ah (ah (ah (ah (ah (ah (ah (ah (ah (aa (vB true) (aa (vB true) (ah (ah (ah (aa (vB true) (af ?_))))))))))))))))
       obtain rfl:=ae h_18
       exact cu
      ·refine aD rfl hc_21 wz (aG pl105_5 rfl 5 rfl wa (aC 0 0 il ft sz3 ag3 rfl rfl (vI a_1.Until) rfl wa (aG Ar rfl 4 rfl wa (aC 0 0 il ft sz3 ag3 rfl rfl (vI a_1.At) rfl wa (aJ (vI (w64 (a_1.At+1))) wa rfl (aG Ar rfl 4 rfl wa (aC 0 0 il ft sz3 ag3 rfl rfl (vI a_1.At) rfl wa (aJ (vI (w64 (a_1.At+2592000000))) wa rfl ?_))))))))
       obtain ⟨r_22,hr_23,h_18⟩:=bind_some h_18
       refine aF (bA hr_23) rfl rC rfl rfl rfl rfl wa (aa (vB r_22) ?_)
       rcases aj h_18 with⟨hc_24,h_18⟩|⟨hc_24,h_18⟩
       ·refine aD rfl hc_24 wz (ah (ah (ah (aa (vB true) (af ?_)))))
        obtain rfl:=ae h_18
        exact cu
       ·refine aD rfl hc_24 wz (aG pl105_6 rfl 6 rfl wa (aC 0 0 il ft sz3 ag3 rfl rfl (vI a_1.Weight) rfl wa ?_))
        obtain ⟨r_25,hr_26,h_18⟩:=bind_some h_18
        refine aF (bA hr_26) rfl rC rfl rfl rfl rfl wa (aa (vB r_25) (af ?_))
        obtain rfl:=ae h_18
        exact cu
     ·rintro ⟨⟩ _ sl_ H_ hp_ hq_
      refine aO _ hp_ hq_ ?_
      rcases aj hF with⟨hc_27,hF⟩|⟨hc_27,hF⟩
      ·refine aB rfl hc_27 (ai (aa (vI 1) (af ?_)))
       obtain rfl:=ae hF
       exact aA (aL [(vI 1)] ⟨rfl,trivial⟩)
      ·refine ay rfl hc_27 (ax (ak (ai (aG DC rfl 7 rfl wz (aC 0 0 il ft NM NA rfl rfl (vL Rect.enc a_1.Areas) rfl wz (bH Ca rfl wz (aa (vB (decide ((a_1.Areas.length:Int)>20))) (af ?_))))))))
       rcases aj hF with⟨hc_28,hF⟩|⟨hc_28,hF⟩
       ·refine aB rfl hc_28 (ai (aa (vI 2) (af ?_)))
        obtain rfl:=ae hF
        exact aA (aL [(vI 2)] ⟨rfl,trivial⟩)
       ·refine ay rfl hc_28 (ax (ak (ai (aG DC rfl 7 rfl wz (aC 0 0 il ft NM NA rfl rfl (vL Rect.enc a_1.Areas) rfl wz (bH Ca rfl wz (aa (vI 0) (af ?_))))))))
        obtain ⟨o_37,hj_38,hF⟩:=bind_some hF
        obtain ⟨hn_33,hj_38⟩:=aY hj_38
        refine bN (λ(s_34:Unit)=>[(1,(.ref n_2 0 0))]) (λ(s_34:Unit)=>[(n_2,some (.cells 9 (Alert.v a_1)))]) (λ(k_29:Nat)=>(λ(s_34:Unit)=>[(1,(.ref n_2 0 0)),(51,(vL Rect.enc a_1.Areas)),(52,(vI (a_1.Areas.length:Int))),(53,(vI (k_29:Int)))])) (λk x s=>ku k x s) o_37 a_1.Areas () hj_38 rfl (aK rfl) ?_ ?_
        ·rintro ⟨k_29,l_30,s_34⟩ ⟨hL_36,hD_32⟩
         dsimp only at hL_36 hD_32
         cases l_30 with
         | nil =>
          obtain rfl:=ae hL_36
          refine ai (aa (vB (decide ((k_29:Int)<(a_1.Areas.length:Int)))) (af ?_))
          refine ak (ay rfl (drop_nil hD_32) (aW ?_))
          exact aU (s_34) rfl rfl (aK rfl)
         | cons x_31 l_30 =>
          obtain ⟨c_,hc_35,hL_36⟩:=bind_some hL_36
          refine ai (aa (vB (decide ((k_29:Int)<(a_1.Areas.length:Int)))) (af ?_))
          refine ak (aB rfl (bu hD_32) (ax ?_))
          unfold ku at hc_35
          refine ak (aM (ai (dC I8 rfl rfl (bD hD_32) rfl wz (bK x9 JL rfl (.d (.agg (Rect.enc x_31))) rfl wz (cz 0 (.inl rfl) z92 rfl wz (λn_39=>eB 0 il ft 1 x9 rfl rfl (Rect.v x_31) rfl wz (af (ai (aC 0 1 il ft x9 JL rfl rfl (.d (.agg (Rect.enc x_31))) rfl wz ?_)))))))))
          obtain ⟨r_40,hr_41,hc_35⟩:=bind_some hc_35
          refine aF (rV hr_41) rfl hb80 rfl rfl rfl rfl wz (aa (vI r_40) (af (ai (aa (vI r_40) (aa (vB (r_40 != 0)) (af ?_))))))
          rcases aj hc_35 with⟨hc_42,hc_35⟩|⟨hc_42,hc_35⟩
          ·refine aB rfl hc_42 (ai (aa (vI r_40) (aa (vI r_40) (af ?_))))
           obtain rfl:=ae hc_35
           obtain rfl:=ae hL_36
           obtain rfl:=ae hF
           exact aA (aL [(vI r_40)] ⟨rfl,trivial⟩)
          ·refine ay rfl hc_42 (ax (au (dB (bv hD_32 hn_33) wz rfl (aa (vI ((k_29+1:Nat):Int)) (af ?_)))))
           obtain rfl:=ae hc_35
           exact aV (k_29+1,l_30,()) ⟨hL_36,aR hD_32⟩ (ls_ _) rfl (aK rfl)
        ·rintro s_34 ho_ sl_ H_ hp_ hq_
         subst ho_
         refine aO _ hp_ hq_ (ai (aG IP rfl 2 rfl wz (aC 0 0 il ft sz3 ag3 rfl rfl (vI a_1.Kind) rfl wz (aa (vB (a_1.Kind==3)) (aa (vB (a_1.Kind==3)) (af (ak (aM (ai (aa (vB (a_1.Kind==3)) (aG DC rfl 7 rfl wz (aC 0 0 il ft NM NA rfl rfl (vL Rect.enc a_1.Areas) rfl wz (bH Ca rfl wz (aa (vB ((a_1.Areas.length:Int)==0)) (Qy un4 rfl rfl wz (aa (vB (!((a_1.Kind==3)==((a_1.Areas.length:Int)==0)))) (af ?_)))))))))))))))))
         rcases aj hF with⟨hc_43,hF⟩|⟨hc_43,hF⟩
         ·refine aB rfl hc_43 (ai (aa (vI 3) (af ?_)))
          obtain rfl:=ae hF
          exact aA (aL [(vI 3)] ⟨rfl,trivial⟩)
         ·refine ay rfl hc_43 (ai (aG Ia rfl 8 rfl wz (aC 0 0 il ft sz9 ag9 rfl rfl (vS a_1.Text) rfl wz (wF un9 rfl wz (aa (vB (decide ((a_1.Text.size:Int)>500))) (aa (vB (decide ((a_1.Text.size:Int)>500))) (af ?_)))))))
          rcases aj hF with⟨hc_44,hF⟩|⟨hc_44,hF⟩
          ·refine aB rfl hc_44 (ai (aa (vI 2) (af ?_)))
           obtain rfl:=ae hF
           exact aA (aL [(vI 2)] ⟨rfl,trivial⟩)
          ·refine ay rfl hc_44 (ak ?_)
           obtain ⟨v_45,h_46,hF⟩:=bind_some hF
           refine aS [(78,(vB v_45))] [(n_2,some (.cells 9 (Alert.v a_1)))] ?_ ?_
           ·refine au (aG Ia rfl 8 rfl wz (aC 0 0 il ft sz9 ag9 rfl rfl (vS a_1.Text) rfl wz ?_))
            obtain ⟨r_47,hr_48,h_46⟩:=bind_some h_46
            refine aF (Fh hr_48) rfl hb134 rfl rfl rfl rfl wz (aa (vB (!r_47)) ?_)
            rcases aj h_46 with⟨hc_49,h_46⟩|⟨hc_49,h_46⟩
            ·refine aD rfl hc_49 wz (ah (ah (ah (ah (bZ (wn rfl rfl) (bZ (wn rfl rfl) (ah (aa (vB true) (aa (vB true) (af ?_))))))))))
             obtain rfl:=ae h_46
             exact cu
            ·refine aD rfl hc_49 wz (aG Ia rfl 8 rfl wa (aC 0 0 il ft sz9 ag9 rfl rfl (vS a_1.Text) rfl wa (aJ (vB (sEq a_1.Text (⟨#[]⟩:ByteArray))) wa rfl ?_)))
             rcases aj h_46 with⟨hc_50,h_46⟩|⟨hc_50,h_46⟩
             ·refine aD rfl hc_50 wa (aJ (vB (a_1.Kind==3)) wa rfl (aJ (vB (!(a_1.Kind==3))) wa rfl (aJ (vB (!(a_1.Kind==3))) wa rfl (aa (vB (!(a_1.Kind==3))) (aa (vB (!(a_1.Kind==3))) (af ?_))))))
              obtain rfl:=ae h_46
              exact cu
             ·refine aD rfl hc_50 wa (ah (ah (aJ (vB false) wa rfl (aa (vB false) (aa (vB false) (af ?_))))))
              obtain rfl:=ae h_46
              exact cu
           ·rintro ⟨⟩ _ sl_ H_ hp_ hq_
            refine aO _ hp_ hq_ ?_
            rcases aj hF with⟨hc_51,hF⟩|⟨hc_51,hF⟩
            ·refine aB rfl hc_51 (ai (aa (vI 3) (af ?_)))
             obtain rfl:=ae hF
             exact aA (aL [(vI 3)] ⟨rfl,trivial⟩)
            ·refine ay rfl hc_51 (ax (ai (aa (vI 0) (af ?_))))
             obtain rfl:=ae hF
             exact aA (aL [(vI 0)] ⟨rfl,trivial⟩)
theorem BQ {a_1:Alert} {b_2:Alert} {r:Int} (hF:qB a_1 b_2=some r) :
  FnM Tryz.prog 111 [(.d (.agg (Alert.enc a_1))),(.d (.agg (Alert.enc b_2)))] [] (vI r) []:=by
 refine FnM.of_wH ⟨Tryz.prog,17,[],[]⟩ rfl Tryz.func111 rfl rfl (lb_ rfl) (by kernel_rfl) ?_
 unfold qB at hF
 refine ai (gz 0 (.inl rfl) (Alert.v a_1) rfl rfl wz (λn_3=>gz 0 (.inl rfl) (Alert.v b_2) rfl rfl wz (λn_4=>aa (vI 0) (af (ak (bE (aG Ar rfl 4 rfl wz (aC 1 0 (.inr (by kernel_rfl)) (λ_ _ ag=>trivial) sz3 ag3 rfl rfl (vI a_1.At) rfl wz (aG Ar rfl 4 rfl wz (aC 3 1 (.inr (by kernel_rfl)) (λ_ _ ag=>⟨.inl ⟨rfl,rfl⟩,trivial⟩) sz3 ag3 rfl rfl (vI b_2.At) rfl wz ?_))))))))))
 obtain ⟨r_5,hr_6,hF⟩:=bind_some hF
 refine aF (tL hr_6) rfl hb132 rfl rfl rfl rfl wz (aG yJ rfl 0 rfl wz (aC 6 0 (.inr (by kernel_rfl)) (λ_ _ ag=>⟨.inl ⟨rfl,rfl⟩,⟨.inl ⟨rfl,rfl⟩,trivial⟩⟩) sz9 ag9 rfl rfl (vS a_1.Id) rfl wz (aG yJ rfl 0 rfl wz (aC 8 1 (.inr (by kernel_rfl)) (λ_ _ ag=>⟨.inl ⟨rfl,rfl⟩,⟨.inl ⟨rfl,rfl⟩,⟨.inl ⟨rfl,rfl⟩,trivial⟩⟩⟩) sz9 ag9 rfl rfl (vS b_2.Id) rfl wz ?_))))
 obtain ⟨r_7,hr_8,hF⟩:=bind_some hF
 refine aF (sO hr_8) rfl hb131 rfl rfl rfl rfl wz (dU (([r_5,r_7]:List Int).map eI) gq zJ rfl rfl rfl rfl rfl wz ?_)
 obtain ⟨r_9,hr_10,hF⟩:=bind_some hF
 refine aF (zl hr_10) rfl hb130 rfl rfl rfl rfl wz (aa (vI r_9) (af ?_))
 obtain rfl:=ae hF
 exact aA (aL [(vI r_9)] ⟨rfl,trivial⟩)
end Go.Proofs.YtkjlhdminmpmkacGreatDoor.Law

