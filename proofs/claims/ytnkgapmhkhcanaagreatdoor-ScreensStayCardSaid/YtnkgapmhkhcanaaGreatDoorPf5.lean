/-
 The machine computes these plain functions (written by a program of ours).
-/
import Derived.Test.YtnkgapmhkhcanaaGreatDoorFacts
import Derived.Test.YtnkgapmhkhcanaaGreatDoorDefs
import Derived.Test.YtnkgapmhkhcanaaGreatDoorPf4
open Go Go.Eng Go.Proofs
namespace Go.Proofs.YtnkgapmhkhcanaaGreatDoor.Law
set_option maxRecDepth 100000
set_option linter.unusedVariables false
set_option maxHeartbeats 1000000
theorem C9 {t_1:Window} {wv_2:Window} {r:Window} (hF:wF t_1 wv_2=some r) :
  FnM Tryz.prog 64 [(.d (.agg (Window.enc t_1))),(.d (.agg (Window.enc wv_2)))] [] (.d (.agg (Window.enc r))) []:=by
 refine FnM.of_wH ⟨Tryz.prog,16,[],[]⟩ rfl Tryz.func64 rfl rfl (lb_ rfl) (by kernel_rfl) ?_
 unfold wF at hF
 refine ai (dY 0 (.inl rfl) [(vI t_1.From),(vI t_1.To)] rfl rfl wz (λn_3=>dY 0 (.inl rfl) [(vI wv_2.From),(vI wv_2.To)] rfl rfl wz (λn_4=>bf 0 (.inl rfl) z89 rfl wz (λn_5=>ah (ai (ay pG rfl 0 rfl wz (av 0 0 il ft sz3 ag3 rfl rfl (vI t_1.From) rfl wz (ay pG rfl 0 rfl wz (av 0 1 il ft sz3 ag3 rfl rfl (vI wv_2.From) rfl wz (jV (vI (bW t_1.From wv_2.From)) rfl (.inr rfl) wz (ay pW rfl 1 rfl wz (av 0 0 il ft sz3 ag3 rfl rfl (vI t_1.To) rfl wz (ay pW rfl 1 rfl wz (av 0 1 il ft sz3 ag3 rfl rfl (vI wv_2.To) rfl wz (jV (vI (fD t_1.To wv_2.To)) rfl (.inl rfl) wz (aI (.d (.agg (Window.enc (⟨(bW t_1.From wv_2.From),(fD t_1.To wv_2.To)⟩:Window)))) wz (by kernel_rfl) (cz 0 il ft 2 zi rfl rfl [(vI (bW t_1.From wv_2.From)),(vI (fD t_1.To wv_2.To))] rfl wz (ah ?_))))))))))))))))))
 obtain rfl:=ae hF
 exact aA (aK [(.d (.agg (Window.enc (⟨(bW t_1.From wv_2.From),(fD t_1.To wv_2.To)⟩:Window))))] ⟨⟨2,_,_,_,_,_,_,_,rfl,rfl,zi,Hw,rfl⟩,trivial⟩)
theorem zM {e_1:Entry} {zone_2:Int} {wv_3:Window} {r:(List Window)} (hF:mr e_1 zone_2 wv_3=some r) :
  FnM Tryz.prog 63 [(.d (.agg (Entry.enc e_1))),(vI zone_2),(.d (.agg (Window.enc wv_3)))] [] (gV (aJ 0) 2 r) (([]:List Box).map some++gO 2 Window.enc r):=by
 refine FnM.of_wH ⟨Tryz.prog,72,[],[]⟩ rfl Tryz.func63 rfl rfl (lb_ rfl) (by kernel_rfl) ?_
 unfold mr at hF
 refine ai (dY 0 (.inl rfl) (Entry.v e_1) rfl rfl wz (λn_4=>dY 0 (.inl rfl) [(vI wv_3.From),(vI wv_3.To)] rfl rfl wz (λn_5=>aa .nil (ah (ai (aa .nil (ah (ak (ak ?_)))))))))
 obtain ⟨v_6,h_7,hF⟩:=bind_some hF
 refine aP [(1,(vI zone_2)),(3,(.ref n_4 0 0)),(5,(.ref n_5 0 0)),(7,.nil),(20,(vB v_6))] [(n_4,some (.cells 13 (Entry.v e_1))),(n_5,some (.cells 2 [(vI wv_3.From),(vI wv_3.To)]))] ?_ ?_
 ·refine au (ay pl87_12 rfl 12 rfl wz (av 0 0 il ft sz4 ag4 rfl rfl (vB e_1.Gone) rfl wz ?_))
  rcases aj h_7 with⟨hc_8,h_7⟩|⟨hc_8,h_7⟩
  ·refine aF rfl hc_8 wz (af (af (af (af (af (aa (vB true) (ah ?_)))))))
   obtain rfl:=ae h_7
   exact cu
  ·refine aF rfl hc_8 wz (ay pG rfl 0 rfl wa (av 0 1 il ft sz3 ag3 rfl rfl (vI wv_3.From) rfl wa (ay pW rfl 1 rfl wa (av 0 1 il ft sz3 ag3 rfl rfl (vI wv_3.To) rfl wa (aI (vB (decide (wv_3.From>=wv_3.To))) wa rfl (aa (vB (decide (wv_3.From>=wv_3.To))) (ah ?_)))))))
   obtain rfl:=ae h_7
   exact cu
 ·rintro ⟨⟩ _ sl_ H_ hp_ hq_
  refine aM _ hp_ hq_ ?_
  rcases aj hF with⟨hc_9,hF⟩|⟨hc_9,hF⟩
  ·refine aC rfl hc_9 (ai (aa .nil (ah (iV (λn_10 => ?_)))))
   obtain rfl:=ae hF
   exact aA (O3 (outs:=([]:List Box)) (.inr rfl) 2 rfl rfl rfl (by kernel_rfl) (by kernel_rfl))
  ·refine aB rfl hc_9 (ax (ai (ay pG rfl 0 rfl wz (av 0 1 il ft sz3 ag3 rfl rfl (vI wv_3.From) rfl wz (aa (vI zone_2) (aa (vI (w64 (zone_2*60000))) (aa (vI (w64 (wv_3.From+(w64 (zone_2*60000))))) (aa (vI (w64 ((w64 (wv_3.From+(w64 (zone_2*60000)))).tdiv 86400000))) (aa (vI (w64 ((w64 ((w64 (wv_3.From+(w64 (zone_2*60000)))).tdiv 86400000))-2))) (aa (vI (w64 ((w64 ((w64 (wv_3.From+(w64 (zone_2*60000)))).tdiv 86400000))-2))) (ah (ai (ay pW rfl 1 rfl wz (av 0 1 il ft sz3 ag3 rfl rfl (vI wv_3.To) rfl wz (aa (vI zone_2) (aa (vI (w64 (zone_2*60000))) (aa (vI (w64 (wv_3.To+(w64 (zone_2*60000))))) (aa (vI (w64 ((w64 (wv_3.To+(w64 (zone_2*60000)))).tdiv 86400000))) (aa (vI (w64 ((w64 ((w64 (wv_3.To+(w64 (zone_2*60000)))).tdiv 86400000))+1))) (aa (vI (w64 ((w64 ((w64 (wv_3.To+(w64 (zone_2*60000)))).tdiv 86400000))+1))) (ah (ak (ai ?_)))))))))))))))))))))))
   refine aa (vI (w64 ((w64 ((w64 (wv_3.From+(w64 (zone_2*60000)))).tdiv 86400000))-2))) (ay IX rfl 3 rfl wz (av 0 0 il ft sz3 ag3 rfl rfl (vI e_1.First) rfl wz (jV (vI (bW (w64 ((w64 ((w64 (wv_3.From+(w64 (zone_2*60000)))).tdiv 86400000))-2)) e_1.First)) rfl (.inr rfl) wz (aa (vI (bW (w64 ((w64 ((w64 (wv_3.From+(w64 (zone_2*60000)))).tdiv 86400000))-2)) e_1.First)) (ah (iV (λn_17 => ?_)))))))
   obtain ⟨o_22,hj_23,hF⟩:=bind_some hF
   obtain ⟨nq_41,hj_23⟩:=fE hj_23
   refine Js (σ:=(List Window)×Int) (N:=Nm) (λp=>(λ(s_16:(List Window)×Int) (n_19:Nm)=>([(7,(gV n_19 2 s_16.1))]:SL_)) p.1 p.2) (λp=>(λ(s_16:(List Window)×Int) (n_19:Nm)=>([(n_4,some (.cells 13 (Entry.v e_1))),(n_5,some (.cells 2 [(vI wv_3.From),(vI wv_3.To)])),(n_19,gB 2 Window.enc s_16.1)]:Hp)) p.1 p.2) (λ(k_11:Nat)=>(λp=>(λ(s_16:(List Window)×Int) (n_19:Nm)=>([(1,(vI zone_2)),(3,(.ref n_4 0 0)),(5,(.ref n_5 0 0)),(7,(gV n_19 2 s_16.1)),(9,(vI (w64 ((w64 ((w64 (wv_3.To+(w64 (zone_2*60000)))).tdiv 86400000))+1)))),(10,(vI s_16.2))]:SL_)) p.1 p.2)) (λs=>jL wv_3 zone_2 e_1 s) o_22 nq_41 ((([]:List Window),(bW (w64 ((w64 ((w64 (wv_3.From+(w64 (zone_2*60000)))).tdiv 86400000))-2)) e_1.First)),n_17) hj_23 rfl (aG rfl) ?_ ?_
   ·rintro ⟨k_11,s_16,n_19⟩ hL_21
    dsimp only at hL_21
    cases k_11 with
    | zero=>cases hL_21
    | succ k_11 =>
     obtain ⟨c_,hc_20,hL_21⟩:=bind_some hL_21
     unfold jL at hc_20
     refine ak (ai (aa (vI s_16.2) (aa (vI (w64 ((w64 ((w64 (wv_3.To+(w64 (zone_2*60000)))).tdiv 86400000))+1))) (ay Hl rfl 4 rfl wz (av 0 0 il ft sz3 ag3 rfl rfl (vI e_1.Last) rfl wz (jV (vI (fD (w64 ((w64 ((w64 (wv_3.To+(w64 (zone_2*60000)))).tdiv 86400000))+1)) e_1.Last)) rfl (.inl rfl) wz (aa (vB (decide (s_16.2<=(fD (w64 ((w64 ((w64 (wv_3.To+(w64 (zone_2*60000)))).tdiv 86400000))+1)) e_1.Last)))) (ah ?_))))))))
     rcases aj hc_20 with⟨hc_24,hc_20⟩|⟨hc_24,hc_20⟩
     ·refine aC rfl hc_24 (ax (ak (aL (ak (ai (av 0 0 il ft LG Np rfl rfl (.d (.agg (Entry.enc e_1))) rfl wz (aa (vI s_16.2) ?_)))))))
      obtain ⟨r_25,hr_26,hc_20⟩:=bind_some hc_20
      refine aD (Au hr_26) rfl hb82 rfl rfl rfl rfl wz (aa (vB (!r_25)) (ah ?_))
      rcases aj hc_20 with⟨hc_27,hc_20⟩|⟨hc_27,hc_20⟩
      ·refine aC rfl hc_27 (aS (au (aa (vI s_16.2) (aa (vI (w64 (s_16.2+1))) (aa (vI (w64 (s_16.2+1))) (ah ?_))))))
       obtain rfl:=ae hc_20
       exact aU (k_11,(s_16.1,(w64 (s_16.2+1))),n_19) hL_21 (ls_ _) rfl (aG rfl)
      ·refine aB rfl hc_27 (ax (ai (av 0 0 il ft LG Np rfl rfl (.d (.agg (Entry.enc e_1))) rfl wz (aa (vI zone_2) (aa (vI s_16.2) ?_)))))
       obtain ⟨r_28,hr_29,hc_20⟩:=bind_some hc_20
       refine aD (y8 hr_29) rfl hb83 rfl rfl rfl rfl wz (bf 0 (.inl rfl) z89 rfl wz (λn_30=>cz 0 il ft 3 zi rfl rfl [(vI r_28.From),(vI r_28.To)] rfl wz (ah (ak ?_))))
       obtain ⟨v_31,h_32,hc_20⟩:=bind_some hc_20
       refine aP [(1,(vI zone_2)),(3,(.ref n_4 0 0)),(5,(.ref n_5 0 0)),(7,(gV n_19 2 s_16.1)),(9,(vI (w64 ((w64 ((w64 (wv_3.To+(w64 (zone_2*60000)))).tdiv 86400000))+1)))),(10,(vI s_16.2)),(11,(.ref n_30 0 0)),(66,(vB v_31))] [(n_4,some (.cells 13 (Entry.v e_1))),(n_5,some (.cells 2 [(vI wv_3.From),(vI wv_3.To)])),(n_19,gB 2 Window.enc s_16.1),(n_30,some (.cells 2 [(vI r_28.From),(vI r_28.To)]))] ?_ ?_
       ·refine au (ay pG rfl 0 rfl wz (av 0 3 il ft sz3 ag3 rfl rfl (vI r_28.From) rfl wz (ay pW rfl 1 rfl wz (av 0 1 il ft sz3 ag3 rfl rfl (vI wv_3.To) rfl wz (aa (vB (decide (r_28.From<wv_3.To))) ?_)))))
        rcases aj h_32 with⟨hc_33,h_32⟩|⟨hc_33,h_32⟩
        ·refine aF rfl hc_33 wz (ay pW rfl 1 rfl wa (av 0 3 il ft sz3 ag3 rfl rfl (vI r_28.To) rfl wa (ay pG rfl 0 rfl wa (av 0 1 il ft sz3 ag3 rfl rfl (vI wv_3.From) rfl wa (aI (vB (decide (r_28.To>wv_3.From))) wa rfl (aa (vB (decide (r_28.To>wv_3.From))) (ah ?_)))))))
         obtain rfl:=ae h_32
         exact cu
        ·refine aF rfl hc_33 wz (af (af (af (af (af (aa (vB false) (ah ?_)))))))
         obtain rfl:=ae h_32
         exact cu
       ·rintro ⟨⟩ _ sl_ H_ hp_ hq_
        refine aM _ hp_ hq_ ?_
        obtain ⟨v_34,h_35,hc_20⟩:=bind_some hc_20
        refine lS (β:=Nm) (λ(n_36:Nm)=>([(1,(vI zone_2)),(3,(.ref n_4 0 0)),(5,(.ref n_5 0 0)),(7,(gV n_36 2 v_34)),(9,(vI (w64 ((w64 ((w64 (wv_3.To+(w64 (zone_2*60000)))).tdiv 86400000))+1)))),(10,(vI s_16.2))]:SL_)) (λ(n_36:Nm)=>([(n_4,some (.cells 13 (Entry.v e_1))),(n_5,some (.cells 2 [(vI wv_3.From),(vI wv_3.To)])),(n_36,gB 2 Window.enc v_34),(n_30,some (.cells 2 [(vI r_28.From),(vI r_28.To)]))]:Hp)) (λ_=>True) ?_ ?_
        ·rcases aj h_35 with⟨hc_37,h_35⟩|⟨hc_37,h_35⟩
         ·refine aC rfl hc_37 (au (aa (gV n_19 2 s_16.1) (av 0 3 il ft zi Hw rfl rfl (.d (.agg (Window.enc r_28))) rfl wz (fI (([r_28]:List Window).map Window.enc) es83 ez83 rfl rfl rfl rfl rfl wz ?_))))
          obtain ⟨a_38,hz_39,h_35⟩:=bind_some h_35
          refine kH 0 il ft (i:=2) el83 el83 zi z89 rfl (by decide) by89 (by decide) (λ_=>rfl) rfl rfl rfl hz_39 wz (λn_40=>aa (gV n_40 2 a_38) (ah ?_))
          obtain rfl:=ae h_35
          exact aV n_40 trivial rfl (aG rfl)
         ·refine aB rfl hc_37 (ax ?_)
          obtain rfl:=ae h_35
          exact aV n_19 trivial rfl (aG rfl)
        ·rintro n_36 _ sl_ H_ hp_ hq_
         refine aM _ hp_ hq_ (au (aa (vI s_16.2) (aa (vI (w64 (s_16.2+1))) (aa (vI (w64 (s_16.2+1))) (ah ?_)))))
         obtain rfl:=ae hc_20
         exact aU (k_11,(v_34,(w64 (s_16.2+1))),n_36) hL_21 (ls_ _) rfl (aG rfl)
     ·refine aB rfl hc_24 (aS ?_)
      obtain rfl:=ae hc_20
      obtain rfl:=ae hL_21
      exact aV ((s_16.1,s_16.2),n_19) rfl rfl (aG rfl)
   ·rintro ⟨s_16,n_19⟩ ho_ sl_ H_ hp_ hq_
    subst ho_
    refine aM _ hp_ hq_ (ai (aa (gV n_19 2 s_16.1) (aa (gV n_19 2 s_16.1) (ah ?_))))
    obtain rfl:=ae hF
    exact aA (O3 (outs:=([]:List Box)) (.inr rfl) 2 rfl rfl rfl (by kernel_rfl) (by kernel_rfl))
theorem AR {e_1:Entry} {zone_2:Int} {wv_3:Window} {r:(List Window)×Int} (hF:l6 e_1 zone_2 wv_3=some r) :
  FnM Tryz.prog 36 [(.d (.agg (Entry.enc e_1))),(vI zone_2),(.d (.agg (Window.enc wv_3)))] [] (.tup [(vL Window.enc r.1),(vI r.2)]) []:=by
 refine FnM.of_wH ⟨Tryz.prog,45,[],[]⟩ rfl Tryz.func36 rfl rfl (lb_ rfl) (by kernel_rfl) ?_
 unfold l6 at hF
 refine ai (dY 0 (.inl rfl) (Entry.v e_1) rfl rfl wz (λn_4=>dY 0 (.inl rfl) [(vI wv_3.From),(vI wv_3.To)] rfl rfl wz (λn_5=>aa .nil (aa (vI 0) (ah (ak (ai (av 0 0 il ft LG Np rfl rfl (.d (.agg (Entry.enc e_1))) rfl wz (fI (([e_1]:List Entry).map Entry.enc) Ot ez123 rfl rfl rfl rfl rfl wz ?_)))))))))
 obtain ⟨r_6,hr_7,hF⟩:=bind_some hF
 refine aD (uu hr_7) rfl hb61 rfl rfl rfl rfl wz (aa (vI r_6) (ah (ai (aa (vI r_6) (aa (vB (r_6 != 0)) (ah ?_))))))
 rcases aj hF with⟨hc_8,hF⟩|⟨hc_8,hF⟩
 ·refine aC rfl hc_8 (ai (aa (vI r_6) (aa .nil (aa (vI r_6) (ah ?_)))))
  obtain rfl:=ae hF
  exact aA (aK [.nil,(vI r_6)] ⟨rfl,⟨rfl,trivial⟩⟩)
 ·refine aB rfl hc_8 (ax (ak (ai (aa (vI zone_2) ?_))))
  obtain ⟨r_9,hr_10,hF⟩:=bind_some hF
  refine aD (bv hr_10) rfl qV rfl rfl rfl rfl wz (ah ?_)
  rcases aj hF with⟨hc_11,hF⟩|⟨hc_11,hF⟩
  ·refine aC rfl hc_11 (ai (aa .nil (aa (vI 1) (ah ?_))))
   obtain rfl:=ae hF
   exact aA (aK [.nil,(vI 1)] ⟨rfl,⟨rfl,trivial⟩⟩)
  ·refine aB rfl hc_11 (ax (ak (ai (av 0 1 il ft zi Hw rfl rfl (.d (.agg (Window.enc wv_3))) rfl wz ?_))))
   obtain ⟨r_12,hr_13,hF⟩:=bind_some hF
   refine aD (uV hr_13) rfl hb62 rfl rfl rfl rfl wz (aa (vI r_12) (ah (ai (aa (vI r_12) (aa (vB (r_12 != 0)) (ah ?_))))))
   rcases aj hF with⟨hc_14,hF⟩|⟨hc_14,hF⟩
   ·refine aC rfl hc_14 (ai (aa (vI r_12) (aa .nil (aa (vI r_12) (ah ?_)))))
    obtain rfl:=ae hF
    exact aA (aK [.nil,(vI r_12)] ⟨rfl,⟨rfl,trivial⟩⟩)
   ·refine aB rfl hc_14 (ax (ai (av 0 0 il ft LG Np rfl rfl (.d (.agg (Entry.enc e_1))) rfl wz (aa (vI zone_2) (av 0 1 il ft zi Hw rfl rfl (.d (.agg (Window.enc wv_3))) rfl wz ?_)))))
    obtain ⟨r_15,hr_16,hF⟩:=bind_some hF
    refine Iw [] (zM hr_16) rfl hb63 rfl (by kernel_rfl) (by kernel_rfl) (by kernel_rfl) (by kernel_rfl) (by kernel_rfl) rfl (by decide) (by kernel_rfl) wz ([(n_4,some (.cells 13 (Entry.v e_1))),(n_5,some (.cells 2 [(vI wv_3.From),(vI wv_3.To)]))]:Hp) (λ_=>by kernel_rfl) (λn_18=>aa (gV n_18 2 r_15) (ah (ak (ai (aa (gV n_18 2 r_15) (Cf un83 rfl wz (aa (vI 0) (ah ?_))))))))
    obtain ⟨o_27,hj_28,hF⟩:=bind_some hF
    obtain ⟨hn_23,hj_28⟩:=aR hj_28
    refine bL (λ(s_24:List Window)=>[(10,(gV n_18 2 s_24))]) (λ(s_24:List Window)=>[(n_4,some (.cells 13 (Entry.v e_1))),(n_5,some (.cells 2 [(vI wv_3.From),(vI wv_3.To)])),(n_18,gB 2 Window.enc s_24)]) (λ(k_19:Nat)=>(λ(s_24:List Window)=>[(5,(.ref n_5 0 0)),(10,(gV n_18 2 s_24)),(30,(gV n_18 2 s_24)),(31,(vI (r_15.length:Int))),(32,(vI (k_19:Int)))])) (λk x s=>lV wv_3 k x s) o_27 (List.range ((r_15.length:Int)).toNat) r_15 hj_28 rfl (aG rfl) ?_ ?_
    ·rintro ⟨k_19,l_20,s_24⟩ ⟨hL_26,hD_22⟩
     dsimp only at hL_26 hD_22
     cases l_20 with
     | nil =>
      obtain rfl:=ae hL_26
      refine ai (aa (vB (decide ((k_19:Int)<(r_15.length:Int)))) (ah ?_))
      refine ak (aB rfl (rP hD_22) (aS ?_))
      exact aV (s_24) rfl rfl (aG rfl)
     | cons x_21 l_20 =>
      obtain ⟨c_,hc_25,hL_26⟩:=bind_some hL_26
      refine ai (aa (vB (decide ((k_19:Int)<(r_15.length:Int)))) (ah ?_))
      refine ak (aC rfl (pM hD_22) (ax ?_))
      unfold lV at hc_25
      refine ak (aL (ai (aa (vI (k_19:Int)) ?_)))
      obtain ⟨_,hi_29,hc_25⟩:=bind_some hc_25
      refine EU es83 rfl rfl (qC hi_29) (mE hi_29) wz ?_
      obtain ⟨e_30,hy_31,hc_25⟩:=bind_some hc_25
      refine wK 0 2 il ft zi Hw rfl rfl hy_31 (.d (.agg (Window.enc e_30))) rfl wz (bf 0 (.inl rfl) z89 rfl wz (λn_32=>aa (vI (k_19:Int)) (cz 0 il ft 3 zi rfl rfl [(vI e_30.From),(vI e_30.To)] rfl wz (ah (au (aa (gV n_18 2 s_24) (aa (vI (k_19:Int)) (av 0 3 il ft zi Hw rfl rfl (.d (.agg (Window.enc e_30))) rfl wz (av 0 1 il ft zi Hw rfl rfl (.d (.agg (Window.enc wv_3))) rfl wz ?_)))))))))
      obtain ⟨r_33,hr_34,hc_25⟩:=bind_some hc_25
      refine aD (C9 hr_34) rfl hb64 rfl rfl rfl rfl wz ?_
      obtain ⟨_,hi_35,hc_25⟩:=bind_some hc_25
      refine EU es83 rfl rfl (qC hi_35) (mE hi_35) wz ?_
      obtain ⟨e_36,hy_37,hc_25⟩:=bind_some hc_25
      refine zm 0 il ft 2 zi rfl rfl hy_37 r_33 rfl wz (gP (v':=(gV n_18 2 (s_24.set (0+((k_19:Int)).toNat) r_33))) 10 rfl (iq (by simp)) (gP (v':=(gV n_18 2 (s_24.set (0+((k_19:Int)).toNat) r_33))) 30 rfl (iq (by simp)) (gP (v':=(gV n_18 2 (s_24.set (0+((k_19:Int)).toNat) r_33))) 37 rfl (iq (by simp)) (ah (au (dL (rT hD_22 hn_23) wz rfl (aa (vI ((k_19+1:Nat):Int)) (ah ?_))))))))
      obtain rfl:=ae hc_25
      exact aU (k_19+1,l_20,(s_24.set (0+((k_19:Int)).toNat) r_33)) ⟨hL_26,aN hD_22⟩ (ls_ _) rfl (aG rfl)
    ·rintro s_24 ho_ sl_ H_ hp_ hq_
     subst ho_
     refine aM _ hp_ hq_ (ai (aa (gV n_18 2 s_24) (aa (gV n_18 2 s_24) (aa (vI 0) (ah (jc 2 rfl (fF 6 2 rfl rfl (fF 10 2 rfl rfl (fF 44 2 rfl rfl ?_)))))))))
     obtain rfl:=ae hF
     exact aA (aK [(vL Window.enc s_24),(vI 0)] ⟨rfl,⟨rfl,trivial⟩⟩)
theorem Ai {wv_1:Window} {r:Bool} (hF:o5 wv_1=some r) :
  FnM Tryz.prog 84 [(.d (.agg (Window.enc wv_1)))] [] (vB r) []:=by
 refine FnM.of_wH ⟨Tryz.prog,18,[],[]⟩ rfl Tryz.func84 rfl rfl (lb_ rfl) (by kernel_rfl) ?_
 unfold o5 at hF
 refine ai (dY 0 (.inl rfl) [(vI wv_1.From),(vI wv_1.To)] rfl rfl wz (λn_2=>aa (vB false) (ah (ak ?_))))
 obtain ⟨v_3,h_4,hF⟩:=bind_some hF
 refine aP [(2,(vB v_3))] [(n_2,some (.cells 2 [(vI wv_1.From),(vI wv_1.To)]))] ?_ ?_
 ·refine au (ay pG rfl 0 rfl wz (av 0 0 il ft sz3 ag3 rfl rfl (vI wv_1.From) rfl wz (aa (vB (decide (wv_1.From>=0))) ?_)))
  rcases aj h_4 with⟨hc_5,h_4⟩|⟨hc_5,h_4⟩
  ·refine aF rfl hc_5 wz (ay pG rfl 0 rfl wa (av 0 0 il ft sz3 ag3 rfl rfl (vI wv_1.From) rfl wa (ay pW rfl 1 rfl wa (av 0 0 il ft sz3 ag3 rfl rfl (vI wv_1.To) rfl wa (aI (vB (decide (wv_1.From<wv_1.To))) wa rfl (aa (vB (decide (wv_1.From<wv_1.To))) ?_))))))
   rcases aj h_4 with⟨hc_6,h_4⟩|⟨hc_6,h_4⟩
   ·refine aF rfl hc_6 wz (ay pW rfl 1 rfl wa (av 0 0 il ft sz3 ag3 rfl rfl (vI wv_1.To) rfl wa (aI (vB (decide (wv_1.To<=345686400000))) wa rfl (aa (vB (decide (wv_1.To<=345686400000))) (aa (vB (decide (wv_1.To<=345686400000))) (ah ?_))))))
    obtain rfl:=ae h_4
    exact cu
   ·refine aF rfl hc_6 wz (af (af (af (aa (vB false) (aa (vB false) (ah ?_))))))
    obtain rfl:=ae h_4
    exact cu
  ·refine aF rfl hc_5 wz (af (af (af (af (af (aa (vB false) (aa (vB false) (af (af (af (aa (vB false) (aa (vB false) (ah ?_)))))))))))))
   obtain rfl:=ae h_4
   exact cu
 ·rintro ⟨⟩ _ sl_ H_ hp_ hq_
  refine aM _ hp_ hq_ ?_
  obtain rfl:=ae hF
  exact aA (aK [(vB v_3)] ⟨rfl,trivial⟩)
theorem xR {l_1:(List ByteArray)} {r:Int} (hF:jW l_1=some r) :
  FnM Tryz.prog 85 [(vL eS l_1)] [] (vI r) []:=by
 refine FnM.of_wH ⟨Tryz.prog,8,[],[]⟩ rfl Tryz.func85 rfl rfl (lb_ rfl) (by kernel_rfl) ?_
 unfold jW at hF
 refine ai (aa (vI 0) (ah (ak (ai (aa (vL eS l_1) (bJ Jh rfl wz (aa (vB (decide ((l_1.length:Int)>20))) (ah ?_))))))))
 rcases aj hF with⟨hc_2,hF⟩|⟨hc_2,hF⟩
 ·refine aC rfl hc_2 (ai (aa (vI 2) (ah ?_)))
  obtain rfl:=ae hF
  exact aA (aK [(vI 2)] ⟨rfl,trivial⟩)
 ·refine aB rfl hc_2 (ax (ai (aa (vL eS l_1) ?_)))
  obtain ⟨r_3,hr_4,hF⟩:=bind_some hF
  refine aD (rX hr_4) rfl hb109 rfl rfl rfl rfl wz (aa (vI r_3) (ah ?_))
  obtain rfl:=ae hF
  exact aA (aK [(vI r_3)] ⟨rfl,trivial⟩)
theorem tQ {l_1:(List Campaign)} {r:Int} (hF:gH l_1=some r) :
  FnM Tryz.prog 65 [(vL Campaign.enc l_1)] [] (vI r) []:=by
 refine FnM.of_wH ⟨Tryz.prog,73,[],[]⟩ rfl Tryz.func65 rfl rfl (lb_ rfl) (by kernel_rfl) ?_
 unfold gH at hF
 refine ai (aa (vI 0) (ah (ak (ai (aa (vL Campaign.enc l_1) (bJ un128 rfl wz (aa (vB (decide ((l_1.length:Int)>30))) (ah ?_))))))))
 rcases aj hF with⟨hc_2,hF⟩|⟨hc_2,hF⟩
 ·refine aC rfl hc_2 (ai (aa (vI 2) (ah ?_)))
  obtain rfl:=ae hF
  exact aA (aK [(vI 2)] ⟨rfl,trivial⟩)
 ·refine aB rfl hc_2 (ax (ak (ai (aa (vL Campaign.enc l_1) (bJ un128 rfl wz (aa (vI 0) (ah ?_)))))))
  obtain ⟨o_11,hj_12,hF⟩:=bind_some hF
  obtain ⟨hn_7,hj_12⟩:=aR hj_12
  refine bL (λ(s_8:Unit)=>[]) (λ(s_8:Unit)=>[]) (λ(k_3:Nat)=>(λ(s_8:Unit)=>[(0,(vL Campaign.enc l_1)),(9,(vL Campaign.enc l_1)),(10,(vI (l_1.length:Int))),(11,(vI (k_3:Int)))])) (λk x s=>fB l_1 k x s) o_11 l_1 () hj_12 rfl (aG rfl) ?_ ?_
  ·rintro ⟨k_3,l_4,s_8⟩ ⟨hL_10,hD_6⟩
   dsimp only at hL_10 hD_6
   cases l_4 with
   | nil =>
    obtain rfl:=ae hL_10
    refine ai (aa (vB (decide ((k_3:Int)<(l_1.length:Int)))) (ah ?_))
    refine ak (aB rfl (drop_nil hD_6) (aS ?_))
    exact aV (s_8) rfl rfl (aG rfl)
   | cons x_5 l_4 =>
    obtain ⟨c_,hc_9,hL_10⟩:=bind_some hL_10
    refine ai (aa (vB (decide ((k_3:Int)<(l_1.length:Int)))) (ah ?_))
    refine ak (aC rfl (aW hD_6) (ax ?_))
    unfold fB at hc_9
    refine ak (aL (ai (aa (vI (k_3:Int)) (dM Pi rfl rfl (bu hD_6) rfl wz (bI sz92 ag92 rfl (.d (.agg (Campaign.enc x_5))) rfl wz (bf 0 (.inl rfl) z92 rfl wz (λn_13=>aa (vI (k_3:Int)) (cz 0 il ft 0 sz92 rfl rfl (Campaign.v x_5) rfl wz (ah (ak (aL (ak ?_))))))))))))
    obtain ⟨v_14,h_15,hc_9⟩:=bind_some hc_9
    refine aP [(0,(vL Campaign.enc l_1)),(3,(vI (k_3:Int))),(4,(.ref n_13 0 0)),(9,(vL Campaign.enc l_1)),(10,(vI (l_1.length:Int))),(11,(vI (k_3:Int))),(16,(vB v_14))] [(n_13,some (.cells 8 (Campaign.v x_5)))] ?_ ?_
    ·refine au (ay Li rfl 0 rfl wz (av 0 0 il ft sz9 ag9 rfl rfl (vS x_5.Key) rfl wz ?_))
     obtain ⟨r_16,hr_17,h_15⟩:=bind_some h_15
     refine aD (eu hr_17) rfl zP rfl rfl rfl rfl wz (aa (vB (!r_16)) ?_)
     rcases aj h_15 with⟨hc_18,h_15⟩|⟨hc_18,h_15⟩
     ·refine aF rfl hc_18 wz (af (af (af (af (dD (wn rfl rfl) (dD (wn rfl rfl) (dD (wn rfl rfl) (dD (wn rfl rfl) (af (aa (vB true) (aa (vB true) (ah ?_))))))))))))
      obtain rfl:=ae h_15
      exact cu
     ·refine aF rfl hc_18 wz (ay OE rfl 1 rfl wa (av 0 0 il ft sz9 ag9 rfl rfl (vS x_5.Class) rfl wa (aI (vB (sNe x_5.Class (⟨#[]⟩:ByteArray))) wa rfl ?_)))
      rcases aj h_15 with⟨hc_19,h_15⟩|⟨hc_19,h_15⟩
      ·refine aF rfl hc_19 wa (ay OE rfl 1 rfl wa (av 0 0 il ft sz9 ag9 rfl rfl (vS x_5.Class) rfl wa ?_))
       obtain ⟨r_20,hr_21,h_15⟩:=bind_some h_15
       refine aD (eu hr_21) rfl zP rfl rfl rfl rfl wa (aI (vB (!r_20)) wa rfl (aI (vB (!r_20)) wa rfl (aa (vB (!r_20)) (aa (vB (!r_20)) (ah ?_)))))
       obtain rfl:=ae h_15
       exact cu
      ·refine aF rfl hc_19 wa (af (af (af (af (aI (vB false) wa rfl (aa (vB false) (aa (vB false) (ah ?_))))))))
       obtain rfl:=ae h_15
       exact cu
    ·rintro ⟨⟩ _ sl_ H_ hp_ hq_
     refine aM _ hp_ hq_ ?_
     rcases aj hc_9 with⟨hc_22,hc_9⟩|⟨hc_22,hc_9⟩
     ·refine aC rfl hc_22 (ai (aa (vI 5) (ah ?_)))
      obtain rfl:=ae hc_9
      obtain rfl:=ae hL_10
      obtain rfl:=ae hF
      exact aA (aK [(vI 5)] ⟨rfl,trivial⟩)
     ·refine aB rfl hc_22 (ak ?_)
      obtain ⟨v_23,h_24,hc_9⟩:=bind_some hc_9
      refine aP [(0,(vL Campaign.enc l_1)),(4,(.ref n_13 0 0)),(9,(vL Campaign.enc l_1)),(10,(vI (l_1.length:Int))),(11,(vI (k_3:Int))),(32,(vB v_23))] [(n_13,some (.cells 8 (Campaign.v x_5)))] ?_ ?_
      ·refine bz (aa (vI (k_3:Int)) (aa (vB (decide ((k_3:Int)>0))) ?_))
       rcases aj h_24 with⟨hc_25,h_24⟩|⟨hc_25,h_24⟩
       ·refine aF rfl hc_25 wz (ay Li rfl 0 rfl wa (av 4 0 (.inr (by kernel_rfl)) (λ_ _ ag=>trivial) sz9 ag9 rfl rfl (vS x_5.Key) rfl wa (aI (vL Campaign.enc l_1) wa rfl (aI (vI (k_3:Int)) wa rfl (aI (vI (w64 ((k_3:Int)-1))) wa rfl ?_)))))
        obtain ⟨y_26,hy_27,h_24⟩:=bind_some h_24
        refine dM Pi rfl rfl hy_27 rfl wa (ng Li rfl (Campaign.enc y_26) rfl rfl wa (bI sz9 ag9 rfl (vS y_26.Key) rfl wa (aI (vB (sLe x_5.Key y_26.Key)) wa rfl (aa (vB (sLe x_5.Key y_26.Key)) (aa (vB (sLe x_5.Key y_26.Key)) (ah ?_))))))
        obtain rfl:=ae h_24
        exact cu
       ·refine aF rfl hc_25 wz (af (af (af (af (af (af (af (af (af (aa (vB false) (aa (vB false) (ah ?_))))))))))))
        obtain rfl:=ae h_24
        exact cu
      ·rintro ⟨⟩ _ sl_ H_ hp_ hq_
       refine aM _ hp_ hq_ ?_
       rcases aj hc_9 with⟨hc_28,hc_9⟩|⟨hc_28,hc_9⟩
       ·refine aC rfl hc_28 (ai (aa (vI 7) (ah ?_)))
        obtain rfl:=ae hc_9
        obtain rfl:=ae hL_10
        obtain rfl:=ae hF
        exact aA (aK [(vI 7)] ⟨rfl,trivial⟩)
       ·refine aB rfl hc_28 (ak ?_)
        obtain ⟨v_29,h_30,hc_9⟩:=bind_some hc_9
        refine aP [(0,(vL Campaign.enc l_1)),(4,(.ref n_13 0 0)),(9,(vL Campaign.enc l_1)),(10,(vI (l_1.length:Int))),(11,(vI (k_3:Int))),(46,(vB v_29))] [(n_13,some (.cells 8 (Campaign.v x_5)))] ?_ ?_
        ·refine au (ay Br rfl 2 rfl wz (av 0 0 il ft zi Hw rfl rfl (.d (.agg (Window.enc x_5.Time))) rfl wz ?_))
         obtain ⟨r_31,hr_32,h_30⟩:=bind_some h_30
         refine aD (Ai hr_32) rfl hb84 rfl rfl rfl rfl wz (aa (vB (!r_31)) ?_)
         rcases aj h_30 with⟨hc_33,h_30⟩|⟨hc_33,h_30⟩
         ·refine aF rfl hc_33 wz (af (af (af (aa (vB true) (aa (vB true) (af (af (af (aa (vB true) (aa (vB true) (af (af (af (aa (vB true) (aa (vB true) (ah ?_))))))))))))))))
          obtain rfl:=ae h_30
          exact cu
         ·refine aF rfl hc_33 wz (ay Lp rfl 5 rfl wa (av 0 0 il ft sz3 ag3 rfl rfl (vI x_5.Goal) rfl wa ?_))
          obtain ⟨r_34,hr_35,h_30⟩:=bind_some h_30
          refine aD (bv hr_35) rfl qV rfl rfl rfl rfl wa (aa (vB r_34) ?_)
          rcases aj h_30 with⟨hc_36,h_30⟩|⟨hc_36,h_30⟩
          ·refine aF rfl hc_36 wz (af (af (af (aa (vB true) (aa (vB true) (af (af (af (aa (vB true) (aa (vB true) (ah ?_)))))))))))
           obtain rfl:=ae h_30
           exact cu
          ·refine aF rfl hc_36 wz (ay pl92_5 rfl 6 rfl wa (av 0 0 il ft sz3 ag3 rfl rfl (vI x_5.Most) rfl wa ?_))
           obtain ⟨r_37,hr_38,h_30⟩:=bind_some h_30
           refine aD (bv hr_38) rfl qV rfl rfl rfl rfl wa (aa (vB r_37) ?_)
           rcases aj h_30 with⟨hc_39,h_30⟩|⟨hc_39,h_30⟩
           ·refine aF rfl hc_39 wz (af (af (af (aa (vB true) (aa (vB true) (ah ?_))))))
            obtain rfl:=ae h_30
            exact cu
           ·refine aF rfl hc_39 wz (ay pl92_6 rfl 7 rfl wa (av 0 0 il ft sz3 ag3 rfl rfl (vI x_5.Cents) rfl wa ?_))
            obtain ⟨r_40,hr_41,h_30⟩:=bind_some h_30
            refine aD (bv hr_41) rfl qV rfl rfl rfl rfl wa (aa (vB r_40) (aa (vB r_40) (ah ?_)))
            obtain rfl:=ae h_30
            exact cu
        ·rintro ⟨⟩ _ sl_ H_ hp_ hq_
         refine aM _ hp_ hq_ ?_
         rcases aj hc_9 with⟨hc_42,hc_9⟩|⟨hc_42,hc_9⟩
         ·refine aC rfl hc_42 (ai (aa (vI 1) (ah ?_)))
          obtain rfl:=ae hc_9
          obtain rfl:=ae hL_10
          obtain rfl:=ae hF
          exact aA (aK [(vI 1)] ⟨rfl,trivial⟩)
         ·refine aB rfl hc_42 (ax (ai (ay pl92_3 rfl 4 rfl wz (av 0 0 il ft Nz NE rfl rfl (vL eS x_5.Tags) rfl wz ?_))))
          obtain ⟨r_43,hr_44,hc_9⟩:=bind_some hc_9
          refine aD (xR hr_44) rfl hb85 rfl rfl rfl rfl wz (aa (vI r_43) (ah (ai (aa (vI r_43) (aa (vB (r_43 != 0)) (ah ?_))))))
          rcases aj hc_9 with⟨hc_45,hc_9⟩|⟨hc_45,hc_9⟩
          ·refine aC rfl hc_45 (ai (aa (vI r_43) (aa (vI r_43) (ah ?_))))
           obtain rfl:=ae hc_9
           obtain rfl:=ae hL_10
           obtain rfl:=ae hF
           exact aA (aK [(vI r_43)] ⟨rfl,trivial⟩)
          ·refine aB rfl hc_45 (ax (au (dL (aZ hD_6 hn_7) wz rfl (aa (vI ((k_3+1:Nat):Int)) (ah ?_)))))
           obtain rfl:=ae hc_9
           exact aU (k_3+1,l_4,()) ⟨hL_10,aN hD_6⟩ (ls_ _) rfl (aG rfl)
  ·rintro s_8 ho_ sl_ H_ hp_ hq_
   subst ho_
   refine aM _ hp_ hq_ (ai (aa (vI 0) (ah ?_)))
   obtain rfl:=ae hF
   exact aA (aK [(vI 0)] ⟨rfl,trivial⟩)
theorem iK {n_1:Int} {r:Bool} (hF:dQ n_1=some r) :
  FnM Tryz.prog 66 [(vI n_1)] [] (vB r) []:=by
 refine FnM.of_wH ⟨Tryz.prog,9,[],[]⟩ rfl Tryz.func66 rfl rfl (lb_ rfl) (by kernel_rfl) ?_
 unfold dQ at hF
 refine ai (aa (vB false) (ah (ak ?_)))
 obtain ⟨v_2,h_3,hF⟩:=bind_some hF
 refine aP [(2,(vB v_2))] [] ?_ ?_
 ·refine au (aa (vI n_1) (aa (vB (decide (n_1>=0))) ?_))
  rcases aj h_3 with⟨hc_4,h_3⟩|⟨hc_4,h_3⟩
  ·refine aF rfl hc_4 wz (aI (vI n_1) wa rfl (aI (vB (decide (n_1<345686400000))) wa rfl (aa (vB (decide (n_1<345686400000))) (aa (vB (decide (n_1<345686400000))) (ah ?_)))))
   obtain rfl:=ae h_3
   exact cu
  ·refine aF rfl hc_4 wz (af (af (aa (vB false) (aa (vB false) (ah ?_)))))
   obtain rfl:=ae h_3
   exact cu
 ·rintro ⟨⟩ _ sl_ H_ hp_ hq_
  refine aM _ hp_ hq_ ?_
  obtain rfl:=ae hF
  exact aA (aK [(vB v_2)] ⟨rfl,trivial⟩)
theorem Fh {c_1:Campaign} {atv_2:Int} {r:Int} (hF:uj c_1 atv_2=some r) :
  FnM Tryz.prog 67 [(.d (.agg (Campaign.enc c_1))),(vI atv_2)] [] (vI r) []:=by
 refine FnM.of_wH ⟨Tryz.prog,35,[],[]⟩ rfl Tryz.func67 rfl rfl (lb_ rfl) (by kernel_rfl) ?_
 unfold uj at hF
 refine ai (dY 0 (.inl rfl) (Campaign.v c_1) rfl rfl wz (λn_3=>aa (vI 0) (ah (ak (aL (ai (aa (vI atv_2) (ay Br rfl 2 rfl wz (ay pG rfl 2 rfl wz (av 0 0 il ft sz3 ag3 rfl rfl (vI c_1.Time.From) rfl wz (aa (vB (decide (atv_2<c_1.Time.From))) (aa (vB (decide (atv_2<c_1.Time.From))) (ah ?_)))))))))))))
 rcases aj hF with⟨hc_4,hF⟩|⟨hc_4,hF⟩
 ·refine aC rfl hc_4 (ai (aa (vI 0) (ah ?_)))
  obtain rfl:=ae hF
  exact aA (aK [(vI 0)] ⟨rfl,trivial⟩)
 ·refine aB rfl hc_4 (ai (aa (vI atv_2) (ay Br rfl 2 rfl wz (ay pW rfl 3 rfl wz (av 0 0 il ft sz3 ag3 rfl rfl (vI c_1.Time.To) rfl wz (aa (vB (decide (atv_2>=c_1.Time.To))) (aa (vB (decide (atv_2>=c_1.Time.To))) (ah ?_))))))))
  rcases aj hF with⟨hc_5,hF⟩|⟨hc_5,hF⟩
  ·refine aC rfl hc_5 (ai (ay Lp rfl 5 rfl wz (av 0 0 il ft sz3 ag3 rfl rfl (vI c_1.Goal) rfl wz (aa (vI c_1.Goal) (ah ?_)))))
   obtain rfl:=ae hF
   exact aA (aK [(vI c_1.Goal)] ⟨rfl,trivial⟩)
  ·refine aB rfl hc_5 (ax (ai (ay Lp rfl 5 rfl wz (av 0 0 il ft sz3 ag3 rfl rfl (vI c_1.Goal) rfl wz (aa (vI atv_2) (ay Br rfl 2 rfl wz (ay pG rfl 2 rfl wz (av 0 0 il ft sz3 ag3 rfl rfl (vI c_1.Time.From) rfl wz (aa (vI (w64 (atv_2-c_1.Time.From))) (aa (vI (w64 (c_1.Goal*(w64 (atv_2-c_1.Time.From))))) (ay Br rfl 2 rfl wz (ay pW rfl 3 rfl wz (av 0 0 il ft sz3 ag3 rfl rfl (vI c_1.Time.To) rfl wz (ay Br rfl 2 rfl wz (ay pG rfl 2 rfl wz (av 0 0 il ft sz3 ag3 rfl rfl (vI c_1.Time.From) rfl wz (aa (vI (w64 (c_1.Time.To-c_1.Time.From))) ?_)))))))))))))))))
   obtain ⟨q_6,hz_7,hF⟩:=bind_some hF
   refine DX rfl rfl hz_7 wz (aa (vI q_6) (ah (aM (H0:=([(n_3,some (.cells 8 (Campaign.v c_1)))]:Hp)) ([(4,(vI q_6))]:SL_) (by kernel_rfl) (oF (by kernel_rfl)) ?_)))
   obtain rfl:=ae hF
   exact aA (aK [(vI q_6)] ⟨rfl,trivial⟩)
theorem Fs {c_1:Campaign} {atv_2:Int} {r:Int×Int} (hF:qm c_1 atv_2=some r) :
  FnM Tryz.prog 37 [(.d (.agg (Campaign.enc c_1))),(vI atv_2)] [] (.tup [(vI r.1),(vI r.2)]) []:=by
 refine FnM.of_wH ⟨Tryz.prog,19,[],[]⟩ rfl Tryz.func37 rfl rfl (lb_ rfl) (by kernel_rfl) ?_
 unfold qm at hF
 refine ai (dY 0 (.inl rfl) (Campaign.v c_1) rfl rfl wz (λn_3=>aa (vI 0) (aa (vI 0) (ah (ak (ai (av 0 0 il ft sz92 ag92 rfl rfl (.d (.agg (Campaign.enc c_1))) rfl wz (fI (([c_1]:List Campaign).map Campaign.enc) Pi ez128 rfl rfl rfl rfl rfl wz ?_))))))))
 obtain ⟨r_4,hr_5,hF⟩:=bind_some hF
 refine aD (tQ hr_5) rfl hb65 rfl rfl rfl rfl wz (aa (vI r_4) (ah (ai (aa (vI r_4) (aa (vB (r_4 != 0)) (ah ?_))))))
 rcases aj hF with⟨hc_6,hF⟩|⟨hc_6,hF⟩
 ·refine aC rfl hc_6 (ai (aa (vI r_4) (aa (vI 0) (aa (vI r_4) (ah ?_)))))
  obtain rfl:=ae hF
  exact aA (aK [(vI 0),(vI r_4)] ⟨rfl,⟨rfl,trivial⟩⟩)
 ·refine aB rfl hc_6 (ax (ak (ai (aa (vI atv_2) ?_))))
  obtain ⟨r_7,hr_8,hF⟩:=bind_some hF
  refine aD (iK hr_8) rfl Kr rfl rfl rfl rfl wz (aa (vB (!r_7)) (ah ?_))
  rcases aj hF with⟨hc_9,hF⟩|⟨hc_9,hF⟩
  ·refine aC rfl hc_9 (ai (aa (vI 0) (aa (vI 1) (ah ?_))))
   obtain rfl:=ae hF
   exact aA (aK [(vI 0),(vI 1)] ⟨rfl,⟨rfl,trivial⟩⟩)
  ·refine aB rfl hc_9 (ax (ai (av 0 0 il ft sz92 ag92 rfl rfl (.d (.agg (Campaign.enc c_1))) rfl wz (aa (vI atv_2) ?_))))
   obtain ⟨r_10,hr_11,hF⟩:=bind_some hF
   refine aD (Fh hr_11) rfl hb67 rfl rfl rfl rfl wz (aa (vI r_10) (aa (vI 0) (ah ?_)))
   obtain rfl:=ae hF
   exact aA (aK [(vI r_10),(vI 0)] ⟨rfl,⟨rfl,trivial⟩⟩)
theorem oz {a_1:ByteArray} {b_2:ByteArray} {r:Int} (hF:gX a_1 b_2=some r) :
  FnM Tryz.prog 141 [(vS a_1),(vS b_2)] [] (vI r) []:=by
 refine FnM.of_wH ⟨Tryz.prog,8,[],[]⟩ rfl Tryz.func141 rfl rfl (lb_ rfl) (by kernel_rfl) ?_
 unfold gX at hF
 refine ai (aa (vI 0) (ah (ai (aa (vS a_1) (aa (vS b_2) (h_ext (PQ (f:=146) Tryz.func146 rfl rfl (by kernel_rfl) (by kernel_rfl) _ _) rfl nb146 rfl wz (aa (vI (OW a_1 b_2)) (ah ?_))))))))
 obtain rfl:=ae hF
 exact aA (aK [(vI (OW a_1 b_2))] ⟨rfl,trivial⟩)
theorem tF {a_1:ByteArray} {b_2:ByteArray} {r:Int} (hF:strings_Compare a_1 b_2=some r) :
  FnM Tryz.prog 132 [(vS a_1),(vS b_2)] [] (vI r) []:=by
 refine FnM.of_wH ⟨Tryz.prog,8,[],[]⟩ rfl Tryz.func132 rfl rfl (lb_ rfl) (by kernel_rfl) ?_
 unfold strings_Compare at hF
 refine ai (aa (vI 0) (ah (ai (aa (vS a_1) (aa (vS b_2) ?_)))))
 obtain ⟨r_3,hr_4,hF⟩:=bind_some hF
 refine aD (oz hr_4) rfl hb141 rfl rfl rfl rfl wz (aa (vI r_3) (ah ?_))
 obtain rfl:=ae hF
 exact aA (aK [(vI r_3)] ⟨rfl,trivial⟩)
theorem sV {x_1:Int} {y_2:Int} {r:Int} (hF:cmp_Compare_int x_1 y_2=some r) :
  FnM Tryz.prog 133 [(vI x_1),(vI y_2)] [] (vI r) []:=by
 refine FnM.of_wH ⟨Tryz.prog,20,[],[]⟩ rfl Tryz.func133 rfl rfl (lb_ rfl) (by kernel_rfl) ?_
 unfold cmp_Compare_int at hF
 refine ai (aa (vI 0) (ah (ai (aa (vI x_1) ?_))))
 obtain ⟨r_3,hr_4,hF⟩:=bind_some hF
 refine aD (mR hr_4) rfl LM rfl rfl rfl rfl wz (aa (vB r_3) (ah (ai (aa (vI y_2) ?_))))
 obtain ⟨r_5,hr_6,hF⟩:=bind_some hF
 refine aD (mR hr_6) rfl LM rfl rfl rfl rfl wz (aa (vB r_5) (ah (ak (ai (aa (vB r_3) (ah ?_))))))
 rcases aj hF with⟨hc_7,hF⟩|⟨hc_7,hF⟩
 ·refine aC rfl hc_7 (ak (ai (aa (vB r_5) (ah ?_))))
  rcases aj hF with⟨hc_8,hF⟩|⟨hc_8,hF⟩
  ·refine aC rfl hc_8 (ai (aa (vI 0) (ah ?_)))
   obtain rfl:=ae hF
   exact aA (aK [(vI 0)] ⟨rfl,trivial⟩)
  ·refine aB rfl hc_8 (ax (ai (aa (vI (-1)) (ah ?_))))
   obtain rfl:=ae hF
   exact aA (aK [(vI (-1))] ⟨rfl,trivial⟩)
 ·refine aB rfl hc_7 (ax (ak (ai (aa (vB r_5) (ah ?_)))))
  rcases aj hF with⟨hc_9,hF⟩|⟨hc_9,hF⟩
  ·refine aC rfl hc_9 (ai (aa (vI 1) (ah ?_)))
   obtain rfl:=ae hF
   exact aA (aK [(vI 1)] ⟨rfl,trivial⟩)
  ·refine aB rfl hc_9 (ax (ak (ai (aa (vI x_1) (aa (vI y_2) (aa (vB (decide (x_1<y_2))) (ah ?_)))))))
   rcases aj hF with⟨hc_10,hF⟩|⟨hc_10,hF⟩
   ·refine aC rfl hc_10 (ai (aa (vI (-1)) (ah ?_)))
    obtain rfl:=ae hF
    exact aA (aK [(vI (-1))] ⟨rfl,trivial⟩)
   ·refine aB rfl hc_10 (ax (ak (ai (aa (vI x_1) (aa (vI y_2) (aa (vB (decide (x_1>y_2))) (ah ?_)))))))
    rcases aj hF with⟨hc_11,hF⟩|⟨hc_11,hF⟩
    ·refine aC rfl hc_11 (ai (aa (vI 1) (ah ?_)))
     obtain rfl:=ae hF
     exact aA (aK [(vI 1)] ⟨rfl,trivial⟩)
    ·refine aB rfl hc_11 (ax (ai (aa (vI 0) (ah ?_))))
     obtain rfl:=ae hF
     exact aA (aK [(vI 0)] ⟨rfl,trivial⟩)
theorem yU {vals_1:(List Int)} {r:Int} (hF:vP vals_1=some r) :
  FnM Tryz.prog 131 [(vL eI vals_1)] [] (vI r) []:=by
 refine FnM.of_wH ⟨Tryz.prog,18,[],[]⟩ rfl Tryz.func131 rfl rfl (lb_ rfl) (by kernel_rfl) ?_
 unfold vP at hF
 refine ai (aa (vI 0) (ah (ai (aa (vI 0) (ah (ak (ai (aa (vL eI vals_1) (bJ vF rfl wz (aa (vI 0) (ah ?_)))))))))))
 obtain ⟨o_10,hj_11,hF⟩:=bind_some hF
 obtain ⟨hn_6,hj_11⟩:=aR hj_11
 refine bL (λ(s_7:Unit)=>[(3,(vI 0))]) (λ(s_7:Unit)=>[]) (λ(k_2:Nat)=>(λ(s_7:Unit)=>[(3,(vI 0)),(6,(vL eI vals_1)),(7,(vI (vals_1.length:Int))),(8,(vI (k_2:Int)))])) (λk x s=>uA k x s) o_10 vals_1 () hj_11 rfl (aG rfl) ?_ ?_
 ·rintro ⟨k_2,l_3,s_7⟩ ⟨hL_9,hD_5⟩
  dsimp only at hL_9 hD_5
  cases l_3 with
  | nil =>
   obtain rfl:=ae hL_9
   refine ai (aa (vB (decide ((k_2:Int)<(vals_1.length:Int)))) (ah ?_))
   refine ak (aB rfl (drop_nil hD_5) (aS ?_))
   exact aV (s_7) rfl rfl (aG rfl)
  | cons x_4 l_3 =>
   obtain ⟨c_,hc_8,hL_9⟩:=bind_some hL_9
   refine ai (aa (vB (decide ((k_2:Int)<(vals_1.length:Int)))) (ah ?_))
   refine ak (aC rfl (aW hD_5) (ax ?_))
   unfold uA at hc_8
   refine ak (aL (ai (dM o9 rfl rfl (bu hD_5) rfl wz (bI sz3 ag3 rfl (vI x_4) rfl wz (aa (vI x_4) (ah (ai (aa (vI x_4) (aa (vI 0) (aa (vB (x_4 != 0)) (ah ?_)))))))))))
   rcases aj hc_8 with⟨hc_12,hc_8⟩|⟨hc_12,hc_8⟩
   ·refine aC rfl hc_12 (ai (aa (vI x_4) (aa (vI x_4) (ah ?_))))
    obtain rfl:=ae hc_8
    obtain rfl:=ae hL_9
    obtain rfl:=ae hF
    exact aA (aK [(vI x_4)] ⟨rfl,trivial⟩)
   ·refine aB rfl hc_12 (ax (au (dL (aZ hD_5 hn_6) wz rfl (aa (vI ((k_2+1:Nat):Int)) (ah ?_)))))
    obtain rfl:=ae hc_8
    exact aU (k_2+1,l_3,()) ⟨hL_9,aN hD_5⟩ (ls_ _) rfl (aG rfl)
 ·rintro s_7 ho_ sl_ H_ hp_ hq_
  subst ho_
  refine aM _ hp_ hq_ (ai (aa (vI 0) (aa (vI 0) (ah ?_))))
  obtain rfl:=ae hF
  exact aA (aK [(vI 0)] ⟨rfl,trivial⟩)
theorem wT {a_1:Beat} {b_2:Beat} {r:Int} (hF:lc a_1 b_2=some r) :
  FnM Tryz.prog 110 [(.d (.agg (Beat.enc a_1))),(.d (.agg (Beat.enc b_2)))] [] (vI r) []:=by
 refine FnM.of_wH ⟨Tryz.prog,17,[],[]⟩ rfl Tryz.func110 rfl rfl (lb_ rfl) (by kernel_rfl) ?_
 unfold lc at hF
 refine ai (dY 0 (.inl rfl) (Beat.v a_1) rfl rfl wz (λn_3=>dY 0 (.inl rfl) (Beat.v b_2) rfl rfl wz (λn_4=>aa (vI 0) (ah (ak (bz (ay BA rfl 0 rfl wz (av 1 0 (.inr (by kernel_rfl)) (λ_ _ ag=>trivial) sz9 ag9 rfl rfl (vS a_1.Player) rfl wz (ay BA rfl 0 rfl wz (av 3 1 (.inr (by kernel_rfl)) (λ_ _ ag=>⟨.inl ⟨rfl,rfl⟩,trivial⟩) sz9 ag9 rfl rfl (vS b_2.Player) rfl wz ?_))))))))))
 obtain ⟨r_5,hr_6,hF⟩:=bind_some hF
 refine aD (tF hr_6) rfl hb132 rfl rfl rfl rfl wz (ay Ej rfl 1 rfl wz (av 6 0 (.inr (by kernel_rfl)) (λ_ _ ag=>⟨.inl ⟨rfl,rfl⟩,⟨.inl ⟨rfl,rfl⟩,trivial⟩⟩) sz3 ag3 rfl rfl (vI a_1.At) rfl wz (ay Ej rfl 1 rfl wz (av 8 1 (.inr (by kernel_rfl)) (λ_ _ ag=>⟨.inl ⟨rfl,rfl⟩,⟨.inl ⟨rfl,rfl⟩,⟨.inl ⟨rfl,rfl⟩,trivial⟩⟩⟩) sz3 ag3 rfl rfl (vI b_2.At) rfl wz ?_))))
 obtain ⟨r_7,hr_8,hF⟩:=bind_some hF
 refine aD (sV hr_8) rfl hb133 rfl rfl rfl rfl wz (fI (([r_5,r_7]:List Int).map eI) o9 D8 rfl rfl rfl rfl rfl wz ?_)
 obtain ⟨r_9,hr_10,hF⟩:=bind_some hF
 refine aD (yU hr_10) rfl hb131 rfl rfl rfl rfl wz (aa (vI r_9) (ah ?_))
 obtain rfl:=ae hF
 exact aA (aK [(vI r_9)] ⟨rfl,trivial⟩)
theorem yA {l_1:(List Beat)} {r:Int} (hF:kI l_1=some r) :
  FnM Tryz.prog 86 [(vL Beat.enc l_1)] [] (vI r) []:=by
 refine FnM.of_wH ⟨Tryz.prog,69,[],[]⟩ rfl Tryz.func86 rfl rfl (lb_ rfl) (by kernel_rfl) ?_
 unfold kI at hF
 refine ai (aa (vI 0) (ah (ak (ai (aa (vL Beat.enc l_1) (bJ un96 rfl wz (aa (vB (decide ((l_1.length:Int)>500))) (ah ?_))))))))
 rcases aj hF with⟨hc_2,hF⟩|⟨hc_2,hF⟩
 ·refine aC rfl hc_2 (ai (aa (vI 2) (ah ?_)))
  obtain rfl:=ae hF
  exact aA (aK [(vI 2)] ⟨rfl,trivial⟩)
 ·refine aB rfl hc_2 (ax (ak (ai (aa (vL Beat.enc l_1) (bJ un96 rfl wz (aa (vI 0) (ah ?_)))))))
  obtain ⟨o_11,hj_12,hF⟩:=bind_some hF
  obtain ⟨hn_7,hj_12⟩:=aR hj_12
  refine bL (λ(s_8:Unit)=>[]) (λ(s_8:Unit)=>[]) (λ(k_3:Nat)=>(λ(s_8:Unit)=>[(0,(vL Beat.enc l_1)),(8,(vL Beat.enc l_1)),(9,(vI (l_1.length:Int))),(10,(vI (k_3:Int)))])) (λk x s=>iP l_1 k x s) o_11 l_1 () hj_12 rfl (aG rfl) ?_ ?_
  ·rintro ⟨k_3,l_4,s_8⟩ ⟨hL_10,hD_6⟩
   dsimp only at hL_10 hD_6
   cases l_4 with
   | nil =>
    obtain rfl:=ae hL_10
    refine ai (aa (vB (decide ((k_3:Int)<(l_1.length:Int)))) (ah ?_))
    refine ak (aB rfl (drop_nil hD_6) (aS ?_))
    exact aV (s_8) rfl rfl (aG rfl)
   | cons x_5 l_4 =>
    obtain ⟨c_,hc_9,hL_10⟩:=bind_some hL_10
    refine ai (aa (vB (decide ((k_3:Int)<(l_1.length:Int)))) (ah ?_))
    refine ak (aC rfl (aW hD_6) (ax ?_))
    unfold iP at hc_9
    refine ak (aL (ai (aa (vI (k_3:Int)) (dM Nw rfl rfl (bu hD_6) rfl wz (bI M5 ag95 rfl (.d (.agg (Beat.enc x_5))) rfl wz (bf 0 (.inl rfl) z95 rfl wz (λn_13=>aa (vI (k_3:Int)) (cz 0 il ft 0 M5 rfl rfl (Beat.v x_5) rfl wz (ah (aL (ai (ay BA rfl 0 rfl wz (av 0 0 il ft sz9 ag9 rfl rfl (vS x_5.Player) rfl wz ?_)))))))))))))
    obtain ⟨r_14,hr_15,hc_9⟩:=bind_some hc_9
    refine aD (eu hr_15) rfl zP rfl rfl rfl rfl wz (aa (vB (!r_14)) (aa (vB (!r_14)) (ah ?_)))
    rcases aj hc_9 with⟨hc_16,hc_9⟩|⟨hc_16,hc_9⟩
    ·refine aC rfl hc_16 (ai (aa (vI 5) (ah ?_)))
     obtain rfl:=ae hc_9
     obtain rfl:=ae hL_10
     obtain rfl:=ae hF
     exact aA (aK [(vI 5)] ⟨rfl,trivial⟩)
    ·refine aB rfl hc_16 (ak ?_)
     obtain ⟨v_17,h_18,hc_9⟩:=bind_some hc_9
     refine aP [(0,(vL Beat.enc l_1)),(3,(vI (k_3:Int))),(4,(.ref n_13 0 0)),(8,(vL Beat.enc l_1)),(9,(vI (l_1.length:Int))),(10,(vI (k_3:Int))),(20,(vB v_17))] [(n_13,some (.cells 3 (Beat.v x_5)))] ?_ ?_
     ·refine au (ay Ej rfl 1 rfl wz (av 0 0 il ft sz3 ag3 rfl rfl (vI x_5.At) rfl wz ?_))
      obtain ⟨r_19,hr_20,h_18⟩:=bind_some h_18
      refine aD (iK hr_20) rfl Kr rfl rfl rfl rfl wz (aa (vB (!r_19)) ?_)
      rcases aj h_18 with⟨hc_21,h_18⟩|⟨hc_21,h_18⟩
      ·refine aF rfl hc_21 wz (af (af (af (aa (vB true) (aa (vB true) (ah ?_))))))
       obtain rfl:=ae h_18
       exact cu
      ·refine aF rfl hc_21 wz (ay Fz rfl 2 rfl wa (av 0 0 il ft sz3 ag3 rfl rfl (vI x_5.Clock) rfl wa ?_))
       obtain ⟨r_22,hr_23,h_18⟩:=bind_some h_18
       refine aD (bv hr_23) rfl qV rfl rfl rfl rfl wa (aa (vB r_22) (aa (vB r_22) (ah ?_)))
       obtain rfl:=ae h_18
       exact cu
     ·rintro ⟨⟩ _ sl_ H_ hp_ hq_
      refine aM _ hp_ hq_ ?_
      rcases aj hc_9 with⟨hc_24,hc_9⟩|⟨hc_24,hc_9⟩
      ·refine aC rfl hc_24 (ai (aa (vI 1) (ah ?_)))
       obtain rfl:=ae hc_9
       obtain rfl:=ae hL_10
       obtain rfl:=ae hF
       exact aA (aK [(vI 1)] ⟨rfl,trivial⟩)
      ·refine aB rfl hc_24 (ak ?_)
       obtain ⟨v_25,h_26,hc_9⟩:=bind_some hc_9
       refine aP [(0,(vL Beat.enc l_1)),(3,(vI (k_3:Int))),(4,(.ref n_13 0 0)),(8,(vL Beat.enc l_1)),(9,(vI (l_1.length:Int))),(10,(vI (k_3:Int))),(30,(vB v_25))] [(n_13,some (.cells 3 (Beat.v x_5)))] ?_ ?_
       ·refine bz (aa (vI (k_3:Int)) (aa (vB (decide ((k_3:Int)>0))) ?_))
        rcases aj h_26 with⟨hc_27,h_26⟩|⟨hc_27,h_26⟩
        ·refine aF rfl hc_27 wz (aI (vL Beat.enc l_1) wa rfl (aI (vI (k_3:Int)) wa rfl (aI (vI (w64 ((k_3:Int)-1))) wa rfl ?_)))
         obtain ⟨y_28,hy_29,h_26⟩:=bind_some h_26
         refine dM Nw rfl rfl hy_29 rfl wa (bI M5 ag95 rfl (.d (.agg (Beat.enc y_28))) rfl wa (av 8 0 (.inr (by kernel_rfl)) (λ_ _ ag=>trivial) M5 ag95 rfl rfl (.d (.agg (Beat.enc x_5))) rfl wa ?_))
         obtain ⟨r_30,hr_31,h_26⟩:=bind_some h_26
         refine aD (wT hr_31) rfl hb110 rfl rfl rfl rfl wa (aI (vB (decide (r_30>=0))) wa rfl (aa (vB (decide (r_30>=0))) (aa (vB (decide (r_30>=0))) (ah ?_))))
         obtain rfl:=ae h_26
         exact cu
        ·refine aF rfl hc_27 wz (af (af (af (af (af (af (af (af (aa (vB false) (aa (vB false) (ah ?_)))))))))))
         obtain rfl:=ae h_26
         exact cu
       ·rintro ⟨⟩ _ sl_ H_ hp_ hq_
        refine aM _ hp_ hq_ ?_
        rcases aj hc_9 with⟨hc_32,hc_9⟩|⟨hc_32,hc_9⟩
        ·refine aC rfl hc_32 (ai (aa (vI 7) (ah ?_)))
         obtain rfl:=ae hc_9
         obtain rfl:=ae hL_10
         obtain rfl:=ae hF
         exact aA (aK [(vI 7)] ⟨rfl,trivial⟩)
        ·refine aB rfl hc_32 (ak ?_)
         obtain ⟨v_33,h_34,hc_9⟩:=bind_some hc_9
         refine aP [(0,(vL Beat.enc l_1)),(8,(vL Beat.enc l_1)),(9,(vI (l_1.length:Int))),(10,(vI (k_3:Int))),(43,(vB v_33))] [(n_13,some (.cells 3 (Beat.v x_5)))] ?_ ?_
         ·refine bz (aa (vI (k_3:Int)) (aa (vB (decide ((k_3:Int)>0))) ?_))
          rcases aj h_34 with⟨hc_35,h_34⟩|⟨hc_35,h_34⟩
          ·refine aF rfl hc_35 wz (ay BA rfl 0 rfl wa (av 4 0 (.inr (by kernel_rfl)) (λ_ _ ag=>trivial) sz9 ag9 rfl rfl (vS x_5.Player) rfl wa (aI (vL Beat.enc l_1) wa rfl (aI (vI (k_3:Int)) wa rfl (aI (vI (w64 ((k_3:Int)-1))) wa rfl ?_)))))
           obtain ⟨y_36,hy_37,h_34⟩:=bind_some h_34
           refine dM Nw rfl rfl hy_37 rfl wa (ng BA rfl [.str y_36.Player,.int .i64 y_36.At,.int .i64 y_36.Clock] rfl rfl wa (bI sz9 ag9 rfl (vS y_36.Player) rfl wa (aI (vB (sEq x_5.Player y_36.Player)) wa rfl (aa (vB (sEq x_5.Player y_36.Player)) ?_))))
           rcases aj h_34 with⟨hc_38,h_34⟩|⟨hc_38,h_34⟩
           ·refine aF rfl hc_38 wz (ay Fz rfl 2 rfl wa (av 15 0 (.inr (by kernel_rfl)) (λ_ _ ag=>⟨.inl ⟨rfl,rfl⟩,trivial⟩) sz3 ag3 rfl rfl (vI x_5.Clock) rfl wa (aI (vL Beat.enc l_1) wa rfl (aI (vI (k_3:Int)) wa rfl (aI (vI (w64 ((k_3:Int)-1))) wa rfl ?_)))))
            obtain ⟨y_39,hy_40,h_34⟩:=bind_some h_34
            refine dM Nw rfl rfl hy_40 rfl wa (ng Fz rfl [.int .i64 y_39.Clock] rfl rfl wa (bI sz3 ag3 rfl (vI y_39.Clock) rfl wa (aI (vB (decide (x_5.Clock<=y_39.Clock))) wa rfl (aa (vB (decide (x_5.Clock<=y_39.Clock))) (aa (vB (decide (x_5.Clock<=y_39.Clock))) (ah ?_))))))
            obtain rfl:=ae h_34
            exact cu
           ·refine aF rfl hc_38 wz (af (af (af (af (af (af (af (af (af (aa (vB false) (aa (vB false) (ah ?_))))))))))))
            obtain rfl:=ae h_34
            exact cu
          ·refine aF rfl hc_35 wz (af (af (af (af (af (af (af (af (af (aa (vB false) (aa (vB false) (af (af (af (af (af (af (af (af (af (aa (vB false) (aa (vB false) (ah ?_)))))))))))))))))))))))
           obtain rfl:=ae h_34
           exact cu
         ·rintro ⟨⟩ _ sl_ H_ hp_ hq_
          refine aM _ hp_ hq_ ?_
          rcases aj hc_9 with⟨hc_41,hc_9⟩|⟨hc_41,hc_9⟩
          ·refine aC rfl hc_41 (ai (aa (vI 16) (ah ?_)))
           obtain rfl:=ae hc_9
           obtain rfl:=ae hL_10
           obtain rfl:=ae hF
           exact aA (aK [(vI 16)] ⟨rfl,trivial⟩)
          ·refine aB rfl hc_41 (ax (au (dL (aZ hD_6 hn_7) wz rfl (aa (vI ((k_3+1:Nat):Int)) (ah ?_)))))
           obtain rfl:=ae hc_9
           exact aU (k_3+1,l_4,()) ⟨hL_10,aN hD_6⟩ (ls_ _) rfl (aG rfl)
  ·rintro s_8 ho_ sl_ H_ hp_ hq_
   subst ho_
   refine aM _ hp_ hq_ (ai (aa (vI 0) (ah ?_)))
   obtain rfl:=ae hF
   exact aA (aK [(vI 0)] ⟨rfl,trivial⟩)
theorem BG {l_1:(List Beat)} {player_2:ByteArray} {back_3:Bool} {r:(List Beat_)} (hF:ql l_1 player_2 back_3=some r) :
  FnM Tryz.prog 88 [(vL Beat.enc l_1),(vS player_2),(vB back_3)] [] (vL Beat_.enc r) []:=by
 refine FnM.of_wH ⟨Tryz.prog,41,[],[]⟩ rfl Tryz.func88 rfl rfl (lb_ rfl) (by kernel_rfl) ?_
 unfold ql at hF
 refine ai (aa .nil (ah (ai (aa .nil (ah (ak (ai (aa (vL Beat.enc l_1) (bJ un96 rfl wz (aa (vI 0) (ah (iV (λn_10 => ?_)))))))))))))
 obtain ⟨o_15,hj_16,hF⟩:=bind_some hF
 obtain ⟨hn_8,hj_16⟩:=aR hj_16
 refine fK (σ:=(List Beat_)) (N:=Nm) (λp=>(λ(s_9:List Beat_) (n_12:Nm)=>([(7,(gV n_12 2 s_9))]:SL_)) p.1 p.2) (λp=>(λ(s_9:List Beat_) (n_12:Nm)=>([(n_12,gB 2 Beat_.enc s_9)]:Hp)) p.1 p.2) (λ(k_4:Nat)=>(λp=>(λ(s_9:List Beat_) (n_12:Nm)=>([(1,(vS player_2)),(2,(vB back_3)),(7,(gV n_12 2 s_9)),(10,(vL Beat.enc l_1)),(11,(vI (l_1.length:Int))),(12,(vI (k_4:Int)))]:SL_)) p.1 p.2)) (λk x s=>pV player_2 back_3 k x s) o_15 l_1 (([]:List Beat_),n_10) hj_16 rfl (aG rfl) ?_ ?_
 ·rintro ⟨k_4,l_5,s_9,n_12⟩ ⟨hL_14,hD_7⟩
  dsimp only at hL_14 hD_7
  cases l_5 with
  | nil =>
   obtain rfl:=ae hL_14
   refine ai (aa (vB (decide ((k_4:Int)<(l_1.length:Int)))) (ah ?_))
   refine ak (aB rfl (drop_nil hD_7) (aS ?_))
   exact aV (s_9,n_12) rfl rfl (aG rfl)
  | cons x_6 l_5 =>
   obtain ⟨c_,hc_13,hL_14⟩:=bind_some hL_14
   refine ai (aa (vB (decide ((k_4:Int)<(l_1.length:Int)))) (ah ?_))
   refine ak (aC rfl (aW hD_7) (ax ?_))
   unfold pV at hc_13
   refine ak (aL (ai (dM Nw rfl rfl (bu hD_7) rfl wz (bI M5 ag95 rfl (.d (.agg (Beat.enc x_6))) rfl wz (bf 0 (.inl rfl) z95 rfl wz (λn_17=>cz 0 il ft 1 M5 rfl rfl (Beat.v x_6) rfl wz (ah (aL (ai (ay BA rfl 0 rfl wz (av 0 1 il ft sz9 ag9 rfl rfl (vS x_6.Player) rfl wz (aa (vS player_2) (aa (vB (sNe x_6.Player player_2)) (aa (vB (sNe x_6.Player player_2)) (ah ?_)))))))))))))))
   obtain ⟨v_18,h_19,hc_13⟩:=bind_some hc_13
   refine lS (β:=Nm) (λ(n_20:Nm)=>([(1,(vS player_2)),(2,(vB back_3)),(7,(gV n_20 2 v_18)),(10,(vL Beat.enc l_1)),(11,(vI (l_1.length:Int))),(12,(vI (k_4:Int)))]:SL_)) (λ(n_20:Nm)=>([(n_20,gB 2 Beat_.enc v_18),(n_17,some (.cells 3 (Beat.v x_6)))]:Hp)) (λ_=>True) ?_ ?_
   ·rcases aj h_19 with⟨hc_21,h_19⟩|⟨hc_21,h_19⟩
    ·refine aC rfl hc_21 (ax ?_)
     obtain rfl:=ae h_19
     exact aV n_12 trivial rfl (aG rfl)
    ·refine aB rfl hc_21 (ai (aa (vB back_3) (aa (vB back_3) (ah ?_))))
     rcases aj h_19 with⟨hc_22,h_19⟩|⟨hc_22,h_19⟩
     ·refine aC rfl hc_22 (au (aa (gV n_12 2 s_9) (ay Ej rfl 1 rfl wz (av 0 1 il ft sz3 ag3 rfl rfl (vI x_6.At) rfl wz (ay Fz rfl 2 rfl wz (av 0 1 il ft sz3 ag3 rfl rfl (vI x_6.Clock) rfl wz (aI (.d (.agg (Beat_.enc (⟨x_6.At,x_6.Clock⟩:Beat_)))) wz (by kernel_rfl) (fI (([(⟨x_6.At,x_6.Clock⟩:Beat_)]:List Beat_).map Beat_.enc) AP ez152 rfl rfl rfl rfl rfl wz ?_))))))))
      obtain ⟨a_23,hz_24,h_19⟩:=bind_some h_19
      refine kH 0 il ft (i:=0) LW LW GL z177 rfl (by decide) by177 (by decide) (λ_=>rfl) rfl rfl rfl hz_24 wz (λn_25=>aa (gV n_25 2 a_23) (ah ?_))
      obtain rfl:=ae h_19
      exact aV n_25 trivial rfl (aG rfl)
     ·refine aB rfl hc_22 (au (aa (gV n_12 2 s_9) (ay Fz rfl 2 rfl wz (av 0 1 il ft sz3 ag3 rfl rfl (vI x_6.Clock) rfl wz (ay Ej rfl 1 rfl wz (av 0 1 il ft sz3 ag3 rfl rfl (vI x_6.At) rfl wz (aI (.d (.agg (Beat_.enc (⟨x_6.Clock,x_6.At⟩:Beat_)))) wz (by kernel_rfl) (fI (([(⟨x_6.Clock,x_6.At⟩:Beat_)]:List Beat_).map Beat_.enc) AP ez152 rfl rfl rfl rfl rfl wz ?_))))))))
      obtain ⟨a_26,hz_27,h_19⟩:=bind_some h_19
      refine kH 0 il ft (i:=0) LW LW GL z177 rfl (by decide) by177 (by decide) (λ_=>rfl) rfl rfl rfl hz_27 wz (λn_28=>aa (gV n_28 2 a_26) (ah ?_))
      obtain rfl:=ae h_19
      exact aV n_28 trivial rfl (aG rfl)
   ·rintro n_20 _ sl_ H_ hp_ hq_
    refine aM _ hp_ hq_ (au (dL (aZ hD_7 hn_8) wz rfl (aa (vI ((k_4+1:Nat):Int)) (ah ?_))))
    obtain rfl:=ae hc_13
    exact aU (k_4+1,l_5,v_18,n_20) ⟨hL_14,aN hD_7⟩ (ls_ _) rfl (aG rfl)
 ·rintro ⟨s_9,n_12⟩ ho_ sl_ H_ hp_ hq_
  subst ho_
  refine aM _ hp_ hq_ (ai (aa (gV n_12 2 s_9) (aa (gV n_12 2 s_9) (ah (jc 0 rfl (fF 6 0 rfl rfl (fF 7 0 rfl rfl (fF 40 0 rfl rfl ?_))))))))
  obtain rfl:=ae hF
  exact aA (aK [(vL Beat_.enc s_9)] ⟨rfl,trivial⟩)
theorem CP {l_1:(List Beat_)} {n_2:Int} {r:Int×Int} (hF:oG l_1 n_2=some r) :
  FnM Tryz.prog 87 [(vL Beat_.enc l_1),(vI n_2)] [] (.tup [(vI r.1),(vI r.2)]) []:=by
 refine FnM.of_wH ⟨Tryz.prog,108,[],[]⟩ rfl Tryz.func87 rfl rfl (lb_ rfl) (by kernel_rfl) ?_
 unfold oG at hF
 refine ai (aa (vI 0) (aa (vI 0) (ah (ak (ai (aa (vL Beat_.enc l_1) (bJ OD rfl wz (aa (vB ((l_1.length:Int)==0)) (ah ?_)))))))))
 rcases aj hF with⟨hc_3,hF⟩|⟨hc_3,hF⟩
 ·refine aC rfl hc_3 (ai (aa (vI 0) (aa (vI 8) (ah ?_))))
  obtain rfl:=ae hF
  exact aA (aK [(vI 0),(vI 8)] ⟨rfl,⟨rfl,trivial⟩⟩)
 ·refine aB rfl hc_3 (ax (ai (aa (vI 0) (ah (ak ?_)))))
  obtain ⟨o_12,hj_13,hF⟩:=bind_some hF
  obtain ⟨nq_51,hj_13⟩:=fE hj_13
  refine iG (λ(s_9:Int)=>[(0,(vL Beat_.enc l_1)),(1,(vI n_2)),(6,(vI s_9))]) (λ(s_9:Int)=>[]) (λ(k_4:Nat)=>(λ(s_9:Int)=>[(0,(vL Beat_.enc l_1)),(1,(vI n_2)),(6,(vI s_9))])) (λs=>nR l_1 n_2 s) o_12 nq_51 0 hj_13 rfl (aG rfl) ?_ ?_
  ·rintro ⟨k_4,s_9⟩ hL_11
   dsimp only at hL_11
   cases k_4 with
   | zero=>cases hL_11
   | succ k_4 =>
    obtain ⟨c_,hc_10,hL_11⟩:=bind_some hL_11
    unfold nR at hc_10
    refine ak (ak ?_)
    obtain ⟨v_14,h_15,hc_10⟩:=bind_some hc_10
    refine aP [(0,(vL Beat_.enc l_1)),(1,(vI n_2)),(6,(vI s_9)),(25,(vB v_14))] [] ?_ ?_
    ·refine au (aa (vI s_9) (aa (vL Beat_.enc l_1) (bJ OD rfl wz (aa (vB (decide (s_9<(l_1.length:Int)))) ?_))))
     rcases aj h_15 with⟨hc_16,h_15⟩|⟨hc_16,h_15⟩
     ·refine aF rfl hc_16 wz (aI (vL Beat_.enc l_1) wa rfl (aI (vI s_9) wa rfl ?_))
      obtain ⟨y_17,hy_18,h_15⟩:=bind_some h_15
      refine dM AP rfl rfl hy_18 rfl wa (ng uh rfl [.int .i64 y_17.f_from,.int .i64 y_17.f_to] rfl rfl wa (bI sz3 ag3 rfl (vI y_17.f_from) rfl wa (aI (vI n_2) wa rfl (aI (vB (decide (y_17.f_from<=n_2))) wa rfl (aa (vB (decide (y_17.f_from<=n_2))) (ah ?_))))))
      obtain rfl:=ae h_15
      exact cu
     ·refine aF rfl hc_16 wz (af (af (af (af (af (af (af (aa (vB false) (ah ?_)))))))))
      obtain rfl:=ae h_15
      exact cu
    ·rintro ⟨⟩ _ sl_ H_ hp_ hq_
     refine aM _ hp_ hq_ ?_
     rcases aj hc_10 with⟨hc_19,hc_10⟩|⟨hc_19,hc_10⟩
     ·refine aC rfl hc_19 (ax (aL (au (aa (vI s_9) (aa (vI (w64 (s_9+1))) (aa (vI (w64 (s_9+1))) (ah ?_)))))))
      obtain rfl:=ae hc_10
      exact aU (k_4,(w64 (s_9+1))) hL_11 (ls_ _) rfl (aG rfl)
     ·refine aB rfl hc_19 (aS ?_)
      obtain rfl:=ae hc_10
      obtain rfl:=ae hL_11
      exact aV (s_9) rfl rfl (aG rfl)
  ·rintro s_9 ho_ sl_ H_ hp_ hq_
   subst ho_
   refine aM _ hp_ hq_ (ai (aa (vI 0) (ah (ak (aL (ai (aa (vI s_9) (aa (vB (s_9==0)) (aa (vB (s_9==0)) (ah ?_))))))))))
   rcases aj hF with⟨hc_20,hF⟩|⟨hc_20,hF⟩
   ·refine aC rfl hc_20 (bz (aa (vL Beat_.enc l_1) ?_))
    obtain ⟨y_21,hy_22,hF⟩:=bind_some hF
    refine dM AP rfl rfl hy_22 rfl wz (ng wC rfl [.int .i64 y_21.f_to] rfl rfl wz (bI sz3 ag3 rfl (vI y_21.f_to) rfl wz (aa (vL Beat_.enc l_1) ?_)))
    obtain ⟨y_23,hy_24,hF⟩:=bind_some hF
    refine dM AP rfl rfl hy_24 rfl wz (ng uh rfl [.int .i64 y_23.f_from,.int .i64 y_23.f_to] rfl rfl wz (bI sz3 ag3 rfl (vI y_23.f_from) rfl wz (aa (vI n_2) (aa (vI (w64 (y_23.f_from-n_2))) (aa (vI (w64 (y_21.f_to-(w64 (y_23.f_from-n_2))))) (aa (vI (w64 (y_21.f_to-(w64 (y_23.f_from-n_2))))) (ah (ak (ai (aa (vI (w64 (y_21.f_to-(w64 (y_23.f_from-n_2))))) ?_))))))))))
    obtain ⟨r_25,hr_26,hF⟩:=bind_some hF
    refine aD (iK hr_26) rfl Kr rfl rfl rfl rfl wz (aa (vB (!r_25)) (ah ?_))
    rcases aj hF with⟨hc_27,hF⟩|⟨hc_27,hF⟩
    ·refine aC rfl hc_27 (ai (aa (vI 0) (aa (vI 11) (ah ?_))))
     obtain rfl:=ae hF
     exact aA (aK [(vI 0),(vI 11)] ⟨rfl,⟨rfl,trivial⟩⟩)
    ·refine aB rfl hc_27 (ax (ai (aa (vI (w64 (y_21.f_to-(w64 (y_23.f_from-n_2))))) (aa (vI (w64 (y_21.f_to-(w64 (y_23.f_from-n_2))))) (aa (vI 0) (ah ?_))))))
     obtain rfl:=ae hF
     exact aA (aK [(vI (w64 (y_21.f_to-(w64 (y_23.f_from-n_2))))),(vI 0)] ⟨rfl,⟨rfl,trivial⟩⟩)
   ·refine aB rfl hc_20 (ai (aa (vI s_9) (aa (vL Beat_.enc l_1) (bJ OD rfl wz (aa (vB (s_9==(l_1.length:Int))) (aa (vB (s_9==(l_1.length:Int))) (ah ?_)))))))
    rcases aj hF with⟨hc_28,hF⟩|⟨hc_28,hF⟩
    ·refine aC rfl hc_28 (bz (aa (vL Beat_.enc l_1) (aa (vI s_9) (aa (vI (w64 (s_9-1))) ?_))))
     obtain ⟨y_29,hy_30,hF⟩:=bind_some hF
     refine dM AP rfl rfl hy_30 rfl wz (ng wC rfl [.int .i64 y_29.f_to] rfl rfl wz (bI sz3 ag3 rfl (vI y_29.f_to) rfl wz (aa (vI n_2) (aa (vI (w64 (y_29.f_to+n_2))) (aa (vL Beat_.enc l_1) (aa (vI s_9) (aa (vI (w64 (s_9-1))) ?_)))))))
     obtain ⟨y_31,hy_32,hF⟩:=bind_some hF
     refine dM AP rfl rfl hy_32 rfl wz (ng uh rfl [.int .i64 y_31.f_from,.int .i64 y_31.f_to] rfl rfl wz (bI sz3 ag3 rfl (vI y_31.f_from) rfl wz (aa (vI (w64 ((w64 (y_29.f_to+n_2))-y_31.f_from))) (aa (vI (w64 ((w64 (y_29.f_to+n_2))-y_31.f_from))) (ah (ak (ai (aa (vI (w64 ((w64 (y_29.f_to+n_2))-y_31.f_from))) ?_))))))))
     obtain ⟨r_33,hr_34,hF⟩:=bind_some hF
     refine aD (iK hr_34) rfl Kr rfl rfl rfl rfl wz (aa (vB (!r_33)) (ah ?_))
     rcases aj hF with⟨hc_35,hF⟩|⟨hc_35,hF⟩
     ·refine aC rfl hc_35 (ai (aa (vI 0) (aa (vI 11) (ah (aM (H0:=([]:Hp)) ([(4,(vI 0)),(5,(vI 11))]:SL_) (by kernel_rfl) (oF (by kernel_rfl)) ?_)))))
      obtain rfl:=ae hF
      exact aA (aK [(vI 0),(vI 11)] ⟨rfl,⟨rfl,trivial⟩⟩)
     ·refine aB rfl hc_35 (ax (ai (aa (vI (w64 ((w64 (y_29.f_to+n_2))-y_31.f_from))) (aa (vI (w64 ((w64 (y_29.f_to+n_2))-y_31.f_from))) (aa (vI 0) (ah (aM (H0:=([]:Hp)) ([(4,(vI (w64 ((w64 (y_29.f_to+n_2))-y_31.f_from)))),(5,(vI 0))]:SL_) (by kernel_rfl) (oF (by kernel_rfl)) ?_)))))))
      obtain rfl:=ae hF
      exact aA (aK [(vI (w64 ((w64 (y_29.f_to+n_2))-y_31.f_from))),(vI 0)] ⟨rfl,⟨rfl,trivial⟩⟩)
    ·refine aB rfl hc_28 (ak (bz (aa (vL Beat_.enc l_1) (aa (vI s_9) (aa (vI (w64 (s_9-1))) ?_)))))
     obtain ⟨y_36,hy_37,hF⟩:=bind_some hF
     refine dM AP rfl rfl hy_37 rfl wz (bI GL ag177 rfl (.d (.agg (Beat_.enc y_36))) rfl wz (aa (vL Beat_.enc l_1) (aa (vI s_9) ?_)))
     obtain ⟨y_38,hy_39,hF⟩:=bind_some hF
     refine dM AP rfl rfl hy_39 rfl wz (bI GL ag177 rfl (.d (.agg (Beat_.enc y_38))) rfl wz (bf 9 (.inr (by kernel_rfl)) z177 rfl wz (λn_40=>bf 10 (.inr (by kernel_rfl)) z177 rfl wz (λn_41=>cz 11 (.inr (by kernel_rfl)) (λ_ _ ag=>⟨.inr (.inr (by kernel_rfl)),⟨.inr (.inr (by kernel_rfl)),trivial⟩⟩) 0 GL rfl rfl [(vI y_36.f_from),(vI y_36.f_to)] rfl wz (cz 12 (.inr (by kernel_rfl)) (λ_ _ ag=>⟨.inr (.inr (by kernel_rfl)),⟨.inr (.inr (by kernel_rfl)),⟨.inr (.inr (by kernel_rfl)),trivial⟩⟩⟩) 1 GL rfl rfl [(vI y_38.f_from),(vI y_38.f_to)] rfl wz (ah (ak (ak ?_))))))))
     obtain ⟨v_42,h_43,hF⟩:=bind_some hF
     refine aP [(1,(vI n_2)),(8,(.ref n_40 0 0)),(9,(.ref n_41 0 0)),(50,(vB v_42))] [(n_40,some (.cells 2 [(vI y_36.f_from),(vI y_36.f_to)])),(n_41,some (.cells 2 [(vI y_38.f_from),(vI y_38.f_to)]))] ?_ ?_
     ·refine au (ay uh rfl 0 rfl wz (av 0 1 il ft sz3 ag3 rfl rfl (vI y_38.f_from) rfl wz (ay uh rfl 0 rfl wz (av 0 0 il ft sz3 ag3 rfl rfl (vI y_36.f_from) rfl wz (aa (vI (w64 (y_38.f_from-y_36.f_from))) (aa (vB (decide ((w64 (y_38.f_from-y_36.f_from))>2592000000))) ?_))))))
      rcases aj h_43 with⟨hc_44,h_43⟩|⟨hc_44,h_43⟩
      ·refine aF rfl hc_44 wz (af (af (af (af (af (af (aa (vB true) (ah ?_))))))))
       obtain rfl:=ae h_43
       exact cu
      ·refine aF rfl hc_44 wz (ay wC rfl 1 rfl wa (av 0 1 il ft sz3 ag3 rfl rfl (vI y_38.f_to) rfl wa (ay wC rfl 1 rfl wa (av 0 0 il ft sz3 ag3 rfl rfl (vI y_36.f_to) rfl wa (aI (vI (w64 (y_38.f_to-y_36.f_to))) wa rfl (aI (vB (decide ((w64 (y_38.f_to-y_36.f_to))>2592000000))) wa rfl (aa (vB (decide ((w64 (y_38.f_to-y_36.f_to))>2592000000))) (ah ?_))))))))
       obtain rfl:=ae h_43
       exact cu
     ·rintro ⟨⟩ _ sl_ H_ hp_ hq_
      refine aM _ hp_ hq_ ?_
      rcases aj hF with⟨hc_45,hF⟩|⟨hc_45,hF⟩
      ·refine aC rfl hc_45 (ai (aa (vI 0) (aa (vI 2) (ah ?_))))
       obtain rfl:=ae hF
       exact aA (aK [(vI 0),(vI 2)] ⟨rfl,⟨rfl,trivial⟩⟩)
      ·refine aB rfl hc_45 (ax (bz (ay wC rfl 1 rfl wz (av 1 0 (.inr (by kernel_rfl)) (λ_ _ ag=>trivial) sz3 ag3 rfl rfl (vI y_36.f_to) rfl wz (aa (vI n_2) (ay uh rfl 0 rfl wz (av 4 0 (.inr (by kernel_rfl)) (λ_ _ ag=>⟨.inl ⟨rfl,rfl⟩,trivial⟩) sz3 ag3 rfl rfl (vI y_36.f_from) rfl wz (aa (vI (w64 (n_2-y_36.f_from))) (ay wC rfl 1 rfl wz (av 7 1 (.inr (by kernel_rfl)) (λ_ _ ag=>⟨.inl ⟨rfl,rfl⟩,⟨.inl ⟨rfl,rfl⟩,trivial⟩⟩) sz3 ag3 rfl rfl (vI y_38.f_to) rfl wz (ay wC rfl 1 rfl wz (av 9 0 (.inr (by kernel_rfl)) (λ_ _ ag=>⟨.inl ⟨rfl,rfl⟩,⟨.inl ⟨rfl,rfl⟩,⟨.inl ⟨rfl,rfl⟩,trivial⟩⟩⟩) sz3 ag3 rfl rfl (vI y_36.f_to) rfl wz (aa (vI (w64 (y_38.f_to-y_36.f_to))) (aa (vI (w64 ((w64 (n_2-y_36.f_from))*(w64 (y_38.f_to-y_36.f_to))))) (ay uh rfl 0 rfl wz (av 13 1 (.inr (by kernel_rfl)) (λ_ _ ag=>⟨.inl ⟨rfl,rfl⟩,⟨.inl ⟨rfl,rfl⟩,⟨.inl ⟨rfl,rfl⟩,⟨.inl ⟨rfl,rfl⟩,trivial⟩⟩⟩⟩) sz3 ag3 rfl rfl (vI y_38.f_from) rfl wz (ay uh rfl 0 rfl wz (av 15 0 (.inr (by kernel_rfl)) (λ_ _ ag=>⟨.inl ⟨rfl,rfl⟩,⟨.inl ⟨rfl,rfl⟩,⟨.inl ⟨rfl,rfl⟩,⟨.inl ⟨rfl,rfl⟩,⟨.inl ⟨rfl,rfl⟩,trivial⟩⟩⟩⟩⟩) sz3 ag3 rfl rfl (vI y_36.f_from) rfl wz (aa (vI (w64 (y_38.f_from-y_36.f_from))) ?_)))))))))))))))))))
       obtain ⟨q_46,hz_47,hF⟩:=bind_some hF
       refine DX rfl rfl hz_47 wz (aa (vI (w64 (y_36.f_to+q_46))) (aa (vI (w64 (y_36.f_to+q_46))) (ah (ak (ai (aa (vI (w64 (y_36.f_to+q_46))) ?_))))))
       obtain ⟨r_48,hr_49,hF⟩:=bind_some hF
       refine aD (iK hr_49) rfl Kr rfl rfl rfl rfl wz (aa (vB (!r_48)) (ah ?_))
       rcases aj hF with⟨hc_50,hF⟩|⟨hc_50,hF⟩
       ·refine aC rfl hc_50 (ai (aa (vI 0) (aa (vI 11) (ah ?_))))
        obtain rfl:=ae hF
        exact aA (aK [(vI 0),(vI 11)] ⟨rfl,⟨rfl,trivial⟩⟩)
       ·refine aB rfl hc_50 (ax (ai (aa (vI (w64 (y_36.f_to+q_46))) (aa (vI (w64 (y_36.f_to+q_46))) (aa (vI 0) (ah ?_))))))
        obtain rfl:=ae hF
        exact aA (aK [(vI (w64 (y_36.f_to+q_46))),(vI 0)] ⟨rfl,⟨rfl,trivial⟩⟩)
theorem DV {l_1:(List Beat)} {player_2:ByteArray} {n_3:Int} {back_4:Bool} {r:Int×Int} (hF:qy l_1 player_2 n_3 back_4=some r) :
  FnM Tryz.prog 68 [(vL Beat.enc l_1),(vS player_2),(vI n_3),(vB back_4)] [] (.tup [(vI r.1),(vI r.2)]) []:=by
 refine FnM.of_wH ⟨Tryz.prog,30,[],[]⟩ rfl Tryz.func68 rfl rfl (lb_ rfl) (by kernel_rfl) ?_
 unfold qy at hF
 refine ai (aa (vI 0) (aa (vI 0) (ah (ak (ai (aa (vL Beat.enc l_1) ?_))))))
 obtain ⟨r_5,hr_6,hF⟩:=bind_some hF
 refine aD (yA hr_6) rfl hb86 rfl rfl rfl rfl wz (aa (vI r_5) (ah (ai (aa (vI r_5) (aa (vB (r_5 != 0)) (ah ?_))))))
 rcases aj hF with⟨hc_7,hF⟩|⟨hc_7,hF⟩
 ·refine aC rfl hc_7 (ai (aa (vI r_5) (aa (vI 0) (aa (vI r_5) (ah ?_)))))
  obtain rfl:=ae hF
  exact aA (aK [(vI 0),(vI r_5)] ⟨rfl,⟨rfl,trivial⟩⟩)
 ·refine aB rfl hc_7 (ax (ak (ai (aa (vS player_2) ?_))))
  obtain ⟨r_8,hr_9,hF⟩:=bind_some hF
  refine aD (eu hr_9) rfl zP rfl rfl rfl rfl wz (aa (vB (!r_8)) (ah ?_))
  rcases aj hF with⟨hc_10,hF⟩|⟨hc_10,hF⟩
  ·refine aC rfl hc_10 (ai (aa (vI 0) (aa (vI 5) (ah ?_))))
   obtain rfl:=ae hF
   exact aA (aK [(vI 0),(vI 5)] ⟨rfl,⟨rfl,trivial⟩⟩)
  ·refine aB rfl hc_10 (ax (ak (ai (aa (vI n_3) ?_))))
   obtain ⟨r_11,hr_12,hF⟩:=bind_some hF
   refine aD (iK hr_12) rfl Kr rfl rfl rfl rfl wz (aa (vB (!r_11)) (ah ?_))
   rcases aj hF with⟨hc_13,hF⟩|⟨hc_13,hF⟩
   ·refine aC rfl hc_13 (ai (aa (vI 0) (aa (vI 1) (ah ?_))))
    obtain rfl:=ae hF
    exact aA (aK [(vI 0),(vI 1)] ⟨rfl,⟨rfl,trivial⟩⟩)
   ·refine aB rfl hc_13 (ax (ai (aa (vL Beat.enc l_1) (aa (vS player_2) (aa (vB back_4) ?_)))))
    obtain ⟨r_14,hr_15,hF⟩:=bind_some hF
    refine aD (BG hr_15) rfl hb88 rfl rfl rfl rfl wz (aa (vI n_3) ?_)
    obtain ⟨r_16,hr_17,hF⟩:=bind_some hF
    refine aD (CP hr_17) rfl hb87 rfl rfl rfl rfl wz (aa (vI r_16.1) (aa (vI r_16.2) (aa (vI r_16.1) (aa (vI r_16.2) (ah ?_)))))
    obtain rfl:=ae hF
    exact aA (aK [(vI r_16.1),(vI r_16.2)] ⟨rfl,⟨rfl,trivial⟩⟩)
theorem EQ {l_1:(List Beat)} {player_2:ByteArray} {clock_3:Int} {r:Int×Int} (hF:qB l_1 player_2 clock_3=some r) :
  FnM Tryz.prog 38 [(vL Beat.enc l_1),(vS player_2),(vI clock_3)] [] (.tup [(vI r.1),(vI r.2)]) []:=by
 refine FnM.of_wH ⟨Tryz.prog,14,[],[]⟩ rfl Tryz.func38 rfl rfl (lb_ rfl) (by kernel_rfl) ?_
 unfold qB at hF
 refine ai (aa (vI 0) (aa (vI 0) (ah (ai (aa (vL Beat.enc l_1) (aa (vS player_2) (aa (vI clock_3) ?_)))))))
 obtain ⟨r_4,hr_5,hF⟩:=bind_some hF
 refine aD (DV hr_5) rfl hb68 rfl rfl rfl rfl wz (aa (vI r_4.1) (aa (vI r_4.2) (aa (vI r_4.1) (aa (vI r_4.2) (ah ?_)))))
 obtain rfl:=ae hF
 exact aA (aK [(vI r_4.1),(vI r_4.2)] ⟨rfl,⟨rfl,trivial⟩⟩)
theorem zt {a_1:Alert} {r:Int} (hF:lH a_1=some r) :
  FnM Tryz.prog 134 [(.d (.agg (Alert.enc a_1)))] [] (vI r) []:=by
 refine FnM.of_wH ⟨Tryz.prog,48,[],[]⟩ rfl Tryz.func134 rfl rfl (lb_ rfl) (by kernel_rfl) ?_
 unfold lH at hF
 refine ai (dY 0 (.inl rfl) (Alert.v a_1) rfl rfl wz (λn_2=>aa (vI 0) (ah (ak (ai (ay Ig rfl 3 rfl wz (av 0 0 il ft Nz NE rfl rfl (vL eS a_1.Refs) rfl wz (bJ Jh rfl wz (aa (vB (decide ((a_1.Refs.length:Int)>20))) (ah ?_))))))))))
 rcases aj hF with⟨hc_3,hF⟩|⟨hc_3,hF⟩
 ·refine aC rfl hc_3 (ai (aa (vI 2) (ah ?_)))
  obtain rfl:=ae hF
  exact aA (aK [(vI 2)] ⟨rfl,trivial⟩)
 ·refine aB rfl hc_3 (ax (ak (ai (ay Ig rfl 3 rfl wz (av 0 0 il ft Nz NE rfl rfl (vL eS a_1.Refs) rfl wz (bJ Jh rfl wz (aa (vI 0) (ah ?_))))))))
  obtain ⟨o_12,hj_13,hF⟩:=bind_some hF
  obtain ⟨hn_8,hj_13⟩:=aR hj_13
  refine bL (λ(s_9:Unit)=>[(1,(.ref n_2 0 0))]) (λ(s_9:Unit)=>[(n_2,some (.cells 9 (Alert.v a_1)))]) (λ(k_4:Nat)=>(λ(s_9:Unit)=>[(1,(.ref n_2 0 0)),(10,(vL eS a_1.Refs)),(11,(vI (a_1.Refs.length:Int))),(12,(vI (k_4:Int)))])) (λk x s=>je a_1 k x s) o_12 a_1.Refs () hj_13 rfl (aG rfl) ?_ ?_
  ·rintro ⟨k_4,l_5,s_9⟩ ⟨hL_11,hD_7⟩
   dsimp only at hL_11 hD_7
   cases l_5 with
   | nil =>
    obtain rfl:=ae hL_11
    refine ai (aa (vB (decide ((k_4:Int)<(a_1.Refs.length:Int)))) (ah ?_))
    refine ak (aB rfl (drop_nil hD_7) (aS ?_))
    exact aV (s_9) rfl rfl (aG rfl)
   | cons x_6 l_5 =>
    obtain ⟨c_,hc_10,hL_11⟩:=bind_some hL_11
    refine ai (aa (vB (decide ((k_4:Int)<(a_1.Refs.length:Int)))) (ah ?_))
    refine ak (aC rfl (aW hD_7) (ax ?_))
    unfold je at hc_10
    refine ak (aL (ai (aa (vI (k_4:Int)) (dM Jj rfl rfl (bu hD_7) rfl wz (bI sz9 ag9 rfl (vS x_6) rfl wz (aa (vI (k_4:Int)) (aa (vS x_6) (ah (aL (ai (aa (vS x_6) ?_)))))))))))
    obtain ⟨r_14,hr_15,hc_10⟩:=bind_some hc_10
    refine aD (eu hr_15) rfl zP rfl rfl rfl rfl wz (aa (vB (!r_14)) (aa (vB (!r_14)) (ah ?_)))
    rcases aj hc_10 with⟨hc_16,hc_10⟩|⟨hc_16,hc_10⟩
    ·refine aC rfl hc_16 (ai (aa (vI 5) (ah ?_)))
     obtain rfl:=ae hc_10
     obtain rfl:=ae hL_11
     obtain rfl:=ae hF
     exact aA (aK [(vI 5)] ⟨rfl,trivial⟩)
    ·refine aB rfl hc_16 (ak ?_)
     obtain ⟨v_17,h_18,hc_10⟩:=bind_some hc_10
     refine aP [(1,(.ref n_2 0 0)),(4,(vS x_6)),(10,(vL eS a_1.Refs)),(11,(vI (a_1.Refs.length:Int))),(12,(vI (k_4:Int))),(21,(vB v_17))] [(n_2,some (.cells 9 (Alert.v a_1)))] ?_ ?_
     ·refine au (aa (vI (k_4:Int)) (aa (vB (decide ((k_4:Int)>0))) ?_))
      rcases aj h_18 with⟨hc_19,h_18⟩|⟨hc_19,h_18⟩
      ·refine aF rfl hc_19 wz (aI (vS x_6) wa rfl (ay Ig rfl 3 rfl wa (av 0 0 il ft Nz NE rfl rfl (vL eS a_1.Refs) rfl wa (aI (vI (k_4:Int)) wa rfl (aI (vI (w64 ((k_4:Int)-1))) wa rfl ?_)))))
       obtain ⟨y_20,hy_21,h_18⟩:=bind_some h_18
       refine dM Jj rfl rfl hy_21 rfl wa (bI sz9 ag9 rfl (vS y_20) rfl wa (aI (vB (sLe x_6 y_20)) wa rfl (aa (vB (sLe x_6 y_20)) (aa (vB (sLe x_6 y_20)) (ah ?_)))))
       obtain rfl:=ae h_18
       exact cu
      ·refine aF rfl hc_19 wz (af (af (af (af (af (af (af (af (aa (vB false) (aa (vB false) (ah ?_)))))))))))
       obtain rfl:=ae h_18
       exact cu
     ·rintro ⟨⟩ _ sl_ H_ hp_ hq_
      refine aM _ hp_ hq_ ?_
      rcases aj hc_10 with⟨hc_22,hc_10⟩|⟨hc_22,hc_10⟩
      ·refine aC rfl hc_22 (ai (aa (vI 7) (ah ?_)))
       obtain rfl:=ae hc_10
       obtain rfl:=ae hL_11
       obtain rfl:=ae hF
       exact aA (aK [(vI 7)] ⟨rfl,trivial⟩)
      ·refine aB rfl hc_22 (ai (aa (vS x_6) (ay AZ rfl 0 rfl wz (av 0 0 il ft sz9 ag9 rfl rfl (vS a_1.Id) rfl wz (aa (vB (sEq x_6 a_1.Id)) (aa (vB (sEq x_6 a_1.Id)) (ah ?_)))))))
       rcases aj hc_10 with⟨hc_23,hc_10⟩|⟨hc_23,hc_10⟩
       ·refine aC rfl hc_23 (ai (aa (vI 14) (ah ?_)))
        obtain rfl:=ae hc_10
        obtain rfl:=ae hL_11
        obtain rfl:=ae hF
        exact aA (aK [(vI 14)] ⟨rfl,trivial⟩)
       ·refine aB rfl hc_23 (ax (au (dL (aZ hD_7 hn_8) wz rfl (aa (vI ((k_4+1:Nat):Int)) (ah ?_)))))
        obtain rfl:=ae hc_10
        exact aU (k_4+1,l_5,()) ⟨hL_11,aN hD_7⟩ (ls_ _) rfl (aG rfl)
  ·rintro s_9 ho_ sl_ H_ hp_ hq_
   subst ho_
   refine aM _ hp_ hq_ (ak (ai (ay K6 rfl 2 rfl wz (av 0 0 il ft sz3 ag3 rfl rfl (vI a_1.Kind) rfl wz (aa (vB (a_1.Kind==1)) (ay Ig rfl 3 rfl wz (av 0 0 il ft Nz NE rfl rfl (vL eS a_1.Refs) rfl wz (bJ Jh rfl wz (aa (vB ((a_1.Refs.length:Int)==0)) (OU un4 rfl rfl wz (ah ?_)))))))))))
   rcases aj hF with⟨hc_24,hF⟩|⟨hc_24,hF⟩
   ·refine aC rfl hc_24 (ai (aa (vI 3) (ah ?_)))
    obtain rfl:=ae hF
    exact aA (aK [(vI 3)] ⟨rfl,trivial⟩)
   ·refine aB rfl hc_24 (ax (ai (aa (vI 0) (ah ?_))))
    obtain rfl:=ae hF
    exact aA (aK [(vI 0)] ⟨rfl,trivial⟩)
end Go.Proofs.YtnkgapmhkhcanaaGreatDoor.Law

