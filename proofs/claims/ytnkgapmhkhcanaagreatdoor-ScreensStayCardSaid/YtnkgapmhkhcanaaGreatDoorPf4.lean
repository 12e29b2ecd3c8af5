/-
 The machine computes these plain functions (written by a program of ours).
-/
import Derived.Test.YtnkgapmhkhcanaaGreatDoorFacts
import Derived.Test.YtnkgapmhkhcanaaGreatDoorDefs
import Derived.Test.YtnkgapmhkhcanaaGreatDoorPf3
open Go Go.Eng Go.Proofs
namespace Go.Proofs.YtnkgapmhkhcanaaGreatDoor.Law
set_option maxRecDepth 100000
set_option linter.unusedVariables false
set_option maxHeartbeats 1000000
theorem BI {wv_1:Wall} {l_2:Layout} {r:(List Piece)×Int} (hF:nz wv_1 l_2=some r) :
  FnM Tryz.prog 31 [(.d (.agg (Wall.enc wv_1))),(.d (.agg (Layout.enc l_2)))] [] (.tup [(vL Piece.enc r.1),(vI r.2)]) []:=by
 refine FnM.of_wH ⟨Tryz.prog,61,[],[]⟩ rfl Tryz.func31 rfl rfl (lb_ rfl) (by kernel_rfl) ?_
 unfold nz at hF
 refine ai (dY 0 (.inl rfl) (Wall.v wv_1) rfl rfl wz (λn_3=>dY 0 (.inl rfl) (Layout.v l_2) rfl rfl wz (λn_4=>aa .nil (aa (vI 0) (ah (ak (ai (av 0 0 il ft xC EA rfl rfl (.d (.agg (Wall.enc wv_1))) rfl wz ?_))))))))
 obtain ⟨r_5,hr_6,hF⟩:=bind_some hF
 refine aD (rA hr_6) rfl hb27 rfl rfl rfl rfl wz (aa (vI r_5) (ah (ai (aa (vI r_5) (aa (vB (r_5 != 0)) (ah ?_))))))
 rcases aj hF with⟨hc_7,hF⟩|⟨hc_7,hF⟩
 ·refine aC rfl hc_7 (ai (aa (vI r_5) (aa .nil (aa (vI r_5) (ah ?_)))))
  obtain rfl:=ae hF
  exact aA (aK [.nil,(vI r_5)] ⟨rfl,⟨rfl,trivial⟩⟩)
 ·refine aB rfl hc_7 (ax (ak (ai (av 0 1 il ft xe BD rfl rfl (.d (.agg (Layout.enc l_2))) rfl wz ?_))))
  obtain ⟨r_8,hr_9,hF⟩:=bind_some hF
  refine aD (pE hr_9) rfl hb29 rfl rfl rfl rfl wz (aa (vI r_8) (ah (ai (aa (vI r_8) (aa (vB (r_8 != 0)) (ah ?_))))))
  rcases aj hF with⟨hc_10,hF⟩|⟨hc_10,hF⟩
  ·refine aC rfl hc_10 (ai (aa (vI r_8) (aa .nil (aa (vI r_8) (ah ?_)))))
   obtain rfl:=ae hF
   exact aA (aK [.nil,(vI r_8)] ⟨rfl,⟨rfl,trivial⟩⟩)
  ·refine aB rfl hc_10 (ax (ai (av 0 1 il ft xe BD rfl rfl (.d (.agg (Layout.enc l_2))) rfl wz ?_)))
   obtain ⟨r_11,hr_12,hF⟩:=bind_some hF
   refine aD (FH hr_12) rfl hb30 rfl rfl rfl rfl wz (aa (.tup [(vL Piece.enc r_11.1),(vI r_11.2)]) (aa (vL Piece.enc r_11.1) (aa (vI r_11.2) (aa (vL Piece.enc r_11.1) (aa (vI r_11.2) (ah (ak (ai (aa (vI r_11.2) (aa (vB (r_11.2 != 0)) (ah ?_)))))))))))
   rcases aj hF with⟨hc_13,hF⟩|⟨hc_13,hF⟩
   ·refine aC rfl hc_13 (ai (aa (vI r_11.2) (aa .nil (aa (vI r_11.2) (ah ?_)))))
    obtain rfl:=ae hF
    exact aA (aK [.nil,(vI r_11.2)] ⟨rfl,⟨rfl,trivial⟩⟩)
   ·refine aB rfl hc_13 (ax (ai (aa .nil (ah (ak (ai (aa (vL Piece.enc r_11.1) (bJ PD rfl wz (aa (vI 0) (ah (iV (λn_20 => ?_))))))))))))
    obtain ⟨o_25,hj_26,hF⟩:=bind_some hF
    obtain ⟨hn_18,hj_26⟩:=aR hj_26
    refine fK (σ:=(List Piece)) (N:=Nm) (λp=>(λ(s_19:List Piece) (n_22:Nm)=>([(10,(gV n_22 5 s_19))]:SL_)) p.1 p.2) (λp=>(λ(s_19:List Piece) (n_22:Nm)=>([(n_3,some (.cells 4 (Wall.v wv_1))),(n_4,some (.cells 4 (Layout.v l_2))),(n_22,gB 5 Piece.enc s_19)]:Hp)) p.1 p.2) (λ(k_14:Nat)=>(λp=>(λ(s_19:List Piece) (n_22:Nm)=>([(2,(.ref n_3 0 0)),(3,(.ref n_4 0 0)),(10,(gV n_22 5 s_19)),(32,(vL Piece.enc r_11.1)),(33,(vI (r_11.1.length:Int))),(34,(vI (k_14:Int)))]:SL_)) p.1 p.2)) (λk x s=>iW l_2 wv_1 k x s) o_25 r_11.1 (([]:List Piece),n_20) hj_26 rfl (aG rfl) ?_ ?_
    ·rintro ⟨k_14,l_15,s_19,n_22⟩ ⟨hL_24,hD_17⟩
     dsimp only at hL_24 hD_17
     cases l_15 with
     | nil =>
      obtain rfl:=ae hL_24
      refine ai (aa (vB (decide ((k_14:Int)<(r_11.1.length:Int)))) (ah ?_))
      refine ak (aB rfl (drop_nil hD_17) (aS ?_))
      exact aV (s_19,n_22) rfl rfl (aG rfl)
     | cons x_16 l_15 =>
      obtain ⟨c_,hc_23,hL_24⟩:=bind_some hL_24
      refine ai (aa (vB (decide ((k_14:Int)<(r_11.1.length:Int)))) (ah ?_))
      refine ak (aC rfl (aW hD_17) (ax ?_))
      unfold iW at hc_23
      refine ak (aL (ai (dM NL rfl rfl (bu hD_17) rfl wz (bI IE ag49 rfl (.d (.agg (Piece.enc x_16))) rfl wz (bf 0 (.inl rfl) z49 rfl wz (λn_27=>cz 0 il ft 3 IE rfl rfl (Piece.v x_16) rfl wz (ah (ai (ay O4 rfl 1 rfl wz (av 0 3 il ft eU jN rfl rfl (.d (.agg (Rect.enc x_16.On))) rfl wz (ay zq rfl 1 rfl wz (av 0 1 il ft sz3 ag3 rfl rfl (vI l_2.W) rfl wz (ay zQ rfl 2 rfl wz (av 0 1 il ft sz3 ag3 rfl rfl (vI l_2.H) rfl wz (ay xn rfl 1 rfl wz (av 0 0 il ft sz3 ag3 rfl rfl (vI wv_1.W) rfl wz (ay xm rfl 2 rfl wz (av 0 0 il ft sz3 ag3 rfl rfl (vI wv_1.H) rfl wz ?_))))))))))))))))))
      obtain ⟨r_28,hr_29,hc_23⟩:=bind_some hc_23
      refine aD (CR hr_29) rfl hb59 rfl rfl rfl rfl wz (bf 0 (.inl rfl) z27 rfl wz (λn_30=>cz 0 il ft 4 eU rfl rfl (Rect.v r_28) rfl wz (ah (ai (ay mg rfl 2 rfl wz (av 0 4 il ft sz3 ag3 rfl rfl (vI r_28.W) rfl wz (aa (vB (decide (r_28.W>0))) (ah ?_))))))))
      obtain ⟨v_31,h_32,hc_23⟩:=bind_some hc_23
      refine lS (β:=Nm) (λ(n_33:Nm)=>([(2,(.ref n_3 0 0)),(3,(.ref n_4 0 0)),(10,(gV n_33 5 v_31)),(32,(vL Piece.enc r_11.1)),(33,(vI (r_11.1.length:Int))),(34,(vI (k_14:Int)))]:SL_)) (λ(n_33:Nm)=>([(n_3,some (.cells 4 (Wall.v wv_1))),(n_4,some (.cells 4 (Layout.v l_2))),(n_33,gB 5 Piece.enc v_31),(n_27,some (.cells 5 (Piece.v x_16))),(n_30,some (.cells 4 (Rect.v r_28)))]:Hp)) (λ_=>True) ?_ ?_
      ·rcases aj h_32 with⟨hc_34,h_32⟩|⟨hc_34,h_32⟩
       ·refine aC rfl hc_34 (au (aa (gV n_22 5 s_19) (ay Oj rfl 0 rfl wz (av 0 3 il ft sz9 ag9 rfl rfl (vS x_16.Zone) rfl wz (av 0 4 il ft eU jN rfl rfl (.d (.agg (Rect.enc r_28))) rfl wz (aI (.d (.agg (Piece.enc (⟨x_16.Zone,r_28⟩:Piece)))) wz (by kernel_rfl) (fI (([(⟨x_16.Zone,r_28⟩:Piece)]:List Piece).map Piece.enc) NL ez44 rfl rfl rfl rfl rfl wz ?_)))))))
        obtain ⟨a_35,hz_36,h_32⟩:=bind_some h_32
        refine kH 0 il ft (i:=2) NP NP IE z49 rfl (by decide) by49 (by decide) (λ_=>rfl) rfl rfl rfl hz_36 wz (λn_37=>aa (gV n_37 5 a_35) (ah ?_))
        obtain rfl:=ae h_32
        exact aV n_37 trivial rfl (aG rfl)
       ·refine aB rfl hc_34 (ax ?_)
        obtain rfl:=ae h_32
        exact aV n_22 trivial rfl (aG rfl)
      ·rintro n_33 _ sl_ H_ hp_ hq_
       refine aM _ hp_ hq_ (au (dL (aZ hD_17 hn_18) wz rfl (aa (vI ((k_14+1:Nat):Int)) (ah ?_))))
       obtain rfl:=ae hc_23
       exact aU (k_14+1,l_15,v_31,n_33) ⟨hL_24,aN hD_17⟩ (ls_ _) rfl (aG rfl)
    ·rintro ⟨s_19,n_22⟩ ho_ sl_ H_ hp_ hq_
     subst ho_
     refine aM _ hp_ hq_ (ai (aa (gV n_22 5 s_19) (aa (gV n_22 5 s_19) (aa (vI 0) (ah (jc 2 rfl (fF 4 2 rfl rfl (fF 10 2 rfl rfl (fF 60 2 rfl rfl ?_)))))))))
     obtain rfl:=ae hF
     exact aA (aK [(vL Piece.enc s_19),(vI 0)] ⟨rfl,⟨rfl,trivial⟩⟩)
theorem Da {r_1:Rect} {byv_2:Rect} {r:Rect} (hF:rG r_1 byv_2=some r) :
  FnM Tryz.prog 33 [(.d (.agg (Rect.enc r_1))),(.d (.agg (Rect.enc byv_2)))] [] (.d (.agg (Rect.enc r))) []:=by
 refine FnM.of_wH ⟨Tryz.prog,20,[],[]⟩ rfl Tryz.func33 rfl rfl (lb_ rfl) (by kernel_rfl) ?_
 unfold rG at hF
 refine ai (dY 0 (.inl rfl) (Rect.v r_1) rfl rfl wz (λn_3=>dY 0 (.inl rfl) (Rect.v byv_2) rfl rfl wz (λn_4=>bf 0 (.inl rfl) z27 rfl wz (λn_5=>ah (ai (ay ic rfl 0 rfl wz (av 0 0 il ft sz3 ag3 rfl rfl (vI r_1.X) rfl wz (ay ic rfl 0 rfl wz (av 0 1 il ft sz3 ag3 rfl rfl (vI byv_2.X) rfl wz (aa (vI (w64 (r_1.X-byv_2.X))) (ay gu rfl 1 rfl wz (av 0 0 il ft sz3 ag3 rfl rfl (vI r_1.Y) rfl wz (ay gu rfl 1 rfl wz (av 0 1 il ft sz3 ag3 rfl rfl (vI byv_2.Y) rfl wz (aa (vI (w64 (r_1.Y-byv_2.Y))) (ay mg rfl 2 rfl wz (av 0 0 il ft sz3 ag3 rfl rfl (vI r_1.W) rfl wz (ay lQ rfl 3 rfl wz (av 0 0 il ft sz3 ag3 rfl rfl (vI r_1.H) rfl wz (aI (.d (.agg (Rect.enc (⟨(w64 (r_1.X-byv_2.X)),(w64 (r_1.Y-byv_2.Y)),r_1.W,r_1.H⟩:Rect)))) wz (by kernel_rfl) (cz 0 il ft 2 eU rfl rfl [(vI (w64 (r_1.X-byv_2.X))),(vI (w64 (r_1.Y-byv_2.Y))),(vI r_1.W),(vI r_1.H)] rfl wz (ah ?_))))))))))))))))))))))
 obtain rfl:=ae hF
 exact aA (aK [(.d (.agg (Rect.enc (⟨(w64 (r_1.X-byv_2.X)),(w64 (r_1.Y-byv_2.Y)),r_1.W,r_1.H⟩:Rect))))] ⟨⟨2,_,_,_,_,_,_,_,rfl,rfl,eU,jN,rfl⟩,trivial⟩)
theorem tN {l_1:(List View)} {r:(List View)} (hF:iT l_1=some r) :
  FnM Tryz.prog 14 [(dV (aJ 0) 6 l_1)] (([]:List Box)++gI 6 View.enc l_1) (.tup []) (([]:List Box).map some++gT l_1 (gB 6 View.enc r)):=by
 refine FnM.of_wHv ⟨Tryz.prog,14,[],[]⟩ rfl Tryz.func14 rfl rfl (lb_ rfl) (by kernel_rfl) ?_
 unfold iT at hF
 refine ai (bf 0 (.inl rfl) z55 rfl wz (λn_2=>ah (ai (aa (dV (aJ 0) 6 l_1) (Bv un50 rfl wz (aa (vI 0) (ah ?_)))))))
 obtain ⟨o_11,hj_12,hF⟩:=bind_some hF
 obtain ⟨hn_7,hj_12⟩:=aR hj_12
 refine bL (λ(s_8:List View)=>[]) (λ(s_8:List View)=>[((aJ 0),gB 6 View.enc s_8),(n_2,some (.cells 6 [(vS (⟨#[]⟩:ByteArray)),(vS (⟨#[]⟩:ByteArray)),(vI 0),(vI 0),(vI 0),(vI 0)]))]) (λ(k_3:Nat)=>(λ(s_8:List View)=>[(0,(dV (aJ 0) 6 s_8)),(2,(.ref n_2 0 0)),(5,(vI (l_1.length:Int))),(6,(vI (k_3:Int)))])) (λk x s=>jw k x s) o_11 (List.range ((l_1.length:Int)).toNat) l_1 hj_12 rfl (aG rfl) ?_ ?_
 ·rintro ⟨k_3,l_4,s_8⟩ ⟨hL_10,hD_6⟩
  dsimp only at hL_10 hD_6
  cases l_4 with
  | nil =>
   obtain rfl:=ae hL_10
   refine ai (aa (vB (decide ((k_3:Int)<(l_1.length:Int)))) (ah ?_))
   refine ak (aB rfl (rP hD_6) (aS ?_))
   exact aV (s_8) rfl rfl (aG rfl)
  | cons x_5 l_4 =>
   obtain ⟨c_,hc_9,hL_10⟩:=bind_some hL_10
   refine ai (aa (vB (decide ((k_3:Int)<(l_1.length:Int)))) (ah ?_))
   refine ak (aC rfl (pM hD_6) (ax ?_))
   unfold jw at hc_9
   refine ak (aL (ai (aa (vI (k_3:Int)) (aa (vI (k_3:Int)) (ah (au (aa (dV (aJ 0) 6 s_8) (aa (vI (k_3:Int)) (av 0 1 il ft sz55 ag55 rfl rfl (.d (.agg (View.enc (⟨(⟨#[]⟩:ByteArray),(⟨#[]⟩:ByteArray),(⟨0,0,0,0⟩:Rect)⟩:View)))) rfl wz ?_)))))))))
   obtain ⟨_,hi_13,hc_9⟩:=bind_some hc_9
   refine tH es50 rfl rfl (qC hi_13) (mE hi_13) wz ?_
   obtain ⟨e_14,hy_15,hc_9⟩:=bind_some hc_9
   refine zm 0 il ft 0 sz55 rfl rfl hy_15 (⟨(⟨#[]⟩:ByteArray),(⟨#[]⟩:ByteArray),(⟨0,0,0,0⟩:Rect)⟩:View) rfl wz (gP (v':=(dV (aJ 0) 6 (s_8.set (0+((k_3:Int)).toNat) (⟨(⟨#[]⟩:ByteArray),(⟨#[]⟩:ByteArray),(⟨0,0,0,0⟩:Rect)⟩:View)))) 0 rfl (jX (by simp)) (gP (v':=(dV (aJ 0) 6 (s_8.set (0+((k_3:Int)).toNat) (⟨(⟨#[]⟩:ByteArray),(⟨#[]⟩:ByteArray),(⟨0,0,0,0⟩:Rect)⟩:View)))) 9 rfl (jX (by simp)) (ah (au (dL (rT hD_6 hn_7) wz rfl (aa (vI ((k_3+1:Nat):Int)) (ah ?_)))))))
   obtain rfl:=ae hc_9
   exact aU (k_3+1,l_4,(s_8.set (0+((k_3:Int)).toNat) (⟨(⟨#[]⟩:ByteArray),(⟨#[]⟩:ByteArray),(⟨0,0,0,0⟩:Rect)⟩:View))) ⟨hL_10,aN hD_6⟩ (ls_ _) rfl (aG rfl)
 ·rintro s_8 ho_ sl_ H_ hp_ hq_
  subst ho_
  show uw _ _ _ _ _ _ _ _
  obtain rfl:=ae hF
  exact Al (H0:=([((aJ 0),gB 6 View.enc s_8),(n_2,some (.cells 6 [(vS (⟨#[]⟩:ByteArray)),(vS (⟨#[]⟩:ByteArray)),(vI 0),(vI 0),(vI 0),(vI 0)]))]:Hp)) (sl':=envS []) hq_ (FK (bs:=([]:List Box)) (os:=([]:List Box)) (xs:=l_1) (o:=gB 6 View.enc s_8) (.inl rfl) [] trivial rfl rfl rfl rfl rfl (by kernel_rfl) pz rfl)
theorem Bq {wv_1:Wall} {l_2:Layout} {r:(List View)×Int} (hF:mP wv_1 l_2=some r) :
  FnM Tryz.prog 13 [(.d (.agg (Wall.enc wv_1))),(.d (.agg (Layout.enc l_2)))] [] (kG [.int .i64 r.2] (gV (aJ 0) 6 r.1)) (([]:List Box).map some++gO 6 View.enc r.1):=by
 refine FnM.of_wH ⟨Tryz.prog,61,[],[]⟩ rfl Tryz.func13 rfl rfl (lb_ rfl) (by kernel_rfl) ?_
 unfold mP at hF
 refine ai (dY 0 (.inl rfl) (Wall.v wv_1) rfl rfl wz (λn_3=>dY 0 (.inl rfl) (Layout.v l_2) rfl rfl wz (λn_4=>aa .nil (aa (vI 0) (ah (ai (av 0 0 il ft xC EA rfl rfl (.d (.agg (Wall.enc wv_1))) rfl wz (av 0 1 il ft xe BD rfl rfl (.d (.agg (Layout.enc l_2))) rfl wz ?_))))))))
 obtain ⟨r_5,hr_6,hF⟩:=bind_some hF
 refine aD (BI hr_6) rfl hb31 rfl rfl rfl rfl wz (aa (.tup [(vL Piece.enc r_5.1),(vI r_5.2)]) (aa (vL Piece.enc r_5.1) (aa (vI r_5.2) (aa (vL Piece.enc r_5.1) (aa (vI r_5.2) (ah (ak (ai (aa (vI r_5.2) (aa (vB (r_5.2 != 0)) (ah ?_)))))))))))
 rcases aj hF with⟨hc_7,hF⟩|⟨hc_7,hF⟩
 ·refine aC rfl hc_7 (ai (aa (vI r_5.2) (aa .nil (aa (vI r_5.2) (ah (iV (λn_8 => ?_)))))))
  obtain rfl:=ae hF
  exact aA (wO (outs:=([]:List Box)) [.int .i64 r_5.2] (.inr rfl) 2 rfl ⟨rfl,trivial⟩ rfl rfl (by kernel_rfl) (by kernel_rfl))
 ·refine aB rfl hc_7 (ax (ai (aa .nil (ah (ak (ai (ay nY rfl 3 rfl wz (av 0 0 il ft zC Am rfl rfl (vL Screen.enc wv_1.Screens) rfl wz (bJ yK rfl wz (aa (vI 0) (ah (iV (λn_15 => ?_)))))))))))))
  obtain ⟨o_20,hj_21,hF⟩:=bind_some hF
  obtain ⟨hn_13,hj_21⟩:=aR hj_21
  refine fK (σ:=(List View)) (N:=Nm) (λp=>(λ(s_14:List View) (n_17:Nm)=>([(8,(gV n_17 6 s_14))]:SL_)) p.1 p.2) (λp=>(λ(s_14:List View) (n_17:Nm)=>([(n_3,some (.cells 4 (Wall.v wv_1))),(n_4,some (.cells 4 (Layout.v l_2))),(n_17,gB 6 View.enc s_14)]:Hp)) p.1 p.2) (λ(k_9:Nat)=>(λp=>(λ(s_14:List View) (n_17:Nm)=>([(6,(vL Piece.enc r_5.1)),(8,(gV n_17 6 s_14)),(25,(vL Screen.enc wv_1.Screens)),(26,(vI (wv_1.Screens.length:Int))),(27,(vI (k_9:Int)))]:SL_)) p.1 p.2)) (λk x s=>nQ r_5 k x s) o_20 wv_1.Screens (([]:List View),n_15) hj_21 rfl (aG rfl) ?_ ?_
  ·rintro ⟨k_9,l_10,s_14,n_17⟩ ⟨hL_19,hD_12⟩
   dsimp only at hL_19 hD_12
   cases l_10 with
   | nil =>
    obtain rfl:=ae hL_19
    refine ai (aa (vB (decide ((k_9:Int)<(wv_1.Screens.length:Int)))) (ah ?_))
    refine ak (aB rfl (drop_nil hD_12) (aS ?_))
    exact aV (s_14,n_17) rfl rfl (aG rfl)
   | cons x_11 l_10 =>
    obtain ⟨c_,hc_18,hL_19⟩:=bind_some hL_19
    refine ai (aa (vB (decide ((k_9:Int)<(wv_1.Screens.length:Int)))) (ah ?_))
    refine ak (aC rfl (aW hD_12) (ax ?_))
    unfold nQ at hc_18
    refine ak (aL (ai (dM BZ rfl rfl (bu hD_12) rfl wz (bI rO Fj rfl (.d (.agg (Screen.enc x_11))) rfl wz (bf 0 (.inl rfl) z59 rfl wz (λn_22=>cz 0 il ft 3 rO rfl rfl (Screen.v x_11) rfl wz (ah (ai (aa (vL Piece.enc r_5.1) (bJ PD rfl wz (aa (vI 0) (ah ?_))))))))))))
    obtain ⟨o_33,hj_34,hc_18⟩:=bind_some hc_18
    obtain ⟨hn_27,hj_34⟩:=aR hj_34
    refine fK (σ:=(List View)) (N:=Nm) (λp=>(λ(s_28:List View) (n_30:Nm)=>([(6,(vL Piece.enc r_5.1)),(8,(gV n_30 6 s_28)),(25,(vL Screen.enc wv_1.Screens)),(26,(vI (wv_1.Screens.length:Int))),(27,(vI (k_9:Int)))]:SL_)) p.1 p.2) (λp=>(λ(s_28:List View) (n_30:Nm)=>([(n_3,some (.cells 4 (Wall.v wv_1))),(n_4,some (.cells 4 (Layout.v l_2))),(n_30,gB 6 View.enc s_28),(n_22,some (.cells 5 (Screen.v x_11)))]:Hp)) p.1 p.2) (λ(k_23:Nat)=>(λp=>(λ(s_28:List View) (n_30:Nm)=>([(6,(vL Piece.enc r_5.1)),(8,(gV n_30 6 s_28)),(10,(.ref n_22 0 0)),(25,(vL Screen.enc wv_1.Screens)),(26,(vI (wv_1.Screens.length:Int))),(27,(vI (k_9:Int))),(31,(vL Piece.enc r_5.1)),(32,(vI (r_5.1.length:Int))),(33,(vI (k_23:Int)))]:SL_)) p.1 p.2)) (λk x s=>jF x_11 k x s) o_33 r_5.1 (s_14,n_17) hj_34 rfl (aG rfl) ?_ ?_
    ·rintro ⟨k_23,l_24,s_28,n_30⟩ ⟨hL_32,hD_26⟩
     dsimp only at hL_32 hD_26
     cases l_24 with
     | nil =>
      obtain rfl:=ae hL_32
      refine ai (aa (vB (decide ((k_23:Int)<(r_5.1.length:Int)))) (ah ?_))
      refine ak (aB rfl (drop_nil hD_26) (aS ?_))
      exact aV (s_28,n_30) rfl rfl (aG rfl)
     | cons x_25 l_24 =>
      obtain ⟨c_,hc_31,hL_32⟩:=bind_some hL_32
      refine ai (aa (vB (decide ((k_23:Int)<(r_5.1.length:Int)))) (ah ?_))
      refine ak (aC rfl (aW hD_26) (ax ?_))
      unfold jF at hc_31
      refine ak (aL (ai (dM NL rfl rfl (bu hD_26) rfl wz (bI IE ag49 rfl (.d (.agg (Piece.enc x_25))) rfl wz (bf 0 (.inl rfl) z49 rfl wz (λn_35=>cz 0 il ft 4 IE rfl rfl (Piece.v x_25) rfl wz (ah (ai (ay nV rfl 1 rfl wz (av 0 3 il ft eU jN rfl rfl (.d (.agg (Rect.enc x_11.On))) rfl wz (ay O4 rfl 1 rfl wz (av 0 4 il ft eU jN rfl rfl (.d (.agg (Rect.enc x_25.On))) rfl wz ?_))))))))))))
      obtain ⟨r_36,hr_37,hc_31⟩:=bind_some hc_31
      refine aD (xw hr_37) rfl hb32 rfl rfl rfl rfl wz (aa (.tup [(.d (.agg (Rect.enc r_36.1))),(vB r_36.2)]) (aa (.d (.agg (Rect.enc r_36.1))) (aa (vB r_36.2) (bf 0 (.inl rfl) z27 rfl wz (λn_38=>cz 0 il ft 5 eU rfl rfl (Rect.v r_36.1) rfl wz (aa (vB r_36.2) (ah (ai (aa (vB r_36.2) (ah ?_))))))))))
      obtain ⟨v_39,h_40,hc_31⟩:=bind_some hc_31
      refine lS (β:=Nm) (λ(n_41:Nm)=>([(6,(vL Piece.enc r_5.1)),(8,(gV n_41 6 v_39)),(10,(.ref n_22 0 0)),(25,(vL Screen.enc wv_1.Screens)),(26,(vI (wv_1.Screens.length:Int))),(27,(vI (k_9:Int))),(31,(vL Piece.enc r_5.1)),(32,(vI (r_5.1.length:Int))),(33,(vI (k_23:Int)))]:SL_)) (λ(n_41:Nm)=>([(n_3,some (.cells 4 (Wall.v wv_1))),(n_4,some (.cells 4 (Layout.v l_2))),(n_41,gB 6 View.enc v_39),(n_22,some (.cells 5 (Screen.v x_11))),(n_35,some (.cells 5 (Piece.v x_25))),(n_38,some (.cells 4 (Rect.v r_36.1)))]:Hp)) (λ_=>True) ?_ ?_
      ·rcases aj h_40 with⟨hc_42,h_40⟩|⟨hc_42,h_40⟩
       ·refine aC rfl hc_42 (bz (aa (gV n_30 6 s_28) (ay zh rfl 0 rfl wz (av 2 3 (.inr (by kernel_rfl)) (λ_ _ ag=>trivial) sz9 ag9 rfl rfl (vS x_11.Key) rfl wz (ay Oj rfl 0 rfl wz (av 4 4 (.inr (by kernel_rfl)) (λ_ _ ag=>⟨.inl ⟨rfl,rfl⟩,trivial⟩) sz9 ag9 rfl rfl (vS x_25.Zone) rfl wz (av 5 5 (.inr (by kernel_rfl)) (λ_ _ ag=>⟨.inl ⟨rfl,rfl⟩,⟨.inl ⟨rfl,rfl⟩,trivial⟩⟩) eU jN rfl rfl (.d (.agg (Rect.enc r_36.1))) rfl wz (ay nV rfl 1 rfl wz (av 7 3 (.inr (by kernel_rfl)) (λ_ _ ag=>⟨.inl ⟨rfl,rfl⟩,⟨.inl ⟨rfl,rfl⟩,⟨.inl ⟨rfl,rfl⟩,trivial⟩⟩⟩) eU jN rfl rfl (.d (.agg (Rect.enc x_11.On))) rfl wz ?_)))))))))
        obtain ⟨r_43,hr_44,h_40⟩:=bind_some h_40
        refine aD (Da hr_44) rfl hb33 rfl rfl rfl rfl wz (aI (.d (.agg (View.enc (⟨x_11.Key,x_25.Zone,r_43⟩:View)))) wz (by kernel_rfl) (fI (([(⟨x_11.Key,x_25.Zone,r_43⟩:View)]:List View).map View.enc) es50 ez50 rfl rfl rfl rfl rfl wz ?_))
        obtain ⟨a_45,hz_46,h_40⟩:=bind_some h_40
        refine kH 11 (.inr (by kernel_rfl)) (λ_ _ ag=>⟨.inr (.inr (by kernel_rfl)),⟨.inr (.inr (by kernel_rfl)),⟨.inr (.inr (by kernel_rfl)),⟨.inr (.inr (by kernel_rfl)),trivial⟩⟩⟩⟩) (i:=2) el50 el50 sz55 z55 rfl (by decide) by55 (by decide) (λ_=>rfl) rfl rfl rfl hz_46 wz (λn_47=>aa (gV n_47 6 a_45) (ah ?_))
        obtain rfl:=ae h_40
        exact aV n_47 trivial rfl (aG rfl)
       ·refine aB rfl hc_42 (ax ?_)
        obtain rfl:=ae h_40
        exact aV n_30 trivial rfl (aG rfl)
      ·rintro n_41 _ sl_ H_ hp_ hq_
       refine aM _ hp_ hq_ (au (dL (aZ hD_26 hn_27) wz rfl (aa (vI ((k_23+1:Nat):Int)) (ah ?_))))
       obtain rfl:=ae hc_31
       exact aU (k_23+1,l_24,v_39,n_41) ⟨hL_32,aN hD_26⟩ (ls_ _) rfl (aG rfl)
    ·rintro ⟨s_28,n_30⟩ ho_ sl_ H_ hp_ hq_
     subst ho_
     refine aM _ hp_ hq_ (au (dL (aZ hD_12 hn_13) wz rfl (aa (vI ((k_9+1:Nat):Int)) (ah ?_))))
     obtain rfl:=ae hc_18
     exact aU (k_9+1,l_10,s_28,n_30) ⟨hL_19,aN hD_12⟩ (ls_ _) rfl (aG rfl)
  ·rintro ⟨s_14,n_17⟩ ho_ sl_ H_ hp_ hq_
   subst ho_
   refine aM _ hp_ hq_ (ai (aa (gV n_17 6 s_14) (aa (gV n_17 6 s_14) (aa (vI 0) (ah ?_)))))
   obtain rfl:=ae hF
   exact aA (wO (outs:=([]:List Box)) [.int .i64 0] (.inr rfl) 2 rfl ⟨rfl,trivial⟩ rfl rfl (by kernel_rfl) (by kernel_rfl))
theorem oD {s1_1:(List Rect)} {s2_2:(List Rect)} {r:Bool} (hF:dW s1_1 s2_2=some r) :
  FnM Tryz.prog 15 [(vL Rect.enc s1_1),(vL Rect.enc s2_2)] [] (vB r) []:=by
 refine FnM.of_wH ⟨Tryz.prog,26,[],[]⟩ rfl Tryz.func15 rfl rfl (lb_ rfl) (by kernel_rfl) ?_
 unfold dW at hF
 refine ai (aa (vB false) (ah (ak (ai (aa (vL Rect.enc s1_1) (bJ uC rfl wz (aa (vL Rect.enc s2_2) (bJ uC rfl wz (aa (vB ((s1_1.length:Int) != (s2_2.length:Int))) (ah ?_))))))))))
 rcases aj hF with⟨hc_3,hF⟩|⟨hc_3,hF⟩
 ·refine aC rfl hc_3 (ai (aa (vB false) (ah ?_)))
  obtain rfl:=ae hF
  exact aA (aK [(vB false)] ⟨rfl,trivial⟩)
 ·refine aB rfl hc_3 (ax (ak (ai (aa (vL Rect.enc s1_1) (bJ uC rfl wz (aa (vI 0) (ah ?_)))))))
  obtain ⟨o_12,hj_13,hF⟩:=bind_some hF
  obtain ⟨hn_8,hj_13⟩:=aR hj_13
  refine bL (λ(s_9:Unit)=>[]) (λ(s_9:Unit)=>[]) (λ(k_4:Nat)=>(λ(s_9:Unit)=>[(0,(vL Rect.enc s1_1)),(1,(vL Rect.enc s2_2)),(12,(vI (s1_1.length:Int))),(13,(vI (k_4:Int)))])) (λk x s=>cO s2_2 k x s) o_12 s1_1 () hj_13 rfl (aG rfl) ?_ ?_
  ·rintro ⟨k_4,l_5,s_9⟩ ⟨hL_11,hD_7⟩
   dsimp only at hL_11 hD_7
   cases l_5 with
   | nil =>
    obtain rfl:=ae hL_11
    refine ai (aa (vB (decide ((k_4:Int)<(s1_1.length:Int)))) (ah ?_))
    refine ak (aB rfl (drop_nil hD_7) (aS ?_))
    exact aV (s_9) rfl rfl (aG rfl)
   | cons x_6 l_5 =>
    obtain ⟨c_,hc_10,hL_11⟩:=bind_some hL_11
    refine ai (aa (vB (decide ((k_4:Int)<(s1_1.length:Int)))) (ah ?_))
    refine ak (aC rfl (aW hD_7) (ax ?_))
    unfold cO at hc_10
    refine ak (aL (ai (aa (vI (k_4:Int)) (aa (vI (k_4:Int)) (ah (ak (bz (aa (vL Rect.enc s1_1) (aa (vI (k_4:Int)) (dM tO rfl rfl (bu hD_7) rfl wz (bI eU jN rfl (.d (.agg (Rect.enc x_6))) rfl wz (aa (vL Rect.enc s2_2) (aa (vI (k_4:Int)) ?_)))))))))))))
    obtain ⟨y_14,hy_15,hc_10⟩:=bind_some hc_10
    refine dM tO rfl rfl hy_15 rfl wz (bI eU jN rfl (.d (.agg (Rect.enc y_14))) rfl wz (aI (vB (!((x_6.X==y_14.X)&&((x_6.Y==y_14.Y)&&((x_6.W==y_14.W)&&((x_6.H==y_14.H)&&true)))))) wz (by kernel_rfl) (ah ?_)))
    rcases aj hc_10 with⟨hc_16,hc_10⟩|⟨hc_16,hc_10⟩
    ·refine aC rfl hc_16 (ai (aa (vB false) (ah ?_)))
     obtain rfl:=ae hc_10
     obtain rfl:=ae hL_11
     obtain rfl:=ae hF
     exact aA (aK [(vB false)] ⟨rfl,trivial⟩)
    ·refine aB rfl hc_16 (ax (au (dL (aZ hD_7 hn_8) wz rfl (aa (vI ((k_4+1:Nat):Int)) (ah ?_)))))
     obtain rfl:=ae hc_10
     exact aU (k_4+1,l_5,()) ⟨hL_11,aN hD_7⟩ (ls_ _) rfl (aG rfl)
  ·rintro s_9 ho_ sl_ H_ hp_ hq_
   subst ho_
   refine aM _ hp_ hq_ (ai (aa (vB true) (ah ?_)))
   obtain rfl:=ae hF
   exact aA (aK [(vB true)] ⟨rfl,trivial⟩)
theorem mQ {s1_1:(List Screen)} {s2_2:(List Screen)} {r:Bool} (hF:dG s1_1 s2_2=some r) :
  FnM Tryz.prog 16 [(vL Screen.enc s1_1),(vL Screen.enc s2_2)] [] (vB r) []:=by
 refine FnM.of_wH ⟨Tryz.prog,26,[],[]⟩ rfl Tryz.func16 rfl rfl (lb_ rfl) (by kernel_rfl) ?_
 unfold dG at hF
 refine ai (aa (vB false) (ah (ak (ai (aa (vL Screen.enc s1_1) (bJ yK rfl wz (aa (vL Screen.enc s2_2) (bJ yK rfl wz (aa (vB ((s1_1.length:Int) != (s2_2.length:Int))) (ah ?_))))))))))
 rcases aj hF with⟨hc_3,hF⟩|⟨hc_3,hF⟩
 ·refine aC rfl hc_3 (ai (aa (vB false) (ah ?_)))
  obtain rfl:=ae hF
  exact aA (aK [(vB false)] ⟨rfl,trivial⟩)
 ·refine aB rfl hc_3 (ax (ak (ai (aa (vL Screen.enc s1_1) (bJ yK rfl wz (aa (vI 0) (ah ?_)))))))
  obtain ⟨o_12,hj_13,hF⟩:=bind_some hF
  obtain ⟨hn_8,hj_13⟩:=aR hj_13
  refine bL (λ(s_9:Unit)=>[]) (λ(s_9:Unit)=>[]) (λ(k_4:Nat)=>(λ(s_9:Unit)=>[(0,(vL Screen.enc s1_1)),(1,(vL Screen.enc s2_2)),(12,(vI (s1_1.length:Int))),(13,(vI (k_4:Int)))])) (λk x s=>bQ s2_2 k x s) o_12 s1_1 () hj_13 rfl (aG rfl) ?_ ?_
  ·rintro ⟨k_4,l_5,s_9⟩ ⟨hL_11,hD_7⟩
   dsimp only at hL_11 hD_7
   cases l_5 with
   | nil =>
    obtain rfl:=ae hL_11
    refine ai (aa (vB (decide ((k_4:Int)<(s1_1.length:Int)))) (ah ?_))
    refine ak (aB rfl (drop_nil hD_7) (aS ?_))
    exact aV (s_9) rfl rfl (aG rfl)
   | cons x_6 l_5 =>
    obtain ⟨c_,hc_10,hL_11⟩:=bind_some hL_11
    refine ai (aa (vB (decide ((k_4:Int)<(s1_1.length:Int)))) (ah ?_))
    refine ak (aC rfl (aW hD_7) (ax ?_))
    unfold bQ at hc_10
    refine ak (aL (ai (aa (vI (k_4:Int)) (aa (vI (k_4:Int)) (ah (ak (bz (aa (vL Screen.enc s1_1) (aa (vI (k_4:Int)) (dM BZ rfl rfl (bu hD_7) rfl wz (bI rO Fj rfl (.d (.agg (Screen.enc x_6))) rfl wz (aa (vL Screen.enc s2_2) (aa (vI (k_4:Int)) ?_)))))))))))))
    obtain ⟨y_14,hy_15,hc_10⟩:=bind_some hc_10
    refine dM BZ rfl rfl hy_15 rfl wz (bI rO Fj rfl (.d (.agg (Screen.enc y_14))) rfl wz (aI (vB (!((x_6.Key.toList==y_14.Key.toList)&&(((x_6.On.X==y_14.On.X)&&((x_6.On.Y==y_14.On.Y)&&((x_6.On.W==y_14.On.W)&&((x_6.On.H==y_14.On.H)&&true))))&&true)))) wz (by kernel_rfl) (ah ?_)))
    rcases aj hc_10 with⟨hc_16,hc_10⟩|⟨hc_16,hc_10⟩
    ·refine aC rfl hc_16 (ai (aa (vB false) (ah ?_)))
     obtain rfl:=ae hc_10
     obtain rfl:=ae hL_11
     obtain rfl:=ae hF
     exact aA (aK [(vB false)] ⟨rfl,trivial⟩)
    ·refine aB rfl hc_16 (ax (au (dL (aZ hD_7 hn_8) wz rfl (aa (vI ((k_4+1:Nat):Int)) (ah ?_)))))
     obtain rfl:=ae hc_10
     exact aU (k_4+1,l_5,()) ⟨hL_11,aN hD_7⟩ (ls_ _) rfl (aG rfl)
  ·rintro s_9 ho_ sl_ H_ hp_ hq_
   subst ho_
   refine aM _ hp_ hq_ (ai (aa (vB true) (ah ?_)))
   obtain rfl:=ae hF
   exact aA (aK [(vB true)] ⟨rfl,trivial⟩)
theorem oC {s1_1:(List Zone)} {s2_2:(List Zone)} {r:Bool} (hF:dR s1_1 s2_2=some r) :
  FnM Tryz.prog 34 [(vL Zone.enc s1_1),(vL Zone.enc s2_2)] [] (vB r) []:=by
 refine FnM.of_wH ⟨Tryz.prog,26,[],[]⟩ rfl Tryz.func34 rfl rfl (lb_ rfl) (by kernel_rfl) ?_
 unfold dR at hF
 refine ai (aa (vB false) (ah (ak (ai (aa (vL Zone.enc s1_1) (bJ J8 rfl wz (aa (vL Zone.enc s2_2) (bJ J8 rfl wz (aa (vB ((s1_1.length:Int) != (s2_2.length:Int))) (ah ?_))))))))))
 rcases aj hF with⟨hc_3,hF⟩|⟨hc_3,hF⟩
 ·refine aC rfl hc_3 (ai (aa (vB false) (ah ?_)))
  obtain rfl:=ae hF
  exact aA (aK [(vB false)] ⟨rfl,trivial⟩)
 ·refine aB rfl hc_3 (ax (ak (ai (aa (vL Zone.enc s1_1) (bJ J8 rfl wz (aa (vI 0) (ah ?_)))))))
  obtain ⟨o_12,hj_13,hF⟩:=bind_some hF
  obtain ⟨hn_8,hj_13⟩:=aR hj_13
  refine bL (λ(s_9:Unit)=>[]) (λ(s_9:Unit)=>[]) (λ(k_4:Nat)=>(λ(s_9:Unit)=>[(0,(vL Zone.enc s1_1)),(1,(vL Zone.enc s2_2)),(12,(vI (s1_1.length:Int))),(13,(vI (k_4:Int)))])) (λk x s=>cK s2_2 k x s) o_12 s1_1 () hj_13 rfl (aG rfl) ?_ ?_
  ·rintro ⟨k_4,l_5,s_9⟩ ⟨hL_11,hD_7⟩
   dsimp only at hL_11 hD_7
   cases l_5 with
   | nil =>
    obtain rfl:=ae hL_11
    refine ai (aa (vB (decide ((k_4:Int)<(s1_1.length:Int)))) (ah ?_))
    refine ak (aB rfl (drop_nil hD_7) (aS ?_))
    exact aV (s_9) rfl rfl (aG rfl)
   | cons x_6 l_5 =>
    obtain ⟨c_,hc_10,hL_11⟩:=bind_some hL_11
    refine ai (aa (vB (decide ((k_4:Int)<(s1_1.length:Int)))) (ah ?_))
    refine ak (aC rfl (aW hD_7) (ax ?_))
    unfold cK at hc_10
    refine ak (aL (ai (aa (vI (k_4:Int)) (aa (vI (k_4:Int)) (ah (ak (bz (aa (vL Zone.enc s1_1) (aa (vI (k_4:Int)) (dM A8 rfl rfl (bu hD_7) rfl wz (bI BS Lu rfl (.d (.agg (Zone.enc x_6))) rfl wz (aa (vL Zone.enc s2_2) (aa (vI (k_4:Int)) ?_)))))))))))))
    obtain ⟨y_14,hy_15,hc_10⟩:=bind_some hc_10
    refine dM A8 rfl rfl hy_15 rfl wz (bI BS Lu rfl (.d (.agg (Zone.enc y_14))) rfl wz (aI (vB (!((x_6.Key.toList==y_14.Key.toList)&&(((x_6.On.X==y_14.On.X)&&((x_6.On.Y==y_14.On.Y)&&((x_6.On.W==y_14.On.W)&&((x_6.On.H==y_14.On.H)&&true))))&&((x_6.Order==y_14.Order)&&true))))) wz (by kernel_rfl) (ah ?_)))
    rcases aj hc_10 with⟨hc_16,hc_10⟩|⟨hc_16,hc_10⟩
    ·refine aC rfl hc_16 (ai (aa (vB false) (ah ?_)))
     obtain rfl:=ae hc_10
     obtain rfl:=ae hL_11
     obtain rfl:=ae hF
     exact aA (aK [(vB false)] ⟨rfl,trivial⟩)
    ·refine aB rfl hc_16 (ax (au (dL (aZ hD_7 hn_8) wz rfl (aa (vI ((k_4+1:Nat):Int)) (ah ?_)))))
     obtain rfl:=ae hc_10
     exact aU (k_4+1,l_5,()) ⟨hL_11,aN hD_7⟩ (ls_ _) rfl (aG rfl)
  ·rintro s_9 ho_ sl_ H_ hp_ hq_
   subst ho_
   refine aM _ hp_ hq_ (ai (aa (vB true) (ah ?_)))
   obtain rfl:=ae hF
   exact aA (aK [(vB true)] ⟨rfl,trivial⟩)
theorem AB {a_1:Layout} {b_2:Layout} {r:Bool} (hF:l7 a_1 b_2=some r) :
  FnM Tryz.prog 17 [(.d (.agg (Layout.enc a_1))),(.d (.agg (Layout.enc b_2)))] [] (vB r) []:=by
 refine FnM.of_wH ⟨Tryz.prog,31,[],[]⟩ rfl Tryz.func17 rfl rfl (lb_ rfl) (by kernel_rfl) ?_
 unfold l7 at hF
 refine ai (dY 0 (.inl rfl) (Layout.v a_1) rfl rfl wz (λn_3=>dY 0 (.inl rfl) (Layout.v b_2) rfl rfl wz (λn_4=>aa (vB false) (ah (ak ?_)))))
 obtain ⟨v_5,h_6,hF⟩:=bind_some hF
 refine aP [(4,(vB v_5))] [(n_3,some (.cells 4 (Layout.v a_1))),(n_4,some (.cells 4 (Layout.v b_2)))] ?_ ?_
 ·refine au (ay Kl rfl 0 rfl wz (av 0 0 il ft sz9 ag9 rfl rfl (vS a_1.Key) rfl wz (ay Kl rfl 0 rfl wz (av 0 1 il ft sz9 ag9 rfl rfl (vS b_2.Key) rfl wz (aa (vB (sEq a_1.Key b_2.Key)) ?_)))))
  rcases aj h_6 with⟨hc_7,h_6⟩|⟨hc_7,h_6⟩
  ·refine aF rfl hc_7 wz (ay zq rfl 1 rfl wa (av 0 0 il ft sz3 ag3 rfl rfl (vI a_1.W) rfl wa (ay zq rfl 1 rfl wa (av 0 1 il ft sz3 ag3 rfl rfl (vI b_2.W) rfl wa (aI (vB (a_1.W==b_2.W)) wa rfl (aa (vB (a_1.W==b_2.W)) ?_))))))
   rcases aj h_6 with⟨hc_8,h_6⟩|⟨hc_8,h_6⟩
   ·refine aF rfl hc_8 wz (ay zQ rfl 2 rfl wa (av 0 0 il ft sz3 ag3 rfl rfl (vI a_1.H) rfl wa (ay zQ rfl 2 rfl wa (av 0 1 il ft sz3 ag3 rfl rfl (vI b_2.H) rfl wa (aI (vB (a_1.H==b_2.H)) wa rfl (aa (vB (a_1.H==b_2.H)) ?_))))))
    rcases aj h_6 with⟨hc_9,h_6⟩|⟨hc_9,h_6⟩
    ·refine aF rfl hc_9 wz (ay qU rfl 3 rfl wa (av 0 0 il ft CO Dw rfl rfl (vL Zone.enc a_1.Zones) rfl wa (ay qU rfl 3 rfl wa (av 0 1 il ft CO Dw rfl rfl (vL Zone.enc b_2.Zones) rfl wa ?_))))
     obtain ⟨r_10,hr_11,h_6⟩:=bind_some h_6
     refine aD (oC hr_11) rfl hb34 rfl rfl rfl rfl wa (aa (vB r_10) (aa (vB r_10) (ah ?_)))
     obtain rfl:=ae h_6
     exact cu
    ·refine aF rfl hc_9 wz (af (af (af (af (af (aa (vB false) (aa (vB false) (ah ?_))))))))
     obtain rfl:=ae h_6
     exact cu
   ·refine aF rfl hc_8 wz (af (af (af (af (af (aa (vB false) (aa (vB false) (af (af (af (af (af (aa (vB false) (aa (vB false) (ah ?_)))))))))))))))
    obtain rfl:=ae h_6
    exact cu
  ·refine aF rfl hc_7 wz (af (af (af (af (af (aa (vB false) (aa (vB false) (af (af (af (af (af (aa (vB false) (aa (vB false) (af (af (af (af (af (aa (vB false) (aa (vB false) (ah ?_))))))))))))))))))))))
   obtain rfl:=ae h_6
   exact cu
 ·rintro ⟨⟩ _ sl_ H_ hp_ hq_
  refine aM _ hp_ hq_ ?_
  obtain rfl:=ae hF
  exact aA (aK [(vB v_5)] ⟨rfl,trivial⟩)
theorem DW {l_1:(List Rect)} {r:Int} (hF:tX l_1=some r) :
  FnM Tryz.prog 60 [(vL Rect.enc l_1)] [] (vI r) []:=by
 refine FnM.of_wH ⟨Tryz.prog,21,[],[]⟩ rfl Tryz.func60 rfl rfl (lb_ rfl) (by kernel_rfl) ?_
 unfold tX at hF
 refine ai (aa (vI 0) (ah (ai (aa (vI 0) (ah (ak (ai (aa (vL Rect.enc l_1) (bJ uC rfl wz (aa (vI 0) (ah ?_)))))))))))
 obtain ⟨o_10,hj_11,hF⟩:=bind_some hF
 obtain ⟨hn_6,hj_11⟩:=aR hj_11
 refine bL (λ(s_7:Int)=>[(3,(vI s_7))]) (λ(s_7:Int)=>[]) (λ(k_2:Nat)=>(λ(s_7:Int)=>[(3,(vI s_7)),(6,(vL Rect.enc l_1)),(7,(vI (l_1.length:Int))),(8,(vI (k_2:Int)))])) (λk x s=>sw k x s) o_10 l_1 0 hj_11 rfl (aG rfl) ?_ ?_
 ·rintro ⟨k_2,l_3,s_7⟩ ⟨hL_9,hD_5⟩
  dsimp only at hL_9 hD_5
  cases l_3 with
  | nil =>
   obtain rfl:=ae hL_9
   refine ai (aa (vB (decide ((k_2:Int)<(l_1.length:Int)))) (ah ?_))
   refine ak (aB rfl (drop_nil hD_5) (aS ?_))
   exact aV (s_7) rfl rfl (aG rfl)
  | cons x_4 l_3 =>
   obtain ⟨c_,hc_8,hL_9⟩:=bind_some hL_9
   refine ai (aa (vB (decide ((k_2:Int)<(l_1.length:Int)))) (ah ?_))
   refine ak (aC rfl (aW hD_5) (ax ?_))
   unfold sw at hc_8
   refine ak (aL (ai (dM tO rfl rfl (bu hD_5) rfl wz (bI eU jN rfl (.d (.agg (Rect.enc x_4))) rfl wz (bf 0 (.inl rfl) z27 rfl wz (λn_12=>cz 0 il ft 0 eU rfl rfl (Rect.v x_4) rfl wz (ah (au (aa (vI s_7) (ay mg rfl 2 rfl wz (av 0 0 il ft sz3 ag3 rfl rfl (vI x_4.W) rfl wz (ay lQ rfl 3 rfl wz (av 0 0 il ft sz3 ag3 rfl rfl (vI x_4.H) rfl wz (aa (vI (w64 (x_4.W*x_4.H))) (aa (vI (w64 (s_7+(w64 (x_4.W*x_4.H))))) (aa (vI (w64 (s_7+(w64 (x_4.W*x_4.H))))) (ah (au (dL (aZ hD_5 hn_6) wz rfl (aa (vI ((k_2+1:Nat):Int)) (ah ?_)))))))))))))))))))))
   obtain rfl:=ae hc_8
   exact aU (k_2+1,l_3,(w64 (s_7+(w64 (x_4.W*x_4.H))))) ⟨hL_9,aN hD_5⟩ (ls_ _) rfl (aG rfl)
 ·rintro s_7 ho_ sl_ H_ hp_ hq_
  subst ho_
  refine aM _ hp_ hq_ (ai (aa (vI s_7) (aa (vI s_7) (ah ?_))))
  obtain rfl:=ae hF
  exact aA (aK [(vI s_7)] ⟨rfl,trivial⟩)
theorem Dt {l_1:(List Rect)} {r:Int×Int} (hF:qA l_1=some r) :
  FnM Tryz.prog 35 [(vL Rect.enc l_1)] [] (.tup [(vI r.1),(vI r.2)]) []:=by
 refine FnM.of_wH ⟨Tryz.prog,13,[],[]⟩ rfl Tryz.func35 rfl rfl (lb_ rfl) (by kernel_rfl) ?_
 unfold qA at hF
 refine ai (aa (vI 0) (aa (vI 0) (ah (ak (ai (aa (vL Rect.enc l_1) ?_))))))
 obtain ⟨r_2,hr_3,hF⟩:=bind_some hF
 refine aD (mG hr_3) rfl hb24 rfl rfl rfl rfl wz (aa (vI r_2) (ah (ai (aa (vI r_2) (aa (vB (r_2 != 0)) (ah ?_))))))
 rcases aj hF with⟨hc_4,hF⟩|⟨hc_4,hF⟩
 ·refine aC rfl hc_4 (ai (aa (vI r_2) (aa (vI 0) (aa (vI r_2) (ah ?_)))))
  obtain rfl:=ae hF
  exact aA (aK [(vI 0),(vI r_2)] ⟨rfl,⟨rfl,trivial⟩⟩)
 ·refine aB rfl hc_4 (ax (ai (aa (vL Rect.enc l_1) ?_)))
  obtain ⟨r_5,hr_6,hF⟩:=bind_some hF
  refine aD (uK hr_6) rfl O5 rfl rfl rfl rfl wz ?_
  obtain ⟨r_7,hr_8,hF⟩:=bind_some hF
  refine aD (DW hr_8) rfl hb60 rfl rfl rfl rfl wz (aa (vI r_7) (aa (vI 0) (ah ?_)))
  obtain rfl:=ae hF
  exact aA (aK [(vI r_7),(vI 0)] ⟨rfl,⟨rfl,trivial⟩⟩)
theorem Hd {n_1:Int} {r:Bool} (hF:Bh n_1=some r) :
  FnM Tryz.prog 129 [(vI n_1)] [] (vB r) []:=by
 refine FnM.of_wH ⟨Tryz.prog,9,[],[]⟩ rfl Tryz.func129 rfl rfl (lb_ rfl) (by kernel_rfl) ?_
 unfold Bh at hF
 refine ai (aa (vB false) (ah (ak ?_)))
 obtain ⟨v_2,h_3,hF⟩:=bind_some hF
 refine aP [(2,(vB v_2))] [] ?_ ?_
 ·refine au (aa (vI n_1) (aa (vB (decide (n_1>=0))) ?_))
  rcases aj h_3 with⟨hc_4,h_3⟩|⟨hc_4,h_3⟩
  ·refine aF rfl hc_4 wz (aI (vI n_1) wa rfl (aI (vB (decide (n_1<=4000))) wa rfl (aa (vB (decide (n_1<=4000))) (aa (vB (decide (n_1<=4000))) (ah ?_)))))
   obtain rfl:=ae h_3
   exact cu
  ·refine aF rfl hc_4 wz (af (af (aa (vB false) (aa (vB false) (ah ?_)))))
   obtain rfl:=ae h_3
   exact cu
 ·rintro ⟨⟩ _ sl_ H_ hp_ hq_
  refine aM _ hp_ hq_ ?_
  obtain rfl:=ae hF
  exact aA (aK [(vB v_2)] ⟨rfl,trivial⟩)
theorem vv {l_1:(List Int)} {r:Int} (hF:jU l_1=some r) :
  FnM Tryz.prog 106 [(vL eI l_1)] [] (vI r) []:=by
 refine FnM.of_wH ⟨Tryz.prog,30,[],[]⟩ rfl Tryz.func106 rfl rfl (lb_ rfl) (by kernel_rfl) ?_
 unfold jU at hF
 refine ai (aa (vI 0) (ah (ak (ai (aa (vL eI l_1) (bJ vF rfl wz (aa (vB (decide ((l_1.length:Int)>100))) (ah ?_))))))))
 rcases aj hF with⟨hc_2,hF⟩|⟨hc_2,hF⟩
 ·refine aC rfl hc_2 (ai (aa (vI 2) (ah ?_)))
  obtain rfl:=ae hF
  exact aA (aK [(vI 2)] ⟨rfl,trivial⟩)
 ·refine aB rfl hc_2 (ax (ak (ai (aa (vL eI l_1) (bJ vF rfl wz (aa (vI 0) (ah ?_)))))))
  obtain ⟨o_11,hj_12,hF⟩:=bind_some hF
  obtain ⟨hn_7,hj_12⟩:=aR hj_12
  refine bL (λ(s_8:Unit)=>[]) (λ(s_8:Unit)=>[]) (λ(k_3:Nat)=>(λ(s_8:Unit)=>[(0,(vL eI l_1)),(8,(vL eI l_1)),(9,(vI (l_1.length:Int))),(10,(vI (k_3:Int)))])) (λk x s=>kw l_1 k x s) o_11 l_1 () hj_12 rfl (aG rfl) ?_ ?_
  ·rintro ⟨k_3,l_4,s_8⟩ ⟨hL_10,hD_6⟩
   dsimp only at hL_10 hD_6
   cases l_4 with
   | nil =>
    obtain rfl:=ae hL_10
    refine ai (aa (vB (decide ((k_3:Int)<(l_1.length:Int)))) (ah ?_))
    refine ak (aB rfl (drop_nil hD_6) (aS ?_))
    exact aV (s_8) rfl rfl (aG rfl)
   | cons x_5 l_4 =>
    obtain ⟨c_,hc_9,hL_10⟩:=bind_some hL_10
    refine ai (aa (vB (decide ((k_3:Int)<(l_1.length:Int)))) (ah ?_))
    refine ak (aC rfl (aW hD_6) (ax ?_))
    unfold kw at hc_9
    refine ak (aL (ai (aa (vI (k_3:Int)) (dM o9 rfl rfl (bu hD_6) rfl wz (bI sz3 ag3 rfl (vI x_5) rfl wz (aa (vI (k_3:Int)) (aa (vI x_5) (ah (ak (ai (aa (vI x_5) ?_)))))))))))
    obtain ⟨r_13,hr_14,hc_9⟩:=bind_some hc_9
    refine aD (Hd hr_14) rfl hb129 rfl rfl rfl rfl wz (aa (vB (!r_13)) (ah ?_))
    rcases aj hc_9 with⟨hc_15,hc_9⟩|⟨hc_15,hc_9⟩
    ·refine aC rfl hc_15 (ai (aa (vI 1) (ah ?_)))
     obtain rfl:=ae hc_9
     obtain rfl:=ae hL_10
     obtain rfl:=ae hF
     exact aA (aK [(vI 1)] ⟨rfl,trivial⟩)
    ·refine aB rfl hc_15 (ax (ak ?_))
     obtain ⟨v_16,h_17,hc_9⟩:=bind_some hc_9
     refine aP [(0,(vL eI l_1)),(8,(vL eI l_1)),(9,(vI (l_1.length:Int))),(10,(vI (k_3:Int))),(28,(vB v_16))] [] ?_ ?_
     ·refine au (aa (vI (k_3:Int)) (aa (vB (decide ((k_3:Int)>0))) ?_))
      rcases aj h_17 with⟨hc_18,h_17⟩|⟨hc_18,h_17⟩
      ·refine aF rfl hc_18 wz (aI (vI x_5) wa rfl (aI (vL eI l_1) wa rfl (aI (vI (k_3:Int)) wa rfl (aI (vI (w64 ((k_3:Int)-1))) wa rfl ?_))))
       obtain ⟨y_19,hy_20,h_17⟩:=bind_some h_17
       refine dM o9 rfl rfl hy_20 rfl wa (bI sz3 ag3 rfl (vI y_19) rfl wa (aI (vB (decide (x_5<=y_19))) wa rfl (aa (vB (decide (x_5<=y_19))) (ah ?_))))
       obtain rfl:=ae h_17
       exact cu
      ·refine aF rfl hc_18 wz (af (af (af (af (af (af (af (aa (vB false) (ah ?_)))))))))
       obtain rfl:=ae h_17
       exact cu
     ·rintro ⟨⟩ _ sl_ H_ hp_ hq_
      refine aM _ hp_ hq_ ?_
      rcases aj hc_9 with⟨hc_21,hc_9⟩|⟨hc_21,hc_9⟩
      ·refine aC rfl hc_21 (ai (aa (vI 7) (ah ?_)))
       obtain rfl:=ae hc_9
       obtain rfl:=ae hL_10
       obtain rfl:=ae hF
       exact aA (aK [(vI 7)] ⟨rfl,trivial⟩)
      ·refine aB rfl hc_21 (ax (au (dL (aZ hD_6 hn_7) wz rfl (aa (vI ((k_3+1:Nat):Int)) (ah ?_)))))
       obtain rfl:=ae hc_9
       exact aU (k_3+1,l_4,()) ⟨hL_10,aN hD_6⟩ (ls_ _) rfl (aG rfl)
  ·rintro s_8 ho_ sl_ H_ hp_ hq_
   subst ho_
   refine aM _ hp_ hq_ (ai (aa (vI 0) (ah ?_)))
   obtain rfl:=ae hF
   exact aA (aK [(vI 0)] ⟨rfl,trivial⟩)
theorem rX {l_1:(List ByteArray)} {r:Int} (hF:jE l_1=some r) :
  FnM Tryz.prog 109 [(vL eS l_1)] [] (vI r) []:=by
 refine FnM.of_wH ⟨Tryz.prog,27,[],[]⟩ rfl Tryz.func109 rfl rfl (lb_ rfl) (by kernel_rfl) ?_
 unfold jE at hF
 refine ai (aa (vI 0) (ah (ak (ai (aa (vL eS l_1) (bJ Jh rfl wz (aa (vI 0) (ah ?_))))))))
 obtain ⟨o_10,hj_11,hF⟩:=bind_some hF
 obtain ⟨hn_6,hj_11⟩:=aR hj_11
 refine bL (λ(s_7:Unit)=>[]) (λ(s_7:Unit)=>[]) (λ(k_2:Nat)=>(λ(s_7:Unit)=>[(0,(vL eS l_1)),(5,(vL eS l_1)),(6,(vI (l_1.length:Int))),(7,(vI (k_2:Int)))])) (λk x s=>jk l_1 k x s) o_10 l_1 () hj_11 rfl (aG rfl) ?_ ?_
 ·rintro ⟨k_2,l_3,s_7⟩ ⟨hL_9,hD_5⟩
  dsimp only at hL_9 hD_5
  cases l_3 with
  | nil =>
   obtain rfl:=ae hL_9
   refine ai (aa (vB (decide ((k_2:Int)<(l_1.length:Int)))) (ah ?_))
   refine ak (aB rfl (drop_nil hD_5) (aS ?_))
   exact aV (s_7) rfl rfl (aG rfl)
  | cons x_4 l_3 =>
   obtain ⟨c_,hc_8,hL_9⟩:=bind_some hL_9
   refine ai (aa (vB (decide ((k_2:Int)<(l_1.length:Int)))) (ah ?_))
   refine ak (aC rfl (aW hD_5) (ax ?_))
   unfold jk at hc_8
   refine ak (aL (ai (aa (vI (k_2:Int)) (dM Jj rfl rfl (bu hD_5) rfl wz (bI sz9 ag9 rfl (vS x_4) rfl wz (aa (vI (k_2:Int)) (aa (vS x_4) (ah (ak (ai (aa (vS x_4) ?_)))))))))))
   obtain ⟨r_12,hr_13,hc_8⟩:=bind_some hc_8
   refine aD (eu hr_13) rfl zP rfl rfl rfl rfl wz (aa (vB (!r_12)) (ah ?_))
   rcases aj hc_8 with⟨hc_14,hc_8⟩|⟨hc_14,hc_8⟩
   ·refine aC rfl hc_14 (ai (aa (vI 5) (ah ?_)))
    obtain rfl:=ae hc_8
    obtain rfl:=ae hL_9
    obtain rfl:=ae hF
    exact aA (aK [(vI 5)] ⟨rfl,trivial⟩)
   ·refine aB rfl hc_14 (ax (ak ?_))
    obtain ⟨v_15,h_16,hc_8⟩:=bind_some hc_8
    refine aP [(0,(vL eS l_1)),(5,(vL eS l_1)),(6,(vI (l_1.length:Int))),(7,(vI (k_2:Int))),(25,(vB v_15))] [] ?_ ?_
    ·refine au (aa (vI (k_2:Int)) (aa (vB (decide ((k_2:Int)>0))) ?_))
     rcases aj h_16 with⟨hc_17,h_16⟩|⟨hc_17,h_16⟩
     ·refine aF rfl hc_17 wz (aI (vS x_4) wa rfl (aI (vL eS l_1) wa rfl (aI (vI (k_2:Int)) wa rfl (aI (vI (w64 ((k_2:Int)-1))) wa rfl ?_))))
      obtain ⟨y_18,hy_19,h_16⟩:=bind_some h_16
      refine dM Jj rfl rfl hy_19 rfl wa (bI sz9 ag9 rfl (vS y_18) rfl wa (aI (vB (sLe x_4 y_18)) wa rfl (aa (vB (sLe x_4 y_18)) (ah ?_))))
      obtain rfl:=ae h_16
      exact cu
     ·refine aF rfl hc_17 wz (af (af (af (af (af (af (af (aa (vB false) (ah ?_)))))))))
      obtain rfl:=ae h_16
      exact cu
    ·rintro ⟨⟩ _ sl_ H_ hp_ hq_
     refine aM _ hp_ hq_ ?_
     rcases aj hc_8 with⟨hc_20,hc_8⟩|⟨hc_20,hc_8⟩
     ·refine aC rfl hc_20 (ai (aa (vI 7) (ah ?_)))
      obtain rfl:=ae hc_8
      obtain rfl:=ae hL_9
      obtain rfl:=ae hF
      exact aA (aK [(vI 7)] ⟨rfl,trivial⟩)
     ·refine aB rfl hc_20 (ax (au (dL (aZ hD_5 hn_6) wz rfl (aa (vI ((k_2+1:Nat):Int)) (ah ?_)))))
      obtain rfl:=ae hc_8
      exact aU (k_2+1,l_3,()) ⟨hL_9,aN hD_5⟩ (ls_ _) rfl (aG rfl)
 ·rintro s_7 ho_ sl_ H_ hp_ hq_
  subst ho_
  refine aM _ hp_ hq_ (ai (aa (vI 0) (ah ?_)))
  obtain rfl:=ae hF
  exact aA (aK [(vI 0)] ⟨rfl,trivial⟩)
theorem wS {l_1:(List ByteArray)} {r:Int} (hF:jl l_1=some r) :
  FnM Tryz.prog 107 [(vL eS l_1)] [] (vI r) []:=by
 refine FnM.of_wH ⟨Tryz.prog,8,[],[]⟩ rfl Tryz.func107 rfl rfl (lb_ rfl) (by kernel_rfl) ?_
 unfold jl at hF
 refine ai (aa (vI 0) (ah (ak (ai (aa (vL eS l_1) (bJ Jh rfl wz (aa (vB (decide ((l_1.length:Int)>20))) (ah ?_))))))))
 rcases aj hF with⟨hc_2,hF⟩|⟨hc_2,hF⟩
 ·refine aC rfl hc_2 (ai (aa (vI 2) (ah ?_)))
  obtain rfl:=ae hF
  exact aA (aK [(vI 2)] ⟨rfl,trivial⟩)
 ·refine aB rfl hc_2 (ax (ai (aa (vL eS l_1) ?_)))
  obtain ⟨r_3,hr_4,hF⟩:=bind_some hF
  refine aD (rX hr_4) rfl hb109 rfl rfl rfl rfl wz (aa (vI r_3) (ah ?_))
  obtain rfl:=ae hF
  exact aA (aK [(vI r_3)] ⟨rfl,trivial⟩)
theorem wB {e_1:Entry} {r:Int} (hF:iR e_1=some r) :
  FnM Tryz.prog 81 [(.d (.agg (Entry.enc e_1)))] [] (vI r) []:=by
 refine FnM.of_wH ⟨Tryz.prog,61,[],[]⟩ rfl Tryz.func81 rfl rfl (lb_ rfl) (by kernel_rfl) ?_
 unfold iR at hF
 refine ai (dY 0 (.inl rfl) (Entry.v e_1) rfl rfl wz (λn_2=>aa (vI 0) (ah (ak (ak ?_)))))
 obtain ⟨v_3,h_4,hF⟩:=bind_some hF
 refine aP [(1,(.ref n_2 0 0)),(13,(vB v_3))] [(n_2,some (.cells 13 (Entry.v e_1)))] ?_ ?_
 ·refine au (ay KE rfl 0 rfl wz (av 0 0 il ft sz9 ag9 rfl rfl (vS e_1.Key) rfl wz ?_))
  obtain ⟨r_5,hr_6,h_4⟩:=bind_some h_4
  refine aD (eu hr_6) rfl zP rfl rfl rfl rfl wz (aa (vB (!r_5)) ?_)
  rcases aj h_4 with⟨hc_7,h_4⟩|⟨hc_7,h_4⟩
  ·refine aF rfl hc_7 wz (af (af (af (af (aa (vB true) (ah ?_))))))
   obtain rfl:=ae h_4
   exact cu
  ·refine aF rfl hc_7 wz (ay pl87_1 rfl 1 rfl wa (av 0 0 il ft sz9 ag9 rfl rfl (vS e_1.Item) rfl wa ?_))
   obtain ⟨r_8,hr_9,h_4⟩:=bind_some h_4
   refine aD (eu hr_9) rfl zP rfl rfl rfl rfl wa (aI (vB (!r_8)) wa rfl (aa (vB (!r_8)) (ah ?_)))
   obtain rfl:=ae h_4
   exact cu
 ·rintro ⟨⟩ _ sl_ H_ hp_ hq_
  refine aM _ hp_ hq_ ?_
  rcases aj hF with⟨hc_10,hF⟩|⟨hc_10,hF⟩
  ·refine aC rfl hc_10 (ai (aa (vI 5) (ah ?_)))
   obtain rfl:=ae hF
   exact aA (aK [(vI 5)] ⟨rfl,trivial⟩)
  ·refine aB rfl hc_10 (ax (ak (ak ?_)))
   obtain ⟨v_11,h_12,hF⟩:=bind_some hF
   refine aP [(1,(.ref n_2 0 0)),(38,(vB v_11))] [(n_2,some (.cells 13 (Entry.v e_1)))] ?_ ?_
   ·refine au (ay pl87_2 rfl 2 rfl wz (av 0 0 il ft sz3 ag3 rfl rfl (vI e_1.Version) rfl wz ?_))
    obtain ⟨r_13,hr_14,h_12⟩:=bind_some h_12
    refine aD (bv hr_14) rfl qV rfl rfl rfl rfl wz ?_
    rcases aj h_12 with⟨hc_15,h_12⟩|⟨hc_15,h_12⟩
    ·refine aF rfl hc_15 wz (af (af (af (af (af (aa (vB true) (aa (vB true) (af (af (af (aa (vB true) (aa (vB true) (af (af (af (aa (vB true) (aa (vB true) (af (af (af (aa (vB true) (ah ?_))))))))))))))))))))))
     obtain rfl:=ae h_12
     exact cu
    ·refine aF rfl hc_15 wz (ay IX rfl 3 rfl wa (av 0 0 il ft sz3 ag3 rfl rfl (vI e_1.First) rfl wa (ay Hl rfl 4 rfl wa (av 0 0 il ft sz3 ag3 rfl rfl (vI e_1.Last) rfl wa ?_))))
     obtain ⟨r_16,hr_17,h_12⟩:=bind_some h_12
     refine aD (bv hr_17) rfl qV rfl rfl rfl rfl wa (aa (vB r_16) ?_)
     rcases aj h_12 with⟨hc_18,h_12⟩|⟨hc_18,h_12⟩
     ·refine aF rfl hc_18 wz (af (af (af (aa (vB true) (aa (vB true) (af (af (af (aa (vB true) (aa (vB true) (af (af (af (aa (vB true) (ah ?_)))))))))))))))
      obtain rfl:=ae h_12
      exact cu
     ·refine aF rfl hc_18 wz (ay Hl rfl 4 rfl wa (av 0 0 il ft sz3 ag3 rfl rfl (vI e_1.Last) rfl wa (aI (vB (decide (e_1.Last>4000))) wa rfl (aa (vB (decide (e_1.Last>4000))) ?_))))
      rcases aj h_12 with⟨hc_19,h_12⟩|⟨hc_19,h_12⟩
      ·refine aF rfl hc_19 wz (af (af (af (aa (vB true) (aa (vB true) (af (af (af (aa (vB true) (ah ?_))))))))))
       obtain rfl:=ae h_12
       exact cu
      ·refine aF rfl hc_19 wz (ay PN rfl 5 rfl wa (av 0 0 il ft sz3 ag3 rfl rfl (vI e_1.Every) rfl wa ?_))
       obtain ⟨r_20,hr_21,h_12⟩:=bind_some h_12
       refine aD (bv hr_21) rfl qV rfl rfl rfl rfl wa (aa (vB r_20) ?_)
       rcases aj h_12 with⟨hc_22,h_12⟩|⟨hc_22,h_12⟩
       ·refine aF rfl hc_22 wz (af (af (af (aa (vB true) (ah ?_)))))
        obtain rfl:=ae h_12
        exact cu
       ·refine aF rfl hc_22 wz (ay PO rfl 6 rfl wa (av 0 0 il ft sz3 ag3 rfl rfl (vI e_1.Days) rfl wa ?_))
        obtain ⟨r_23,hr_24,h_12⟩:=bind_some h_12
        refine aD (bv hr_24) rfl qV rfl rfl rfl rfl wa (aa (vB r_23) (ah ?_))
        obtain rfl:=ae h_12
        exact cu
   ·rintro ⟨⟩ _ sl_ H_ hp_ hq_
    refine aM _ hp_ hq_ ?_
    rcases aj hF with⟨hc_25,hF⟩|⟨hc_25,hF⟩
    ·refine aC rfl hc_25 (ai (aa (vI 1) (ah ?_)))
     obtain rfl:=ae hF
     exact aA (aK [(vI 1)] ⟨rfl,trivial⟩)
    ·refine aB rfl hc_25 (ax (ak (ai (ay O9 rfl 7 rfl wz (av 0 0 il ft NQ Ny rfl rfl (vL eI e_1.Except) rfl wz ?_)))))
     obtain ⟨r_26,hr_27,hF⟩:=bind_some hF
     refine aD (vv hr_27) rfl hb106 rfl rfl rfl rfl wz (aa (vI r_26) (ah (ai (aa (vI r_26) (aa (vB (r_26 != 0)) (ah ?_))))))
     rcases aj hF with⟨hc_28,hF⟩|⟨hc_28,hF⟩
     ·refine aC rfl hc_28 (ai (aa (vI r_26) (aa (vI r_26) (ah ?_))))
      obtain rfl:=ae hF
      exact aA (aK [(vI r_26)] ⟨rfl,trivial⟩)
     ·refine aB rfl hc_28 (ax (ak (ak ?_)))
      obtain ⟨v_29,h_30,hF⟩:=bind_some hF
      refine aP [(1,(.ref n_2 0 0)),(57,(vB v_29))] [(n_2,some (.cells 13 (Entry.v e_1)))] ?_ ?_
      ·refine au (ay Lv rfl 8 rfl wz (av 0 0 il ft sz3 ag3 rfl rfl (vI e_1.From) rfl wz ?_))
       obtain ⟨r_31,hr_32,h_30⟩:=bind_some h_30
       refine aD (bv hr_32) rfl qV rfl rfl rfl rfl wz ?_
       rcases aj h_30 with⟨hc_33,h_30⟩|⟨hc_33,h_30⟩
       ·refine aF rfl hc_33 wz (af (af (af (aa (vB true) (aa (vB true) (af (af (af (aa (vB true) (ah ?_))))))))))
        obtain rfl:=ae h_30
        exact cu
       ·refine aF rfl hc_33 wz (ay O7 rfl 9 rfl wa (av 0 0 il ft sz3 ag3 rfl rfl (vI e_1.To) rfl wa ?_))
        obtain ⟨r_34,hr_35,h_30⟩:=bind_some h_30
        refine aD (bv hr_35) rfl qV rfl rfl rfl rfl wa (aa (vB r_34) ?_)
        rcases aj h_30 with⟨hc_36,h_30⟩|⟨hc_36,h_30⟩
        ·refine aF rfl hc_36 wz (af (af (af (aa (vB true) (ah ?_)))))
         obtain rfl:=ae h_30
         exact cu
        ·refine aF rfl hc_36 wz (ay pl87_10 rfl 10 rfl wa (av 0 0 il ft sz3 ag3 rfl rfl (vI e_1.Prio) rfl wa ?_))
         obtain ⟨r_37,hr_38,h_30⟩:=bind_some h_30
         refine aD (bv hr_38) rfl qV rfl rfl rfl rfl wa (aa (vB r_37) (ah ?_))
         obtain rfl:=ae h_30
         exact cu
      ·rintro ⟨⟩ _ sl_ H_ hp_ hq_
       refine aM _ hp_ hq_ ?_
       rcases aj hF with⟨hc_39,hF⟩|⟨hc_39,hF⟩
       ·refine aC rfl hc_39 (ai (aa (vI 1) (ah ?_)))
        obtain rfl:=ae hF
        exact aA (aK [(vI 1)] ⟨rfl,trivial⟩)
       ·refine aB rfl hc_39 (ax (ai (ay pl87_11 rfl 11 rfl wz (av 0 0 il ft Nz NE rfl rfl (vL eS e_1.Tags) rfl wz ?_))))
        obtain ⟨r_40,hr_41,hF⟩:=bind_some hF
        refine aD (wS hr_41) rfl hb107 rfl rfl rfl rfl wz (aa (vI r_40) (ah ?_))
        obtain rfl:=ae hF
        exact aA (aK [(vI r_40)] ⟨rfl,trivial⟩)
theorem uu {l_1:(List Entry)} {r:Int} (hF:gU l_1=some r) :
  FnM Tryz.prog 61 [(vL Entry.enc l_1)] [] (vI r) []:=by
 refine FnM.of_wH ⟨Tryz.prog,35,[],[]⟩ rfl Tryz.func61 rfl rfl (lb_ rfl) (by kernel_rfl) ?_
 unfold gU at hF
 refine ai (aa (vI 0) (ah (ak (ai (aa (vL Entry.enc l_1) (bJ un123 rfl wz (aa (vB (decide ((l_1.length:Int)>200))) (ah ?_))))))))
 rcases aj hF with⟨hc_2,hF⟩|⟨hc_2,hF⟩
 ·refine aC rfl hc_2 (ai (aa (vI 2) (ah ?_)))
  obtain rfl:=ae hF
  exact aA (aK [(vI 2)] ⟨rfl,trivial⟩)
 ·refine aB rfl hc_2 (ax (ak (ai (aa (vL Entry.enc l_1) (bJ un123 rfl wz (aa (vI 0) (ah ?_)))))))
  obtain ⟨o_11,hj_12,hF⟩:=bind_some hF
  obtain ⟨hn_7,hj_12⟩:=aR hj_12
  refine bL (λ(s_8:Unit)=>[]) (λ(s_8:Unit)=>[]) (λ(k_3:Nat)=>(λ(s_8:Unit)=>[(0,(vL Entry.enc l_1)),(9,(vL Entry.enc l_1)),(10,(vI (l_1.length:Int))),(11,(vI (k_3:Int)))])) (λk x s=>fQ l_1 k x s) o_11 l_1 () hj_12 rfl (aG rfl) ?_ ?_
  ·rintro ⟨k_3,l_4,s_8⟩ ⟨hL_10,hD_6⟩
   dsimp only at hL_10 hD_6
   cases l_4 with
   | nil =>
    obtain rfl:=ae hL_10
    refine ai (aa (vB (decide ((k_3:Int)<(l_1.length:Int)))) (ah ?_))
    refine ak (aB rfl (drop_nil hD_6) (aS ?_))
    exact aV (s_8) rfl rfl (aG rfl)
   | cons x_5 l_4 =>
    obtain ⟨c_,hc_9,hL_10⟩:=bind_some hL_10
    refine ai (aa (vB (decide ((k_3:Int)<(l_1.length:Int)))) (ah ?_))
    refine ak (aC rfl (aW hD_6) (ax ?_))
    unfold fQ at hc_9
    refine ak (aL (ai (aa (vI (k_3:Int)) (dM Ot rfl rfl (bu hD_6) rfl wz (bI LG Np rfl (.d (.agg (Entry.enc x_5))) rfl wz (bf 0 (.inl rfl) z87 rfl wz (λn_13=>aa (vI (k_3:Int)) (cz 0 il ft 0 LG rfl rfl (Entry.v x_5) rfl wz (ah (ak (ai (av 0 0 il ft LG Np rfl rfl (.d (.agg (Entry.enc x_5))) rfl wz ?_))))))))))))
    obtain ⟨r_14,hr_15,hc_9⟩:=bind_some hc_9
    refine aD (wB hr_15) rfl hb81 rfl rfl rfl rfl wz (aa (vI r_14) (ah (ai (aa (vI r_14) (aa (vB (r_14 != 0)) (ah ?_))))))
    rcases aj hc_9 with⟨hc_16,hc_9⟩|⟨hc_16,hc_9⟩
    ·refine aC rfl hc_16 (ai (aa (vI r_14) (aa (vI r_14) (ah ?_))))
     obtain rfl:=ae hc_9
     obtain rfl:=ae hL_10
     obtain rfl:=ae hF
     exact aA (aK [(vI r_14)] ⟨rfl,trivial⟩)
    ·refine aB rfl hc_16 (ax (ak ?_))
     obtain ⟨v_17,h_18,hc_9⟩:=bind_some hc_9
     refine aP [(0,(vL Entry.enc l_1)),(9,(vL Entry.enc l_1)),(10,(vI (l_1.length:Int))),(11,(vI (k_3:Int))),(33,(vB v_17))] [(n_13,some (.cells 13 (Entry.v x_5)))] ?_ ?_
     ·refine bz (aa (vI (k_3:Int)) (aa (vB (decide ((k_3:Int)>0))) ?_))
      rcases aj h_18 with⟨hc_19,h_18⟩|⟨hc_19,h_18⟩
      ·refine aF rfl hc_19 wz (ay KE rfl 0 rfl wa (av 4 0 (.inr (by kernel_rfl)) (λ_ _ ag=>trivial) sz9 ag9 rfl rfl (vS x_5.Key) rfl wa (aI (vL Entry.enc l_1) wa rfl (aI (vI (k_3:Int)) wa rfl (aI (vI (w64 ((k_3:Int)-1))) wa rfl ?_)))))
       obtain ⟨y_20,hy_21,h_18⟩:=bind_some h_18
       refine dM Ot rfl rfl hy_21 rfl wa (ng KE rfl (Entry.enc y_20) rfl rfl wa (bI sz9 ag9 rfl (vS y_20.Key) rfl wa (aI (vB (sLe x_5.Key y_20.Key)) wa rfl (aa (vB (sLe x_5.Key y_20.Key)) (ah ?_)))))
       obtain rfl:=ae h_18
       exact cu
      ·refine aF rfl hc_19 wz (af (af (af (af (af (af (af (af (af (aa (vB false) (ah ?_)))))))))))
       obtain rfl:=ae h_18
       exact cu
     ·rintro ⟨⟩ _ sl_ H_ hp_ hq_
      refine aM _ hp_ hq_ ?_
      rcases aj hc_9 with⟨hc_22,hc_9⟩|⟨hc_22,hc_9⟩
      ·refine aC rfl hc_22 (ai (aa (vI 7) (ah ?_)))
       obtain rfl:=ae hc_9
       obtain rfl:=ae hL_10
       obtain rfl:=ae hF
       exact aA (aK [(vI 7)] ⟨rfl,trivial⟩)
      ·refine aB rfl hc_22 (ax (au (dL (aZ hD_6 hn_7) wz rfl (aa (vI ((k_3+1:Nat):Int)) (ah ?_)))))
       obtain rfl:=ae hc_9
       exact aU (k_3+1,l_4,()) ⟨hL_10,aN hD_6⟩ (ls_ _) rfl (aG rfl)
  ·rintro s_8 ho_ sl_ H_ hp_ hq_
   subst ho_
   refine aM _ hp_ hq_ (ai (aa (vI 0) (ah ?_)))
   obtain rfl:=ae hF
   exact aA (aK [(vI 0)] ⟨rfl,trivial⟩)
theorem uV {wv_1:Window} {r:Int} (hF:jJ wv_1=some r) :
  FnM Tryz.prog 62 [(.d (.agg (Window.enc wv_1)))] [] (vI r) []:=by
 refine FnM.of_wH ⟨Tryz.prog,19,[],[]⟩ rfl Tryz.func62 rfl rfl (lb_ rfl) (by kernel_rfl) ?_
 unfold jJ at hF
 refine ai (dY 0 (.inl rfl) [(vI wv_1.From),(vI wv_1.To)] rfl rfl wz (λn_2=>aa (vI 0) (ah (ak (ak ?_)))))
 obtain ⟨v_3,h_4,hF⟩:=bind_some hF
 refine aP [(1,(.ref n_2 0 0)),(12,(vB v_3))] [(n_2,some (.cells 2 [(vI wv_1.From),(vI wv_1.To)]))] ?_ ?_
 ·refine au (ay pG rfl 0 rfl wz (av 0 0 il ft sz3 ag3 rfl rfl (vI wv_1.From) rfl wz (ay pW rfl 1 rfl wz (av 0 0 il ft sz3 ag3 rfl rfl (vI wv_1.To) rfl wz ?_))))
  obtain ⟨r_5,hr_6,h_4⟩:=bind_some h_4
  refine aD (bv hr_6) rfl qV rfl rfl rfl rfl wz ?_
  rcases aj h_4 with⟨hc_7,h_4⟩|⟨hc_7,h_4⟩
  ·refine aF rfl hc_7 wz (af (af (af (aa (vB true) (ah ?_)))))
   obtain rfl:=ae h_4
   exact cu
  ·refine aF rfl hc_7 wz (ay pW rfl 1 rfl wa (av 0 0 il ft sz3 ag3 rfl rfl (vI wv_1.To) rfl wa (aI (vB (decide (wv_1.To>345686400000))) wa rfl (aa (vB (decide (wv_1.To>345686400000))) (ah ?_)))))
   obtain rfl:=ae h_4
   exact cu
 ·rintro ⟨⟩ _ sl_ H_ hp_ hq_
  refine aM _ hp_ hq_ ?_
  rcases aj hF with⟨hc_8,hF⟩|⟨hc_8,hF⟩
  ·refine aC rfl hc_8 (ai (aa (vI 1) (ah ?_)))
   obtain rfl:=ae hF
   exact aA (aK [(vI 1)] ⟨rfl,trivial⟩)
  ·refine aB rfl hc_8 (ax (ak (ai (ay pW rfl 1 rfl wz (av 0 0 il ft sz3 ag3 rfl rfl (vI wv_1.To) rfl wz (ay pG rfl 0 rfl wz (av 0 0 il ft sz3 ag3 rfl rfl (vI wv_1.From) rfl wz (aa (vI (w64 (wv_1.To-wv_1.From))) (aa (vB (decide ((w64 (wv_1.To-wv_1.From))>34560000000))) (ah ?_))))))))))
   rcases aj hF with⟨hc_9,hF⟩|⟨hc_9,hF⟩
   ·refine aC rfl hc_9 (ai (aa (vI 2) (ah ?_)))
    obtain rfl:=ae hF
    exact aA (aK [(vI 2)] ⟨rfl,trivial⟩)
   ·refine aB rfl hc_9 (ax (ai (aa (vI 0) (ah ?_))))
    obtain rfl:=ae hF
    exact aA (aK [(vI 0)] ⟨rfl,trivial⟩)
theorem mR {x_1:Int} {r:Bool} (hF:cmp_isNaN_int x_1=some r) :
  FnM Tryz.prog 120 [(vI x_1)] [] (vB r) []:=by
 refine FnM.of_wH ⟨Tryz.prog,6,[],[]⟩ rfl Tryz.func120 rfl rfl (lb_ rfl) (by kernel_rfl) ?_
 unfold cmp_isNaN_int at hF
 refine ai (aa (vB false) (ah (ai (aa (vI x_1) (aa (vI x_1) (aa (vB (x_1 != x_1)) (aa (vB (x_1 != x_1)) (ah ?_))))))))
 obtain rfl:=ae hF
 exact aA (aK [(vB (x_1 != x_1))] ⟨rfl,trivial⟩)
theorem C8 {x_1:Int} {y_2:Int} {r:Bool} (hF:cmp_Less_int x_1 y_2=some r) :
  FnM Tryz.prog 100 [(vI x_1),(vI y_2)] [] (vB r) []:=by
 refine FnM.of_wH ⟨Tryz.prog,17,[],[]⟩ rfl Tryz.func100 rfl rfl (lb_ rfl) (by kernel_rfl) ?_
 unfold cmp_Less_int at hF
 refine ai (aa (vB false) (ah (ak ?_)))
 obtain ⟨v_3,h_4,hF⟩:=bind_some hF
 refine aP [(4,(vB v_3))] [] ?_ ?_
 ·refine au (aa (vI x_1) ?_)
  obtain ⟨r_5,hr_6,h_4⟩:=bind_some h_4
  refine aD (mR hr_6) rfl LM rfl rfl rfl rfl wz ?_
  rcases aj h_4 with⟨hc_7,h_4⟩|⟨hc_7,h_4⟩
  ·refine aF rfl hc_7 wz (aI (vI y_2) wa rfl ?_)
   obtain ⟨r_8,hr_9,h_4⟩:=bind_some h_4
   refine aD (mR hr_9) rfl LM rfl rfl rfl rfl wa (aI (vB (!r_8)) wa rfl (aa (vB (!r_8)) ?_))
   rcases aj h_4 with⟨hc_10,h_4⟩|⟨hc_10,h_4⟩
   ·refine aF rfl hc_10 wz (af (af (af (aa (vB true) (aa (vB true) (ah ?_))))))
    obtain rfl:=ae h_4
    exact cu
   ·refine aF rfl hc_10 wz (aI (vI x_1) wa rfl (aI (vI y_2) wa rfl (aI (vB (decide (x_1<y_2))) wa rfl (aa (vB (decide (x_1<y_2))) (aa (vB (decide (x_1<y_2))) (ah ?_))))))
    obtain rfl:=ae h_4
    exact cu
  ·refine aF rfl hc_7 wz (af (af (af (aa (vB false) (aa (vB false) (aI (vI x_1) wa rfl (aI (vI y_2) wa rfl (aI (vB (decide (x_1<y_2))) wa rfl (aa (vB (decide (x_1<y_2))) (aa (vB (decide (x_1<y_2))) (ah ?_)))))))))))
   obtain rfl:=ae h_4
   exact cu
 ·rintro ⟨⟩ _ sl_ H_ hp_ hq_
  refine aM _ hp_ hq_ ?_
  obtain rfl:=ae hF
  exact aA (aK [(vB v_3)] ⟨rfl,trivial⟩)
theorem rz {x_1:Int} {r:Bool} (hF:iX x_1=some r) :
  FnM Tryz.prog 130 [(vI x_1)] [] (vB r) []:=by
 refine FnM.of_wH ⟨Tryz.prog,6,[],[]⟩ rfl Tryz.func130 rfl rfl (lb_ rfl) (by kernel_rfl) ?_
 unfold iX at hF
 refine ai (aa (vB false) (ah (ai (aa (vI x_1) (aa (vI x_1) (aa (vB (x_1 != x_1)) (aa (vB (x_1 != x_1)) (ah ?_))))))))
 obtain rfl:=ae hF
 exact aA (aK [(vB (x_1 != x_1))] ⟨rfl,trivial⟩)
theorem p8 {x_1:(List Int)} {target_2:Int} {r:Int×Bool} (hF:eQ x_1 target_2=some r) :
  FnM Tryz.prog 108 [(vL eI x_1),(vI target_2)] [] (.tup [(vI r.1),(vB r.2)]) []:=by
 refine FnM.of_wH ⟨Tryz.prog,54,[],[]⟩ rfl Tryz.func108 rfl rfl (lb_ rfl) (by kernel_rfl) ?_
 unfold eQ at hF
 refine ai (aa (vI 0) (aa (vB false) (ah (ai (aa (vL eI x_1) (bJ vF rfl wz (aa (vI (x_1.length:Int)) (ah (ai (aa (vI (x_1.length:Int)) (aa (vI 0) (aa (vI (x_1.length:Int)) (ah (ak ?_))))))))))))))
 obtain ⟨o_11,hj_12,hF⟩:=bind_some hF
 obtain ⟨nq_34,hj_12⟩:=fE hj_12
 refine iG (λ(s_8:Int×Int)=>[(0,(vL eI x_1)),(1,(vI target_2)),(6,(vI (x_1.length:Int))),(7,(vI s_8.1))]) (λ(s_8:Int×Int)=>[]) (λ(k_3:Nat)=>(λ(s_8:Int×Int)=>[(0,(vL eI x_1)),(1,(vI target_2)),(6,(vI (x_1.length:Int))),(7,(vI s_8.1)),(8,(vI s_8.2))])) (λs=>fA x_1 target_2 s) o_11 nq_34 (0,(x_1.length:Int)) hj_12 rfl (aG rfl) ?_ ?_
 ·rintro ⟨k_3,s_8⟩ hL_10
  dsimp only at hL_10
  cases k_3 with
  | zero=>cases hL_10
  | succ k_3 =>
   obtain ⟨c_,hc_9,hL_10⟩:=bind_some hL_10
   unfold fA at hc_9
   refine ak (ai (aa (vI s_8.1) (aa (vI s_8.2) (aa (vB (decide (s_8.1<s_8.2))) (ah ?_)))))
   rcases aj hc_9 with⟨hc_13,hc_9⟩|⟨hc_13,hc_9⟩
   ·refine aC rfl hc_13 (ax (aL (ai (aa (vI s_8.1) (aa (vI s_8.2) (aa (vI (w64 (s_8.1+s_8.2))) (qa un3 PS rfl wz ?_)))))))
    obtain ⟨q_14,hz_15,hc_9⟩:=bind_some hc_9
    refine Mc rfl rfl hz_15 wz (qa PS un3 rfl wz (aa (vI (w64 q_14)) (ah (ai (aa (vL eI x_1) (aa (vI (w64 q_14)) ?_))))))
    obtain ⟨y_16,hy_17,hc_9⟩:=bind_some hc_9
    refine dM o9 rfl rfl hy_17 rfl wz (bI sz3 ag3 rfl (vI y_16) rfl wz (aa (vI target_2) ?_))
    obtain ⟨r_18,hr_19,hc_9⟩:=bind_some hc_9
    refine aD (C8 hr_19) rfl hb100 rfl rfl rfl rfl wz (ah ?_)
    rcases aj hc_9 with⟨hc_20,hc_9⟩|⟨hc_20,hc_9⟩
    ·refine aC rfl hc_20 (au (aa (vI (w64 q_14)) (aa (vI (w64 ((w64 q_14)+1))) (aa (vI (w64 ((w64 q_14)+1))) (ah ?_)))))
     obtain rfl:=ae hc_9
     exact aU (k_3,((w64 ((w64 q_14)+1)),s_8.2)) hL_10 (ls_ _) rfl (aG rfl)
    ·refine aB rfl hc_20 (au (aa (vI (w64 q_14)) (aa (vI (w64 q_14)) (ah ?_))))
     obtain rfl:=ae hc_9
     exact aU (k_3,(s_8.1,(w64 q_14))) hL_10 (ls_ _) rfl (aG rfl)
   ·refine aB rfl hc_13 (aS ?_)
    obtain rfl:=ae hc_9
    obtain rfl:=ae hL_10
    exact aV ((s_8.1,s_8.2)) rfl rfl (aG rfl)
 ·rintro s_8 ho_ sl_ H_ hp_ hq_
  subst ho_
  refine aM _ hp_ hq_ (ak ?_)
  obtain ⟨v_21,h_22,hF⟩:=bind_some hF
  refine aP [(4,(vI s_8.1)),(5,(vB v_21))] [] ?_ ?_
  ·refine au (aa (vI s_8.1) (aa (vI s_8.1) (aa (vI (x_1.length:Int)) (aa (vB (decide (s_8.1<(x_1.length:Int)))) ?_))))
   rcases aj h_22 with⟨hc_23,h_22⟩|⟨hc_23,h_22⟩
   ·refine aF rfl hc_23 wz (aI (vL eI x_1) wa rfl (aI (vI s_8.1) wa rfl ?_))
    obtain ⟨y_24,hy_25,h_22⟩:=bind_some h_22
    refine dM o9 rfl rfl hy_25 rfl wa (bI sz3 ag3 rfl (vI y_24) rfl wa (aI (vI target_2) wa rfl (aI (vB (y_24==target_2)) wa rfl ?_)))
    rcases aj h_22 with⟨hc_26,h_22⟩|⟨hc_26,h_22⟩
    ·refine aF rfl hc_26 wa (af (af (af (af (af (af (dD (wn rfl rfl) (dD (wn rfl rfl) (af (aI (vB true) wa rfl (aa (vB true) (aa (vI s_8.1) (aa (vB true) (ah ?_))))))))))))))
     obtain rfl:=ae h_22
     exact cu
    ·refine aF rfl hc_26 wa (aI (vL eI x_1) wa rfl (aI (vI s_8.1) wa rfl ?_))
     obtain ⟨y_27,hy_28,h_22⟩:=bind_some h_22
     refine dM o9 rfl rfl hy_28 rfl wa (bI sz3 ag3 rfl (vI y_27) rfl wa ?_)
     obtain ⟨r_29,hr_30,h_22⟩:=bind_some h_22
     refine aD (rz hr_30) rfl hb130 rfl rfl rfl rfl wa ?_
     rcases aj h_22 with⟨hc_31,h_22⟩|⟨hc_31,h_22⟩
     ·refine aF rfl hc_31 wa (aI (vI target_2) wa rfl ?_)
      obtain ⟨r_32,hr_33,h_22⟩:=bind_some h_22
      refine aD (rz hr_33) rfl hb130 rfl rfl rfl rfl wa (aI (vB r_32) wa rfl (aI (vB r_32) wa rfl (aa (vB r_32) (aa (vI s_8.1) (aa (vB r_32) (ah ?_))))))
      obtain rfl:=ae h_22
      exact cu
     ·refine aF rfl hc_31 wa (af (af (aI (vB false) wa rfl (aI (vB false) wa rfl (aa (vB false) (aa (vI s_8.1) (aa (vB false) (ah ?_))))))))
      obtain rfl:=ae h_22
      exact cu
   ·refine aF rfl hc_23 wz (af (af (af (af (af (af (af (dD (wn rfl rfl) (dD (wn rfl rfl) (dD (wn rfl rfl) (dD (wn rfl rfl) (dD (wn rfl rfl) (dD (wn rfl rfl) (dD (wn rfl rfl) (dD (wn rfl rfl) (dD (wn rfl rfl) (af (aa (vB false) (aa (vI s_8.1) (aa (vB false) (ah ?_)))))))))))))))))))))
    obtain rfl:=ae h_22
    exact cu
  ·rintro ⟨⟩ _ sl_ H_ hp_ hq_
   refine aM _ hp_ hq_ ?_
   obtain rfl:=ae hF
   exact aA (aK [(vI s_8.1),(vB v_21)] ⟨rfl,⟨rfl,trivial⟩⟩)
theorem Au {e_1:Entry} {d_2:Int} {r:Bool} (hF:mh e_1 d_2=some r) :
  FnM Tryz.prog 82 [(.d (.agg (Entry.enc e_1))),(vI d_2)] [] (vB r) []:=by
 refine FnM.of_wH ⟨Tryz.prog,41,[],[]⟩ rfl Tryz.func82 rfl rfl (lb_ rfl) (by kernel_rfl) ?_
 unfold mh at hF
 refine ai (dY 0 (.inl rfl) (Entry.v e_1) rfl rfl wz (λn_3=>aa (vB false) (ah (ak (ak ?_)))))
 obtain ⟨v_4,h_5,hF⟩:=bind_some hF
 refine aP [(1,(vI d_2)),(2,(.ref n_3 0 0)),(31,(vB v_4))] [(n_3,some (.cells 13 (Entry.v e_1)))] ?_ ?_
 ·refine bz (aa (vI d_2) (ay IX rfl 3 rfl wz (av 2 0 (.inr (by kernel_rfl)) (λ_ _ ag=>trivial) sz3 ag3 rfl rfl (vI e_1.First) rfl wz (ay Hl rfl 4 rfl wz (av 4 0 (.inr (by kernel_rfl)) (λ_ _ ag=>⟨.inl ⟨rfl,rfl⟩,trivial⟩) sz3 ag3 rfl rfl (vI e_1.Last) rfl wz ?_)))))
  obtain ⟨r_6,hr_7,h_5⟩:=bind_some h_5
  refine aD (bv hr_7) rfl qV rfl rfl rfl rfl wz ?_
  rcases aj h_5 with⟨hc_8,h_5⟩|⟨hc_8,h_5⟩
  ·refine aF rfl hc_8 wz (af (af (af (af (af (af (af (af (aa (vB true) (aa (vB true) (af (af (af (af (af (af (af (aa (vB true) (ah ?_)))))))))))))))))))
   obtain rfl:=ae h_5
   exact cu
  ·refine aF rfl hc_8 wz (aI (vI d_2) wa rfl (ay IX rfl 3 rfl wa (av 9 0 (.inr (by kernel_rfl)) (λ_ _ ag=>⟨.inl ⟨rfl,rfl⟩,⟨.inl ⟨rfl,rfl⟩,trivial⟩⟩) sz3 ag3 rfl rfl (vI e_1.First) rfl wa (aI (vI (w64 (d_2-e_1.First))) wa rfl (ay PN rfl 5 rfl wa (av 12 0 (.inr (by kernel_rfl)) (λ_ _ ag=>⟨.inl ⟨rfl,rfl⟩,⟨.inl ⟨rfl,rfl⟩,⟨.inl ⟨rfl,rfl⟩,trivial⟩⟩⟩) sz3 ag3 rfl rfl (vI e_1.Every) rfl wa ?_))))))
   obtain ⟨q_9,hz_10,h_5⟩:=bind_some h_5
   refine O1 rfl rfl hz_10 wa (aI (vB (q_9 != 0)) wa rfl (aa (vB (q_9 != 0)) ?_))
   rcases aj h_5 with⟨hc_11,h_5⟩|⟨hc_11,h_5⟩
   ·refine aF rfl hc_11 wz (af (af (af (af (af (af (af (aa (vB true) (ah ?_)))))))))
    obtain rfl:=ae h_5
    exact cu
   ·refine aF rfl hc_11 wz (ay PO rfl 6 rfl wa (av 18 0 (.inr (by kernel_rfl)) (λ_ _ ag=>⟨.inl ⟨rfl,rfl⟩,⟨.inl ⟨rfl,rfl⟩,⟨.inl ⟨rfl,rfl⟩,⟨.inl ⟨rfl,rfl⟩,trivial⟩⟩⟩⟩) sz3 ag3 rfl rfl (vI e_1.Days) rfl wa (aI (vI d_2) wa rfl (aI (vI (d_2.tmod 7)) wa rfl ?_))))
    obtain ⟨q_12,hz_13,h_5⟩:=bind_some h_5
    refine Cx rfl rfl hz_13 wa (aI (vI (vX .i64 e_1.Days q_12)) wa rfl (aI (vB ((vX .i64 e_1.Days q_12)==0)) wa rfl (aa (vB ((vX .i64 e_1.Days q_12)==0)) (ah ?_))))
    obtain rfl:=ae h_5
    exact cu
 ·rintro ⟨⟩ _ sl_ H_ hp_ hq_
  refine aM _ hp_ hq_ ?_
  rcases aj hF with⟨hc_14,hF⟩|⟨hc_14,hF⟩
  ·refine aC rfl hc_14 (ai (aa (vB false) (ah ?_)))
   obtain rfl:=ae hF
   exact aA (aK [(vB false)] ⟨rfl,trivial⟩)
  ·refine aB rfl hc_14 (ax (ai (ay O9 rfl 7 rfl wz (av 0 0 il ft NQ Ny rfl rfl (vL eI e_1.Except) rfl wz (aa (vI d_2) ?_)))))
   obtain ⟨r_15,hr_16,hF⟩:=bind_some hF
   refine aD (p8 hr_16) rfl hb108 rfl rfl rfl rfl wz (aa (.tup [(vI r_15.1),(vB r_15.2)]) (aa (vI r_15.1) (aa (vB r_15.2) (aa (vI r_15.1) (aa (vB r_15.2) (ah (ai (aa (vB r_15.2) (aa (vB (!r_15.2)) (aa (vB (!r_15.2)) (ah ?_)))))))))))
   obtain rfl:=ae hF
   exact aA (aK [(vB (!r_15.2))] ⟨rfl,trivial⟩)
theorem y8 {e_1:Entry} {zone_2:Int} {d_3:Int} {r:Window} (hF:nO e_1 zone_2 d_3=some r) :
  FnM Tryz.prog 83 [(.d (.agg (Entry.enc e_1))),(vI zone_2),(vI d_3)] [] (.d (.agg (Window.enc r))) []:=by
 refine FnM.of_wH ⟨Tryz.prog,32,[],[]⟩ rfl Tryz.func83 rfl rfl (lb_ rfl) (by kernel_rfl) ?_
 unfold nO at hF
 refine ai (dY 0 (.inl rfl) (Entry.v e_1) rfl rfl wz (λn_4=>bf 0 (.inl rfl) z89 rfl wz (λn_5=>ah (ai (ay O7 rfl 9 rfl wz (av 0 0 il ft sz3 ag3 rfl rfl (vI e_1.To) rfl wz (ay Lv rfl 8 rfl wz (av 0 0 il ft sz3 ag3 rfl rfl (vI e_1.From) rfl wz (aa (vI (w64 (e_1.To-e_1.From))) (aa (vI (w64 (e_1.To-e_1.From))) (ah (ak (ai (aa (vI (w64 (e_1.To-e_1.From))) (aa (vB (decide ((w64 (e_1.To-e_1.From))<=0))) (ah ?_))))))))))))))))
 obtain ⟨v_6,h_7,hF⟩:=bind_some hF
 refine aP [(1,(vI zone_2)),(2,(vI d_3)),(3,(.ref n_4 0 0)),(6,(.ref n_5 0 0)),(7,(vI v_6))] [(n_4,some (.cells 13 (Entry.v e_1))),(n_5,some (.cells 2 [(vI 0),(vI 0)]))] ?_ ?_
 ·rcases aj h_7 with⟨hc_8,h_7⟩|⟨hc_8,h_7⟩
  ·refine aC rfl hc_8 (au (aa (vI (w64 (e_1.To-e_1.From))) (aa (vI (w64 ((w64 (e_1.To-e_1.From))+1440))) (aa (vI (w64 ((w64 (e_1.To-e_1.From))+1440))) (ah ?_)))))
   obtain rfl:=ae h_7
   exact cu
  ·refine aB rfl hc_8 (ax ?_)
   obtain rfl:=ae h_7
   exact cu
 ·rintro ⟨⟩ _ sl_ H_ hp_ hq_
  refine aM _ hp_ hq_ (ai (aa (vI d_3) (aa (vI (w64 (d_3*1440))) (ay Lv rfl 8 rfl wz (av 0 0 il ft sz3 ag3 rfl rfl (vI e_1.From) rfl wz (aa (vI (w64 ((w64 (d_3*1440))+e_1.From))) (aa (vI zone_2) (aa (vI (w64 ((w64 ((w64 (d_3*1440))+e_1.From))-zone_2))) (aa (vI (w64 ((w64 ((w64 ((w64 (d_3*1440))+e_1.From))-zone_2))*60000))) (aa (vI (w64 ((w64 ((w64 ((w64 (d_3*1440))+e_1.From))-zone_2))*60000))) (ah (ai (aa (vI (w64 ((w64 ((w64 ((w64 (d_3*1440))+e_1.From))-zone_2))*60000))) (aa (vI (w64 ((w64 ((w64 ((w64 (d_3*1440))+e_1.From))-zone_2))*60000))) (aa (vI v_6) (aa (vI (w64 (v_6*60000))) (aa (vI (w64 ((w64 ((w64 ((w64 ((w64 (d_3*1440))+e_1.From))-zone_2))*60000))+(w64 (v_6*60000))))) (aI (.d (.agg (Window.enc (⟨(w64 ((w64 ((w64 ((w64 (d_3*1440))+e_1.From))-zone_2))*60000)),(w64 ((w64 ((w64 ((w64 ((w64 (d_3*1440))+e_1.From))-zone_2))*60000))+(w64 (v_6*60000))))⟩:Window)))) wz (by kernel_rfl) (cz 0 il ft 1 zi rfl rfl [(vI (w64 ((w64 ((w64 ((w64 (d_3*1440))+e_1.From))-zone_2))*60000))),(vI (w64 ((w64 ((w64 ((w64 ((w64 (d_3*1440))+e_1.From))-zone_2))*60000))+(w64 (v_6*60000)))))] rfl wz (ah ?_))))))))))))))))))))
  obtain rfl:=ae hF
  exact aA (aK [(.d (.agg (Window.enc (⟨(w64 ((w64 ((w64 ((w64 (d_3*1440))+e_1.From))-zone_2))*60000)),(w64 ((w64 ((w64 ((w64 ((w64 (d_3*1440))+e_1.From))-zone_2))*60000))+(w64 (v_6*60000))))⟩:Window))))] ⟨⟨1,_,_,_,_,_,_,_,rfl,rfl,zi,Hw,rfl⟩,trivial⟩)
end Go.Proofs.YtnkgapmhkhcanaaGreatDoor.Law

