/-
 The machine computes these plain functions (written by a program of ours).
-/
import Derived.Test.YtigdobmllbakiabGreatDoorFacts
import Derived.Test.YtigdobmllbakiabGreatDoorDefs
import Derived.Test.YtigdobmllbakiabGreatDoorPf3
open Go Go.Eng Go.Proofs
namespace Go.Proofs.YtigdobmllbakiabGreatDoor.Law
set_option maxRecDepth 100000
set_option linter.unusedVariables false
set_option maxHeartbeats 1000000
theorem kW {x_1:(List Int)} {target_2:Int} {r:Int×Bool} (hF:dG x_1 target_2=some r) :
  FnM Tryz.prog 101 [(vL eI x_1),(vI target_2)] [] (.tup [(vI r.1),(vB r.2)]) []:=by
 refine FnM.of_wH ⟨Tryz.prog,54,[],[]⟩ rfl Tryz.func101 rfl rfl (lb_ rfl) (by kernel_rfl) ?_
 unfold dG at hF
 refine aj (aa (vI 0) (aa (vB false) (ah (aj (aa (vL eI x_1) (dE pE rfl wz (aa (vI (x_1.length:Int)) (ah (aj (aa (vI (x_1.length:Int)) (aa (vI 0) (aa (vI (x_1.length:Int)) (ah (au ?_))))))))))))))
 obtain ⟨o_11,hj_12,hF⟩:=bind_some hF
 obtain ⟨nq_34,hj_12⟩:=nz hj_12
 refine vO (λ(s_8:Int×Int)=>[(0,(vL eI x_1)),(1,(vI target_2)),(6,(vI (x_1.length:Int))),(7,(vI s_8.1))]) (λ(s_8:Int×Int)=>[]) (λ(k_3:Nat)=>(λ(s_8:Int×Int)=>[(0,(vL eI x_1)),(1,(vI target_2)),(6,(vI (x_1.length:Int))),(7,(vI s_8.1)),(8,(vI s_8.2))])) (λs=>dU x_1 target_2 s) o_11 nq_34 (0,(x_1.length:Int)) hj_12 rfl (aN rfl) ?_ ?_
 ·rintro ⟨k_3,s_8⟩ hL_10
  dsimp only at hL_10
  cases k_3 with
  | zero=>cases hL_10
  | succ k_3 =>
   obtain ⟨c_,hc_9,hL_10⟩:=bind_some hL_10
   unfold dU at hc_9
   refine au (aj (aa (vI s_8.1) (aa (vI s_8.2) (aa (vB (decide (s_8.1<s_8.2))) (ah ?_)))))
   rcases ak hc_9 with⟨hc_13,hc_9⟩|⟨hc_13,hc_9⟩
   ·refine aD rfl hc_13 (aC (bg (aj (aa (vI s_8.1) (aa (vI s_8.2) (aa (vI (w64 (s_8.1+s_8.2))) (Bw un3 un112 rfl wz ?_)))))))
    obtain ⟨q_14,hz_15,hc_9⟩:=bind_some hc_9
    refine h_shr rfl rfl hz_15 wz (Bw un112 un3 rfl wz (aa (vI (w64 q_14)) (ah (aj (aa (vL eI x_1) (aa (vI (w64 q_14)) ?_))))))
    obtain ⟨y_16,hy_17,hc_9⟩:=bind_some hc_9
    refine dJ eX rfl rfl hy_17 rfl wz (bD sz3 ag3 rfl (vI y_16) rfl wz (aa (vI target_2) ?_))
    obtain ⟨r_18,hr_19,hc_9⟩:=bind_some hc_9
    refine aA (xA hr_19) rfl hb114 rfl rfl rfl rfl wz (ah ?_)
    rcases ak hc_9 with⟨hc_20,hc_9⟩|⟨hc_20,hc_9⟩
    ·refine aD rfl hc_20 (ax (aa (vI (w64 q_14)) (aa (vI (w64 ((w64 q_14)+1))) (aa (vI (w64 ((w64 q_14)+1))) (ah ?_)))))
     obtain rfl:=ae hc_9
     exact bK (k_3,((w64 ((w64 q_14)+1)),s_8.2)) hL_10 (ls_ _) rfl (aN rfl)
    ·refine aF rfl hc_20 (ax (aa (vI (w64 q_14)) (aa (vI (w64 q_14)) (ah ?_))))
     obtain rfl:=ae hc_9
     exact bK (k_3,(s_8.1,(w64 q_14))) hL_10 (ls_ _) rfl (aN rfl)
   ·refine aF rfl hc_13 (bM ?_)
    obtain rfl:=ae hc_9
    obtain rfl:=ae hL_10
    exact bG ((s_8.1,s_8.2)) rfl rfl (aN rfl)
 ·rintro s_8 ho_ sl_ H_ hp_ hq_
  subst ho_
  refine aU _ hp_ hq_ (au ?_)
  obtain ⟨v_21,h_22,hF⟩:=bind_some hF
  refine aW [(4,(vI s_8.1)),(5,(vB v_21))] [] ?_ ?_
  ·refine ax (aa (vI s_8.1) (aa (vI s_8.1) (aa (vI (x_1.length:Int)) (aa (vB (decide (s_8.1<(x_1.length:Int)))) ?_))))
   rcases ak h_22 with⟨hc_23,h_22⟩|⟨hc_23,h_22⟩
   ·refine ay rfl hc_23 wz (aG (vL eI x_1) wa rfl (aG (vI s_8.1) wa rfl ?_))
    obtain ⟨y_24,hy_25,h_22⟩:=bind_some h_22
    refine dJ eX rfl rfl hy_25 rfl wa (bD sz3 ag3 rfl (vI y_24) rfl wa (aG (vI target_2) wa rfl (aG (vB (y_24==target_2)) wa rfl ?_)))
    rcases ak h_22 with⟨hc_26,h_22⟩|⟨hc_26,h_22⟩
    ·refine ay rfl hc_26 wa (af (af (af (af (af (af (aY (wn rfl rfl) (aY (wn rfl rfl) (af (aG (vB true) wa rfl (aa (vB true) (aa (vI s_8.1) (aa (vB true) (ah ?_))))))))))))))
     obtain rfl:=ae h_22
     exact cu
    ·refine ay rfl hc_26 wa (aG (vL eI x_1) wa rfl (aG (vI s_8.1) wa rfl ?_))
     obtain ⟨y_27,hy_28,h_22⟩:=bind_some h_22
     refine dJ eX rfl rfl hy_28 rfl wa (bD sz3 ag3 rfl (vI y_27) rfl wa ?_)
     obtain ⟨r_29,hr_30,h_22⟩:=bind_some h_22
     refine aA (ma hr_30) rfl hb115 rfl rfl rfl rfl wa ?_
     rcases ak h_22 with⟨hc_31,h_22⟩|⟨hc_31,h_22⟩
     ·refine ay rfl hc_31 wa (aG (vI target_2) wa rfl ?_)
      obtain ⟨r_32,hr_33,h_22⟩:=bind_some h_22
      refine aA (ma hr_33) rfl hb115 rfl rfl rfl rfl wa (aG (vB r_32) wa rfl (aG (vB r_32) wa rfl (aa (vB r_32) (aa (vI s_8.1) (aa (vB r_32) (ah ?_))))))
      obtain rfl:=ae h_22
      exact cu
     ·refine ay rfl hc_31 wa (af (af (aG (vB false) wa rfl (aG (vB false) wa rfl (aa (vB false) (aa (vI s_8.1) (aa (vB false) (ah ?_))))))))
      obtain rfl:=ae h_22
      exact cu
   ·refine ay rfl hc_23 wz (af (af (af (af (af (af (af (aY (wn rfl rfl) (aY (wn rfl rfl) (aY (wn rfl rfl) (aY (wn rfl rfl) (aY (wn rfl rfl) (aY (wn rfl rfl) (aY (wn rfl rfl) (aY (wn rfl rfl) (aY (wn rfl rfl) (af (aa (vB false) (aa (vI s_8.1) (aa (vB false) (ah ?_)))))))))))))))))))))
    obtain rfl:=ae h_22
    exact cu
  ·rintro ⟨⟩ _ sl_ H_ hp_ hq_
   refine aU _ hp_ hq_ ?_
   obtain rfl:=ae hF
   exact aB (aM [(vI s_8.1),(vB v_21)] ⟨rfl,⟨rfl,trivial⟩⟩)
theorem uW {e_1:Entry} {d_2:Int} {r:Bool} (hF:jy e_1 d_2=some r) :
  FnM Tryz.prog 85 [(.d (.agg (Entry.enc e_1))),(vI d_2)] [] (vB r) []:=by
 refine FnM.of_wH ⟨Tryz.prog,41,[],[]⟩ rfl Tryz.func85 rfl rfl (lb_ rfl) (by kernel_rfl) ?_
 unfold jy at hF
 refine aj (mo 0 (.inl rfl) (Entry.v e_1) rfl rfl wz (λn_3=>aa (vB false) (ah (au (au ?_)))))
 obtain ⟨v_4,h_5,hF⟩:=bind_some hF
 refine aW [(1,(vI d_2)),(2,(.ref n_3 0 0)),(31,(vB v_4))] [(n_3,some (.cells 13 (Entry.v e_1)))] ?_ ?_
 ·refine eB (aa (vI d_2) (aL ou rfl 3 rfl wz (aK 2 0 (.inr (by kernel_rfl)) (λ_ _ ag=>trivial) sz3 ag3 rfl rfl (vI e_1.First) rfl wz (aL nH rfl 4 rfl wz (aK 4 0 (.inr (by kernel_rfl)) (λ_ _ ag=>⟨.inl ⟨rfl,rfl⟩,trivial⟩) sz3 ag3 rfl rfl (vI e_1.Last) rfl wz ?_)))))
  obtain ⟨r_6,hr_7,h_5⟩:=bind_some h_5
  refine aA (dY hr_7) rfl zI rfl rfl rfl rfl wz ?_
  rcases ak h_5 with⟨hc_8,h_5⟩|⟨hc_8,h_5⟩
  ·refine ay rfl hc_8 wz (af (af (af (af (af (af (af (af (aa (vB true) (aa (vB true) (af (af (af (af (af (af (af (aa (vB true) (ah ?_)))))))))))))))))))
   obtain rfl:=ae h_5
   exact cu
  ·refine ay rfl hc_8 wz (aG (vI d_2) wa rfl (aL ou rfl 3 rfl wa (aK 9 0 (.inr (by kernel_rfl)) (λ_ _ ag=>⟨.inl ⟨rfl,rfl⟩,⟨.inl ⟨rfl,rfl⟩,trivial⟩⟩) sz3 ag3 rfl rfl (vI e_1.First) rfl wa (aG (vI (w64 (d_2-e_1.First))) wa rfl (aL vN rfl 5 rfl wa (aK 12 0 (.inr (by kernel_rfl)) (λ_ _ ag=>⟨.inl ⟨rfl,rfl⟩,⟨.inl ⟨rfl,rfl⟩,⟨.inl ⟨rfl,rfl⟩,trivial⟩⟩⟩) sz3 ag3 rfl rfl (vI e_1.Every) rfl wa ?_))))))
   obtain ⟨q_9,hz_10,h_5⟩:=bind_some h_5
   refine IL rfl rfl hz_10 wa (aG (vB (q_9 != 0)) wa rfl (aa (vB (q_9 != 0)) ?_))
   rcases ak h_5 with⟨hc_11,h_5⟩|⟨hc_11,h_5⟩
   ·refine ay rfl hc_11 wz (af (af (af (af (af (af (af (aa (vB true) (ah ?_)))))))))
    obtain rfl:=ae h_5
    exact cu
   ·refine ay rfl hc_11 wz (aL ww rfl 6 rfl wa (aK 18 0 (.inr (by kernel_rfl)) (λ_ _ ag=>⟨.inl ⟨rfl,rfl⟩,⟨.inl ⟨rfl,rfl⟩,⟨.inl ⟨rfl,rfl⟩,⟨.inl ⟨rfl,rfl⟩,trivial⟩⟩⟩⟩) sz3 ag3 rfl rfl (vI e_1.Days) rfl wa (aG (vI d_2) wa rfl (aG (vI (d_2.tmod 7)) wa rfl ?_))))
    obtain ⟨q_12,hz_13,h_5⟩:=bind_some h_5
    refine h_shl rfl rfl hz_13 wa (aG (vI (y5 .i64 e_1.Days q_12)) wa rfl (aG (vB ((y5 .i64 e_1.Days q_12)==0)) wa rfl (aa (vB ((y5 .i64 e_1.Days q_12)==0)) (ah ?_))))
    obtain rfl:=ae h_5
    exact cu
 ·rintro ⟨⟩ _ sl_ H_ hp_ hq_
  refine aU _ hp_ hq_ ?_
  rcases ak hF with⟨hc_14,hF⟩|⟨hc_14,hF⟩
  ·refine aD rfl hc_14 (aj (aa (vB false) (ah ?_)))
   obtain rfl:=ae hF
   exact aB (aM [(vB false)] ⟨rfl,trivial⟩)
  ·refine aF rfl hc_14 (aC (aj (aL jv rfl 7 rfl wz (aK 0 0 il ft nY rV rfl rfl (vL eI e_1.Except) rfl wz (aa (vI d_2) ?_)))))
   obtain ⟨r_15,hr_16,hF⟩:=bind_some hF
   refine aA (kW hr_16) rfl hb101 rfl rfl rfl rfl wz (aa (.tup [(vI r_15.1),(vB r_15.2)]) (aa (vI r_15.1) (aa (vB r_15.2) (aa (vI r_15.1) (aa (vB r_15.2) (ah (aj (aa (vB r_15.2) (aa (vB (!r_15.2)) (aa (vB (!r_15.2)) (ah ?_)))))))))))
   obtain rfl:=ae hF
   exact aB (aM [(vB (!r_15.2))] ⟨rfl,trivial⟩)
theorem tF {e_1:Entry} {zone_2:Int} {d_3:Int} {r:Window} (hF:jR e_1 zone_2 d_3=some r) :
  FnM Tryz.prog 86 [(.d (.agg (Entry.enc e_1))),(vI zone_2),(vI d_3)] [] (.d (.agg (Window.enc r))) []:=by
 refine FnM.of_wH ⟨Tryz.prog,32,[],[]⟩ rfl Tryz.func86 rfl rfl (lb_ rfl) (by kernel_rfl) ?_
 unfold jR at hF
 refine aj (mo 0 (.inl rfl) (Entry.v e_1) rfl rfl wz (λn_4=>gY 0 (.inl rfl) z79 rfl wz (λn_5=>ah (aj (aL vM rfl 9 rfl wz (aK 0 0 il ft sz3 ag3 rfl rfl (vI e_1.To) rfl wz (aL sM rfl 8 rfl wz (aK 0 0 il ft sz3 ag3 rfl rfl (vI e_1.From) rfl wz (aa (vI (w64 (e_1.To-e_1.From))) (aa (vI (w64 (e_1.To-e_1.From))) (ah (au (aj (aa (vI (w64 (e_1.To-e_1.From))) (aa (vB (decide ((w64 (e_1.To-e_1.From))<=0))) (ah ?_))))))))))))))))
 obtain ⟨v_6,h_7,hF⟩:=bind_some hF
 refine aW [(1,(vI zone_2)),(2,(vI d_3)),(3,(.ref n_4 0 0)),(6,(.ref n_5 0 0)),(7,(vI v_6))] [(n_4,some (.cells 13 (Entry.v e_1))),(n_5,some (.cells 2 [(vI 0),(vI 0)]))] ?_ ?_
 ·rcases ak h_7 with⟨hc_8,h_7⟩|⟨hc_8,h_7⟩
  ·refine aD rfl hc_8 (ax (aa (vI (w64 (e_1.To-e_1.From))) (aa (vI (w64 ((w64 (e_1.To-e_1.From))+1440))) (aa (vI (w64 ((w64 (e_1.To-e_1.From))+1440))) (ah ?_)))))
   obtain rfl:=ae h_7
   exact cu
  ·refine aF rfl hc_8 (aC ?_)
   obtain rfl:=ae h_7
   exact cu
 ·rintro ⟨⟩ _ sl_ H_ hp_ hq_
  refine aU _ hp_ hq_ (aj (aa (vI d_3) (aa (vI (w64 (d_3*1440))) (aL sM rfl 8 rfl wz (aK 0 0 il ft sz3 ag3 rfl rfl (vI e_1.From) rfl wz (aa (vI (w64 ((w64 (d_3*1440))+e_1.From))) (aa (vI zone_2) (aa (vI (w64 ((w64 ((w64 (d_3*1440))+e_1.From))-zone_2))) (aa (vI (w64 ((w64 ((w64 ((w64 (d_3*1440))+e_1.From))-zone_2))*60000))) (aa (vI (w64 ((w64 ((w64 ((w64 (d_3*1440))+e_1.From))-zone_2))*60000))) (ah (aj (aa (vI (w64 ((w64 ((w64 ((w64 (d_3*1440))+e_1.From))-zone_2))*60000))) (aa (vI (w64 ((w64 ((w64 ((w64 (d_3*1440))+e_1.From))-zone_2))*60000))) (aa (vI v_6) (aa (vI (w64 (v_6*60000))) (aa (vI (w64 ((w64 ((w64 ((w64 ((w64 (d_3*1440))+e_1.From))-zone_2))*60000))+(w64 (v_6*60000))))) (aG (.d (.agg (Window.enc (⟨(w64 ((w64 ((w64 ((w64 (d_3*1440))+e_1.From))-zone_2))*60000)),(w64 ((w64 ((w64 ((w64 ((w64 (d_3*1440))+e_1.From))-zone_2))*60000))+(w64 (v_6*60000))))⟩:Window)))) wz (by kernel_rfl) (gK 0 il ft 1 uS rfl rfl [(vI (w64 ((w64 ((w64 ((w64 (d_3*1440))+e_1.From))-zone_2))*60000))),(vI (w64 ((w64 ((w64 ((w64 ((w64 (d_3*1440))+e_1.From))-zone_2))*60000))+(w64 (v_6*60000)))))] rfl wz (ah ?_))))))))))))))))))))
  obtain rfl:=ae hF
  exact aB (aM [(.d (.agg (Window.enc (⟨(w64 ((w64 ((w64 ((w64 (d_3*1440))+e_1.From))-zone_2))*60000)),(w64 ((w64 ((w64 ((w64 ((w64 (d_3*1440))+e_1.From))-zone_2))*60000))+(w64 (v_6*60000))))⟩:Window))))] ⟨⟨1,_,_,_,_,_,_,_,rfl,rfl,uS,Dw,rfl⟩,trivial⟩)
theorem xI {t_1:Window} {wv_2:Window} {r:Window} (hF:qb t_1 wv_2=some r) :
  FnM Tryz.prog 66 [(.d (.agg (Window.enc t_1))),(.d (.agg (Window.enc wv_2)))] [] (.d (.agg (Window.enc r))) []:=by
 refine FnM.of_wH ⟨Tryz.prog,16,[],[]⟩ rfl Tryz.func66 rfl rfl (lb_ rfl) (by kernel_rfl) ?_
 unfold qb at hF
 refine aj (mo 0 (.inl rfl) [(vI t_1.From),(vI t_1.To)] rfl rfl wz (λn_3=>mo 0 (.inl rfl) [(vI wv_2.From),(vI wv_2.To)] rfl rfl wz (λn_4=>gY 0 (.inl rfl) z79 rfl wz (λn_5=>ah (aj (aL pR rfl 0 rfl wz (aK 0 0 il ft sz3 ag3 rfl rfl (vI t_1.From) rfl wz (aL pR rfl 0 rfl wz (aK 0 1 il ft sz3 ag3 rfl rfl (vI wv_2.From) rfl wz (uO (vI (zM t_1.From wv_2.From)) rfl (.inr rfl) wz (aL pz rfl 1 rfl wz (aK 0 0 il ft sz3 ag3 rfl rfl (vI t_1.To) rfl wz (aL pz rfl 1 rfl wz (aK 0 1 il ft sz3 ag3 rfl rfl (vI wv_2.To) rfl wz (uO (vI (Br t_1.To wv_2.To)) rfl (.inl rfl) wz (aG (.d (.agg (Window.enc (⟨(zM t_1.From wv_2.From),(Br t_1.To wv_2.To)⟩:Window)))) wz (by kernel_rfl) (gK 0 il ft 2 uS rfl rfl [(vI (zM t_1.From wv_2.From)),(vI (Br t_1.To wv_2.To))] rfl wz (ah ?_))))))))))))))))))
 obtain rfl:=ae hF
 exact aB (aM [(.d (.agg (Window.enc (⟨(zM t_1.From wv_2.From),(Br t_1.To wv_2.To)⟩:Window))))] ⟨⟨2,_,_,_,_,_,_,_,rfl,rfl,uS,Dw,rfl⟩,trivial⟩)
theorem sG {e_1:Entry} {zone_2:Int} {wv_3:Window} {r:(List Window)} (hF:jB e_1 zone_2 wv_3=some r) :
  FnM Tryz.prog 65 [(.d (.agg (Entry.enc e_1))),(vI zone_2),(.d (.agg (Window.enc wv_3)))] [] (gV (av 0) 2 r) (([]:List Box).map some++gO 2 Window.enc r):=by
 refine FnM.of_wH ⟨Tryz.prog,72,[],[]⟩ rfl Tryz.func65 rfl rfl (lb_ rfl) (by kernel_rfl) ?_
 unfold jB at hF
 refine aj (mo 0 (.inl rfl) (Entry.v e_1) rfl rfl wz (λn_4=>mo 0 (.inl rfl) [(vI wv_3.From),(vI wv_3.To)] rfl rfl wz (λn_5=>aa .nil (ah (aj (aa .nil (ah (au (au ?_)))))))))
 obtain ⟨v_6,h_7,hF⟩:=bind_some hF
 refine aW [(1,(vI zone_2)),(3,(.ref n_4 0 0)),(5,(.ref n_5 0 0)),(7,.nil),(20,(vB v_6))] [(n_4,some (.cells 13 (Entry.v e_1))),(n_5,some (.cells 2 [(vI wv_3.From),(vI wv_3.To)]))] ?_ ?_
 ·refine ax (aL AA rfl 12 rfl wz (aK 0 0 il ft sz4 ag4 rfl rfl (vB e_1.Gone) rfl wz ?_))
  rcases ak h_7 with⟨hc_8,h_7⟩|⟨hc_8,h_7⟩
  ·refine ay rfl hc_8 wz (af (af (af (af (af (aa (vB true) (ah ?_)))))))
   obtain rfl:=ae h_7
   exact cu
  ·refine ay rfl hc_8 wz (aL pR rfl 0 rfl wa (aK 0 1 il ft sz3 ag3 rfl rfl (vI wv_3.From) rfl wa (aL pz rfl 1 rfl wa (aK 0 1 il ft sz3 ag3 rfl rfl (vI wv_3.To) rfl wa (aG (vB (decide (wv_3.From>=wv_3.To))) wa rfl (aa (vB (decide (wv_3.From>=wv_3.To))) (ah ?_)))))))
   obtain rfl:=ae h_7
   exact cu
 ·rintro ⟨⟩ _ sl_ H_ hp_ hq_
  refine aU _ hp_ hq_ ?_
  rcases ak hF with⟨hc_9,hF⟩|⟨hc_9,hF⟩
  ·refine aD rfl hc_9 (aj (aa .nil (ah (jZ (λn_10 => ?_)))))
   obtain rfl:=ae hF
   exact aB (GM (outs:=([]:List Box)) (.inr rfl) 2 rfl rfl rfl (by kernel_rfl) (by kernel_rfl))
  ·refine aF rfl hc_9 (aC (aj (aL pR rfl 0 rfl wz (aK 0 1 il ft sz3 ag3 rfl rfl (vI wv_3.From) rfl wz (aa (vI zone_2) (aa (vI (w64 (zone_2*60000))) (aa (vI (w64 (wv_3.From+(w64 (zone_2*60000))))) (aa (vI (w64 ((w64 (wv_3.From+(w64 (zone_2*60000)))).tdiv 86400000))) (aa (vI (w64 ((w64 ((w64 (wv_3.From+(w64 (zone_2*60000)))).tdiv 86400000))-2))) (aa (vI (w64 ((w64 ((w64 (wv_3.From+(w64 (zone_2*60000)))).tdiv 86400000))-2))) (ah (aj (aL pz rfl 1 rfl wz (aK 0 1 il ft sz3 ag3 rfl rfl (vI wv_3.To) rfl wz (aa (vI zone_2) (aa (vI (w64 (zone_2*60000))) (aa (vI (w64 (wv_3.To+(w64 (zone_2*60000))))) (aa (vI (w64 ((w64 (wv_3.To+(w64 (zone_2*60000)))).tdiv 86400000))) (aa (vI (w64 ((w64 ((w64 (wv_3.To+(w64 (zone_2*60000)))).tdiv 86400000))+1))) (aa (vI (w64 ((w64 ((w64 (wv_3.To+(w64 (zone_2*60000)))).tdiv 86400000))+1))) (ah (au (aj ?_)))))))))))))))))))))))
   refine aa (vI (w64 ((w64 ((w64 (wv_3.From+(w64 (zone_2*60000)))).tdiv 86400000))-2))) (aL ou rfl 3 rfl wz (aK 0 0 il ft sz3 ag3 rfl rfl (vI e_1.First) rfl wz (uO (vI (zM (w64 ((w64 ((w64 (wv_3.From+(w64 (zone_2*60000)))).tdiv 86400000))-2)) e_1.First)) rfl (.inr rfl) wz (aa (vI (zM (w64 ((w64 ((w64 (wv_3.From+(w64 (zone_2*60000)))).tdiv 86400000))-2)) e_1.First)) (ah (jZ (λn_17 => ?_)))))))
   obtain ⟨o_22,hj_23,hF⟩:=bind_some hF
   obtain ⟨nq_41,hj_23⟩:=nz hj_23
   refine Cm (σ:=(List Window)×Int) (N:=Nm) (λp=>(λ(s_16:(List Window)×Int) (n_19:Nm)=>([(7,(gV n_19 2 s_16.1))]:SL_)) p.1 p.2) (λp=>(λ(s_16:(List Window)×Int) (n_19:Nm)=>([(n_4,some (.cells 13 (Entry.v e_1))),(n_5,some (.cells 2 [(vI wv_3.From),(vI wv_3.To)])),(n_19,gB 2 Window.enc s_16.1)]:Hp)) p.1 p.2) (λ(k_11:Nat)=>(λp=>(λ(s_16:(List Window)×Int) (n_19:Nm)=>([(1,(vI zone_2)),(3,(.ref n_4 0 0)),(5,(.ref n_5 0 0)),(7,(gV n_19 2 s_16.1)),(9,(vI (w64 ((w64 ((w64 (wv_3.To+(w64 (zone_2*60000)))).tdiv 86400000))+1)))),(10,(vI s_16.2))]:SL_)) p.1 p.2)) (λs=>ig wv_3 zone_2 e_1 s) o_22 nq_41 ((([]:List Window),(zM (w64 ((w64 ((w64 (wv_3.From+(w64 (zone_2*60000)))).tdiv 86400000))-2)) e_1.First)),n_17) hj_23 rfl (aN rfl) ?_ ?_
   ·rintro ⟨k_11,s_16,n_19⟩ hL_21
    dsimp only at hL_21
    cases k_11 with
    | zero=>cases hL_21
    | succ k_11 =>
     obtain ⟨c_,hc_20,hL_21⟩:=bind_some hL_21
     unfold ig at hc_20
     refine au (aj (aa (vI s_16.2) (aa (vI (w64 ((w64 ((w64 (wv_3.To+(w64 (zone_2*60000)))).tdiv 86400000))+1))) (aL nH rfl 4 rfl wz (aK 0 0 il ft sz3 ag3 rfl rfl (vI e_1.Last) rfl wz (uO (vI (Br (w64 ((w64 ((w64 (wv_3.To+(w64 (zone_2*60000)))).tdiv 86400000))+1)) e_1.Last)) rfl (.inl rfl) wz (aa (vB (decide (s_16.2<=(Br (w64 ((w64 ((w64 (wv_3.To+(w64 (zone_2*60000)))).tdiv 86400000))+1)) e_1.Last)))) (ah ?_))))))))
     rcases ak hc_20 with⟨hc_24,hc_20⟩|⟨hc_24,hc_20⟩
     ·refine aD rfl hc_24 (aC (au (bg (au (aj (aK 0 0 il ft iw lN rfl rfl (.d (.agg (Entry.enc e_1))) rfl wz (aa (vI s_16.2) ?_)))))))
      obtain ⟨r_25,hr_26,hc_20⟩:=bind_some hc_20
      refine aA (uW hr_26) rfl hb85 rfl rfl rfl rfl wz (aa (vB (!r_25)) (ah ?_))
      rcases ak hc_20 with⟨hc_27,hc_20⟩|⟨hc_27,hc_20⟩
      ·refine aD rfl hc_27 (bM (ax (aa (vI s_16.2) (aa (vI (w64 (s_16.2+1))) (aa (vI (w64 (s_16.2+1))) (ah ?_))))))
       obtain rfl:=ae hc_20
       exact bK (k_11,(s_16.1,(w64 (s_16.2+1))),n_19) hL_21 (ls_ _) rfl (aN rfl)
      ·refine aF rfl hc_27 (aC (aj (aK 0 0 il ft iw lN rfl rfl (.d (.agg (Entry.enc e_1))) rfl wz (aa (vI zone_2) (aa (vI s_16.2) ?_)))))
       obtain ⟨r_28,hr_29,hc_20⟩:=bind_some hc_20
       refine aA (tF hr_29) rfl hb86 rfl rfl rfl rfl wz (gY 0 (.inl rfl) z79 rfl wz (λn_30=>gK 0 il ft 3 uS rfl rfl [(vI r_28.From),(vI r_28.To)] rfl wz (ah (au ?_))))
       obtain ⟨v_31,h_32,hc_20⟩:=bind_some hc_20
       refine aW [(1,(vI zone_2)),(3,(.ref n_4 0 0)),(5,(.ref n_5 0 0)),(7,(gV n_19 2 s_16.1)),(9,(vI (w64 ((w64 ((w64 (wv_3.To+(w64 (zone_2*60000)))).tdiv 86400000))+1)))),(10,(vI s_16.2)),(11,(.ref n_30 0 0)),(66,(vB v_31))] [(n_4,some (.cells 13 (Entry.v e_1))),(n_5,some (.cells 2 [(vI wv_3.From),(vI wv_3.To)])),(n_19,gB 2 Window.enc s_16.1),(n_30,some (.cells 2 [(vI r_28.From),(vI r_28.To)]))] ?_ ?_
       ·refine ax (aL pR rfl 0 rfl wz (aK 0 3 il ft sz3 ag3 rfl rfl (vI r_28.From) rfl wz (aL pz rfl 1 rfl wz (aK 0 1 il ft sz3 ag3 rfl rfl (vI wv_3.To) rfl wz (aa (vB (decide (r_28.From<wv_3.To))) ?_)))))
        rcases ak h_32 with⟨hc_33,h_32⟩|⟨hc_33,h_32⟩
        ·refine ay rfl hc_33 wz (aL pz rfl 1 rfl wa (aK 0 3 il ft sz3 ag3 rfl rfl (vI r_28.To) rfl wa (aL pR rfl 0 rfl wa (aK 0 1 il ft sz3 ag3 rfl rfl (vI wv_3.From) rfl wa (aG (vB (decide (r_28.To>wv_3.From))) wa rfl (aa (vB (decide (r_28.To>wv_3.From))) (ah ?_)))))))
         obtain rfl:=ae h_32
         exact cu
        ·refine ay rfl hc_33 wz (af (af (af (af (af (aa (vB false) (ah ?_)))))))
         obtain rfl:=ae h_32
         exact cu
       ·rintro ⟨⟩ _ sl_ H_ hp_ hq_
        refine aU _ hp_ hq_ ?_
        obtain ⟨v_34,h_35,hc_20⟩:=bind_some hc_20
        refine jD (β:=Nm) (λ(n_36:Nm)=>([(1,(vI zone_2)),(3,(.ref n_4 0 0)),(5,(.ref n_5 0 0)),(7,(gV n_36 2 v_34)),(9,(vI (w64 ((w64 ((w64 (wv_3.To+(w64 (zone_2*60000)))).tdiv 86400000))+1)))),(10,(vI s_16.2))]:SL_)) (λ(n_36:Nm)=>([(n_4,some (.cells 13 (Entry.v e_1))),(n_5,some (.cells 2 [(vI wv_3.From),(vI wv_3.To)])),(n_36,gB 2 Window.enc v_34),(n_30,some (.cells 2 [(vI r_28.From),(vI r_28.To)]))]:Hp)) (λ_=>True) ?_ ?_
        ·rcases ak h_35 with⟨hc_37,h_35⟩|⟨hc_37,h_35⟩
         ·refine aD rfl hc_37 (ax (aa (gV n_19 2 s_16.1) (aK 0 3 il ft uS Dw rfl rfl (.d (.agg (Window.enc r_28))) rfl wz (dw (([r_28]:List Window).map Window.enc) es75 ez75 rfl rfl rfl rfl rfl wz ?_))))
          obtain ⟨a_38,hz_39,h_35⟩:=bind_some h_35
          refine jX 0 il ft (i:=2) el75 el75 uS z79 rfl (by decide) by79 (by decide) (λ_=>rfl) rfl rfl rfl hz_39 wz (λn_40=>aa (gV n_40 2 a_38) (ah ?_))
          obtain rfl:=ae h_35
          exact bG n_40 trivial rfl (aN rfl)
         ·refine aF rfl hc_37 (aC ?_)
          obtain rfl:=ae h_35
          exact bG n_19 trivial rfl (aN rfl)
        ·rintro n_36 _ sl_ H_ hp_ hq_
         refine aU _ hp_ hq_ (ax (aa (vI s_16.2) (aa (vI (w64 (s_16.2+1))) (aa (vI (w64 (s_16.2+1))) (ah ?_)))))
         obtain rfl:=ae hc_20
         exact bK (k_11,(v_34,(w64 (s_16.2+1))),n_36) hL_21 (ls_ _) rfl (aN rfl)
     ·refine aF rfl hc_24 (bM ?_)
      obtain rfl:=ae hc_20
      obtain rfl:=ae hL_21
      exact bG ((s_16.1,s_16.2),n_19) rfl rfl (aN rfl)
   ·rintro ⟨s_16,n_19⟩ ho_ sl_ H_ hp_ hq_
    subst ho_
    refine aU _ hp_ hq_ (aj (aa (gV n_19 2 s_16.1) (aa (gV n_19 2 s_16.1) (ah ?_))))
    obtain rfl:=ae hF
    exact aB (GM (outs:=([]:List Box)) (.inr rfl) 2 rfl rfl rfl (by kernel_rfl) (by kernel_rfl))
theorem uz {e_1:Entry} {zone_2:Int} {wv_3:Window} {r:(List Window)×Int} (hF:jh e_1 zone_2 wv_3=some r) :
  FnM Tryz.prog 39 [(.d (.agg (Entry.enc e_1))),(vI zone_2),(.d (.agg (Window.enc wv_3)))] [] (.tup [(vL Window.enc r.1),(vI r.2)]) []:=by
 refine FnM.of_wH ⟨Tryz.prog,45,[],[]⟩ rfl Tryz.func39 rfl rfl (lb_ rfl) (by kernel_rfl) ?_
 unfold jh at hF
 refine aj (mo 0 (.inl rfl) (Entry.v e_1) rfl rfl wz (λn_4=>mo 0 (.inl rfl) [(vI wv_3.From),(vI wv_3.To)] rfl rfl wz (λn_5=>aa .nil (aa (vI 0) (ah (au (aj (aK 0 0 il ft iw lN rfl rfl (.d (.agg (Entry.enc e_1))) rfl wz (dw (([e_1]:List Entry).map Entry.enc) vF G7 rfl rfl rfl rfl rfl wz ?_)))))))))
 obtain ⟨r_6,hr_7,hF⟩:=bind_some hF
 refine aA (iA hr_7) rfl hb23 rfl rfl rfl rfl wz (aa (vI r_6) (ah (aj (aa (vI r_6) (aa (vB (r_6 != 0)) (ah ?_))))))
 rcases ak hF with⟨hc_8,hF⟩|⟨hc_8,hF⟩
 ·refine aD rfl hc_8 (aj (aa (vI r_6) (aa .nil (aa (vI r_6) (ah ?_)))))
  obtain rfl:=ae hF
  exact aB (aM [.nil,(vI r_6)] ⟨rfl,⟨rfl,trivial⟩⟩)
 ·refine aF rfl hc_8 (aC (au (aj (aa (vI zone_2) ?_))))
  obtain ⟨r_9,hr_10,hF⟩:=bind_some hF
  refine aA (dY hr_10) rfl zI rfl rfl rfl rfl wz (ah ?_)
  rcases ak hF with⟨hc_11,hF⟩|⟨hc_11,hF⟩
  ·refine aD rfl hc_11 (aj (aa .nil (aa (vI 1) (ah ?_))))
   obtain rfl:=ae hF
   exact aB (aM [.nil,(vI 1)] ⟨rfl,⟨rfl,trivial⟩⟩)
  ·refine aF rfl hc_11 (aC (au (aj (aK 0 1 il ft uS Dw rfl rfl (.d (.agg (Window.enc wv_3))) rfl wz ?_))))
   obtain ⟨r_12,hr_13,hF⟩:=bind_some hF
   refine aA (oK hr_13) rfl hb64 rfl rfl rfl rfl wz (aa (vI r_12) (ah (aj (aa (vI r_12) (aa (vB (r_12 != 0)) (ah ?_))))))
   rcases ak hF with⟨hc_14,hF⟩|⟨hc_14,hF⟩
   ·refine aD rfl hc_14 (aj (aa (vI r_12) (aa .nil (aa (vI r_12) (ah ?_)))))
    obtain rfl:=ae hF
    exact aB (aM [.nil,(vI r_12)] ⟨rfl,⟨rfl,trivial⟩⟩)
   ·refine aF rfl hc_14 (aC (aj (aK 0 0 il ft iw lN rfl rfl (.d (.agg (Entry.enc e_1))) rfl wz (aa (vI zone_2) (aK 0 1 il ft uS Dw rfl rfl (.d (.agg (Window.enc wv_3))) rfl wz ?_)))))
    obtain ⟨r_15,hr_16,hF⟩:=bind_some hF
    refine Bp [] (sG hr_16) rfl hb65 rfl (by kernel_rfl) (by kernel_rfl) (by kernel_rfl) (by kernel_rfl) (by kernel_rfl) rfl (by decide) (by kernel_rfl) wz ([(n_4,some (.cells 13 (Entry.v e_1))),(n_5,some (.cells 2 [(vI wv_3.From),(vI wv_3.To)]))]:Hp) (λ_=>by kernel_rfl) (λn_18=>aa (gV n_18 2 r_15) (ah (au (aj (aa (gV n_18 2 r_15) (Et un75 rfl wz (aa (vI 0) (ah ?_))))))))
    obtain ⟨o_27,hj_28,hF⟩:=bind_some hF
    obtain ⟨hn_23,hj_28⟩:=bI hj_28
    refine fH (λ(s_24:List Window)=>[(10,(gV n_18 2 s_24))]) (λ(s_24:List Window)=>[(n_4,some (.cells 13 (Entry.v e_1))),(n_5,some (.cells 2 [(vI wv_3.From),(vI wv_3.To)])),(n_18,gB 2 Window.enc s_24)]) (λ(k_19:Nat)=>(λ(s_24:List Window)=>[(5,(.ref n_5 0 0)),(10,(gV n_18 2 s_24)),(30,(gV n_18 2 s_24)),(31,(vI (r_15.length:Int))),(32,(vI (k_19:Int)))])) (λk x s=>jf wv_3 k x s) o_27 (List.range ((r_15.length:Int)).toNat) r_15 hj_28 rfl (aN rfl) ?_ ?_
    ·rintro ⟨k_19,l_20,s_24⟩ ⟨hL_26,hD_22⟩
     dsimp only at hL_26 hD_22
     cases l_20 with
     | nil =>
      obtain rfl:=ae hL_26
      refine aj (aa (vB (decide ((k_19:Int)<(r_15.length:Int)))) (ah ?_))
      refine au (aF rfl (vG hD_22) (bM ?_))
      exact bG (s_24) rfl rfl (aN rfl)
     | cons x_21 l_20 =>
      obtain ⟨c_,hc_25,hL_26⟩:=bind_some hL_26
      refine aj (aa (vB (decide ((k_19:Int)<(r_15.length:Int)))) (ah ?_))
      refine au (aD rfl (tq hD_22) (aC ?_))
      unfold jf at hc_25
      refine au (bg (aj (aa (vI (k_19:Int)) ?_)))
      obtain ⟨_,hi_29,hc_25⟩:=bind_some hc_25
      refine DN es75 rfl rfl (Ia hi_29) (Eb hi_29) wz ?_
      obtain ⟨e_30,hy_31,hc_25⟩:=bind_some hc_25
      refine DL 0 2 il ft uS Dw rfl rfl hy_31 (.d (.agg (Window.enc e_30))) rfl wz (gY 0 (.inl rfl) z79 rfl wz (λn_32=>aa (vI (k_19:Int)) (gK 0 il ft 3 uS rfl rfl [(vI e_30.From),(vI e_30.To)] rfl wz (ah (ax (aa (gV n_18 2 s_24) (aa (vI (k_19:Int)) (aK 0 3 il ft uS Dw rfl rfl (.d (.agg (Window.enc e_30))) rfl wz (aK 0 1 il ft uS Dw rfl rfl (.d (.agg (Window.enc wv_3))) rfl wz ?_)))))))))
      obtain ⟨r_33,hr_34,hc_25⟩:=bind_some hc_25
      refine aA (xI hr_34) rfl hb66 rfl rfl rfl rfl wz ?_
      obtain ⟨_,hi_35,hc_25⟩:=bind_some hc_25
      refine DN es75 rfl rfl (Ia hi_35) (Eb hi_35) wz ?_
      obtain ⟨e_36,hy_37,hc_25⟩:=bind_some hc_25
      refine l5 0 il ft 2 uS rfl rfl hy_37 r_33 rfl wz (jg (v':=(gV n_18 2 (s_24.set (0+((k_19:Int)).toNat) r_33))) 10 rfl (dH (by simp)) (jg (v':=(gV n_18 2 (s_24.set (0+((k_19:Int)).toNat) r_33))) 30 rfl (dH (by simp)) (jg (v':=(gV n_18 2 (s_24.set (0+((k_19:Int)).toNat) r_33))) 37 rfl (dH (by simp)) (ah (ax (gM (wF hD_22 hn_23) wz rfl (aa (vI ((k_19+1:Nat):Int)) (ah ?_))))))))
      obtain rfl:=ae hc_25
      exact bK (k_19+1,l_20,(s_24.set (0+((k_19:Int)).toNat) r_33)) ⟨hL_26,bv hD_22⟩ (ls_ _) rfl (aN rfl)
    ·rintro s_24 ho_ sl_ H_ hp_ hq_
     subst ho_
     refine aU _ hp_ hq_ (aj (aa (gV n_18 2 s_24) (aa (gV n_18 2 s_24) (aa (vI 0) (ah (gD 2 rfl (iK 6 2 rfl rfl (iK 10 2 rfl rfl (iK 44 2 rfl rfl ?_)))))))))
     obtain rfl:=ae hF
     exact aB (aM [(vL Window.enc s_24),(vI 0)] ⟨rfl,⟨rfl,trivial⟩⟩)
theorem Bg {r:Bool} (hF:mI  = some r) :
  FnM Tryz.prog 13 [] [] (vB r) []:=by
 refine FnM.of_wH ⟨Tryz.prog,23,[],[]⟩ rfl Tryz.func13 rfl rfl (lb_ rfl) (by kernel_rfl) ?_
 unfold mI at hF
 refine aj (aa (vB false) (ah (aj (aG (.agg [(vS (⟨#[97]⟩:ByteArray)),(vS (⟨#[98]⟩:ByteArray)),(vI 0),(vI 0),(vI 0),(vI 1),(vI 127),.nil,(vI 1),(vI 2),(vI 0),.nil,(vB false)]) wz (by kernel_rfl) (aG (.d (.agg (Window.enc (⟨0,86400000⟩:Window)))) wz (by kernel_rfl) ?_)))))
 obtain ⟨r_1,hr_2,hF⟩:=bind_some hF
 refine aA (uz hr_2) rfl hb39 rfl rfl rfl rfl wz (aa (.tup [(vL Window.enc r_1.1),(vI r_1.2)]) (aa (vL Window.enc r_1.1) (aa (vI r_1.2) (aa (vL Window.enc r_1.1) (aa (vI r_1.2) (ah (au ?_)))))))
 obtain ⟨v_3,h_4,hF⟩:=bind_some hF
 refine aW [(0,(vB v_3))] [] ?_ ?_
 ·refine ax (aa (vI r_1.2) (aa (vB (r_1.2==0)) ?_))
  rcases ak h_4 with⟨hc_5,h_4⟩|⟨hc_5,h_4⟩
  ·refine ay rfl hc_5 wz (aG (vL Window.enc r_1.1) wa rfl (dE un75 rfl wa (aG (vB ((r_1.1.length:Int)==1)) wa rfl (aa (vB ((r_1.1.length:Int)==1)) ?_))))
   rcases ak h_4 with⟨hc_6,h_4⟩|⟨hc_6,h_4⟩
   ·refine ay rfl hc_6 wz (aG (vL Window.enc r_1.1) wa rfl ?_)
    obtain ⟨y_7,hy_8,h_4⟩:=bind_some h_4
    refine dJ es75 rfl rfl hy_8 rfl wa (h_fac pR rfl [.int .i64 y_7.From,.int .i64 y_7.To] rfl rfl wa (bD sz3 ag3 rfl (vI y_7.From) rfl wa (aG (vB (y_7.From==60000)) wa rfl (aa (vB (y_7.From==60000)) (aa (vB (y_7.From==60000)) (ah ?_))))))
    obtain rfl:=ae h_4
    exact cu
   ·refine ay rfl hc_6 wz (af (af (af (af (af (aa (vB false) (aa (vB false) (ah ?_))))))))
    obtain rfl:=ae h_4
    exact cu
  ·refine ay rfl hc_5 wz (af (af (af (aa (vB false) (aa (vB false) (af (af (af (af (af (aa (vB false) (aa (vB false) (ah ?_)))))))))))))
   obtain rfl:=ae h_4
   exact cu
 ·rintro ⟨⟩ _ sl_ H_ hp_ hq_
  refine aU _ hp_ hq_ ?_
  obtain rfl:=ae hF
  exact aB (aM [(vB v_3)] ⟨rfl,trivial⟩)
theorem uU {l_1:(List Int)} {r:Bool} (hF:kG l_1=some r) :
  FnM Tryz.prog 3 [(vL eI l_1)] [] (vB r) []:=by
 refine FnM.of_wH ⟨Tryz.prog,72,[],[]⟩ rfl Tryz.func3 rfl rfl (lb_ rfl) (by kernel_rfl) ?_
 unfold kG at hF
 refine aj (aa (vB false) (ah (aj (aa (vL eI l_1) (aG (.d (.agg (Stream.enc (⟨l_1,0⟩:Stream)))) wz (by kernel_rfl) (mo 0 (.inl rfl) [(vL eI l_1),(vI 0)] rfl rfl wz (λn_2=>aa (.ref n_2 0 0) (ah (aj (aa (.ref n_2 0 0) ?_))))))))))
 obtain ⟨r_3,hr_4,hF⟩:=bind_some hF
 refine aQ 0 [0] il ft (qQ hr_4) rfl hb4 rfl (by kernel_rfl) (by kernel_rfl) (by kernel_rfl) (by kernel_rfl) (by kernel_rfl) (by kernel_rfl) (by kernel_rfl) (by decide) (by kernel_rfl) wz (vL Entry.enc r_3.1) (by kernel_rfl) ([(n_2,some (.cells 2 [(vL eI r_3.2.L),(vI r_3.2.f_at)]))]:Hp) (by kernel_rfl) (aa (.ref n_2 0 0) ?_)
 obtain ⟨r_6,hr_7,hF⟩:=bind_some hF
 refine aQ 0 [0] il ft (pQ hr_7) rfl hb5 rfl (by kernel_rfl) (by kernel_rfl) (by kernel_rfl) (by kernel_rfl) (by kernel_rfl) (by kernel_rfl) (by kernel_rfl) (by decide) (by kernel_rfl) wz (vS r_6.1) (by kernel_rfl) ([(n_2,some (.cells 2 [(vL eI r_6.2.L),(vI r_6.2.f_at)]))]:Hp) (by kernel_rfl) (aa (vL Entry.enc r_3.1) (aa (vS r_6.1) (ah (aj (aa (vL Entry.enc r_3.1) ?_)))))
 obtain ⟨r_9,hr_10,hF⟩:=bind_some hF
 refine aA (vH hr_10) rfl hb6 rfl rfl rfl rfl wz (aa (.tup [(vS r_9.1),(vI r_9.2)]) (aa (vS r_9.1) (aa (vI r_9.2) (aa (vS r_9.1) (aa (vI r_9.2) (ah (aj (aa (vL Entry.enc r_3.1) ?_))))))))
 obtain ⟨r_11,hr_12,hF⟩:=bind_some hF
 refine aA (mf hr_12) rfl hb7 rfl rfl rfl rfl wz (aa (vI r_11) (aa (vS (⟨#[]⟩:ByteArray)) (ah (au (aj (aa (vI r_11) (aa (vB (r_11==0)) (ah ?_))))))))
 obtain ⟨v_13,h_14,hF⟩:=bind_some hF
 refine aW [(5,(vS r_6.1)),(6,(vS r_9.1)),(7,(vI r_9.2)),(8,(vI r_11)),(9,(vS v_13))] [(n_2,some (.cells 2 [(vL eI r_6.2.L),(vI r_6.2.f_at)]))] ?_ ?_
 ·rcases ak h_14 with⟨hc_15,h_14⟩|⟨hc_15,h_14⟩
  ·refine aD rfl hc_15 (ax (aa (vL Entry.enc r_3.1) ?_))
   obtain ⟨r_16,hr_17,h_14⟩:=bind_some h_14
   refine aA (nU hr_17) rfl hb8 rfl rfl rfl rfl wz (aa (vS r_16) (ah ?_))
   obtain rfl:=ae h_14
   exact cu
  ·refine aF rfl hc_15 (aC ?_)
   obtain rfl:=ae h_14
   exact cu
 ·rintro ⟨⟩ _ sl_ H_ hp_ hq_
  refine aU _ hp_ hq_ (aj (aa (vS r_6.1) ?_))
  obtain ⟨r_18,hr_19,hF⟩:=bind_some hF
  refine aA (vE hr_19) rfl hb9 rfl rfl rfl rfl wz (aa (.tup [(vL Entry.enc r_18.1),(vI r_18.2.1),(vI r_18.2.2)]) (aa (vL Entry.enc r_18.1) (aa (vI r_18.2.1) (aa (vI r_18.2.2) (aa (vL Entry.enc r_18.1) (aa (vI r_18.2.1) (aa (vI r_18.2.2) (ah (aj (aa (vS r_6.1) ?_))))))))))
  obtain ⟨r_20,hr_21,hF⟩:=bind_some hF
  refine aA (sK hr_21) rfl hb10 rfl rfl rfl rfl wz (aa (.tup [(vL Entry.enc r_20.1),(vI r_20.2.1),(vI r_20.2.2)]) (aa (vL Entry.enc r_20.1) (aa (vI r_20.2.1) (aa (vI r_20.2.2) (aa (vL Entry.enc r_20.1) (aa (vI r_20.2.1) (aa (vI r_20.2.2) (ah (au ?_)))))))))
  obtain ⟨v_22,h_23,hF⟩:=bind_some hF
  refine aW [(2,(vB v_22))] [(n_2,some (.cells 2 [(vL eI r_6.2.L),(vI r_6.2.f_at)]))] ?_ ?_
  ·refine ax (aa (vI r_9.2) (aa (vI r_11) (aa (vB (r_9.2==r_11)) ?_)))
   rcases ak h_23 with⟨hc_24,h_23⟩|⟨hc_24,h_23⟩
   ·refine ay rfl hc_24 wz (aG (vS r_9.1) wa rfl (aG (vS v_13) wa rfl (aG (vB (sEq r_9.1 v_13)) wa rfl (aa (vB (sEq r_9.1 v_13)) ?_))))
    rcases ak h_23 with⟨hc_25,h_23⟩|⟨hc_25,h_23⟩
    ·refine ay rfl hc_25 wz (aG (vL Entry.enc r_18.1) wa rfl (aG (vL Entry.enc r_20.1) wa rfl ?_))
     obtain ⟨r_26,hr_27,h_23⟩:=bind_some h_23
     refine aA (eP hr_27) rfl hb11 rfl rfl rfl rfl wa (aa (vB r_26) ?_)
     rcases ak h_23 with⟨hc_28,h_23⟩|⟨hc_28,h_23⟩
     ·refine ay rfl hc_28 wz (aG (vI r_18.2.1) wa rfl (aG (vI r_20.2.1) wa rfl (aG (vB (r_18.2.1==r_20.2.1)) wa rfl (aa (vB (r_18.2.1==r_20.2.1)) ?_))))
      rcases ak h_23 with⟨hc_29,h_23⟩|⟨hc_29,h_23⟩
      ·refine ay rfl hc_29 wz (aG (vI r_18.2.2) wa rfl (aG (vI r_20.2.2) wa rfl (aG (vB (r_18.2.2==r_20.2.2)) wa rfl (aa (vB (r_18.2.2==r_20.2.2)) ?_))))
       rcases ak h_23 with⟨hc_30,h_23⟩|⟨hc_30,h_23⟩
       ·refine ay rfl hc_30 wz ?_
        obtain ⟨r_31,hr_32,h_23⟩:=bind_some h_23
        refine aA (Bg hr_32) rfl hb13 rfl rfl rfl rfl wa (aa (vB r_31) (aa (vB r_31) (ah ?_)))
        obtain rfl:=ae h_23
        exact cu
       ·refine ay rfl hc_30 wz (af (aa (vB false) (aa (vB false) (ah ?_))))
        obtain rfl:=ae h_23
        exact cu
      ·refine ay rfl hc_29 wz (af (af (af (aa (vB false) (aa (vB false) (af (aa (vB false) (aa (vB false) (ah ?_)))))))))
       obtain rfl:=ae h_23
       exact cu
     ·refine ay rfl hc_28 wz (af (af (af (aa (vB false) (aa (vB false) (af (af (af (aa (vB false) (aa (vB false) (af (aa (vB false) (aa (vB false) (ah ?_))))))))))))))
      obtain rfl:=ae h_23
      exact cu
    ·refine ay rfl hc_25 wz (af (af (af (aa (vB false) (aa (vB false) (af (af (af (aa (vB false) (aa (vB false) (af (af (af (aa (vB false) (aa (vB false) (af (aa (vB false) (aa (vB false) (ah ?_)))))))))))))))))))
     obtain rfl:=ae h_23
     exact cu
   ·refine ay rfl hc_24 wz (af (af (af (aa (vB false) (aa (vB false) (af (af (af (aa (vB false) (aa (vB false) (af (af (af (aa (vB false) (aa (vB false) (af (af (af (aa (vB false) (aa (vB false) (af (aa (vB false) (aa (vB false) ?_)))))))))))))))))))))))
    refine ah ?_
    obtain rfl:=ae h_23
    exact cu
  ·rintro ⟨⟩ _ sl_ H_ hp_ hq_
   refine aU _ hp_ hq_ ?_
   obtain rfl:=ae hF
   exact aB (aM [(vB v_22)] ⟨rfl,trivial⟩)
end Go.Proofs.YtigdobmllbakiabGreatDoor.Law

