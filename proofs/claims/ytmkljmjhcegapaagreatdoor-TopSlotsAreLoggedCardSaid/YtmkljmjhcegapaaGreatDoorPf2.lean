/-
 The machine computes these plain functions (written by a program of ours).
-/
import Derived.Test.YtmkljmjhcegapaaGreatDoorFacts
import Derived.Test.YtmkljmjhcegapaaGreatDoorDefs
import Derived.Test.YtmkljmjhcegapaaGreatDoorPf1
import Derived.Test.YtmkljmjhcegapaaGreatDoorShelf
open Go Go.Eng Go.Proofs
namespace Go.Proofs.YtmkljmjhcegapaaGreatDoor.Law
set_option maxRecDepth 100000
set_option linter.unusedVariables false
set_option maxHeartbeats 1000000
theorem qc {x_1:(List Int)} {target_2:Int} {r:Int×Bool} (hF:dE x_1 target_2=some r) :
  FnM Tryz.prog 143 [(vL eI x_1),(vI target_2)] [] (.tup [(vI r.1),(vB r.2)]) []:=by
 refine FnM.of_wH ⟨Tryz.prog,54,[],[]⟩ rfl Tryz.func143 rfl rfl (lb_ rfl) (by kernel_rfl) ?_
 unfold dE at hF
 refine aj (aa (vI 0) (aa (vB false) (af (aj (aa (vL eI x_1) (dx w9 rfl wz (aa (vI (x_1.length:Int)) (af (aj (aa (vI (x_1.length:Int)) (aa (vI 0) (aa (vI (x_1.length:Int)) (af (au ?_))))))))))))))
 obtain ⟨o_11,hj_12,hF⟩:=bind_some hF
 obtain ⟨nq_34,hj_12⟩:=cK hj_12
 refine fo (λ(s_8:Int×Int)=>[(0,(vL eI x_1)),(1,(vI target_2)),(6,(vI (x_1.length:Int))),(7,(vI s_8.1))]) (λ(s_8:Int×Int)=>[]) (λ(k_3:Nat)=>(λ(s_8:Int×Int)=>[(0,(vL eI x_1)),(1,(vI target_2)),(6,(vI (x_1.length:Int))),(7,(vI s_8.1)),(8,(vI s_8.2))])) (λs=>bv x_1 target_2 s) o_11 nq_34 (0,(x_1.length:Int)) hj_12 rfl (aK rfl) ?_ ?_
 ·rintro ⟨k_3,s_8⟩ hL_10
  dsimp only at hL_10
  cases k_3 with
  | zero=>cases hL_10
  | succ k_3 =>
   obtain ⟨c_,hc_9,hL_10⟩:=bind_some hL_10
   unfold bv at hc_9
   refine au (aj (aa (vI s_8.1) (aa (vI s_8.2) (aa (vB (decide (s_8.1<s_8.2))) (af ?_)))))
   rcases ak hc_9 with⟨hc_13,hc_9⟩|⟨hc_13,hc_9⟩
   ·refine aA rfl hc_13 (ax (aQ (aj (aa (vI s_8.1) (aa (vI s_8.2) (aa (vI (w64 (s_8.1+s_8.2))) (oZ un3 CW rfl wz ?_)))))))
    obtain ⟨q_14,hz_15,hc_9⟩:=bind_some hc_9
    refine Im rfl rfl hz_15 wz (oZ CW un3 rfl wz (aa (vI (w64 q_14)) (af (aj (aa (vL eI x_1) (aa (vI (w64 q_14)) ?_))))))
    obtain ⟨y_16,hy_17,hc_9⟩:=bind_some hc_9
    refine dW lC rfl rfl hy_17 rfl wz (bK sz3 ag3 rfl (vI y_16) rfl wz (aa (vI target_2) ?_))
    obtain ⟨r_18,hr_19,hc_9⟩:=bind_some hc_9
    refine aC (DJ hr_19) rfl hb92 rfl rfl rfl rfl wz (af ?_)
    rcases ak hc_9 with⟨hc_20,hc_9⟩|⟨hc_20,hc_9⟩
    ·refine aA rfl hc_20 (av (aa (vI (w64 q_14)) (aa (vI (w64 ((w64 q_14)+1))) (aa (vI (w64 ((w64 q_14)+1))) (af ?_)))))
     obtain rfl:=ae hc_9
     exact aY (k_3,((w64 ((w64 q_14)+1)),s_8.2)) hL_10 (ls_ _) rfl (aK rfl)
    ·refine ay rfl hc_20 (av (aa (vI (w64 q_14)) (aa (vI (w64 q_14)) (af ?_))))
     obtain rfl:=ae hc_9
     exact aY (k_3,(s_8.1,(w64 q_14))) hL_10 (ls_ _) rfl (aK rfl)
   ·refine ay rfl hc_13 (aX ?_)
    obtain rfl:=ae hc_9
    obtain rfl:=ae hL_10
    exact aV ((s_8.1,s_8.2)) rfl rfl (aK rfl)
 ·rintro s_8 ho_ sl_ H_ hp_ hq_
  subst ho_
  refine aO _ hp_ hq_ (au ?_)
  obtain ⟨v_21,h_22,hF⟩:=bind_some hF
  refine aS [(4,(vI s_8.1)),(5,(vB v_21))] [] ?_ ?_
  ·refine av (aa (vI s_8.1) (aa (vI s_8.1) (aa (vI (x_1.length:Int)) (aa (vB (decide (s_8.1<(x_1.length:Int)))) ?_))))
   rcases ak h_22 with⟨hc_23,h_22⟩|⟨hc_23,h_22⟩
   ·refine aI rfl hc_23 wz (aM (vL eI x_1) wa rfl (aM (vI s_8.1) wa rfl ?_))
    obtain ⟨y_24,hy_25,h_22⟩:=bind_some h_22
    refine dW lC rfl rfl hy_25 rfl wa (bK sz3 ag3 rfl (vI y_24) rfl wa (aM (vI target_2) wa rfl (aM (vB (y_24==target_2)) wa rfl ?_)))
    rcases ak h_22 with⟨hc_26,h_22⟩|⟨hc_26,h_22⟩
    ·refine aI rfl hc_26 wa (ah (ah (ah (ah (ah (ah (dA (wn rfl rfl) (dA (wn rfl rfl) (ah (aM (vB true) wa rfl (aa (vB true) (aa (vI s_8.1) (aa (vB true) (af ?_))))))))))))))
     obtain rfl:=ae h_22
     exact cu
    ·refine aI rfl hc_26 wa (aM (vL eI x_1) wa rfl (aM (vI s_8.1) wa rfl ?_))
     obtain ⟨y_27,hy_28,h_22⟩:=bind_some h_22
     refine dW lC rfl rfl hy_28 rfl wa (bK sz3 ag3 rfl (vI y_27) rfl wa ?_)
     obtain ⟨r_29,hr_30,h_22⟩:=bind_some h_22
     refine aC (rG hr_30) rfl hb168 rfl rfl rfl rfl wa ?_
     rcases ak h_22 with⟨hc_31,h_22⟩|⟨hc_31,h_22⟩
     ·refine aI rfl hc_31 wa (aM (vI target_2) wa rfl ?_)
      obtain ⟨r_32,hr_33,h_22⟩:=bind_some h_22
      refine aC (rG hr_33) rfl hb168 rfl rfl rfl rfl wa (aM (vB r_32) wa rfl (aM (vB r_32) wa rfl (aa (vB r_32) (aa (vI s_8.1) (aa (vB r_32) (af ?_))))))
      obtain rfl:=ae h_22
      exact cu
     ·refine aI rfl hc_31 wa (ah (ah (aM (vB false) wa rfl (aM (vB false) wa rfl (aa (vB false) (aa (vI s_8.1) (aa (vB false) (af ?_))))))))
      obtain rfl:=ae h_22
      exact cu
   ·refine aI rfl hc_23 wz (ah (ah (ah (ah (ah (ah (ah (dA (wn rfl rfl) (dA (wn rfl rfl) (dA (wn rfl rfl) (dA (wn rfl rfl) (dA (wn rfl rfl) (dA (wn rfl rfl) (dA (wn rfl rfl) (dA (wn rfl rfl) (dA (wn rfl rfl) (ah (aa (vB false) (aa (vI s_8.1) (aa (vB false) (af ?_)))))))))))))))))))))
    obtain rfl:=ae h_22
    exact cu
  ·rintro ⟨⟩ _ sl_ H_ hp_ hq_
   refine aO _ hp_ hq_ ?_
   obtain rfl:=ae hF
   exact aH (aN [(vI s_8.1),(vB v_21)] ⟨rfl,⟨rfl,trivial⟩⟩)
theorem uC {e_1:Entry} {d_2:Int} {r:Bool} (hF:jQ e_1 d_2=some r) :
  FnM Tryz.prog 104 [(.d (.agg (Entry.enc e_1))),(vI d_2)] [] (vB r) []:=by
 refine FnM.of_wH ⟨Tryz.prog,41,[],[]⟩ rfl Tryz.func104 rfl rfl (lb_ rfl) (by kernel_rfl) ?_
 unfold jQ at hF
 refine aj (d9 0 (.inl rfl) (Entry.v e_1) rfl rfl wz (λn_3=>aa (vB false) (af (au (au ?_)))))
 obtain ⟨v_4,h_5,hF⟩:=bind_some hF
 refine aS [(1,(vI d_2)),(2,(.ref n_3 0 0)),(31,(vB v_4))] [(n_3,some (.cells 13 (Entry.v e_1)))] ?_ ?_
 ·refine bE (aa (vI d_2) (aJ Cw rfl 3 rfl wz (aB 2 0 (.inr (by kernel_rfl)) (λ_ _ ag=>trivial) sz3 ag3 rfl rfl (vI e_1.First) rfl wz (aJ Ce rfl 4 rfl wz (aB 4 0 (.inr (by kernel_rfl)) (λ_ _ ag=>⟨.inl ⟨rfl,rfl⟩,trivial⟩) sz3 ag3 rfl rfl (vI e_1.Last) rfl wz ?_)))))
  obtain ⟨r_6,hr_7,h_5⟩:=bind_some h_5
  refine aC (bD hr_7) rfl rT rfl rfl rfl rfl wz ?_
  rcases ak h_5 with⟨hc_8,h_5⟩|⟨hc_8,h_5⟩
  ·refine aI rfl hc_8 wz (ah (ah (ah (ah (ah (ah (ah (ah (aa (vB true) (aa (vB true) (ah (ah (ah (ah (ah (ah (ah (aa (vB true) (af ?_)))))))))))))))))))
   obtain rfl:=ae h_5
   exact cu
  ·refine aI rfl hc_8 wz (aM (vI d_2) wa rfl (aJ Cw rfl 3 rfl wa (aB 9 0 (.inr (by kernel_rfl)) (λ_ _ ag=>⟨.inl ⟨rfl,rfl⟩,⟨.inl ⟨rfl,rfl⟩,trivial⟩⟩) sz3 ag3 rfl rfl (vI e_1.First) rfl wa (aM (vI (w64 (d_2-e_1.First))) wa rfl (aJ Qb rfl 5 rfl wa (aB 12 0 (.inr (by kernel_rfl)) (λ_ _ ag=>⟨.inl ⟨rfl,rfl⟩,⟨.inl ⟨rfl,rfl⟩,⟨.inl ⟨rfl,rfl⟩,trivial⟩⟩⟩) sz3 ag3 rfl rfl (vI e_1.Every) rfl wa ?_))))))
   obtain ⟨q_9,hz_10,h_5⟩:=bind_some h_5
   refine Q7 rfl rfl hz_10 wa (aM (vB (q_9 != 0)) wa rfl (aa (vB (q_9 != 0)) ?_))
   rcases ak h_5 with⟨hc_11,h_5⟩|⟨hc_11,h_5⟩
   ·refine aI rfl hc_11 wz (ah (ah (ah (ah (ah (ah (ah (aa (vB true) (af ?_)))))))))
    obtain rfl:=ae h_5
    exact cu
   ·refine aI rfl hc_11 wz (aJ QG rfl 6 rfl wa (aB 18 0 (.inr (by kernel_rfl)) (λ_ _ ag=>⟨.inl ⟨rfl,rfl⟩,⟨.inl ⟨rfl,rfl⟩,⟨.inl ⟨rfl,rfl⟩,⟨.inl ⟨rfl,rfl⟩,trivial⟩⟩⟩⟩) sz3 ag3 rfl rfl (vI e_1.Days) rfl wa (aM (vI d_2) wa rfl (aM (vI (d_2.tmod 7)) wa rfl ?_))))
    obtain ⟨q_12,hz_13,h_5⟩:=bind_some h_5
    refine h_shl rfl rfl hz_13 wa (aM (vI (vM .i64 e_1.Days q_12)) wa rfl (aM (vB ((vM .i64 e_1.Days q_12)==0)) wa rfl (aa (vB ((vM .i64 e_1.Days q_12)==0)) (af ?_))))
    obtain rfl:=ae h_5
    exact cu
 ·rintro ⟨⟩ _ sl_ H_ hp_ hq_
  refine aO _ hp_ hq_ ?_
  rcases ak hF with⟨hc_14,hF⟩|⟨hc_14,hF⟩
  ·refine aA rfl hc_14 (aj (aa (vB false) (af ?_)))
   obtain rfl:=ae hF
   exact aH (aN [(vB false)] ⟨rfl,trivial⟩)
  ·refine ay rfl hc_14 (ax (aj (aJ Jn rfl 7 rfl wz (aB 0 0 il ft Aa CK rfl rfl (vL eI e_1.Except) rfl wz (aa (vI d_2) ?_)))))
   obtain ⟨r_15,hr_16,hF⟩:=bind_some hF
   refine aC (qc hr_16) rfl hb143 rfl rfl rfl rfl wz (aa (.tup [(vI r_15.1),(vB r_15.2)]) (aa (vI r_15.1) (aa (vB r_15.2) (aa (vI r_15.1) (aa (vB r_15.2) (af (aj (aa (vB r_15.2) (aa (vB (!r_15.2)) (aa (vB (!r_15.2)) (af ?_)))))))))))
   obtain rfl:=ae hF
   exact aH (aN [(vB (!r_15.2))] ⟨rfl,trivial⟩)
theorem sN {e_1:Entry} {zone_2:Int} {d_3:Int} {r:Window} (hF:kv e_1 zone_2 d_3=some r) :
  FnM Tryz.prog 105 [(.d (.agg (Entry.enc e_1))),(vI zone_2),(vI d_3)] [] (.d (.agg (Window.enc r))) []:=by
 refine FnM.of_wH ⟨Tryz.prog,32,[],[]⟩ rfl Tryz.func105 rfl rfl (lb_ rfl) (by kernel_rfl) ?_
 unfold kv at hF
 refine aj (d9 0 (.inl rfl) (Entry.v e_1) rfl rfl wz (λn_4=>dC 0 (.inl rfl) z33 rfl wz (λn_5=>af (aj (aJ Qi rfl 9 rfl wz (aB 0 0 il ft sz3 ag3 rfl rfl (vI e_1.To) rfl wz (aJ Mk rfl 8 rfl wz (aB 0 0 il ft sz3 ag3 rfl rfl (vI e_1.From) rfl wz (aa (vI (w64 (e_1.To-e_1.From))) (aa (vI (w64 (e_1.To-e_1.From))) (af (au (aj (aa (vI (w64 (e_1.To-e_1.From))) (aa (vB (decide ((w64 (e_1.To-e_1.From))<=0))) (af ?_))))))))))))))))
 obtain ⟨v_6,h_7,hF⟩:=bind_some hF
 refine aS [(1,(vI zone_2)),(2,(vI d_3)),(3,(.ref n_4 0 0)),(6,(.ref n_5 0 0)),(7,(vI v_6))] [(n_4,some (.cells 13 (Entry.v e_1))),(n_5,some (.cells 2 [(vI 0),(vI 0)]))] ?_ ?_
 ·rcases ak h_7 with⟨hc_8,h_7⟩|⟨hc_8,h_7⟩
  ·refine aA rfl hc_8 (av (aa (vI (w64 (e_1.To-e_1.From))) (aa (vI (w64 ((w64 (e_1.To-e_1.From))+1440))) (aa (vI (w64 ((w64 (e_1.To-e_1.From))+1440))) (af ?_)))))
   obtain rfl:=ae h_7
   exact cu
  ·refine ay rfl hc_8 (ax ?_)
   obtain rfl:=ae h_7
   exact cu
 ·rintro ⟨⟩ _ sl_ H_ hp_ hq_
  refine aO _ hp_ hq_ (aj (aa (vI d_3) (aa (vI (w64 (d_3*1440))) (aJ Mk rfl 8 rfl wz (aB 0 0 il ft sz3 ag3 rfl rfl (vI e_1.From) rfl wz (aa (vI (w64 ((w64 (d_3*1440))+e_1.From))) (aa (vI zone_2) (aa (vI (w64 ((w64 ((w64 (d_3*1440))+e_1.From))-zone_2))) (aa (vI (w64 ((w64 ((w64 ((w64 (d_3*1440))+e_1.From))-zone_2))*60000))) (aa (vI (w64 ((w64 ((w64 ((w64 (d_3*1440))+e_1.From))-zone_2))*60000))) (af (aj (aa (vI (w64 ((w64 ((w64 ((w64 (d_3*1440))+e_1.From))-zone_2))*60000))) (aa (vI (w64 ((w64 ((w64 ((w64 (d_3*1440))+e_1.From))-zone_2))*60000))) (aa (vI v_6) (aa (vI (w64 (v_6*60000))) (aa (vI (w64 ((w64 ((w64 ((w64 ((w64 (d_3*1440))+e_1.From))-zone_2))*60000))+(w64 (v_6*60000))))) (aM (.d (.agg (Window.enc (⟨(w64 ((w64 ((w64 ((w64 (d_3*1440))+e_1.From))-zone_2))*60000)),(w64 ((w64 ((w64 ((w64 ((w64 (d_3*1440))+e_1.From))-zone_2))*60000))+(w64 (v_6*60000))))⟩:Window)))) wz (by kernel_rfl) (fA 0 il ft 1 jZ rfl rfl [(vI (w64 ((w64 ((w64 ((w64 (d_3*1440))+e_1.From))-zone_2))*60000))),(vI (w64 ((w64 ((w64 ((w64 ((w64 (d_3*1440))+e_1.From))-zone_2))*60000))+(w64 (v_6*60000)))))] rfl wz (af ?_))))))))))))))))))))
  obtain rfl:=ae hF
  exact aH (aN [(.d (.agg (Window.enc (⟨(w64 ((w64 ((w64 ((w64 (d_3*1440))+e_1.From))-zone_2))*60000)),(w64 ((w64 ((w64 ((w64 ((w64 (d_3*1440))+e_1.From))-zone_2))*60000))+(w64 (v_6*60000))))⟩:Window))))] ⟨⟨1,_,_,_,_,_,_,_,rfl,rfl,jZ,nX,rfl⟩,trivial⟩)
theorem uz {e_1:Entry} {zone_2:Int} {wv_3:Window} {r:(List Window)} (hF:gQ e_1 zone_2 wv_3=some r) :
  FnM Tryz.prog 70 [(.d (.agg (Entry.enc e_1))),(vI zone_2),(.d (.agg (Window.enc wv_3)))] [] (vL Window.enc r) []:=by
 refine FnM.of_wH ⟨Tryz.prog,72,[],[]⟩ rfl Tryz.func70 rfl rfl (lb_ rfl) (by kernel_rfl) ?_
 unfold gQ at hF
 refine aj (d9 0 (.inl rfl) (Entry.v e_1) rfl rfl wz (λn_4=>d9 0 (.inl rfl) [(vI wv_3.From),(vI wv_3.To)] rfl rfl wz (λn_5=>aa .nil (af (aj (aa .nil (af (au (au ?_)))))))))
 obtain ⟨v_6,h_7,hF⟩:=bind_some hF
 refine aS [(1,(vI zone_2)),(3,(.ref n_4 0 0)),(5,(.ref n_5 0 0)),(7,.nil),(20,(vB v_6))] [(n_4,some (.cells 13 (Entry.v e_1))),(n_5,some (.cells 2 [(vI wv_3.From),(vI wv_3.To)]))] ?_ ?_
 ·refine av (aJ Nj rfl 12 rfl wz (aB 0 0 il ft sz4 ag4 rfl rfl (vB e_1.Gone) rfl wz ?_))
  rcases ak h_7 with⟨hc_8,h_7⟩|⟨hc_8,h_7⟩
  ·refine aI rfl hc_8 wz (ah (ah (ah (ah (ah (aa (vB true) (af ?_)))))))
   obtain rfl:=ae h_7
   exact cu
  ·refine aI rfl hc_8 wz (aJ iI rfl 0 rfl wa (aB 0 1 il ft sz3 ag3 rfl rfl (vI wv_3.From) rfl wa (aJ iK rfl 1 rfl wa (aB 0 1 il ft sz3 ag3 rfl rfl (vI wv_3.To) rfl wa (aM (vB (decide (wv_3.From>=wv_3.To))) wa rfl (aa (vB (decide (wv_3.From>=wv_3.To))) (af ?_)))))))
   obtain rfl:=ae h_7
   exact cu
 ·rintro ⟨⟩ _ sl_ H_ hp_ hq_
  refine aO _ hp_ hq_ ?_
  rcases ak hF with⟨hc_9,hF⟩|⟨hc_9,hF⟩
  ·refine aA rfl hc_9 (aj (aa .nil (af ?_)))
   obtain rfl:=ae hF
   exact aH (aN [.nil] ⟨rfl,trivial⟩)
  ·refine ay rfl hc_9 (ax (aj (aJ iI rfl 0 rfl wz (aB 0 1 il ft sz3 ag3 rfl rfl (vI wv_3.From) rfl wz (aa (vI zone_2) (aa (vI (w64 (zone_2*60000))) (aa (vI (w64 (wv_3.From+(w64 (zone_2*60000))))) (aa (vI (w64 ((w64 (wv_3.From+(w64 (zone_2*60000)))).tdiv 86400000))) (aa (vI (w64 ((w64 ((w64 (wv_3.From+(w64 (zone_2*60000)))).tdiv 86400000))-2))) (aa (vI (w64 ((w64 ((w64 (wv_3.From+(w64 (zone_2*60000)))).tdiv 86400000))-2))) (af (aj (aJ iK rfl 1 rfl wz (aB 0 1 il ft sz3 ag3 rfl rfl (vI wv_3.To) rfl wz (aa (vI zone_2) (aa (vI (w64 (zone_2*60000))) (aa (vI (w64 (wv_3.To+(w64 (zone_2*60000))))) (aa (vI (w64 ((w64 (wv_3.To+(w64 (zone_2*60000)))).tdiv 86400000))) (aa (vI (w64 ((w64 ((w64 (wv_3.To+(w64 (zone_2*60000)))).tdiv 86400000))+1))) (aa (vI (w64 ((w64 ((w64 (wv_3.To+(w64 (zone_2*60000)))).tdiv 86400000))+1))) (af (au (aj ?_)))))))))))))))))))))))
   refine aa (vI (w64 ((w64 ((w64 (wv_3.From+(w64 (zone_2*60000)))).tdiv 86400000))-2))) (aJ Cw rfl 3 rfl wz (aB 0 0 il ft sz3 ag3 rfl rfl (vI e_1.First) rfl wz (ni (vI (fZ (w64 ((w64 ((w64 (wv_3.From+(w64 (zone_2*60000)))).tdiv 86400000))-2)) e_1.First)) rfl (.inr rfl) wz (aa (vI (fZ (w64 ((w64 ((w64 (wv_3.From+(w64 (zone_2*60000)))).tdiv 86400000))-2)) e_1.First)) (af (jH (λn_16 => ?_)))))))
   obtain ⟨o_21,hj_22,hF⟩:=bind_some hF
   obtain ⟨nq_40,hj_22⟩:=cK hj_22
   refine sV (σ:=(List Window)×Int) (N:=Nm) (λp=>(λ(s_15:(List Window)×Int) (n_18:Nm)=>([(7,(gV n_18 2 s_15.1))]:SL_)) p.1 p.2) (λp=>(λ(s_15:(List Window)×Int) (n_18:Nm)=>([(n_4,some (.cells 13 (Entry.v e_1))),(n_5,some (.cells 2 [(vI wv_3.From),(vI wv_3.To)])),(n_18,gB 2 Window.enc s_15.1)]:Hp)) p.1 p.2) (λ(k_10:Nat)=>(λp=>(λ(s_15:(List Window)×Int) (n_18:Nm)=>([(1,(vI zone_2)),(3,(.ref n_4 0 0)),(5,(.ref n_5 0 0)),(7,(gV n_18 2 s_15.1)),(9,(vI (w64 ((w64 ((w64 (wv_3.To+(w64 (zone_2*60000)))).tdiv 86400000))+1)))),(10,(vI s_15.2))]:SL_)) p.1 p.2)) (λs=>eB wv_3 zone_2 e_1 s) o_21 nq_40 ((([]:List Window),(fZ (w64 ((w64 ((w64 (wv_3.From+(w64 (zone_2*60000)))).tdiv 86400000))-2)) e_1.First)),n_16) hj_22 rfl (aK rfl) ?_ ?_
   ·rintro ⟨k_10,s_15,n_18⟩ hL_20
    dsimp only at hL_20
    cases k_10 with
    | zero=>cases hL_20
    | succ k_10 =>
     obtain ⟨c_,hc_19,hL_20⟩:=bind_some hL_20
     unfold eB at hc_19
     refine au (aj (aa (vI s_15.2) (aa (vI (w64 ((w64 ((w64 (wv_3.To+(w64 (zone_2*60000)))).tdiv 86400000))+1))) (aJ Ce rfl 4 rfl wz (aB 0 0 il ft sz3 ag3 rfl rfl (vI e_1.Last) rfl wz (ni (vI (nP (w64 ((w64 ((w64 (wv_3.To+(w64 (zone_2*60000)))).tdiv 86400000))+1)) e_1.Last)) rfl (.inl rfl) wz (aa (vB (decide (s_15.2<=(nP (w64 ((w64 ((w64 (wv_3.To+(w64 (zone_2*60000)))).tdiv 86400000))+1)) e_1.Last)))) (af ?_))))))))
     rcases ak hc_19 with⟨hc_23,hc_19⟩|⟨hc_23,hc_19⟩
     ·refine aA rfl hc_23 (ax (au (aQ (au (aj (aB 0 0 il ft zh CR rfl rfl (.d (.agg (Entry.enc e_1))) rfl wz (aa (vI s_15.2) ?_)))))))
      obtain ⟨r_24,hr_25,hc_19⟩:=bind_some hc_19
      refine aC (uC hr_25) rfl hb104 rfl rfl rfl rfl wz (aa (vB (!r_24)) (af ?_))
      rcases ak hc_19 with⟨hc_26,hc_19⟩|⟨hc_26,hc_19⟩
      ·refine aA rfl hc_26 (aX (av (aa (vI s_15.2) (aa (vI (w64 (s_15.2+1))) (aa (vI (w64 (s_15.2+1))) (af ?_))))))
       obtain rfl:=ae hc_19
       exact aY (k_10,(s_15.1,(w64 (s_15.2+1))),n_18) hL_20 (ls_ _) rfl (aK rfl)
      ·refine ay rfl hc_26 (ax (aj (aB 0 0 il ft zh CR rfl rfl (.d (.agg (Entry.enc e_1))) rfl wz (aa (vI zone_2) (aa (vI s_15.2) ?_)))))
       obtain ⟨r_27,hr_28,hc_19⟩:=bind_some hc_19
       refine aC (sN hr_28) rfl hb105 rfl rfl rfl rfl wz (dC 0 (.inl rfl) z33 rfl wz (λn_29=>fA 0 il ft 3 jZ rfl rfl [(vI r_27.From),(vI r_27.To)] rfl wz (af (au ?_))))
       obtain ⟨v_30,h_31,hc_19⟩:=bind_some hc_19
       refine aS [(1,(vI zone_2)),(3,(.ref n_4 0 0)),(5,(.ref n_5 0 0)),(7,(gV n_18 2 s_15.1)),(9,(vI (w64 ((w64 ((w64 (wv_3.To+(w64 (zone_2*60000)))).tdiv 86400000))+1)))),(10,(vI s_15.2)),(11,(.ref n_29 0 0)),(66,(vB v_30))] [(n_4,some (.cells 13 (Entry.v e_1))),(n_5,some (.cells 2 [(vI wv_3.From),(vI wv_3.To)])),(n_18,gB 2 Window.enc s_15.1),(n_29,some (.cells 2 [(vI r_27.From),(vI r_27.To)]))] ?_ ?_
       ·refine av (aJ iI rfl 0 rfl wz (aB 0 3 il ft sz3 ag3 rfl rfl (vI r_27.From) rfl wz (aJ iK rfl 1 rfl wz (aB 0 1 il ft sz3 ag3 rfl rfl (vI wv_3.To) rfl wz (aa (vB (decide (r_27.From<wv_3.To))) ?_)))))
        rcases ak h_31 with⟨hc_32,h_31⟩|⟨hc_32,h_31⟩
        ·refine aI rfl hc_32 wz (aJ iK rfl 1 rfl wa (aB 0 3 il ft sz3 ag3 rfl rfl (vI r_27.To) rfl wa (aJ iI rfl 0 rfl wa (aB 0 1 il ft sz3 ag3 rfl rfl (vI wv_3.From) rfl wa (aM (vB (decide (r_27.To>wv_3.From))) wa rfl (aa (vB (decide (r_27.To>wv_3.From))) (af ?_)))))))
         obtain rfl:=ae h_31
         exact cu
        ·refine aI rfl hc_32 wz (ah (ah (ah (ah (ah (aa (vB false) (af ?_)))))))
         obtain rfl:=ae h_31
         exact cu
       ·rintro ⟨⟩ _ sl_ H_ hp_ hq_
        refine aO _ hp_ hq_ ?_
        obtain ⟨v_33,h_34,hc_19⟩:=bind_some hc_19
        refine jA (β:=Nm) (λ(n_35:Nm)=>([(1,(vI zone_2)),(3,(.ref n_4 0 0)),(5,(.ref n_5 0 0)),(7,(gV n_35 2 v_33)),(9,(vI (w64 ((w64 ((w64 (wv_3.To+(w64 (zone_2*60000)))).tdiv 86400000))+1)))),(10,(vI s_15.2))]:SL_)) (λ(n_35:Nm)=>([(n_4,some (.cells 13 (Entry.v e_1))),(n_5,some (.cells 2 [(vI wv_3.From),(vI wv_3.To)])),(n_35,gB 2 Window.enc v_33),(n_29,some (.cells 2 [(vI r_27.From),(vI r_27.To)]))]:Hp)) (λ_=>True) ?_ ?_
        ·rcases ak h_34 with⟨hc_36,h_34⟩|⟨hc_36,h_34⟩
         ·refine aA rfl hc_36 (av (aa (gV n_18 2 s_15.1) (aB 0 3 il ft jZ nX rfl rfl (.d (.agg (Window.enc r_27))) rfl wz (eQ (([r_27]:List Window).map Window.enc) Fj Qq rfl rfl rfl rfl rfl wz ?_))))
          obtain ⟨a_37,hz_38,h_34⟩:=bind_some h_34
          refine jh 0 il ft (i:=2) GQ GQ jZ z33 rfl (by decide) RS (by decide) (λ_=>rfl) rfl rfl rfl hz_38 wz (λn_39=>aa (gV n_39 2 a_37) (af ?_))
          obtain rfl:=ae h_34
          exact aV n_39 trivial rfl (aK rfl)
         ·refine ay rfl hc_36 (ax ?_)
          obtain rfl:=ae h_34
          exact aV n_18 trivial rfl (aK rfl)
        ·rintro n_35 _ sl_ H_ hp_ hq_
         refine aO _ hp_ hq_ (av (aa (vI s_15.2) (aa (vI (w64 (s_15.2+1))) (aa (vI (w64 (s_15.2+1))) (af ?_)))))
         obtain rfl:=ae hc_19
         exact aY (k_10,(v_33,(w64 (s_15.2+1))),n_35) hL_20 (ls_ _) rfl (aK rfl)
     ·refine ay rfl hc_23 (aX ?_)
      obtain rfl:=ae hc_19
      obtain rfl:=ae hL_20
      exact aV ((s_15.1,s_15.2),n_18) rfl rfl (aK rfl)
   ·rintro ⟨s_15,n_18⟩ ho_ sl_ H_ hp_ hq_
    subst ho_
    refine aO _ hp_ hq_ (aj (aa (gV n_18 2 s_15.1) (aa (gV n_18 2 s_15.1) (af (fB 2 rfl (bX 6 2 rfl rfl (bX 7 2 rfl rfl (bX 71 2 rfl rfl ?_))))))))
    obtain rfl:=ae hF
    exact aH (aN [(vL Window.enc s_15.1)] ⟨rfl,trivial⟩)
theorem AY {l_1:(List Entry)} {p_2:Player} {wv_3:Window} {r:(List Span)} (hF:iP l_1 p_2 wv_3=some r) :
  FnM Tryz.prog 43 [(vL Entry.enc l_1),(.d (.agg (Player.enc p_2))),(.d (.agg (Window.enc wv_3)))] [] (vL Span.enc r) []:=by
 refine FnM.of_wH ⟨Tryz.prog,47,[],[]⟩ rfl Tryz.func43 rfl rfl (lb_ rfl) (by kernel_rfl) ?_
 unfold iP at hF
 refine aj (d9 0 (.inl rfl) (Player.v p_2) rfl rfl wz (λn_4=>d9 0 (.inl rfl) [(vI wv_3.From),(vI wv_3.To)] rfl rfl wz (λn_5=>aa .nil (af (aj (aa .nil (af (au (aj (aa (vL Entry.enc l_1) (dx un26 rfl wz (aa (vI 0) (af (jH (λn_12 => ?_)))))))))))))))
 obtain ⟨o_17,hj_18,hF⟩:=bind_some hF
 obtain ⟨hn_10,hj_18⟩:=bI hj_18
 refine iw (σ:=(List Span)) (N:=Nm) (λp=>(λ(s_11:List Span) (n_14:Nm)=>([(7,(gV n_14 3 s_11))]:SL_)) p.1 p.2) (λp=>(λ(s_11:List Span) (n_14:Nm)=>([(n_4,some (.cells 4 (Player.v p_2))),(n_5,some (.cells 2 [(vI wv_3.From),(vI wv_3.To)])),(n_14,gB 3 Span.enc s_11)]:Hp)) p.1 p.2) (λ(k_6:Nat)=>(λp=>(λ(s_11:List Span) (n_14:Nm)=>([(0,(vL Entry.enc l_1)),(4,(.ref n_4 0 0)),(5,(.ref n_5 0 0)),(7,(gV n_14 3 s_11)),(12,(vI (l_1.length:Int))),(13,(vI (k_6:Int)))]:SL_)) p.1 p.2)) (λk x s=>iR p_2 wv_3 l_1 k x s) o_17 l_1 (([]:List Span),n_12) hj_18 rfl (aK rfl) ?_ ?_
 ·rintro ⟨k_6,l_7,s_11,n_14⟩ ⟨hL_16,hD_9⟩
  dsimp only at hL_16 hD_9
  cases l_7 with
  | nil =>
   obtain rfl:=ae hL_16
   refine aj (aa (vB (decide ((k_6:Int)<(l_1.length:Int)))) (af ?_))
   refine au (ay rfl (drop_nil hD_9) (aX ?_))
   exact aV (s_11,n_14) rfl rfl (aK rfl)
  | cons x_8 l_7 =>
   obtain ⟨c_,hc_15,hL_16⟩:=bind_some hL_16
   refine aj (aa (vB (decide ((k_6:Int)<(l_1.length:Int)))) (af ?_))
   refine au (aA rfl (bO hD_9) (ax ?_))
   unfold iR at hc_15
   refine au (aQ (aj (aa (vI (k_6:Int)) (aa (vI (k_6:Int)) (af (au (au (bE (aa (vL Entry.enc l_1) (aa (vI (k_6:Int)) (dW GK rfl rfl (bU hD_9) rfl wz (bK zh CR rfl (.d (.agg (Entry.enc x_8))) rfl wz (aB 4 0 (.inr (by kernel_rfl)) (λ_ _ ag=>trivial) uR xL rfl rfl (.d (.agg (Player.enc p_2))) rfl wz ?_)))))))))))))
   obtain ⟨r_19,hr_20,hc_15⟩:=bind_some hc_15
   refine aC (vE hr_20) rfl hb74 rfl rfl rfl rfl wz (aa (vB (!r_19)) (af ?_))
   rcases ak hc_15 with⟨hc_21,hc_15⟩|⟨hc_21,hc_15⟩
   ·refine aA rfl hc_21 (aX (av (fQ (bN hD_9 hn_10) wz rfl (aa (vI ((k_6+1:Nat):Int)) (af ?_)))))
    obtain rfl:=ae hc_15
    exact aY (k_6+1,l_7,s_11,n_14) ⟨hL_16,aW hD_9⟩ (ls_ _) rfl (aK rfl)
   ·refine ay rfl hc_21 (ax (au (bE (aa (vL Entry.enc l_1) (aa (vI (k_6:Int)) (dW GK rfl rfl (bU hD_9) rfl wz (bK zh CR rfl (.d (.agg (Entry.enc x_8))) rfl wz (aJ MG rfl 2 rfl wz (aB 5 0 (.inr (by kernel_rfl)) (λ_ _ ag=>trivial) sz3 ag3 rfl rfl (vI p_2.Zone) rfl wz (aB 6 1 (.inr (by kernel_rfl)) (λ_ _ ag=>⟨.inl ⟨rfl,rfl⟩,trivial⟩) jZ nX rfl rfl (.d (.agg (Window.enc wv_3))) rfl wz ?_))))))))))
    obtain ⟨r_22,hr_23,hc_15⟩:=bind_some hc_15
    refine aC (uz hr_23) rfl hb70 rfl rfl rfl rfl wz (dx MZ rfl wz (aa (vI 0) (af ?_)))
    obtain ⟨o_34,hj_35,hc_15⟩:=bind_some hc_15
    obtain ⟨hn_28,hj_35⟩:=bI hj_35
    refine iw (σ:=(List Span)) (N:=Nm) (λp=>(λ(s_29:List Span) (n_31:Nm)=>([(0,(vL Entry.enc l_1)),(4,(.ref n_4 0 0)),(5,(.ref n_5 0 0)),(7,(gV n_31 3 s_29)),(12,(vI (l_1.length:Int))),(13,(vI (k_6:Int)))]:SL_)) p.1 p.2) (λp=>(λ(s_29:List Span) (n_31:Nm)=>([(n_4,some (.cells 4 (Player.v p_2))),(n_5,some (.cells 2 [(vI wv_3.From),(vI wv_3.To)])),(n_31,gB 3 Span.enc s_29)]:Hp)) p.1 p.2) (λ(k_24:Nat)=>(λp=>(λ(s_29:List Span) (n_31:Nm)=>([(0,(vL Entry.enc l_1)),(4,(.ref n_4 0 0)),(5,(.ref n_5 0 0)),(7,(gV n_31 3 s_29)),(8,(vI (k_6:Int))),(12,(vI (l_1.length:Int))),(13,(vI (k_6:Int))),(30,(vL Window.enc r_22)),(31,(vI (r_22.length:Int))),(32,(vI (k_24:Int)))]:SL_)) p.1 p.2)) (λk x s=>iQ l_1 k_6 k x s) o_34 r_22 (s_11,n_14) hj_35 rfl (aK rfl) ?_ ?_
    ·rintro ⟨k_24,l_25,s_29,n_31⟩ ⟨hL_33,hD_27⟩
     dsimp only at hL_33 hD_27
     cases l_25 with
     | nil =>
      obtain rfl:=ae hL_33
      refine aj (aa (vB (decide ((k_24:Int)<(r_22.length:Int)))) (af ?_))
      refine au (ay rfl (drop_nil hD_27) (aX ?_))
      exact aV (s_29,n_31) rfl rfl (aK rfl)
     | cons x_26 l_25 =>
      obtain ⟨c_,hc_32,hL_33⟩:=bind_some hL_33
      refine aj (aa (vB (decide ((k_24:Int)<(r_22.length:Int)))) (af ?_))
      refine au (aA rfl (bO hD_27) (ax ?_))
      unfold iQ at hc_32
      refine au (aQ (aj (dW Fj rfl rfl (bU hD_27) rfl wz (bK jZ nX rfl (.d (.agg (Window.enc x_26))) rfl wz (dC 0 (.inl rfl) z33 rfl wz (λn_36=>fA 0 il ft 3 jZ rfl rfl [(vI x_26.From),(vI x_26.To)] rfl wz (af (bE (aa (gV n_31 3 s_29) (aa (vL Entry.enc l_1) (aa (vI (k_6:Int)) ?_)))))))))))
      obtain ⟨y_37,hy_38,hc_32⟩:=bind_some hc_32
      refine dW GK rfl rfl hy_38 rfl wz (aB 4 3 (.inr (by kernel_rfl)) (λ_ _ ag=>trivial) jZ nX rfl rfl (.d (.agg (Window.enc x_26))) rfl wz (aM (.d (.agg (Span.enc (⟨(some y_37),x_26⟩:Span)))) wz (by kernel_rfl) (eQ (([(⟨(some y_37),x_26⟩:Span)]:List Span).map Span.enc) Bh ez88 rfl rfl rfl rfl rfl wz ?_)))
      obtain ⟨a_39,hz_40,hc_32⟩:=bind_some hc_32
      refine jh 7 (.inr (by kernel_rfl)) (λ_ _ ag=>⟨.inr (.inr (by kernel_rfl)),trivial⟩) (i:=2) MU MU qY z92 rfl (by decide) by92 (by decide) (λ_=>rfl) rfl rfl rfl hz_40 wz (λn_41=>aa (gV n_41 3 a_39) (af (av (fQ (bN hD_27 hn_28) wz rfl (aa (vI ((k_24+1:Nat):Int)) (af ?_))))))
      obtain rfl:=ae hc_32
      exact aY (k_24+1,l_25,a_39,n_41) ⟨hL_33,aW hD_27⟩ (ls_ _) rfl (aK rfl)
    ·rintro ⟨s_29,n_31⟩ ho_ sl_ H_ hp_ hq_
     subst ho_
     refine aO _ hp_ hq_ (av (fQ (bN hD_9 hn_10) wz rfl (aa (vI ((k_6+1:Nat):Int)) (af ?_))))
     obtain rfl:=ae hc_15
     exact aY (k_6+1,l_7,s_29,n_31) ⟨hL_16,aW hD_9⟩ (ls_ _) rfl (aK rfl)
 ·rintro ⟨s_11,n_14⟩ ho_ sl_ H_ hp_ hq_
  subst ho_
  refine aO _ hp_ hq_ (aj (aa (gV n_14 3 s_11) (aa (gV n_14 3 s_11) (af (fB 2 rfl (bX 6 2 rfl rfl (bX 7 2 rfl rfl (bX 46 2 rfl rfl ?_))))))))
  obtain rfl:=ae hF
  exact aH (aN [(vL Span.enc s_11)] ⟨rfl,trivial⟩)
section
variable [dM:DM]
theorem ic {x_1:Int} {y_2:Int} {r:Int} (hF:cmp_Compare_int x_1 y_2=some r) :
  FnM Tryz.prog 46 [(vI x_1),(vI y_2)] [] (vI r) []:=by
 refine FnM.of_wH ⟨Tryz.prog,20,[],[]⟩ rfl Tryz.func46 rfl rfl (lb_ rfl) (by kernel_rfl) ?_
 unfold cmp_Compare_int at hF
 refine aj (aa (vI 0) (af (aj (aa (vI x_1) ?_))))
 obtain ⟨r_3,hr_4,hF⟩:=bind_some hF
 refine aC (nD hr_4) rfl hb76 rfl rfl rfl rfl wz (aa (vB r_3) (af (aj (aa (vI y_2) ?_))))
 obtain ⟨r_5,hr_6,hF⟩:=bind_some hF
 refine aC (nD hr_6) rfl hb76 rfl rfl rfl rfl wz (aa (vB r_5) (af (au (aj (aa (vB r_3) (af ?_))))))
 rcases ak hF with⟨hc_7,hF⟩|⟨hc_7,hF⟩
 ·refine aA rfl hc_7 (au (aj (aa (vB r_5) (af ?_))))
  rcases ak hF with⟨hc_8,hF⟩|⟨hc_8,hF⟩
  ·refine aA rfl hc_8 (aj (aa (vI 0) (af ?_)))
   obtain rfl:=ae hF
   exact aH (aN [(vI 0)] ⟨rfl,trivial⟩)
  ·refine ay rfl hc_8 (ax (aj (aa (vI (-1)) (af ?_))))
   obtain rfl:=ae hF
   exact aH (aN [(vI (-1))] ⟨rfl,trivial⟩)
 ·refine ay rfl hc_7 (ax (au (aj (aa (vB r_5) (af ?_)))))
  rcases ak hF with⟨hc_9,hF⟩|⟨hc_9,hF⟩
  ·refine aA rfl hc_9 (aj (aa (vI 1) (af ?_)))
   obtain rfl:=ae hF
   exact aH (aN [(vI 1)] ⟨rfl,trivial⟩)
  ·refine ay rfl hc_9 (ax (au (aj (aa (vI x_1) (aa (vI y_2) (aa (vB (decide (x_1<y_2))) (af ?_)))))))
   rcases ak hF with⟨hc_10,hF⟩|⟨hc_10,hF⟩
   ·refine aA rfl hc_10 (aj (aa (vI (-1)) (af ?_)))
    obtain rfl:=ae hF
    exact aH (aN [(vI (-1))] ⟨rfl,trivial⟩)
   ·refine ay rfl hc_10 (ax (au (aj (aa (vI x_1) (aa (vI y_2) (aa (vB (decide (x_1>y_2))) (af ?_)))))))
    rcases ak hF with⟨hc_11,hF⟩|⟨hc_11,hF⟩
    ·refine aA rfl hc_11 (aj (aa (vI 1) (af ?_)))
     obtain rfl:=ae hF
     exact aH (aN [(vI 1)] ⟨rfl,trivial⟩)
    ·refine ay rfl hc_11 (ax (aj (aa (vI 0) (af ?_))))
     obtain rfl:=ae hF
     exact aH (aN [(vI 0)] ⟨rfl,trivial⟩)
end
section
variable [dM:DM]
theorem xM {a_1:Span} {b_2:Span} {r:Int} (hF:jf a_1 b_2=some r) :
  FnM Tryz.prog 45 [(.d (.agg (Span.enc a_1))),(.d (.agg (Span.enc b_2)))] [] (vI r) []:=by
 refine FnM.of_wH ⟨Tryz.prog,12,[],[]⟩ rfl Tryz.func45 rfl rfl (lb_ rfl) (by kernel_rfl) ?_
 unfold jf at hF
 refine aj (d9 0 (.inl rfl) (Span.v a_1) rfl (dw (om _ _) (dw rfl (dw rfl rfl))) wz (λn_3=>d9 0 (.inl rfl) (Span.v b_2) rfl (dw (om _ _) (dw rfl (dw rfl rfl))) wz (λn_4=>aa (vI 0) (af (aj (aJ zR rfl 1 rfl wz (aJ iI rfl 1 rfl wz (aB 0 0 il ft sz3 ag3 rfl rfl (vI a_1.f_time.From) rfl wz (aJ zR rfl 1 rfl wz (aJ iI rfl 1 rfl wz (aB 0 1 il ft sz3 ag3 rfl rfl (vI b_2.f_time.From) rfl wz ?_)))))))))))
 obtain ⟨r_5,hr_6,hF⟩:=bind_some hF
 refine aC (ic hr_6) rfl LP rfl rfl rfl rfl wz (aa (vI r_5) (af ?_))
 obtain rfl:=ae hF
 exact aH (aN [(vI r_5)] ⟨rfl,trivial⟩)
end
theorem nO {x r:(List Span)} (hF:iJ x=some r) :
  FnM Tryz.prog 44 [(dV (aG 0) 3 x),(.fn 45 [])] (([]:List Box)++gI 3 Span.enc x) (.tup []) (([]:List Box).map some++gT x (gB 3 Span.enc r)) :=
 Io (E:=Span.enc) (F:=λa b=>jf a b) (λ_=>rfl) (λa b r h=>xM (dM:=dmT) h) hb45 (λβ _ enc hk h1 cf hO g cb blk off cap d w eg hcmp hH hblk hsz=>Tryz.slices_SortFunc_eq_f44 3 Tryz.isAgg92 Tryz.sizeOf92 enc hk h1 cf hO g cb blk off cap d w eg hcmp hH hblk hsz) (λp cap fv w=>Tryz.slices_SortFunc_none_f44 (α:=Nat) p cap fv w) hF
theorem rZ {l_1:(List Entry)} {p_2:Player} {wv_3:Window} {r:(List Span)} (hF:iP l_1 p_2 wv_3=some r) :
  FnM Tryz.prog 43 [(vL Entry.enc l_1),(.d (.agg (Player.enc p_2))),(.d (.agg (Window.enc wv_3)))] [] (gV (aG 0) 3 r) (([]:List Box).map some++gO 3 Span.enc r):=by
 refine FnM.of_wH ⟨Tryz.prog,47,[],[]⟩ rfl Tryz.func43 rfl rfl (lb_ rfl) (by kernel_rfl) ?_
 unfold iP at hF
 refine aj (d9 0 (.inl rfl) (Player.v p_2) rfl rfl wz (λn_4=>d9 0 (.inl rfl) [(vI wv_3.From),(vI wv_3.To)] rfl rfl wz (λn_5=>aa .nil (af (aj (aa .nil (af (au (aj (aa (vL Entry.enc l_1) (dx un26 rfl wz (aa (vI 0) (af (jH (λn_12 => ?_)))))))))))))))
 obtain ⟨o_17,hj_18,hF⟩:=bind_some hF
 obtain ⟨hn_10,hj_18⟩:=bI hj_18
 refine iw (σ:=(List Span)) (N:=Nm) (λp=>(λ(s_11:List Span) (n_14:Nm)=>([(7,(gV n_14 3 s_11))]:SL_)) p.1 p.2) (λp=>(λ(s_11:List Span) (n_14:Nm)=>([(n_4,some (.cells 4 (Player.v p_2))),(n_5,some (.cells 2 [(vI wv_3.From),(vI wv_3.To)])),(n_14,gB 3 Span.enc s_11)]:Hp)) p.1 p.2) (λ(k_6:Nat)=>(λp=>(λ(s_11:List Span) (n_14:Nm)=>([(0,(vL Entry.enc l_1)),(4,(.ref n_4 0 0)),(5,(.ref n_5 0 0)),(7,(gV n_14 3 s_11)),(12,(vI (l_1.length:Int))),(13,(vI (k_6:Int)))]:SL_)) p.1 p.2)) (λk x s=>iR p_2 wv_3 l_1 k x s) o_17 l_1 (([]:List Span),n_12) hj_18 rfl (aK rfl) ?_ ?_
 ·rintro ⟨k_6,l_7,s_11,n_14⟩ ⟨hL_16,hD_9⟩
  dsimp only at hL_16 hD_9
  cases l_7 with
  | nil =>
   obtain rfl:=ae hL_16
   refine aj (aa (vB (decide ((k_6:Int)<(l_1.length:Int)))) (af ?_))
   refine au (ay rfl (drop_nil hD_9) (aX ?_))
   exact aV (s_11,n_14) rfl rfl (aK rfl)
  | cons x_8 l_7 =>
   obtain ⟨c_,hc_15,hL_16⟩:=bind_some hL_16
   refine aj (aa (vB (decide ((k_6:Int)<(l_1.length:Int)))) (af ?_))
   refine au (aA rfl (bO hD_9) (ax ?_))
   unfold iR at hc_15
   refine au (aQ (aj (aa (vI (k_6:Int)) (aa (vI (k_6:Int)) (af (au (au (bE (aa (vL Entry.enc l_1) (aa (vI (k_6:Int)) (dW GK rfl rfl (bU hD_9) rfl wz (bK zh CR rfl (.d (.agg (Entry.enc x_8))) rfl wz (aB 4 0 (.inr (by kernel_rfl)) (λ_ _ ag=>trivial) uR xL rfl rfl (.d (.agg (Player.enc p_2))) rfl wz ?_)))))))))))))
   obtain ⟨r_19,hr_20,hc_15⟩:=bind_some hc_15
   refine aC (vE hr_20) rfl hb74 rfl rfl rfl rfl wz (aa (vB (!r_19)) (af ?_))
   rcases ak hc_15 with⟨hc_21,hc_15⟩|⟨hc_21,hc_15⟩
   ·refine aA rfl hc_21 (aX (av (fQ (bN hD_9 hn_10) wz rfl (aa (vI ((k_6+1:Nat):Int)) (af ?_)))))
    obtain rfl:=ae hc_15
    exact aY (k_6+1,l_7,s_11,n_14) ⟨hL_16,aW hD_9⟩ (ls_ _) rfl (aK rfl)
   ·refine ay rfl hc_21 (ax (au (bE (aa (vL Entry.enc l_1) (aa (vI (k_6:Int)) (dW GK rfl rfl (bU hD_9) rfl wz (bK zh CR rfl (.d (.agg (Entry.enc x_8))) rfl wz (aJ MG rfl 2 rfl wz (aB 5 0 (.inr (by kernel_rfl)) (λ_ _ ag=>trivial) sz3 ag3 rfl rfl (vI p_2.Zone) rfl wz (aB 6 1 (.inr (by kernel_rfl)) (λ_ _ ag=>⟨.inl ⟨rfl,rfl⟩,trivial⟩) jZ nX rfl rfl (.d (.agg (Window.enc wv_3))) rfl wz ?_))))))))))
    obtain ⟨r_22,hr_23,hc_15⟩:=bind_some hc_15
    refine aC (uz hr_23) rfl hb70 rfl rfl rfl rfl wz (dx MZ rfl wz (aa (vI 0) (af ?_)))
    obtain ⟨o_34,hj_35,hc_15⟩:=bind_some hc_15
    obtain ⟨hn_28,hj_35⟩:=bI hj_35
    refine iw (σ:=(List Span)) (N:=Nm) (λp=>(λ(s_29:List Span) (n_31:Nm)=>([(0,(vL Entry.enc l_1)),(4,(.ref n_4 0 0)),(5,(.ref n_5 0 0)),(7,(gV n_31 3 s_29)),(12,(vI (l_1.length:Int))),(13,(vI (k_6:Int)))]:SL_)) p.1 p.2) (λp=>(λ(s_29:List Span) (n_31:Nm)=>([(n_4,some (.cells 4 (Player.v p_2))),(n_5,some (.cells 2 [(vI wv_3.From),(vI wv_3.To)])),(n_31,gB 3 Span.enc s_29)]:Hp)) p.1 p.2) (λ(k_24:Nat)=>(λp=>(λ(s_29:List Span) (n_31:Nm)=>([(0,(vL Entry.enc l_1)),(4,(.ref n_4 0 0)),(5,(.ref n_5 0 0)),(7,(gV n_31 3 s_29)),(8,(vI (k_6:Int))),(12,(vI (l_1.length:Int))),(13,(vI (k_6:Int))),(30,(vL Window.enc r_22)),(31,(vI (r_22.length:Int))),(32,(vI (k_24:Int)))]:SL_)) p.1 p.2)) (λk x s=>iQ l_1 k_6 k x s) o_34 r_22 (s_11,n_14) hj_35 rfl (aK rfl) ?_ ?_
    ·rintro ⟨k_24,l_25,s_29,n_31⟩ ⟨hL_33,hD_27⟩
     dsimp only at hL_33 hD_27
     cases l_25 with
     | nil =>
      obtain rfl:=ae hL_33
      refine aj (aa (vB (decide ((k_24:Int)<(r_22.length:Int)))) (af ?_))
      refine au (ay rfl (drop_nil hD_27) (aX ?_))
      exact aV (s_29,n_31) rfl rfl (aK rfl)
     | cons x_26 l_25 =>
      obtain ⟨c_,hc_32,hL_33⟩:=bind_some hL_33
      refine aj (aa (vB (decide ((k_24:Int)<(r_22.length:Int)))) (af ?_))
      refine au (aA rfl (bO hD_27) (ax ?_))
      unfold iQ at hc_32
      refine au (aQ (aj (dW Fj rfl rfl (bU hD_27) rfl wz (bK jZ nX rfl (.d (.agg (Window.enc x_26))) rfl wz (dC 0 (.inl rfl) z33 rfl wz (λn_36=>fA 0 il ft 3 jZ rfl rfl [(vI x_26.From),(vI x_26.To)] rfl wz (af (bE (aa (gV n_31 3 s_29) (aa (vL Entry.enc l_1) (aa (vI (k_6:Int)) ?_)))))))))))
      obtain ⟨y_37,hy_38,hc_32⟩:=bind_some hc_32
      refine dW GK rfl rfl hy_38 rfl wz (aB 4 3 (.inr (by kernel_rfl)) (λ_ _ ag=>trivial) jZ nX rfl rfl (.d (.agg (Window.enc x_26))) rfl wz (aM (.d (.agg (Span.enc (⟨(some y_37),x_26⟩:Span)))) wz (by kernel_rfl) (eQ (([(⟨(some y_37),x_26⟩:Span)]:List Span).map Span.enc) Bh ez88 rfl rfl rfl rfl rfl wz ?_)))
      obtain ⟨a_39,hz_40,hc_32⟩:=bind_some hc_32
      refine jh 7 (.inr (by kernel_rfl)) (λ_ _ ag=>⟨.inr (.inr (by kernel_rfl)),trivial⟩) (i:=2) MU MU qY z92 rfl (by decide) by92 (by decide) (λ_=>rfl) rfl rfl rfl hz_40 wz (λn_41=>aa (gV n_41 3 a_39) (af (av (fQ (bN hD_27 hn_28) wz rfl (aa (vI ((k_24+1:Nat):Int)) (af ?_))))))
      obtain rfl:=ae hc_32
      exact aY (k_24+1,l_25,a_39,n_41) ⟨hL_33,aW hD_27⟩ (ls_ _) rfl (aK rfl)
    ·rintro ⟨s_29,n_31⟩ ho_ sl_ H_ hp_ hq_
     subst ho_
     refine aO _ hp_ hq_ (av (fQ (bN hD_9 hn_10) wz rfl (aa (vI ((k_6+1:Nat):Int)) (af ?_))))
     obtain rfl:=ae hc_15
     exact aY (k_6+1,l_7,s_29,n_31) ⟨hL_16,aW hD_9⟩ (ls_ _) rfl (aK rfl)
 ·rintro ⟨s_11,n_14⟩ ho_ sl_ H_ hp_ hq_
  subst ho_
  refine aO _ hp_ hq_ (aj (aa (gV n_14 3 s_11) (aa (gV n_14 3 s_11) (af ?_))))
  obtain rfl:=ae hF
  exact aH (Qp (outs:=([]:List Box)) (.inr rfl) 2 rfl rfl rfl (by kernel_rfl) (by kernel_rfl))
theorem xz {t_1:Window} {wv_2:Window} {r:Window} (hF:rQ t_1 wv_2=some r) :
  FnM Tryz.prog 71 [(.d (.agg (Window.enc t_1))),(.d (.agg (Window.enc wv_2)))] [] (.d (.agg (Window.enc r))) []:=by
 refine FnM.of_wH ⟨Tryz.prog,16,[],[]⟩ rfl Tryz.func71 rfl rfl (lb_ rfl) (by kernel_rfl) ?_
 unfold rQ at hF
 refine aj (d9 0 (.inl rfl) [(vI t_1.From),(vI t_1.To)] rfl rfl wz (λn_3=>d9 0 (.inl rfl) [(vI wv_2.From),(vI wv_2.To)] rfl rfl wz (λn_4=>dC 0 (.inl rfl) z33 rfl wz (λn_5=>af (aj (aJ iI rfl 0 rfl wz (aB 0 0 il ft sz3 ag3 rfl rfl (vI t_1.From) rfl wz (aJ iI rfl 0 rfl wz (aB 0 1 il ft sz3 ag3 rfl rfl (vI wv_2.From) rfl wz (ni (vI (fZ t_1.From wv_2.From)) rfl (.inr rfl) wz (aJ iK rfl 1 rfl wz (aB 0 0 il ft sz3 ag3 rfl rfl (vI t_1.To) rfl wz (aJ iK rfl 1 rfl wz (aB 0 1 il ft sz3 ag3 rfl rfl (vI wv_2.To) rfl wz (ni (vI (nP t_1.To wv_2.To)) rfl (.inl rfl) wz (aM (.d (.agg (Window.enc (⟨(fZ t_1.From wv_2.From),(nP t_1.To wv_2.To)⟩:Window)))) wz (by kernel_rfl) (fA 0 il ft 2 jZ rfl rfl [(vI (fZ t_1.From wv_2.From)),(vI (nP t_1.To wv_2.To))] rfl wz (af ?_))))))))))))))))))
 obtain rfl:=ae hF
 exact aH (aN [(.d (.agg (Window.enc (⟨(fZ t_1.From wv_2.From),(nP t_1.To wv_2.To)⟩:Window))))] ⟨⟨2,_,_,_,_,_,_,_,rfl,rfl,jZ,nX,rfl⟩,trivial⟩)
theorem ko {x r:(List Int)} (hF:bJ x=some r) :
  FnM Tryz.prog 29 [(dV (aG 0) 1 x)] (([]:List Box)++gI 1 eI x) (.tup []) (([]:List Box).map some++gT x (gB 1 eI r)) :=
 P9 Tryz.slices_Sort_int Tryz.slices_Sort_int_none hF
theorem lW {s_1:(List Int)} {r:(List Int)} (hF:cZ s_1=some r) :
  FnM Tryz.prog 77 [(dV (aG 0) 1 s_1)] (([]:List Box)++gI 1 eI s_1) (vL eI r) (([]:List Box).map some++gT s_1 none):=by
 refine FnM.of_wHv ⟨Tryz.prog,61,[],[]⟩ rfl Tryz.func77 rfl rfl (lb_ rfl) (by kernel_rfl) ?_
 unfold cZ at hF
 refine aj (aa .nil (af (au (aj (aa (dV (aG 0) 1 s_1) (Cr w9 rfl wz (aa (vB (decide ((s_1.length:Int)<2))) (af ?_))))))))
 rcases ak hF with⟨hc_2,hF⟩|⟨hc_2,hF⟩
 ·refine aA rfl hc_2 (aj (aa (dV (aG 0) 1 s_1) (aa (dV (aG 0) 1 s_1) (af (fB 0 rfl (Ab 0 0 rfl rfl (Ab 2 0 rfl rfl (Ab 6 0 rfl rfl (Ab 9 0 rfl rfl (JL (i:=0) rfl ?_))))))))))
  obtain rfl:=ae hF
  exact aH (pG (bs:=([]:List Box)) (os:=([]:List Box)) (xs:=s_1) (o:=none) (.inr rfl) [(vL eI s_1)] ⟨rfl,trivial⟩ rfl rfl rfl rfl rfl (by kernel_rfl) Br rfl)
 ·refine ay rfl hc_2 (ax (au (aj (aa (vI 1) (af ?_)))))
  obtain ⟨o_11,hj_12,hF⟩:=bind_some hF
  obtain ⟨nq_52,hj_12⟩:=cK hj_12
  refine fo (λ(s_8:Int)=>[(0,(dV (aG 0) 1 s_1))]) (λ(s_8:Int)=>[((aG 0),gB 1 eI s_1)]) (λ(k_3:Nat)=>(λ(s_8:Int)=>[(0,(dV (aG 0) 1 s_1)),(3,(vI s_8))])) (λs=>bg s_1 s) o_11 nq_52 1 hj_12 rfl (aK rfl) ?_ ?_
  ·rintro ⟨k_3,s_8⟩ hL_10
   dsimp only at hL_10
   cases k_3 with
   | zero=>cases hL_10
   | succ k_3 =>
    obtain ⟨c_,hc_9,hL_10⟩:=bind_some hL_10
    unfold bg at hc_9
    refine au (aj (aa (vI s_8) (aa (dV (aG 0) 1 s_1) (Cr w9 rfl wz (aa (vB (decide (s_8<(s_1.length:Int)))) (af ?_))))))
    rcases ak hc_9 with⟨hc_13,hc_9⟩|⟨hc_13,hc_9⟩
    ·refine aA rfl hc_13 (ax (au (aQ (au (bE (aa (dV (aG 0) 1 s_1) (aa (vI s_8) ?_)))))))
     obtain ⟨_,hi_14,hc_9⟩:=bind_some hc_9
     refine mI lC rfl rfl (jW hi_14) (ik hi_14) wz ?_
     obtain ⟨e_15,hy_16,hc_9⟩:=bind_some hc_9
     refine lK 3 0 (.inr (by kernel_rfl)) (λ_ _ ag=>trivial) sz3 ag3 rfl rfl hy_16 (vI e_15) rfl wz (aa (dV (aG 0) 1 s_1) (aa (vI s_8) (aa (vI (w64 (s_8-1))) ?_)))
     obtain ⟨_,hi_17,hc_9⟩:=bind_some hc_9
     refine mI lC rfl rfl (jW hi_17) (ik hi_17) wz ?_
     obtain ⟨e_18,hy_19,hc_9⟩:=bind_some hc_9
     refine lK 8 0 (.inr (by kernel_rfl)) (λ_ _ ag=>⟨.inl ⟨rfl,rfl⟩,trivial⟩) sz3 ag3 rfl rfl hy_19 (vI e_18) rfl wz (aa (vB (e_15==e_18)) (af ?_))
     rcases ak hc_9 with⟨hc_20,hc_9⟩|⟨hc_20,hc_9⟩
     ·refine aA rfl hc_20 (aj (aa (dV (aG 0) 1 s_1) (aa (vI s_8) ?_)))
      obtain ⟨_,hn_21,hc_9⟩:=bind_some hc_9
      replace hn_21:=M6 hn_21
      refine dU (v':=(vV (aG 0) 1 s_1)) 0 rfl (A9 hn_21) (dU (v':=(vV (aG 0) 1 s_1)) 11 rfl (A9 hn_21) (dU (v':=(vV (aG 0) 1 s_1)) 16 rfl (A9 hn_21) (dU (v':=(vV (aG 0) 1 s_1)) 20 rfl (A9 hn_21) (dU (v':=(vV (aG 0) 1 s_1)) 26 rfl (A9 hn_21) (Nn 0 rfl (Eh hn_21) ?_)))))
      obtain ⟨_,hr_22,hc_9⟩:=bind_some hc_9
      refine ED w9 sz3 rfl rfl hr_22 wz (aa (.vs (aG 0) 1 ((s_8).toNat) (((s_1.length:Int)).toNat-(s_8).toNat)) (af (au (aj (aa (vI 1) (af ?_))))))
      obtain ⟨o_31,hj_32,hc_9⟩:=bind_some hc_9
      obtain ⟨nq_51,hj_32⟩:=cK hj_32
      refine fo (λ(s_28:(List Int)×Int×Int)=>[(0,(vV (aG 0) 1 s_28.1)),(3,(vI s_28.2.1))]) (λ(s_28:(List Int)×Int×Int)=>[((aG 0),some (bV 1 eI s_28.1))]) (λ(k_23:Nat)=>(λ(s_28:(List Int)×Int×Int)=>[(0,(vV (aG 0) 1 s_28.1)),(3,(vI s_28.2.1)),(4,(.vs (aG 0) 1 ((s_8).toNat) (((s_1.length:Int)).toNat-(s_8).toNat))),(5,(vI s_28.2.2))])) (λs=>cB s_1 s_8 s) o_31 nq_51 (s_1,s_8,1) hj_32 rfl (aK rfl) ?_ ?_
      ·rintro ⟨k_23,s_28⟩ hL_30
       dsimp only at hL_30
       cases k_23 with
       | zero=>cases hL_30
       | succ k_23 =>
        obtain ⟨c_,hc_29,hL_30⟩:=bind_some hL_30
        unfold cB at hc_29
        refine au (aj (aa (vI s_28.2.2) (aa (.vs (aG 0) 1 ((s_8).toNat) (((s_1.length:Int)).toNat-(s_8).toNat)) (h_lenp w9 rfl wz (aa (vB (decide (s_28.2.2<(((((s_1.length:Int)).toNat-(s_8).toNat):Nat):Int)))) (af ?_))))))
        rcases ak hc_29 with⟨hc_33,hc_29⟩|⟨hc_33,hc_29⟩
        ·refine aA rfl hc_33 (ax (au (aQ (au (bE (aa (.vs (aG 0) 1 ((s_8).toNat) (((s_1.length:Int)).toNat-(s_8).toNat)) (aa (vI s_28.2.2) ?_)))))))
         obtain ⟨_,hi_34,hc_29⟩:=bind_some hc_29
         refine Bj lC rfl rfl (Da hi_34) (yw hi_34) wz ?_
         obtain ⟨e_35,hy_36,hc_29⟩:=bind_some hc_29
         refine Ib 3 0 (.inr (by kernel_rfl)) (λ_ _ ag=>trivial) sz3 ag3 rfl rfl hy_36 (vI e_35) rfl wz (aa (.vs (aG 0) 1 ((s_8).toNat) (((s_1.length:Int)).toNat-(s_8).toNat)) (aa (vI s_28.2.2) (aa (vI (w64 (s_28.2.2-1))) ?_)))
         obtain ⟨_,hi_37,hc_29⟩:=bind_some hc_29
         refine Bj lC rfl rfl (Da hi_37) (yw hi_37) wz ?_
         obtain ⟨e_38,hy_39,hc_29⟩:=bind_some hc_29
         refine Ib 8 0 (.inr (by kernel_rfl)) (λ_ _ ag=>⟨.inl ⟨rfl,rfl⟩,trivial⟩) sz3 ag3 rfl rfl hy_39 (vI e_38) rfl wz (aa (vB (e_35 != e_38)) (af ?_))
         obtain ⟨v_40,h_41,hc_29⟩:=bind_some hc_29
         refine aS [(0,(vV (aG 0) 1 v_40.1)),(3,(vI v_40.2)),(4,(.vs (aG 0) 1 ((s_8).toNat) (((s_1.length:Int)).toNat-(s_8).toNat))),(5,(vI s_28.2.2))] [((aG 0),some (bV 1 eI v_40.1))] ?_ ?_
         ·rcases ak h_41 with⟨hc_42,h_41⟩|⟨hc_42,h_41⟩
          ·refine aA rfl hc_42 (aj (aa (vV (aG 0) 1 s_28.1) (aa (vI s_28.2.1) (aa (.vs (aG 0) 1 ((s_8).toNat) (((s_1.length:Int)).toNat-(s_8).toNat)) (aa (vI s_28.2.2) ?_)))))
           obtain ⟨_,hi_43,h_41⟩:=bind_some h_41
           refine Bj lC rfl rfl (Da hi_43) (yw hi_43) wz ?_
           obtain ⟨e_44,hy_45,h_41⟩:=bind_some h_41
           refine Ib 0 0 il ft sz3 ag3 rfl rfl hy_45 (vI e_44) rfl wz ?_
           obtain ⟨_,hi_46,h_41⟩:=bind_some h_41
           refine Bj lC rfl rfl (jW hi_46) (ik hi_46) wz ?_
           obtain ⟨e_47,hy_48,h_41⟩:=bind_some h_41
           refine DC 0 il ft 0 sz3 rfl rfl hy_48 e_44 rfl wz (dU (v':=(vV (aG 0) 1 (s_28.1.set (0+(s_28.2.1).toNat) e_44))) 0 rfl (uG (by simp)) (dU (v':=(vV (aG 0) 1 (s_28.1.set (0+(s_28.2.1).toNat) e_44))) 45 rfl (uG (by simp)) (af (av (aa (vI s_28.2.1) (aa (vI (w64 (s_28.2.1+1))) (aa (vI (w64 (s_28.2.1+1))) (af ?_))))))))
           obtain rfl:=ae h_41
           exact cu
          ·refine ay rfl hc_42 (ax ?_)
           obtain rfl:=ae h_41
           exact cu
         ·rintro ⟨⟩ _ sl_ H_ hp_ hq_
          refine aO _ hp_ hq_ (av (aa (vI s_28.2.2) (aa (vI (w64 (s_28.2.2+1))) (aa (vI (w64 (s_28.2.2+1))) (af ?_)))))
          obtain rfl:=ae hc_29
          exact aY (k_23,(v_40.1,v_40.2,(w64 (s_28.2.2+1)))) hL_30 (ls_ _) rfl (aK rfl)
        ·refine ay rfl hc_33 (aX ?_)
         obtain rfl:=ae hc_29
         obtain rfl:=ae hL_30
         exact aV ((s_28.1,s_28.2.1,s_28.2.2)) rfl rfl (aK rfl)
      ·rintro s_28 ho_ sl_ H_ hp_ hq_
       subst ho_
       refine aO _ hp_ hq_ (aj (aa (vV (aG 0) 1 s_28.1) (aa (vI s_28.2.1) ?_)))
       obtain ⟨_,hr_49,hc_9⟩:=bind_some hc_9
       refine ED w9 sz3 rfl rfl hr_49 wz (Ob (i:=0) 0 il ft 0 Cc sz3 z3 rfl rfl rfl (by decide) rfl (qh hr_49) rfl wz (dU (v':=(vV (aG 0) 1 (s_28.1.take ((s_28.2.1).toNat)++List.replicate (((s_28.1.length:Int)).toNat-(s_28.2.1).toNat) 0++s_28.1.drop (((s_28.2.1).toNat)+(((s_28.1.length:Int)).toNat-(s_28.2.1).toNat))))) 0 rfl (uG (yK (qh hr_49))) (dU (v':=(vV (aG 0) 1 (s_28.1.take ((s_28.2.1).toNat)++List.replicate (((s_28.1.length:Int)).toNat-(s_28.2.1).toNat) 0++s_28.1.drop (((s_28.2.1).toNat)+(((s_28.1.length:Int)).toNat-(s_28.2.1).toNat))))) 54 rfl (uG (yK (qh hr_49))) (af (aj (aa (vV (aG 0) 1 (s_28.1.take ((s_28.2.1).toNat)++List.replicate (((s_28.1.length:Int)).toNat-(s_28.2.1).toNat) 0++s_28.1.drop (((s_28.2.1).toNat)+(((s_28.1.length:Int)).toNat-(s_28.2.1).toNat)))) (aa (vI s_28.2.1) ?_)))))))
       obtain ⟨_,hr_50,hc_9⟩:=bind_some hc_9
       refine Lb w9 sz3 rfl rfl hr_50 wz (aa (.vs (aG 0) 1 0 ((s_28.2.1).toNat)) (af (Ji 0 rfl (G7 0 0 rfl rfl (Qc 2 0 rfl rfl (qh hr_50) (G7 54 0 rfl rfl (G7 57 0 rfl rfl (Qc 59 0 rfl rfl (qh hr_50) (JL (i:=0) rfl ?_)))))))))
       obtain rfl:=ae hc_9
       obtain rfl:=ae hL_10
       obtain rfl:=ae hF
       exact aH (pG (bs:=([]:List Box)) (os:=([]:List Box)) (xs:=s_1) (o:=none) (.inr rfl) [(vL eI (DI (s_28.1.take ((s_28.2.1).toNat)++List.replicate (((s_28.1.length:Int)).toNat-(s_28.2.1).toNat) 0++s_28.1.drop (((s_28.2.1).toNat)+(((s_28.1.length:Int)).toNat-(s_28.2.1).toNat))) 0 ((s_28.2.1).toNat)))] ⟨rfl,trivial⟩ rfl rfl rfl rfl rfl (by kernel_rfl) Br rfl)
     ·refine ay rfl hc_20 (ax (av (aa (vI s_8) (aa (vI (w64 (s_8+1))) (aa (vI (w64 (s_8+1))) (af ?_))))))
      obtain rfl:=ae hc_9
      exact aY (k_3,(w64 (s_8+1))) hL_10 (ls_ _) rfl (aK rfl)
    ·refine ay rfl hc_13 (aX ?_)
     obtain rfl:=ae hc_9
     obtain rfl:=ae hL_10
     exact aV (s_8) rfl rfl (aK rfl)
  ·rintro s_8 ho_ sl_ H_ hp_ hq_
   subst ho_
   refine aO _ hp_ hq_ (aj (aa (dV (aG 0) 1 s_1) (aa (dV (aG 0) 1 s_1) (af (fB 0 rfl (Ab 0 0 rfl rfl (Ab 2 0 rfl rfl (Ab 60 0 rfl rfl (JL (i:=0) rfl ?_)))))))))
   obtain rfl:=ae hF
   exact aH (pG (bs:=([]:List Box)) (os:=([]:List Box)) (xs:=s_1) (o:=none) (.inr rfl) [(vL eI s_1)] ⟨rfl,trivial⟩ rfl rfl rfl rfl rfl (by kernel_rfl) Br rfl)
theorem Bu {l_1:(List Entry)} {p_2:Player} {wv_3:Window} {r:(List Int)} (hF:mH l_1 p_2 wv_3=some r) :
  FnM Tryz.prog 47 [(vL Entry.enc l_1),(.d (.agg (Player.enc p_2))),(.d (.agg (Window.enc wv_3)))] [] (vL eI r) []:=by
 refine FnM.of_wH ⟨Tryz.prog,41,[15],[]⟩ rfl Tryz.func47 rfl rfl (lb_ rfl) (by kernel_rfl) ?_
 unfold mH at hF
 refine aj (d9 0 (.inl rfl) (Player.v p_2) rfl rfl wz (λn_4=>d9 0 (.inl rfl) [(vI wv_3.From),(vI wv_3.To)] rfl rfl wz (λn_5=>aa .nil (af (aj (aJ iI rfl 0 rfl wz (aB 0 1 il ft sz3 ag3 rfl rfl (vI wv_3.From) rfl wz (aJ iK rfl 1 rfl wz (aB 0 1 il ft sz3 ag3 rfl rfl (vI wv_3.To) rfl wz (h_litv 0 (.inl rfl) (([wv_3.From,wv_3.To]:List Int).map eI) lC wJ rfl rfl rfl rfl rfl wz (λn_6=>aa (vV n_6 1 ([wv_3.From,wv_3.To]:List Int)) (af (au (aj (aa (vL Entry.enc l_1) (aB 0 0 il ft uR xL rfl rfl (.d (.agg (Player.enc p_2))) rfl wz (aB 0 1 il ft jZ nX rfl rfl (.d (.agg (Window.enc wv_3))) rfl wz ?_)))))))))))))))))
 obtain ⟨r_7,hr_8,hF⟩:=bind_some hF
 refine aC (AY hr_8) rfl hb43 rfl rfl rfl rfl wz (dx DL rfl wz (aa (vI 0) (af ?_)))
 obtain ⟨o_19,hj_20,hF⟩:=bind_some hF
 obtain ⟨hn_13,hj_20⟩:=bI hj_20
 refine iw (σ:=(List Int)) (N:=Nm) (λp=>(λ(s_14:List Int) (n_16:Nm)=>([(7,(vV n_16 1 s_14))]:SL_)) p.1 p.2) (λp=>(λ(s_14:List Int) (n_16:Nm)=>([(n_4,some (.cells 4 (Player.v p_2))),(n_5,some (.cells 2 [(vI wv_3.From),(vI wv_3.To)])),(n_16,some (bV 1 eI s_14))]:Hp)) p.1 p.2) (λ(k_9:Nat)=>(λp=>(λ(s_14:List Int) (n_16:Nm)=>([(5,(.ref n_5 0 0)),(7,(vV n_16 1 s_14)),(19,(vL Span.enc r_7)),(20,(vI (r_7.length:Int))),(21,(vI (k_9:Int)))]:SL_)) p.1 p.2)) (λk x s=>kH wv_3 k x s) o_19 r_7 (([wv_3.From,wv_3.To]:List Int),n_6) hj_20 rfl (aK rfl) ?_ ?_
 ·rintro ⟨k_9,l_10,s_14,n_16⟩ ⟨hL_18,hD_12⟩
  dsimp only at hL_18 hD_12
  cases l_10 with
  | nil =>
   obtain rfl:=ae hL_18
   refine aj (aa (vB (decide ((k_9:Int)<(r_7.length:Int)))) (af ?_))
   refine au (ay rfl (drop_nil hD_12) (aX ?_))
   exact aV (s_14,n_16) rfl rfl (aK rfl)
  | cons x_11 l_10 =>
   obtain ⟨c_,hc_17,hL_18⟩:=bind_some hL_18
   refine aj (aa (vB (decide ((k_9:Int)<(r_7.length:Int)))) (af ?_))
   refine au (aA rfl (bO hD_12) (ax ?_))
   unfold kH at hc_17
   refine au (aQ (aj (dW Bh rfl rfl (bU hD_12) rfl wz (bK qY Co rfl (.d (.agg (Span.enc x_11))) rfl wz (dC 0 (.inl rfl) z92 rfl wz (λn_21=>fA 0 il ft 3 qY rfl rfl (Span.v x_11) (Bi rfl (dw (om _ _) (dw rfl (dw rfl rfl))) rfl rfl) wz (af (aj (aJ zR rfl 1 rfl wz (aB 0 3 il ft jZ nX rfl rfl (.d (.agg (Window.enc x_11.f_time))) rfl wz (aB 0 1 il ft jZ nX rfl rfl (.d (.agg (Window.enc wv_3))) rfl wz ?_)))))))))))
   obtain ⟨r_22,hr_23,hc_17⟩:=bind_some hc_17
   refine aC (xz hr_23) rfl hb71 rfl rfl rfl rfl wz (dC 0 (.inl rfl) z33 rfl wz (λn_24=>fA 0 il ft 4 jZ rfl rfl [(vI r_22.From),(vI r_22.To)] rfl wz (af (av (aa (vV n_16 1 s_14) (aJ iI rfl 0 rfl wz (aB 0 4 il ft sz3 ag3 rfl rfl (vI r_22.From) rfl wz (aJ iK rfl 1 rfl wz (aB 0 4 il ft sz3 ag3 rfl rfl (vI r_22.To) rfl wz (eQ (([r_22.From,r_22.To]:List Int).map eI) lC wJ rfl rfl rfl rfl rfl wz ?_))))))))))
   obtain ⟨a_25,hz_26,hc_17⟩:=bind_some hc_17
   refine RY 0 il ft (i:=2) Cc Cc sz3 z3 rfl (by decide) by3 (by decide) (λ_=>rfl) rfl rfl rfl hz_26 wz (λn_27=>aa (vV n_27 1 a_25) (af (av (fQ (bN hD_12 hn_13) wz rfl (aa (vI ((k_9+1:Nat):Int)) (af ?_))))))
   obtain rfl:=ae hc_17
   exact aY (k_9+1,l_10,a_25,n_27) ⟨hL_18,aW hD_12⟩ (ls_ _) rfl (aK rfl)
 ·rintro ⟨s_14,n_16⟩ ho_ sl_ H_ hp_ hq_
  subst ho_
  refine aO _ hp_ hq_ (aj (aa (vV n_16 1 s_14) ?_))
  obtain ⟨_,hn_28,hF⟩:=bind_some hF
  replace hn_28:=M6 hn_28
  refine Nn 2 rfl (Eh hn_28).symm (dU (v':=(gV n_16 1 s_14)) 37 rfl (vV_gV hn_28) (dU (v':=(gV n_16 1 s_14)) 7 rfl (vV_gV hn_28) ?_))
  obtain ⟨r_29,hr_30,hF⟩:=bind_some hF
  obtain ⟨_,hs_31,hF⟩:=bind_some hF
  replace hs_31:=lQ hs_31
  refine lL 0 [] 2 0 il ft (ko hr_30) rfl hb29 rfl rfl rfl (by kernel_rfl) rfl (.inl rfl) rfl (by kernel_rfl) (by kernel_rfl) (by kernel_rfl) (by kernel_rfl) rfl (by decide) (by kernel_rfl) nU (vD hs_31) wz ([(n_4,some (.cells 4 (Player.v p_2))),(n_5,some (.cells 2 [(vI wv_3.From),(vI wv_3.To)])),(n_16,gB 1 eI r_29)]:Hp) (by kernel_rfl) (dU (v':=(gV n_16 1 r_29)) 37 rfl (jm hs_31.symm) (dU (v':=(gV n_16 1 r_29)) 7 rfl (jm hs_31.symm) (af (aj (aa (gV n_16 1 r_29) ?_)))))
  obtain ⟨r_32,hr_33,hF⟩:=bind_some hF
  refine lL 0 [] 2 0 il ft (lW hr_33) rfl hb77 rfl rfl rfl (by kernel_rfl) rfl (.inl rfl) rfl (by kernel_rfl) (by kernel_rfl) (by kernel_rfl) (by kernel_rfl) rfl (by decide) (by kernel_rfl) Br (λ_=>rfl) wz ([(n_4,some (.cells 4 (Player.v p_2))),(n_5,some (.cells 2 [(vI wv_3.From),(vI wv_3.To)])),(n_16,none)]:Hp) (by kernel_rfl) (aa (vL eI r_32) (af ?_))
  obtain rfl:=ae hF
  exact aH (aN [(vL eI r_32)] ⟨rfl,trivial⟩)
theorem mf {s_1:Span} {p_2:(List Int)} {p_3:Int} {r:Bool} (hF:fO s_1 p_2 p_3=some r) :
  FnM Tryz.prog 49 [(.d (.agg (Span.enc s_1))),(.ref (aG 0) 0 0),(.ref (aG 1) 0 0)] [(.cells 1 [(vL eI p_2)]),(.cells 1 [(vI p_3)])] (vB r) [some (.cells 1 [(vL eI p_2)]),some (.cells 1 [(vI p_3)])]:=by
 refine FnM.of_wH ⟨Tryz.prog,13,[],[]⟩ rfl Tryz.func49 rfl rfl (lb_ rfl) (by kernel_rfl) ?_
 unfold fO at hF
 refine aj (d9 0 (.inl rfl) (Span.v s_1) rfl (dw (om _ _) (dw rfl (dw rfl rfl))) wz (λn_4=>aa (vB false) (af (au (bE (aJ zR rfl 1 rfl wz (aJ iK rfl 2 rfl wz (aB 2 2 (.inr (by kernel_rfl)) (λ_ _ ag=>trivial) sz3 ag3 rfl rfl (vI s_1.f_time.To) rfl wz (aB 3 0 (.inr (by kernel_rfl)) (λ_ _ ag=>⟨.inl ⟨rfl,rfl⟩,trivial⟩) Aa CK rfl rfl (vL eI p_2) rfl wz (aB 4 1 (.inr (by kernel_rfl)) (λ_ _ ag=>⟨.inl ⟨rfl,rfl⟩,⟨.inl ⟨rfl,rfl⟩,trivial⟩⟩) sz3 ag3 rfl rfl (vI p_3) rfl wz ?_))))))))))
 obtain ⟨y_5,hy_6,hF⟩:=bind_some hF
 refine dW lC rfl rfl hy_6 rfl wz (bK sz3 ag3 rfl (vI y_5) rfl wz (aa (vB (decide (s_1.f_time.To<=y_5))) (aa (vB (decide (s_1.f_time.To<=y_5))) (af ?_))))
 obtain rfl:=ae hF
 exact aH (zS (.inr rfl) [(vB (decide (s_1.f_time.To<=y_5)))] _ [0,1] [aG 0,aG 1] ⟨rfl,trivial⟩ (.cons (lH rfl rfl) (.nil)) (by kernel_rfl) ⟨(by kernel_rfl),⟨(by kernel_rfl),trivial⟩⟩ (by decide) (by kernel_rfl))
theorem jT {s_1:(List Span)} {f2_3:(List Int)} {f2_4:Int} {r:Int} (hF:dS s_1 f2_3 f2_4=some r) :
  FnM Tryz.prog 78 [(vV (aG 2) 3 s_1),(.fn 49 [(.ref (aG 0) 0 0),(.ref (aG 1) 0 0)])] (([(.cells 1 [(vL eI f2_3)]),(.cells 1 [(vI f2_4)])]:List Box)++[(bV 3 Span.enc s_1)]) (vI r) ((([(.cells 1 [(vL eI f2_3)]),(.cells 1 [(vI f2_4)])]:List Box)).map some++[some (bV 3 Span.enc s_1)]):=by
 refine FnM.of_wH ⟨Tryz.prog,19,[],[]⟩ rfl Tryz.func78 rfl rfl (lb_ rfl) (by kernel_rfl) ?_
 unfold dS at hF
 refine aj (aa (vI 0) (af (au (aj (aa (vV (aG 2) 3 s_1) (JF DL rfl wz (aa (vI 0) (af ?_))))))))
 obtain ⟨o_13,hj_14,hF⟩:=bind_some hF
 obtain ⟨hn_9,hj_14⟩:=bI hj_14
 refine fH (λ(s_10:Unit)=>[]) (λ(s_10:Unit)=>[((aG 0),some (.cells 1 [(vL eI f2_3)])),((aG 1),some (.cells 1 [(vI f2_4)])),((aG 2),some (bV 3 Span.enc s_1))]) (λ(k_5:Nat)=>(λ(s_10:Unit)=>[(0,(vV (aG 2) 3 s_1)),(1,(.fn 49 [(.ref (aG 0) 0 0),(.ref (aG 1) 0 0)])),(7,(vI (s_1.length:Int))),(8,(vI (k_5:Int)))])) (λk x s=>dK s_1 f2_3 f2_4 k x s) o_13 (List.range ((s_1.length:Int)).toNat) () hj_14 rfl (aK rfl) ?_ ?_
 ·rintro ⟨k_5,l_6,s_10⟩ ⟨hL_12,hD_8⟩
  dsimp only at hL_12 hD_8
  cases l_6 with
  | nil =>
   obtain rfl:=ae hL_12
   refine aj (aa (vB (decide ((k_5:Int)<(s_1.length:Int)))) (af ?_))
   refine au (ay rfl (Cu hD_8) (aX ?_))
   exact aV (s_10) rfl rfl (aK rfl)
  | cons x_7 l_6 =>
   obtain ⟨c_,hc_11,hL_12⟩:=bind_some hL_12
   refine aj (aa (vB (decide ((k_5:Int)<(s_1.length:Int)))) (af ?_))
   refine au (aA rfl (Ad hD_8) (ax ?_))
   unfold dK at hc_11
   refine au (aQ (aj (aa (vI (k_5:Int)) (aa (vI (k_5:Int)) (af (aj (aa (.fn 49 [(.ref (aG 0) 0 0),(.ref (aG 1) 0 0)]) (aa (vV (aG 2) 3 s_1) (aa (vI (k_5:Int)) ?_)))))))))
   obtain ⟨_,hi_15,hc_11⟩:=bind_some hc_11
   refine Bj Bh rfl rfl (jW hi_15) (ik hi_15) wz ?_
   obtain ⟨e_16,hy_17,hc_11⟩:=bind_some hc_11
   refine Ib 0 2 il ft qY Co rfl rfl hy_17 (.d (.agg (Span.enc e_16))) rfl wz ?_
   obtain ⟨r_18,hr_19,hc_11⟩:=bind_some hc_11
   refine gY 0 [0,1] il ft (mf hr_19) rfl hb49 rfl (by kernel_rfl) (by kernel_rfl) (by kernel_rfl) (by kernel_rfl) (by kernel_rfl) (by kernel_rfl) (by kernel_rfl) (by decide) (by kernel_rfl) wz (vB r_18) (by kernel_rfl) ([((aG 0),some (.cells 1 [(vL eI f2_3)])),((aG 1),some (.cells 1 [(vI f2_4)])),((aG 2),some (bV 3 Span.enc s_1))]:Hp) (by kernel_rfl) (af ?_)
   rcases ak hc_11 with⟨hc_21,hc_11⟩|⟨hc_21,hc_11⟩
   ·refine aA rfl hc_21 (aj (aa (vI (k_5:Int)) (aa (vI (k_5:Int)) (af ?_))))
    obtain rfl:=ae hc_11
    obtain rfl:=ae hL_12
    obtain rfl:=ae hF
    exact aH (zS (.inr rfl) [(vI (k_5:Int))] _ [0,1,2] [aG 0,aG 1,aG 2] ⟨rfl,trivial⟩ (.cons (lH rfl rfl) (.nil)) (by kernel_rfl) ⟨(by kernel_rfl),⟨(by kernel_rfl),⟨(by kernel_rfl),trivial⟩⟩⟩ (by decide) (by kernel_rfl))
   ·refine ay rfl hc_21 (ax (av (fQ (BX hD_8 hn_9) wz rfl (aa (vI ((k_5+1:Nat):Int)) (af ?_)))))
    obtain rfl:=ae hc_11
    exact aY (k_5+1,l_6,()) ⟨hL_12,aW hD_8⟩ (ls_ _) rfl (aK rfl)
 ·rintro s_10 ho_ sl_ H_ hp_ hq_
  subst ho_
  refine aO _ hp_ hq_ (aj (aa (vI (-1)) (af ?_)))
  obtain rfl:=ae hF
  exact aH (zS (.inr rfl) [(vI (-1))] _ [0,1,2] [aG 0,aG 1,aG 2] ⟨rfl,trivial⟩ (.cons (lH rfl rfl) (.nil)) (by kernel_rfl) ⟨(by kernel_rfl),⟨(by kernel_rfl),⟨(by kernel_rfl),trivial⟩⟩⟩ (by decide) (by kernel_rfl))
theorem jL {s_1:(List Span)} {del2_3:(List Int)} {del2_4:Int} {r:(List Span)} (hF:bL s_1 del2_3 del2_4=some r) :
  FnM Tryz.prog 48 [(vV (aG 2) 3 s_1),(.fn 49 [(.ref (aG 0) 0 0),(.ref (aG 1) 0 0)])] (([(.cells 1 [(vL eI del2_3)]),(.cells 1 [(vI del2_4)])]:List Box)++[(bV 3 Span.enc s_1)]) (vV (aG 2) 3 r) ((([(.cells 1 [(vL eI del2_3)]),(.cells 1 [(vI del2_4)])]:List Box)).map some++[some (bV 3 Span.enc r)]):=by
 refine FnM.of_wH ⟨Tryz.prog,42,[],[]⟩ rfl Tryz.func48 rfl rfl (lb_ rfl) (by kernel_rfl) ?_
 unfold bL at hF
 refine aj (aa .nil (af (aj (aa (vV (aG 2) 3 s_1) (aa (.fn 49 [(.ref (aG 0) 0 0),(.ref (aG 1) 0 0)]) ?_)))))
 obtain ⟨r_5,hr_6,hF⟩:=bind_some hF
 refine LC 0 [0,1] 2 0 il ft (jT hr_6) rfl hb78 rfl rfl (by kernel_rfl) (by kernel_rfl) rfl rfl (by kernel_rfl) (by kernel_rfl) (by kernel_rfl) (by kernel_rfl) rfl (by decide) (by kernel_rfl) bV_ok wz (vI r_5) (by kernel_rfl) ([((aG 0),some (.cells 1 [(vL eI del2_3)])),((aG 1),some (.cells 1 [(vI del2_4)])),((aG 2),some (bV 3 Span.enc s_1))]:Hp) (by kernel_rfl) (aa (vI r_5) (af (au (aj (aa (vI r_5) (aa (vB (r_5==(-1))) (af ?_)))))))
 rcases ak hF with⟨hc_7,hF⟩|⟨hc_7,hF⟩
 ·refine aA rfl hc_7 (aj (aa (vV (aG 2) 3 s_1) (aa (vV (aG 2) 3 s_1) (af ?_))))
  obtain rfl:=ae hF
  exact aH (zS (.inr rfl) [(vV (aG 2) 3 s_1)] _ [0,1,2] [aG 0,aG 1,aG 2] ⟨rfl,trivial⟩ (.cons (FE _) (.nil)) (by kernel_rfl) ⟨(by kernel_rfl),⟨(by kernel_rfl),⟨(by kernel_rfl),trivial⟩⟩⟩ (by decide) (by kernel_rfl))
 ·refine ay rfl hc_7 (ax (au (aj (aa (vI r_5) (aa (vI (w64 (r_5+1))) (aa (vI (w64 (r_5+1))) (af ?_)))))))
  obtain ⟨o_16,hj_17,hF⟩:=bind_some hF
  obtain ⟨nq_34,hj_17⟩:=cK hj_17
  refine fo (λ(s_13:(List Span)×Int×Int)=>[(0,(vV (aG 2) 3 s_13.1)),(5,(vI s_13.2.1))]) (λ(s_13:(List Span)×Int×Int)=>[((aG 0),some (.cells 1 [(vL eI del2_3)])),((aG 1),some (.cells 1 [(vI del2_4)])),((aG 2),some (bV 3 Span.enc s_13.1))]) (λ(k_8:Nat)=>(λ(s_13:(List Span)×Int×Int)=>[(0,(vV (aG 2) 3 s_13.1)),(1,(.fn 49 [(.ref (aG 0) 0 0),(.ref (aG 1) 0 0)])),(5,(vI s_13.2.1)),(6,(vI s_13.2.2))])) (λs=>dI del2_3 del2_4 s) o_16 nq_34 (s_1,r_5,(w64 (r_5+1))) hj_17 rfl (aK rfl) ?_ ?_
  ·rintro ⟨k_8,s_13⟩ hL_15
   dsimp only at hL_15
   cases k_8 with
   | zero=>cases hL_15
   | succ k_8 =>
    obtain ⟨c_,hc_14,hL_15⟩:=bind_some hL_15
    unfold dI at hc_14
    refine au (aj (aa (vI s_13.2.2) (aa (vV (aG 2) 3 s_13.1) (JF DL rfl wz (aa (vB (decide (s_13.2.2<(s_13.1.length:Int)))) (af ?_))))))
    rcases ak hc_14 with⟨hc_18,hc_14⟩|⟨hc_18,hc_14⟩
    ·refine aA rfl hc_18 (ax (au (aQ (aj (aa (vV (aG 2) 3 s_13.1) (aa (vI s_13.2.2) ?_))))))
     obtain ⟨_,hi_19,hc_14⟩:=bind_some hc_14
     refine Bj Bh rfl rfl (jW hi_19) (ik hi_19) wz ?_
     obtain ⟨e_20,hy_21,hc_14⟩:=bind_some hc_14
     refine Ib 0 2 il ft qY Co rfl rfl hy_21 (.d (.agg (Span.enc e_20))) rfl wz (dC 0 (.inl rfl) z92 rfl wz (λn_22=>fA 0 il ft 3 qY rfl rfl (Span.v e_20) (Bi rfl (dw (om _ _) (dw rfl (dw rfl rfl))) rfl rfl) wz (af (aj (aa (.fn 49 [(.ref (aG 0) 0 0),(.ref (aG 1) 0 0)]) (aB 0 3 il ft qY Co rfl rfl (.d (.agg (Span.enc e_20))) rfl wz ?_))))))
     obtain ⟨r_23,hr_24,hc_14⟩:=bind_some hc_14
     refine gY 0 [0,1] il ft (mf hr_24) rfl hb49 rfl (by kernel_rfl) (by kernel_rfl) (by kernel_rfl) (by kernel_rfl) (by kernel_rfl) (by kernel_rfl) (by kernel_rfl) (by decide) (by kernel_rfl) wz (vB r_23) (by kernel_rfl) ([((aG 0),some (.cells 1 [(vL eI del2_3)])),((aG 1),some (.cells 1 [(vI del2_4)])),((aG 2),some (bV 3 Span.enc s_13.1)),(n_22,some (.cells 3 (Span.v e_20)))]:Hp) (by kernel_rfl) (aa (vB (!r_23)) (af ?_))
     obtain ⟨v_26,h_27,hc_14⟩:=bind_some hc_14
     refine aS [(0,(vV (aG 2) 3 v_26.1)),(1,(.fn 49 [(.ref (aG 0) 0 0),(.ref (aG 1) 0 0)])),(5,(vI v_26.2)),(6,(vI s_13.2.2))] [((aG 0),some (.cells 1 [(vL eI del2_3)])),((aG 1),some (.cells 1 [(vI del2_4)])),((aG 2),some (bV 3 Span.enc v_26.1)),(n_22,some (.cells 3 (Span.v e_20)))] ?_ ?_
     ·rcases ak h_27 with⟨hc_28,h_27⟩|⟨hc_28,h_27⟩
      ·refine aA rfl hc_28 (aj (aa (vV (aG 2) 3 s_13.1) (aa (vI s_13.2.1) (aB 0 3 il ft qY Co rfl rfl (.d (.agg (Span.enc e_20))) rfl wz ?_))))
       obtain ⟨_,hi_29,h_27⟩:=bind_some h_27
       refine Bj Bh rfl rfl (jW hi_29) (ik hi_29) wz ?_
       obtain ⟨e_30,hy_31,h_27⟩:=bind_some h_27
       refine DC 0 il ft 2 qY rfl rfl hy_31 e_20 (stD_one rfl rfl (dw (om _ _) (dw rfl (dw rfl rfl))) rfl rfl) wz (dU (v':=(vV (aG 2) 3 (s_13.1.set (0+(s_13.2.1).toNat) e_20))) 0 rfl (uG (by simp)) (dU (v':=(vV (aG 2) 3 (s_13.1.set (0+(s_13.2.1).toNat) e_20))) 17 rfl (uG (by simp)) (dU (v':=(vV (aG 2) 3 (s_13.1.set (0+(s_13.2.1).toNat) e_20))) 22 rfl (uG (by simp)) (dU (v':=(vV (aG 2) 3 (s_13.1.set (0+(s_13.2.1).toNat) e_20))) 30 rfl (uG (by simp)) (af (av (aa (vI s_13.2.1) (aa (vI (w64 (s_13.2.1+1))) (aa (vI (w64 (s_13.2.1+1))) (af ?_))))))))))
       obtain rfl:=ae h_27
       exact cu
      ·refine ay rfl hc_28 (ax ?_)
       obtain rfl:=ae h_27
       exact cu
     ·rintro ⟨⟩ _ sl_ H_ hp_ hq_
      refine aO _ hp_ hq_ (av (aa (vI s_13.2.2) (aa (vI (w64 (s_13.2.2+1))) (aa (vI (w64 (s_13.2.2+1))) (af ?_)))))
      obtain rfl:=ae hc_14
      exact aY (k_8,(v_26.1,v_26.2,(w64 (s_13.2.2+1)))) hL_15 (ls_ _) rfl (aK rfl)
    ·refine ay rfl hc_18 (aX ?_)
     obtain rfl:=ae hc_14
     obtain rfl:=ae hL_15
     exact aV ((s_13.1,s_13.2.1,s_13.2.2)) rfl rfl (aK rfl)
  ·rintro s_13 ho_ sl_ H_ hp_ hq_
   subst ho_
   refine aO _ hp_ hq_ (aj (aa (vV (aG 2) 3 s_13.1) (aa (vI s_13.2.1) ?_)))
   obtain ⟨_,hr_32,hF⟩:=bind_some hF
   refine ED DL qY rfl rfl hr_32 wz (Ob (i:=2) 0 il ft (⟨none,(⟨0,0⟩:Window)⟩:Span) MU qY z92 rfl rfl rfl (by decide) rfl (qh hr_32) rfl wz (dU (v':=(vV (aG 2) 3 (s_13.1.take ((s_13.2.1).toNat)++List.replicate (((s_13.1.length:Int)).toNat-(s_13.2.1).toNat) (⟨none,(⟨0,0⟩:Window)⟩:Span)++s_13.1.drop (((s_13.2.1).toNat)+(((s_13.1.length:Int)).toNat-(s_13.2.1).toNat))))) 0 rfl (uG (yK (qh hr_32))) (dU (v':=(vV (aG 2) 3 (s_13.1.take ((s_13.2.1).toNat)++List.replicate (((s_13.1.length:Int)).toNat-(s_13.2.1).toNat) (⟨none,(⟨0,0⟩:Window)⟩:Span)++s_13.1.drop (((s_13.2.1).toNat)+(((s_13.1.length:Int)).toNat-(s_13.2.1).toNat))))) 36 rfl (uG (yK (qh hr_32))) (af (aj (aa (vV (aG 2) 3 (s_13.1.take ((s_13.2.1).toNat)++List.replicate (((s_13.1.length:Int)).toNat-(s_13.2.1).toNat) (⟨none,(⟨0,0⟩:Window)⟩:Span)++s_13.1.drop (((s_13.2.1).toNat)+(((s_13.1.length:Int)).toNat-(s_13.2.1).toNat)))) (aa (vI s_13.2.1) ?_)))))))
   obtain ⟨_,hr_33,hF⟩:=bind_some hF
   refine Lb DL qY rfl rfl hr_33 wz (aa (.vs (aG 2) 3 0 ((s_13.2.1).toNat)) (af (wH_re (v':=(vV (aG 2) 3 ((s_13.1.take ((s_13.2.1).toNat)++List.replicate (((s_13.1.length:Int)).toNat-(s_13.2.1).toNat) (⟨none,(⟨0,0⟩:Window)⟩:Span)++s_13.1.drop (((s_13.2.1).toNat)+(((s_13.1.length:Int)).toNat-(s_13.2.1).toNat))).take ((s_13.2.1).toNat)))) 4 rfl (vV_take (qh hr_33)) (wH_shr 2 ((s_13.2.1).toNat) rfl ?_))))
   obtain rfl:=ae hF
   exact aH (zS (.inr rfl) [(vV (aG 2) 3 ((s_13.1.take ((s_13.2.1).toNat)++List.replicate (((s_13.1.length:Int)).toNat-(s_13.2.1).toNat) (⟨none,(⟨0,0⟩:Window)⟩:Span)++s_13.1.drop (((s_13.2.1).toNat)+(((s_13.1.length:Int)).toNat-(s_13.2.1).toNat))).take ((s_13.2.1).toNat)))] _ [0,1,2] [aG 0,aG 1,aG 2] ⟨rfl,trivial⟩ (.cons (FE _) (.nil)) (by kernel_rfl) ⟨(by kernel_rfl),⟨(by kernel_rfl),⟨(by kernel_rfl),trivial⟩⟩⟩ (by decide) (by kernel_rfl))
theorem kC {s_1:(List Span)} {f_2:Span->Option Bool} {r:Int} {gid:FuncId} {caps:List V} {Sin:List Box} (hfn:∀x0 r,f_2 x0=some r->FnM Tryz.prog gid ([(.d (.agg (Span.enc x0)))]++caps) Sin (vB r) (Sin.map some)) (hbF:aL Tryz.prog gid=true) (hcapF:caps.flatMap frz=[]/\caps.map co0=caps) (hokF:okL Sin.length caps=true) (hsF:∀b∈Sin,b.ok Sin.length=true) (hmF:∀b∈Sin,b.mut=true) (hF:bS s_1 f_2=some r) :
  FnM Tryz.prog 78 [(vL Span.enc s_1),(.fn gid caps)] Sin (vI r) (Sin.map some):=by
 refine FnM.of_wH ⟨Tryz.prog,19,[],[]⟩ rfl Tryz.func78 rfl rfl (lb_ rfl) (by kernel_rfl) ?_
 unfold bS at hF
 refine aj (aa (vI 0) (af (au (aj (aa (vL Span.enc s_1) (dx DL rfl wz (aa (vI 0) (af ?_))))))))
 obtain ⟨o_11,hj_12,hF⟩:=bind_some hF
 obtain ⟨hn_7,hj_12⟩:=bI hj_12
 refine fH (λ(s_8:Unit)=>[]) (λ(s_8:Unit)=>(qx 0 Sin)) (λ(k_3:Nat)=>(λ(s_8:Unit)=>[(0,(vL Span.enc s_1)),(1,(.fn gid caps)),(7,(vI (s_1.length:Int))),(8,(vI (k_3:Int)))])) (λk x s=>dR f_2 k x s) o_11 s_1 () hj_12 rfl (F5 _) ?_ ?_
 ·rintro ⟨k_3,l_4,s_8⟩ ⟨hL_10,hD_6⟩
  dsimp only at hL_10 hD_6
  cases l_4 with
  | nil =>
   obtain rfl:=ae hL_10
   refine aj (aa (vB (decide ((k_3:Int)<(s_1.length:Int)))) (af ?_))
   refine au (ay rfl (drop_nil hD_6) (aX ?_))
   exact aV (s_8) rfl rfl (F5 _)
  | cons x_5 l_4 =>
   obtain ⟨c_,hc_9,hL_10⟩:=bind_some hL_10
   refine aj (aa (vB (decide ((k_3:Int)<(s_1.length:Int)))) (af ?_))
   refine au (aA rfl (bO hD_6) (ax ?_))
   unfold dR at hc_9
   refine au (aQ (aj (aa (vI (k_3:Int)) (aa (vI (k_3:Int)) (af (aj (aa (.fn gid caps) (aa (vL Span.enc s_1) (aa (vI (k_3:Int)) (dW Bh rfl rfl (bU hD_6) rfl wz (bK qY Co rfl (.d (.agg (Span.enc x_5))) rfl wz ?_)))))))))))
   obtain ⟨r_13,hr_14,hc_9⟩:=bind_some hc_9
   refine h_callS (hfn _ _ hr_14) rfl hbF rfl rfl hcapF hokF hsF hmF rfl wz rfl (af ?_)
   rcases ak hc_9 with⟨hc_15,hc_9⟩|⟨hc_15,hc_9⟩
   ·refine aA rfl hc_15 (aj (aa (vI (k_3:Int)) (aa (vI (k_3:Int)) (af ?_))))
    obtain rfl:=ae hc_9
    obtain rfl:=ae hL_10
    obtain rfl:=ae hF
    exact aH (finS hsF (.inr rfl) [(vI (k_3:Int))] ⟨rfl,trivial⟩ rfl rfl rfl)
   ·refine ay rfl hc_15 (ax (av (fQ (bN hD_6 hn_7) wz rfl (aa (vI ((k_3+1:Nat):Int)) (af ?_)))))
    obtain rfl:=ae hc_9
    exact aY (k_3+1,l_4,()) ⟨hL_10,aW hD_6⟩ (ls_ _) rfl (F5 _)
 ·rintro s_8 ho_ sl_ H_ hp_ hq_
  subst ho_
  refine aO _ hp_ hq_ (aj (aa (vI (-1)) (af ?_)))
  obtain rfl:=ae hF
  exact aH (finS hsF (.inr rfl) [(vI (-1))] ⟨rfl,trivial⟩ rfl rfl rfl)
theorem jM {del2_3:(List Int)} {del2_4:Int} {r:Unit} (hF:bM del2_3 del2_4=some r) :
  FnM Tryz.prog 48 [.nil,(.fn 49 [(.ref (aG 0) 0 0),(.ref (aG 1) 0 0)])] [(.cells 1 [(vL eI del2_3)]),(.cells 1 [(vI del2_4)])] .nil [some (.cells 1 [(vL eI del2_3)]),some (.cells 1 [(vI del2_4)])]:=by
 refine FnM.of_wH ⟨Tryz.prog,42,[],[]⟩ rfl Tryz.func48 rfl rfl (lb_ rfl) (by kernel_rfl) ?_
 unfold bM at hF
 refine aj (aa .nil (af (aj (aa .nil (aa (.fn 49 [(.ref (aG 0) 0 0),(.ref (aG 1) 0 0)]) ?_)))))
 obtain ⟨r_5,hr_6,hF⟩:=bind_some hF
 refine gY 0 [0,1] il ft (kC (gid:=49) (caps:=[.ref (aG 0) 0 0,.ref (aG 1) 0 0]) (Sin:=[(.cells 1 [(vL eI del2_3)]),(.cells 1 [(vI del2_4)])]) (λ_ _ h_=>mf h_) hb49 ⟨rfl,rfl⟩ (by kernel_rfl) (all_ok (by kernel_rfl)) (all_mut (by kernel_rfl)) hr_6) rfl hb78 rfl (by kernel_rfl) (by kernel_rfl) (by kernel_rfl) (by kernel_rfl) (by kernel_rfl) (by kernel_rfl) (by kernel_rfl) (by decide) (by kernel_rfl) wz (vI r_5) (by kernel_rfl) ([((aG 0),some (.cells 1 [(vL eI del2_3)])),((aG 1),some (.cells 1 [(vI del2_4)]))]:Hp) (by kernel_rfl) (aa (vI r_5) (af (au (aj (aa (vI r_5) (aa (vB (r_5==(-1))) (af ?_)))))))
 rcases ak hF with⟨hc_8,hF⟩|⟨hc_8,hF⟩
 ·refine aA rfl hc_8 (aj (aa .nil (aa .nil (af ?_))))
  obtain rfl:=ae hF
  exact aH (zS (.inr rfl) [.nil] _ [0,1] [aG 0,aG 1] ⟨rfl,trivial⟩ (.cons (FE _) (.nil)) (by kernel_rfl) ⟨(by kernel_rfl),⟨(by kernel_rfl),trivial⟩⟩ (by decide) (by kernel_rfl))
 ·refine ay rfl hc_8 (ax (au (aj (aa (vI r_5) (aa (vI (w64 (r_5+1))) (aa (vI (w64 (r_5+1))) (af ?_)))))))
  obtain ⟨o_17,hj_18,hF⟩:=bind_some hF
  obtain ⟨nq_20,hj_18⟩:=cK hj_18
  refine fo (λ(s_14:Unit)=>[(0,.nil),(5,(vI r_5))]) (λ(s_14:Unit)=>[((aG 0),some (.cells 1 [(vL eI del2_3)])),((aG 1),some (.cells 1 [(vI del2_4)]))]) (λ(k_9:Nat)=>(λ(s_14:Unit)=>[(0,.nil),(1,(.fn 49 [(.ref (aG 0) 0 0),(.ref (aG 1) 0 0)])),(5,(vI r_5)),(6,(vI (w64 (r_5+1))))])) (λs=>dH r_5 s) o_17 nq_20 () hj_18 rfl (aK rfl) ?_ ?_
  ·rintro ⟨k_9,s_14⟩ hL_16
   dsimp only at hL_16
   cases k_9 with
   | zero=>cases hL_16
   | succ k_9 =>
    obtain ⟨c_,hc_15,hL_16⟩:=bind_some hL_16
    unfold dH at hc_15
    refine au (aj (aa (vI (w64 (r_5+1))) (aa .nil (LX DL rfl wz (aa (vB (decide ((w64 (r_5+1))<0))) (af ?_))))))
    rcases ak hc_15 with⟨hc_19,hc_15⟩|⟨hc_19,hc_15⟩
    ·refine aA rfl hc_19 (ax (au (aQ (aj (aa .nil (aa (vI (w64 (r_5+1))) ?_))))))
     cases hc_15
    ·refine ay rfl hc_19 (aX ?_)
     obtain rfl:=ae hc_15
     obtain rfl:=ae hL_16
     exact aV (()) rfl rfl (aK rfl)
  ·rintro s_14 ho_ sl_ H_ hp_ hq_
   subst ho_
   refine aO _ hp_ hq_ (aj (aa .nil (aa (vI r_5) ?_)))
   cases hF
section
variable [dM:DM]
theorem oM {a_1:ByteArray} {b_2:ByteArray} {r:Int} (hF:jd a_1 b_2=some r) :
  FnM Tryz.prog 117 [(vS a_1),(vS b_2)] [] (vI r) []:=by
 refine FnM.of_wH ⟨Tryz.prog,8,[],[]⟩ rfl Tryz.func117 rfl rfl (lb_ rfl) (by kernel_rfl) ?_
 unfold jd at hF
 refine aj (aa (vI 0) (af (aj (aa (vS a_1) (aa (vS b_2) (h_ext (PW (f:=150) Tryz.func150 rfl rfl (by kernel_rfl) (by kernel_rfl) _ _) rfl nb150 rfl wz (aa (vI (uF a_1 b_2)) (af ?_))))))))
 obtain rfl:=ae hF
 exact aH (aN [(vI (uF a_1 b_2))] ⟨rfl,trivial⟩)
end
section
variable [dM:DM]
theorem lN {a_1:ByteArray} {b_2:ByteArray} {r:Int} (hF:strings_Compare a_1 b_2=some r) :
  FnM Tryz.prog 80 [(vS a_1),(vS b_2)] [] (vI r) []:=by
 refine FnM.of_wH ⟨Tryz.prog,8,[],[]⟩ rfl Tryz.func80 rfl rfl (lb_ rfl) (by kernel_rfl) ?_
 unfold strings_Compare at hF
 refine aj (aa (vI 0) (af (aj (aa (vS a_1) (aa (vS b_2) ?_)))))
 obtain ⟨r_3,hr_4,hF⟩:=bind_some hF
 refine aC (oM hr_4) rfl hb117 rfl rfl rfl rfl wz (aa (vI r_3) (af ?_))
 obtain rfl:=ae hF
 exact aH (aN [(vI r_3)] ⟨rfl,trivial⟩)
end
section
variable [dM:DM]
theorem qd {vals_1:(List Int)} {r:Int} (hF:kM vals_1=some r) :
  FnM Tryz.prog 79 [(vL eI vals_1)] [] (vI r) []:=by
 refine FnM.of_wH ⟨Tryz.prog,18,[],[]⟩ rfl Tryz.func79 rfl rfl (lb_ rfl) (by kernel_rfl) ?_
 unfold kM at hF
 refine aj (aa (vI 0) (af (aj (aa (vI 0) (af (au (aj (aa (vL eI vals_1) (dx w9 rfl wz (aa (vI 0) (af ?_)))))))))))
 obtain ⟨o_10,hj_11,hF⟩:=bind_some hF
 obtain ⟨hn_6,hj_11⟩:=bI hj_11
 refine fH (λ(s_7:Unit)=>[(3,(vI 0))]) (λ(s_7:Unit)=>[]) (λ(k_2:Nat)=>(λ(s_7:Unit)=>[(3,(vI 0)),(6,(vL eI vals_1)),(7,(vI (vals_1.length:Int))),(8,(vI (k_2:Int)))])) (λk x s=>nV k x s) o_10 vals_1 () hj_11 rfl (aK rfl) ?_ ?_
 ·rintro ⟨k_2,l_3,s_7⟩ ⟨hL_9,hD_5⟩
  dsimp only at hL_9 hD_5
  cases l_3 with
  | nil =>
   obtain rfl:=ae hL_9
   refine aj (aa (vB (decide ((k_2:Int)<(vals_1.length:Int)))) (af ?_))
   refine au (ay rfl (drop_nil hD_5) (aX ?_))
   exact aV (s_7) rfl rfl (aK rfl)
  | cons x_4 l_3 =>
   obtain ⟨c_,hc_8,hL_9⟩:=bind_some hL_9
   refine aj (aa (vB (decide ((k_2:Int)<(vals_1.length:Int)))) (af ?_))
   refine au (aA rfl (bO hD_5) (ax ?_))
   unfold nV at hc_8
   refine au (aQ (aj (dW lC rfl rfl (bU hD_5) rfl wz (bK sz3 ag3 rfl (vI x_4) rfl wz (aa (vI x_4) (af (aj (aa (vI x_4) (aa (vI 0) (aa (vB (x_4 != 0)) (af ?_)))))))))))
   rcases ak hc_8 with⟨hc_12,hc_8⟩|⟨hc_12,hc_8⟩
   ·refine aA rfl hc_12 (aj (aa (vI x_4) (aa (vI x_4) (af ?_))))
    obtain rfl:=ae hc_8
    obtain rfl:=ae hL_9
    obtain rfl:=ae hF
    exact aH (aN [(vI x_4)] ⟨rfl,trivial⟩)
   ·refine ay rfl hc_12 (ax (av (fQ (bN hD_5 hn_6) wz rfl (aa (vI ((k_2+1:Nat):Int)) (af ?_)))))
    obtain rfl:=ae hc_8
    exact aY (k_2+1,l_3,()) ⟨hL_9,aW hD_5⟩ (ls_ _) rfl (aK rfl)
 ·rintro s_7 ho_ sl_ H_ hp_ hq_
  subst ho_
  refine aO _ hp_ hq_ (aj (aa (vI 0) (aa (vI 0) (af ?_))))
  obtain rfl:=ae hF
  exact aH (aN [(vI 0)] ⟨rfl,trivial⟩)
end
section
variable [dM:DM]
theorem rH {a_1:Span} {b_2:Span} {r:Int} (hF:eZ a_1 b_2=some r) :
  FnM Tryz.prog 51 [(.d (.agg (Span.enc a_1))),(.d (.agg (Span.enc b_2)))] [] (vI r) []:=by
 refine FnM.of_wH ⟨Tryz.prog,36,[],[]⟩ rfl Tryz.func51 rfl rfl (lb_ rfl) (by kernel_rfl) ?_
 unfold eZ at hF
 refine aj (d9 0 (.inl rfl) (Span.v a_1) rfl (dw (om _ _) (dw rfl (dw rfl rfl))) wz (λn_3=>d9 0 (.inl rfl) (Span.v b_2) rfl (dw (om _ _) (dw rfl (dw rfl rfl))) wz (λn_4=>aa (vI 0) (af (au (bE (aJ Fy rfl 0 rfl wz (aB 1 1 (.inr (by kernel_rfl)) (λ_ _ ag=>trivial) QD RX rfl rfl (.d (dP Entry.enc b_2.f_e)) rfl wz ?_))))))))
 obtain ⟨y_5,hy_6,hF⟩:=bind_some hF
 refine dU (v':=(.d (.ptr (Entry.enc y_5)))) 6 rfl (y8 (enc:=Entry.enc) (y:=y_5) hy_6) (aa (.d (.ptr (Entry.enc y_5))) (kP Jy rfl [.int .i64 y_5.Prio,dl eS y_5.Tags,.bool y_5.Gone] rfl rfl wz (bK sz3 ag3 rfl (vI y_5.Prio) rfl wz (aJ Fy rfl 0 rfl wz (aB 6 0 (.inr (by kernel_rfl)) (λ_ _ ag=>⟨.inl ⟨rfl,rfl⟩,trivial⟩) QD RX rfl rfl (.d (dP Entry.enc a_1.f_e)) rfl wz ?_)))))
 obtain ⟨y_7,hy_8,hF⟩:=bind_some hF
 refine dU (v':=(.d (.ptr (Entry.enc y_7)))) 11 rfl (y8 (enc:=Entry.enc) (y:=y_7) hy_8) (aa (.d (.ptr (Entry.enc y_7))) (kP Jy rfl [.int .i64 y_7.Prio,dl eS y_7.Tags,.bool y_7.Gone] rfl rfl wz (bK sz3 ag3 rfl (vI y_7.Prio) rfl wz ?_)))
 obtain ⟨r_9,hr_10,hF⟩:=bind_some hF
 refine aC (ic hr_10) rfl LP rfl rfl rfl rfl wz (aJ zR rfl 1 rfl wz (aJ iI rfl 1 rfl wz (aB 13 1 (.inr (by kernel_rfl)) (λ_ _ ag=>⟨.inl ⟨rfl,rfl⟩,⟨.inl ⟨rfl,rfl⟩,trivial⟩⟩) sz3 ag3 rfl rfl (vI b_2.f_time.From) rfl wz (aJ zR rfl 1 rfl wz (aJ iI rfl 1 rfl wz (aB 16 0 (.inr (by kernel_rfl)) (λ_ _ ag=>⟨.inl ⟨rfl,rfl⟩,⟨.inl ⟨rfl,rfl⟩,⟨.inl ⟨rfl,rfl⟩,trivial⟩⟩⟩) sz3 ag3 rfl rfl (vI a_1.f_time.From) rfl wz ?_))))))
 obtain ⟨r_11,hr_12,hF⟩:=bind_some hF
 refine aC (ic hr_12) rfl LP rfl rfl rfl rfl wz (aJ Fy rfl 0 rfl wz (aB 19 1 (.inr (by kernel_rfl)) (λ_ _ ag=>⟨.inl ⟨rfl,rfl⟩,⟨.inl ⟨rfl,rfl⟩,⟨.inl ⟨rfl,rfl⟩,⟨.inl ⟨rfl,rfl⟩,trivial⟩⟩⟩⟩) QD RX rfl rfl (.d (dP Entry.enc b_2.f_e)) rfl wz ?_))
 obtain ⟨y_13,hy_14,hF⟩:=bind_some hF
 refine dU (v':=(.d (.ptr (Entry.enc y_13)))) 24 rfl (y8 (enc:=Entry.enc) (y:=y_13) hy_14) (aa (.d (.ptr (Entry.enc y_13))) (kP Ai rfl (Entry.enc y_13) rfl rfl wz (bK sz9 ag9 rfl (vS y_13.Key) rfl wz (aJ Fy rfl 0 rfl wz (aB 24 0 (.inr (by kernel_rfl)) (λ_ _ ag=>⟨.inl ⟨rfl,rfl⟩,⟨.inl ⟨rfl,rfl⟩,⟨.inl ⟨rfl,rfl⟩,⟨.inl ⟨rfl,rfl⟩,⟨.inl ⟨rfl,rfl⟩,trivial⟩⟩⟩⟩⟩) QD RX rfl rfl (.d (dP Entry.enc a_1.f_e)) rfl wz ?_)))))
 obtain ⟨y_15,hy_16,hF⟩:=bind_some hF
 refine dU (v':=(.d (.ptr (Entry.enc y_15)))) 29 rfl (y8 (enc:=Entry.enc) (y:=y_15) hy_16) (aa (.d (.ptr (Entry.enc y_15))) (kP Ai rfl (Entry.enc y_15) rfl rfl wz (bK sz9 ag9 rfl (vS y_15.Key) rfl wz ?_)))
 obtain ⟨r_17,hr_18,hF⟩:=bind_some hF
 refine aC (lN hr_18) rfl hb80 rfl rfl rfl rfl wz (eQ (([r_9,r_11,r_17]:List Int).map eI) lC wJ rfl rfl rfl rfl rfl wz ?_)
 obtain ⟨r_19,hr_20,hF⟩:=bind_some hF
 refine aC (qd hr_20) rfl hb79 rfl rfl rfl rfl wz (aa (vI r_19) (af (aO (H0:=([(n_3,some (.cells 3 (Span.v a_1))),(n_4,some (.cells 3 (Span.v b_2)))]:Hp)) ([(4,(vI r_19))]:SL_) (by kernel_rfl) (xm (by kernel_rfl)) ?_)))
 obtain rfl:=ae hF
 exact aH (aN [(vI r_19)] ⟨rfl,trivial⟩)
end
theorem j6 {x_1:(List Span)} {r:Span} (hF:bC x_1=some r) :
  FnM Tryz.prog 50 [(dV (aG 0) 3 x_1),(.fn 51 [])] (([]:List Box)++gI 3 Span.enc x_1) (.d (.agg (Span.enc r))) (([]:List Box).map some++gT x_1 (gB 3 Span.enc x_1)):=by
 refine FnM.of_wHv ⟨Tryz.prog,33,[],[]⟩ rfl Tryz.func50 rfl rfl (lb_ rfl) (by kernel_rfl) ?_
 unfold bC at hF
 refine aj (dC 0 (.inl rfl) z92 rfl wz (λn_3=>af (au (aj (aa (dV (aG 0) 3 x_1) (Cr DL rfl wz (aa (vB (decide ((x_1.length:Int)<1))) (af ?_))))))))
 obtain ⟨v_4,h_5,hF⟩:=bind_some hF
 refine aS [(0,(dV (aG 0) 3 x_1)),(1,(.fn 51 [])),(4,(.ref n_3 0 0))] [((aG 0),gB 3 Span.enc x_1),(n_3,some (.cells 3 [(.d .nilp),(vI 0),(vI 0)]))] ?_ ?_
 ·rcases ak h_5 with⟨hc_6,h_5⟩|⟨hc_6,h_5⟩
  ·refine aA rfl hc_6 (av ?_)
   cases h_5
  ·refine ay rfl hc_6 (ax ?_)
   obtain rfl:=ae h_5
   exact cu
 ·rintro ⟨⟩ _ sl_ H_ hp_ hq_
  refine aO _ hp_ hq_ (aj (aa (dV (aG 0) 3 x_1) ?_))
  obtain ⟨_,hi_7,hF⟩:=bind_some hF
  refine mI Bh rfl rfl (jW hi_7) (ik hi_7) wz ?_
  obtain ⟨e_8,hy_9,hF⟩:=bind_some hF
  refine lK 0 0 il ft qY Co rfl rfl hy_9 (.d (.agg (Span.enc e_8))) rfl wz (dC 0 (.inl rfl) z92 rfl wz (λn_10=>fA 0 il ft 2 qY rfl rfl (Span.v e_8) (Bi rfl (dw (om _ _) (dw rfl (dw rfl rfl))) rfl rfl) wz (af (au (aj (aa (vI 1) (af ?_)))))))
  obtain ⟨o_19,hj_20,hF⟩:=bind_some hF
  obtain ⟨nq_33,hj_20⟩:=cK hj_20
  refine fo (λ(s_16:Int×(Option Entry)×Int×Int)=>[(4,(.ref n_3 0 0)),(5,(.ref n_10 0 0))]) (λ(s_16:Int×(Option Entry)×Int×Int)=>[((aG 0),gB 3 Span.enc x_1),(n_3,some (.cells 3 [(.d .nilp),(vI 0),(vI 0)])),(n_10,some (.cells 3 [(.d (dP Entry.enc s_16.2.1)),(vI s_16.2.2.1),(vI s_16.2.2.2)]))]) (λ(k_11:Nat)=>(λ(s_16:Int×(Option Entry)×Int×Int)=>[(0,(dV (aG 0) 3 x_1)),(1,(.fn 51 [])),(4,(.ref n_3 0 0)),(5,(.ref n_10 0 0)),(6,(vI s_16.1))])) (λs=>bu x_1 s) o_19 nq_33 (1,e_8.f_e,e_8.f_time.From,e_8.f_time.To) hj_20 rfl (aK rfl) ?_ ?_
  ·rintro ⟨k_11,s_16⟩ hL_18
   dsimp only at hL_18
   cases k_11 with
   | zero=>cases hL_18
   | succ k_11 =>
    obtain ⟨c_,hc_17,hL_18⟩:=bind_some hL_18
    unfold bu at hc_17
    refine au (aj (aa (vI s_16.1) (aa (dV (aG 0) 3 x_1) (Cr DL rfl wz (aa (vB (decide (s_16.1<(x_1.length:Int)))) (af ?_))))))
    rcases ak hc_17 with⟨hc_21,hc_17⟩|⟨hc_21,hc_17⟩
    ·refine aA rfl hc_21 (ax (au (aQ (au (bE (aa (.fn 51 []) (aa (dV (aG 0) 3 x_1) (aa (vI s_16.1) ?_))))))))
     obtain ⟨_,hi_22,hc_17⟩:=bind_some hc_17
     refine mI Bh rfl rfl (jW hi_22) (ik hi_22) wz ?_
     obtain ⟨e_23,hy_24,hc_17⟩:=bind_some hc_17
     refine lK 4 0 (.inr (by kernel_rfl)) (λ_ _ ag=>trivial) qY Co rfl rfl hy_24 (.d (.agg (Span.enc e_23))) rfl wz (aB 5 2 (.inr (by kernel_rfl)) (λ_ _ ag=>⟨.inl ⟨rfl,rfl⟩,trivial⟩) qY Co rfl rfl (.d (.agg (Span.enc (⟨s_16.2.1,(⟨s_16.2.2.1,s_16.2.2.2⟩:Window)⟩:Span)))) rfl wz ?_)
     obtain ⟨r_25,hr_26,hc_17⟩:=bind_some hc_17
     refine aC (rH hr_26) rfl hb51 rfl rfl rfl rfl wz (aa (vB (decide (r_25<0))) (af ?_))
     obtain ⟨v_27,h_28,hc_17⟩:=bind_some hc_17
     refine aS [(0,(dV (aG 0) 3 x_1)),(1,(.fn 51 [])),(4,(.ref n_3 0 0)),(5,(.ref n_10 0 0)),(6,(vI s_16.1))] [((aG 0),gB 3 Span.enc x_1),(n_3,some (.cells 3 [(.d .nilp),(vI 0),(vI 0)])),(n_10,some (.cells 3 [(.d (dP Entry.enc v_27.1)),(vI v_27.2.1),(vI v_27.2.2)]))] ?_ ?_
     ·rcases ak h_28 with⟨hc_29,h_28⟩|⟨hc_29,h_28⟩
      ·refine aA rfl hc_29 (av (aa (dV (aG 0) 3 x_1) (aa (vI s_16.1) ?_)))
       obtain ⟨_,hi_30,h_28⟩:=bind_some h_28
       refine mI Bh rfl rfl (jW hi_30) (ik hi_30) wz ?_
       obtain ⟨e_31,hy_32,h_28⟩:=bind_some h_28
       refine lK 0 0 il ft qY Co rfl rfl hy_32 (.d (.agg (Span.enc e_31))) rfl wz (fA 0 il ft 2 qY rfl rfl (Span.v e_31) (Bi rfl (dw (om _ _) (dw rfl (dw rfl rfl))) rfl rfl) wz (af ?_))
       obtain rfl:=ae h_28
       exact cu
      ·refine ay rfl hc_29 (ax ?_)
       obtain rfl:=ae h_28
       exact cu
     ·rintro ⟨⟩ _ sl_ H_ hp_ hq_
      refine aO _ hp_ hq_ (av (aa (vI s_16.1) (aa (vI (w64 (s_16.1+1))) (aa (vI (w64 (s_16.1+1))) (af ?_)))))
      obtain rfl:=ae hc_17
      exact aY (k_11,((w64 (s_16.1+1)),v_27.1,v_27.2.1,v_27.2.2)) hL_18 (ls_ _) rfl (aK rfl)
    ·refine ay rfl hc_21 (aX ?_)
     obtain rfl:=ae hc_17
     obtain rfl:=ae hL_18
     exact aV ((s_16.1,s_16.2.1,s_16.2.2.1,s_16.2.2.2)) rfl rfl (aK rfl)
  ·rintro s_16 ho_ sl_ H_ hp_ hq_
   subst ho_
   refine aO _ hp_ hq_ (aj (aB 0 2 il ft qY Co rfl rfl (.d (.agg (Span.enc (⟨s_16.2.1,(⟨s_16.2.2.1,s_16.2.2.2⟩:Window)⟩:Span)))) rfl wz (fA 0 il ft 1 qY rfl rfl [(.d (dP Entry.enc s_16.2.1)),(vI s_16.2.2.1),(vI s_16.2.2.2)] (Bi rfl (dw (om _ _) (dw rfl (dw rfl rfl))) rfl rfl) wz (af ?_))))
   obtain rfl:=ae hF
   exact aH (pG (bs:=([]:List Box)) (os:=([]:List Box)) (xs:=x_1) (o:=gB 3 Span.enc x_1) (.inr rfl) [(.d (.agg (Span.enc (⟨s_16.2.1,(⟨s_16.2.2.1,s_16.2.2.2⟩:Window)⟩:Span))))] ⟨⟨1,_,_,_,_,_,_,_,rfl,rfl,qY,Co,rfl⟩,trivial⟩ rfl rfl rfl rfl rfl (by kernel_rfl) nU rfl)
end Go.Proofs.YtmkljmjhcegapaaGreatDoor.Law

