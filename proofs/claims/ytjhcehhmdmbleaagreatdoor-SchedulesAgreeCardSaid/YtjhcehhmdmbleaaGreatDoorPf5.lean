/-
 The machine computes these plain functions (written by a program of ours).
-/
import Derived.Test.YtjhcehhmdmbleaaGreatDoorFacts
import Derived.Test.YtjhcehhmdmbleaaGreatDoorDefs
import Derived.Test.YtjhcehhmdmbleaaGreatDoorPf4
open Go Go.Eng Go.Proofs
namespace Go.Proofs.YtjhcehhmdmbleaaGreatDoor.Law
set_option maxRecDepth 100000
set_option linter.unusedVariables false
set_option maxHeartbeats 1000000
theorem zQ {e_1:Entry} {zone_2:Int} {wv_3:Window} {r:(List Window)×Int} (hF:lD e_1 zone_2 wv_3=some r) :
  FnM Tryz.prog 78 [(.d (.agg (Entry.enc e_1))),(vI zone_2),(.d (.agg (Window.enc wv_3)))] [] (.tup [(vL Window.enc r.1),(vI r.2)]) []:=by
 refine FnM.of_wH ⟨Tryz.prog,45,[],[]⟩ rfl Tryz.func78 rfl rfl (Nat.le_of_ble_eq_true rfl) (by kernel_rfl) ?_
 unfold lD at hF
 refine af (aa (dR 0 (.inl rfl) [(vS e_1.Key),(vS e_1.Item),(vI e_1.Version),(vI e_1.First),(vI e_1.Last),(vI e_1.Every),(vI e_1.Days),(vL eI e_1.Except),(vI e_1.From),(vI e_1.To),(vI e_1.Prio),(vL eS e_1.Tags),(vB e_1.Gone)] rfl rfl wz (fun n_4=>dR 0 (.inl rfl) [(vI wv_3.From),(vI wv_3.To)] rfl rfl wz (fun n_5=>ae .nil wz rfl (ae (vI 0) wz rfl (ak (af (af (aa (aA 0 0 il ft qy uj rfl rfl (.d (.agg (Entry.enc e_1))) rfl wz (eG (([e_1]:List Entry).map Entry.enc) Er ez77 rfl rfl rfl rfl rfl wz ?_)))))))))))
 obtain ⟨r_6,hr_7,hF⟩:=bind_some hF
 refine aG (jH hr_7) rfl M4 rfl rfl rfl rfl wz (ae (vI r_6) wz rfl (ak (af (aa (ae (vI r_6) wz rfl (ae (vB (r_6 != 0)) wz rfl (ak ?_)))))))
 rcases au hF with⟨hc_8,hF⟩ | ⟨hc_8,hF⟩
 ·refine aB rfl hc_8 (af (aa (ae (vI r_6) wz rfl (ae .nil wz rfl (ae (vI r_6) wz rfl (ak ?_))))))
  obtain rfl:=ah hF
  exact aC (aO (.inr rfl) [.nil,(vI r_6)] ⟨rfl,⟨rfl,trivial⟩⟩ rfl rfl rfl)
 ·refine ay rfl hc_8 (av (af (af (aa (ae (vI zone_2) wz rfl ?_)))))
  obtain ⟨r_9,hr_10,hF⟩:=bind_some hF
  refine aG (bg hr_10) rfl qM rfl rfl rfl rfl wz (ak ?_)
  rcases au hF with⟨hc_11,hF⟩ | ⟨hc_11,hF⟩
  ·refine aB rfl hc_11 (af (aa (ae .nil wz rfl (ae (vI 1) wz rfl (ak ?_)))))
   obtain rfl:=ah hF
   exact aC (aO (.inr rfl) [.nil,(vI 1)] ⟨rfl,⟨rfl,trivial⟩⟩ rfl rfl rfl)
  ·refine ay rfl hc_11 (av (af (af (aa (aA 0 1 il ft kW qd rfl rfl (.d (.agg (Window.enc wv_3))) rfl wz ?_)))))
   obtain ⟨r_12,hr_13,hF⟩:=bind_some hF
   refine aG (nG hr_13) rfl hb153 rfl rfl rfl rfl wz (ae (vI r_12) wz rfl (ak (af (aa (ae (vI r_12) wz rfl (ae (vB (r_12 != 0)) wz rfl (ak ?_)))))))
   rcases au hF with⟨hc_14,hF⟩ | ⟨hc_14,hF⟩
   ·refine aB rfl hc_14 (af (aa (ae (vI r_12) wz rfl (ae .nil wz rfl (ae (vI r_12) wz rfl (ak ?_))))))
    obtain rfl:=ah hF
    exact aC (aO (.inr rfl) [.nil,(vI r_12)] ⟨rfl,⟨rfl,trivial⟩⟩ rfl rfl rfl)
   ·refine ay rfl hc_14 (av (af (aa (aA 0 0 il ft qy uj rfl rfl (.d (.agg (Entry.enc e_1))) rfl wz (ae (vI zone_2) wz rfl (aA 0 1 il ft kW qd rfl rfl (.d (.agg (Window.enc wv_3))) rfl wz ?_))))))
    obtain ⟨r_15,hr_16,hF⟩:=bind_some hF
    refine Gq [] (yM hr_16) rfl Mg rfl (by kernel_rfl) (by kernel_rfl) (by kernel_rfl) (by kernel_rfl) (by kernel_rfl) rfl (by decide) (by kernel_rfl) wz ([(n_4,some (.cells 13 [(vS e_1.Key),(vS e_1.Item),(vI e_1.Version),(vI e_1.First),(vI e_1.Last),(vI e_1.Every),(vI e_1.Days),(vL eI e_1.Except),(vI e_1.From),(vI e_1.To),(vI e_1.Prio),(vL eS e_1.Tags),(vB e_1.Gone)])),(n_5,some (.cells 2 [(vI wv_3.From),(vI wv_3.To)]))]:Hp) (fun _=>by kernel_rfl) (fun n_18=>ae (gV n_18 2 r_15) wz rfl (ak (af (af (aa (ae (gV n_18 2 r_15) wz rfl (Ah J4 rfl wz (ae (vI 0) wz rfl (ak ?_)))))))))
    obtain ⟨o_27,hj_28,hF⟩:=bind_some hF
    obtain ⟨hn_23,hj_28⟩:=bA hj_28
    refine aH (β:=((List Window))) (fun (s_24:(List Window))=>([(10,(gV n_18 2 s_24))]:List (Nat×V))) (fun (s_24:(List Window))=>([(n_4,some (.cells 13 [(vS e_1.Key),(vS e_1.Item),(vI e_1.Version),(vI e_1.First),(vI e_1.Last),(vI e_1.Every),(vI e_1.Days),(vL eI e_1.Except),(vI e_1.From),(vI e_1.To),(vI e_1.Prio),(vL eS e_1.Tags),(vB e_1.Gone)])),(n_5,some (.cells 2 [(vI wv_3.From),(vI wv_3.To)])),(n_18,gB 2 Window.enc s_24)]:Hp)) (fun p=>o_27 = .go p) ?_ ?_
    ·refine aF (aV (β:=Nat×(List Nat)×((List Window))) (fun p=>(fun (k_19:Nat) (l_20:List Nat) (s_24:(List Window))=>([(5,(.ref n_5 0 0)),(10,(gV n_18 2 s_24)),(30,(gV n_18 2 s_24)),(31,(vI (r_15.length:Int))),(32,(vI (k_19:Int)))]:List (Nat×V))) p.1 p.2.1 p.2.2) (fun p=>(fun (k_19:Nat) (l_20:List Nat) (s_24:(List Window))=>([(n_4,some (.cells 13 [(vS e_1.Key),(vS e_1.Item),(vI e_1.Version),(vI e_1.First),(vI e_1.Last),(vI e_1.Every),(vI e_1.Days),(vL eI e_1.Except),(vI e_1.From),(vI e_1.To),(vI e_1.Prio),(vL eS e_1.Tags),(vB e_1.Gone)])),(n_5,some (.cells 2 [(vI wv_3.From),(vI wv_3.To)])),(n_18,gB 2 Window.enc s_24)]:Hp)) p.1 p.2.1 p.2.2) (fun p=>forR (fun k x s=>kY wv_3 k x s) p.2.1 p.1 p.2.2=some o_27∧((List.range ((r_15.length:Int)).toNat)).drop p.1=p.2.1) (fun p=>p.2.1.length) (0,(List.range ((r_15.length:Int)).toNat),r_15) ⟨hj_28,rfl⟩ rfl (aJ rfl) ?_)
     rintro ⟨k_19,l_20,s_24⟩ ⟨hL_26,hD_22⟩
     dsimp only at hL_26 hD_22
     cases l_20 with
     | nil =>
      obtain rfl:=ah hL_26
      refine af (aa (ae (vB (decide ((k_19:Int) < (r_15.length:Int)))) wz rfl (ak ?_)))
      refine af (ay rfl (EL hD_22) (aQ ?_))
      exact aR (s_24) rfl rfl (aJ rfl)
     | cons x_21 l_20 =>
      obtain ⟨c_,hc_25,hL_26⟩:=bind_some hL_26
      refine af (aa (ae (vB (decide ((k_19:Int) < (r_15.length:Int)))) wz rfl (ak ?_)))
      refine af (aB rfl (DX hD_22) (av ?_))
      unfold kY at hc_25
      refine af (aF (af (aa (ae (vI (k_19:Int)) wz rfl ?_))))
      obtain ⟨_,hi_29,hc_25⟩:=bind_some hc_25
      refine vw EX rfl rfl (jf hi_29) (gu hi_29) wz ?_
      obtain ⟨e_30,hy_31,hc_25⟩:=bind_some hc_25
      refine kC 0 2 il ft kW qd rfl rfl hy_31 (.d (.agg (Window.enc e_30))) rfl wz (dm 0 (.inl rfl) z60 rfl wz (fun n_32=>ae (vI (k_19:Int)) wz rfl (eY 0 il ft 3 kW rfl rfl [(vI e_30.From),(vI e_30.To)] rfl wz (ak (aa (ae (gV n_18 2 s_24) wz rfl (ae (vI (k_19:Int)) wz rfl (aA 0 3 il ft kW qd rfl rfl (.d (.agg (Window.enc e_30))) rfl wz (aA 0 1 il ft kW qd rfl rfl (.d (.agg (Window.enc wv_3))) rfl wz ?_)))))))))
      obtain ⟨r_33,hr_34,hc_25⟩:=bind_some hc_25
      refine aG (vU hr_34) rfl hb155 rfl rfl rfl rfl wz ?_
      obtain ⟨_,hi_35,hc_25⟩:=bind_some hc_25
      refine vw EX rfl rfl (jf hi_35) (gu hi_35) wz ?_
      obtain ⟨e_36,hy_37,hc_25⟩:=bind_some hc_25
      refine yJ 0 il ft 2 kW rfl rfl hy_37 r_33 rfl wz (dN (v':=(gV n_18 2 (s_24.set (0 + ((k_19:Int)).toNat) r_33))) 10 rfl (jW (by simp)) (dN (v':=(gV n_18 2 (s_24.set (0 + ((k_19:Int)).toNat) r_33))) 30 rfl (jW (by simp)) (dN (v':=(gV n_18 2 (s_24.set (0 + ((k_19:Int)).toNat) r_33))) 37 rfl (jW (by simp)) (ak (aa (fJ (EJ hD_22 hn_23) wz rfl (ae (vI ((k_19 + 1:Nat):Int)) wz rfl (ak ?_))))))))
      obtain rfl:=ah hc_25
      exact aP (k_19 + 1,l_20,(s_24.set (0 + ((k_19:Int)).toNat) r_33)) ⟨hL_26,aW hD_22⟩ (Nat.lt_succ_self _) rfl (aJ rfl)
    ·rintro s_24 ho_ sl_ H_ hp_ hq_
     subst ho_
     refine aL _ hp_ hq_ (af (aa (ae (gV n_18 2 s_24) wz rfl (ae (gV n_18 2 s_24) wz rfl (ae (vI 0) wz rfl (ak (iB 2 rfl (dX 6 2 rfl rfl (dX 10 2 rfl rfl (dX 44 2 rfl rfl ?_))))))))))
     obtain rfl:=ah hF
     exact aC (aO (.inr rfl) [(vL Window.enc s_24),(vI 0)] ⟨rfl,⟨rfl,trivial⟩⟩ rfl rfl rfl)
theorem zz {wv_1:Window} {r:Bool} (hF:nV wv_1=some r) :
  FnM Tryz.prog 200 [(.d (.agg (Window.enc wv_1)))] [] (vB r) []:=by
 refine FnM.of_wH ⟨Tryz.prog,18,[],[]⟩ rfl Tryz.func200 rfl rfl (Nat.le_of_ble_eq_true rfl) (by kernel_rfl) ?_
 unfold nV at hF
 refine af (aa (dR 0 (.inl rfl) [(vI wv_1.From),(vI wv_1.To)] rfl rfl wz (fun n_2=>ae (vB false) wz rfl (ak (af ?_)))))
 obtain ⟨v_3,h_4,hF⟩:=bind_some hF
 refine aH (β:=Unit) (fun _=>([(2,(vB v_3))]:List (Nat×V))) (fun _=>([(n_2,some (.cells 2 [(vI wv_1.From),(vI wv_1.To)]))]:Hp)) (fun _=>True) ?_ ?_
 ·refine aa (aI gq rfl 0 rfl wz (aA 0 0 il ft sz3 ag3 rfl rfl (vI wv_1.From) rfl wz (ae (vB (decide (wv_1.From≥0))) wz rfl ?_)))
  rcases au h_4 with⟨hc_5,h_4⟩ | ⟨hc_5,h_4⟩
  ·refine aD rfl hc_5 wz (aI gq rfl 0 rfl wa (aA 0 0 il ft sz3 ag3 rfl rfl (vI wv_1.From) rfl wa (aI iC rfl 1 rfl wa (aA 0 0 il ft sz3 ag3 rfl rfl (vI wv_1.To) rfl wa (ae (vB (decide (wv_1.From < wv_1.To))) wa rfl (ae (vB (decide (wv_1.From < wv_1.To))) wz rfl ?_))))))
   rcases au h_4 with⟨hc_6,h_4⟩ | ⟨hc_6,h_4⟩
   ·refine aD rfl hc_6 wz (aI iC rfl 1 rfl wa (aA 0 0 il ft sz3 ag3 rfl rfl (vI wv_1.To) rfl wa (ae (vB (decide (wv_1.To≤345686400000))) wa rfl (ae (vB (decide (wv_1.To≤345686400000))) wz rfl (ae (vB (decide (wv_1.To≤345686400000))) wz rfl (ak ?_))))))
    obtain rfl:=ah h_4
    exact cu
   ·refine aD rfl hc_6 wz (aj wa (aj wa (aj wa (ae (vB false) wz rfl (ae (vB false) wz rfl (ak ?_))))))
    obtain rfl:=ah h_4
    exact cu
  ·refine aD rfl hc_5 wz (aj wa (aj wa (aj wa (aj wa (aj wa (ae (vB false) wz rfl (ae (vB false) wz rfl (aj wa (aj wa (aj wa (ae (vB false) wz rfl (ae (vB false) wz rfl (ak ?_)))))))))))))
   obtain rfl:=ah h_4
   exact cu
 ·rintro ⟨⟩ _ sl_ H_ hp_ hq_
  refine aL _ hp_ hq_ ?_
  obtain rfl:=ah hF
  exact aC (aO (.inr rfl) [(vB v_3)] ⟨rfl,trivial⟩ rfl rfl rfl)
theorem xu {l_1:(List ByteArray)} {r:Int} (hF:jq l_1=some r) :
  FnM Tryz.prog 201 [(vL eS l_1)] [] (vI r) []:=by
 refine FnM.of_wH ⟨Tryz.prog,8,[],[]⟩ rfl Tryz.func201 rfl rfl (Nat.le_of_ble_eq_true rfl) (by kernel_rfl) ?_
 unfold jq at hF
 refine af (aa (ae (vI 0) wz rfl (ak (af (af (aa (ae (vL eS l_1) wz rfl (cz BM rfl wz (ae (vB (decide ((l_1.length:Int) > 20))) wz rfl (ak ?_))))))))))
 rcases au hF with⟨hc_2,hF⟩ | ⟨hc_2,hF⟩
 ·refine aB rfl hc_2 (af (aa (ae (vI 2) wz rfl (ak ?_))))
  obtain rfl:=ah hF
  exact aC (aO (.inr rfl) [(vI 2)] ⟨rfl,trivial⟩ rfl rfl rfl)
 ·refine ay rfl hc_2 (av (af (aa (ae (vL eS l_1) wz rfl ?_))))
  obtain ⟨r_3,hr_4,hF⟩:=bind_some hF
  refine aG (ru hr_4) rfl hb266 rfl rfl rfl rfl wz (ae (vI r_3) wz rfl (ak ?_))
  obtain rfl:=ah hF
  exact aC (aO (.inr rfl) [(vI r_3)] ⟨rfl,trivial⟩ rfl rfl rfl)
theorem rU {l_1:(List Campaign)} {r:Int} (hF:gN l_1=some r) :
  FnM Tryz.prog 156 [(vL Campaign.enc l_1)] [] (vI r) []:=by
 refine FnM.of_wH ⟨Tryz.prog,73,[],[]⟩ rfl Tryz.func156 rfl rfl (Nat.le_of_ble_eq_true rfl) (by kernel_rfl) ?_
 unfold gN at hF
 refine af (aa (ae (vI 0) wz rfl (ak (af (af (aa (ae (vL Campaign.enc l_1) wz rfl (cz un230 rfl wz (ae (vB (decide ((l_1.length:Int) > 30))) wz rfl (ak ?_))))))))))
 rcases au hF with⟨hc_2,hF⟩ | ⟨hc_2,hF⟩
 ·refine aB rfl hc_2 (af (aa (ae (vI 2) wz rfl (ak ?_))))
  obtain rfl:=ah hF
  exact aC (aO (.inr rfl) [(vI 2)] ⟨rfl,trivial⟩ rfl rfl rfl)
 ·refine ay rfl hc_2 (av (af (af (aa (ae (vL Campaign.enc l_1) wz rfl (cz un230 rfl wz (ae (vI 0) wz rfl (ak ?_))))))))
  obtain ⟨o_11,hj_12,hF⟩:=bind_some hF
  obtain ⟨hn_7,hj_12⟩:=bA hj_12
  refine aH (β:=(Unit)) (fun (s_8:Unit)=>([]:List (Nat×V))) (fun (s_8:Unit)=>([]:Hp)) (fun p=>o_11 = .go p) ?_ ?_
  ·refine aF (aV (β:=Nat×(List Campaign)×(Unit)) (fun p=>(fun (k_3:Nat) (l_4:List Campaign) (s_8:Unit)=>([(0,(vL Campaign.enc l_1)),(9,(vL Campaign.enc l_1)),(10,(vI (l_1.length:Int))),(11,(vI (k_3:Int)))]:List (Nat×V))) p.1 p.2.1 p.2.2) (fun p=>(fun (k_3:Nat) (l_4:List Campaign) (s_8:Unit)=>([]:Hp)) p.1 p.2.1 p.2.2) (fun p=>forR (fun k x s=>fB l_1 k x s) p.2.1 p.1 p.2.2=some o_11∧(l_1).drop p.1=p.2.1) (fun p=>p.2.1.length) (0,l_1,()) ⟨hj_12,rfl⟩ rfl (aJ rfl) ?_)
   rintro ⟨k_3,l_4,s_8⟩ ⟨hL_10,hD_6⟩
   dsimp only at hL_10 hD_6
   cases l_4 with
   | nil =>
    obtain rfl:=ah hL_10
    refine af (aa (ae (vB (decide ((k_3:Int) < (l_1.length:Int)))) wz rfl (ak ?_)))
    refine af (ay rfl (drop_nil hD_6) (aQ ?_))
    exact aR (s_8) rfl rfl (aJ rfl)
   | cons x_5 l_4 =>
    obtain ⟨c_,hc_9,hL_10⟩:=bind_some hL_10
    refine af (aa (ae (vB (decide ((k_3:Int) < (l_1.length:Int)))) wz rfl (ak ?_)))
    refine af (aB rfl (bI hD_6) (av ?_))
    unfold fB at hc_9
    refine af (aF (af (aa (ae (vI (k_3:Int)) wz rfl (dL Mx rfl rfl (bP hD_6) rfl wz (bG JK Ma rfl (.d (.agg (Campaign.enc x_5))) rfl wz (dm 0 (.inl rfl) z154 rfl wz (fun n_13=>ae (vI (k_3:Int)) wz rfl (eY 0 il ft 0 JK rfl rfl [(vS x_5.Key),(vS x_5.Class),(vI x_5.Time.From),(vI x_5.Time.To),(vL eS x_5.Tags),(vI x_5.Goal),(vI x_5.Most),(vI x_5.Cents)] rfl wz (ak (af (aF (af ?_)))))))))))))
    obtain ⟨v_14,h_15,hc_9⟩:=bind_some hc_9
    refine aH (β:=Unit) (fun _=>([(0,(vL Campaign.enc l_1)),(3,(vI (k_3:Int))),(4,(.ref n_13 0 0)),(9,(vL Campaign.enc l_1)),(10,(vI (l_1.length:Int))),(11,(vI (k_3:Int))),(16,(vB v_14))]:List (Nat×V))) (fun _=>([(n_13,some (.cells 8 [(vS x_5.Key),(vS x_5.Class),(vI x_5.Time.From),(vI x_5.Time.To),(vL eS x_5.Tags),(vI x_5.Goal),(vI x_5.Most),(vI x_5.Cents)]))]:Hp)) (fun _=>True) ?_ ?_
    ·refine aa (aI FE rfl 0 rfl wz (aA 0 0 il ft sz9 ag9 rfl rfl (vS x_5.Key) rfl wz ?_))
     obtain ⟨r_16,hr_17,h_15⟩:=bind_some h_15
     refine aG (fo hr_17) rfl uA rfl rfl rfl rfl wz (ae (vB (!r_16)) wz rfl ?_)
     rcases au h_15 with⟨hc_18,h_15⟩ | ⟨hc_18,h_15⟩
     ·refine aD rfl hc_18 wz (aj wa (aj wa (aj wa (aj wa (aj (wn rfl rfl) (aj (wn rfl rfl) (aj (wn rfl rfl) (aj (wn rfl rfl) (aj wa (ae (vB true) wz rfl (ae (vB true) wz rfl (ak ?_))))))))))))
      obtain rfl:=ah h_15
      exact cu
     ·refine aD rfl hc_18 wz (aI Kq rfl 1 rfl wa (aA 0 0 il ft sz9 ag9 rfl rfl (vS x_5.Class) rfl wa (ae (vB (sNe x_5.Class (⟨#[]⟩:ByteArray))) wa rfl ?_)))
      rcases au h_15 with⟨hc_19,h_15⟩ | ⟨hc_19,h_15⟩
      ·refine aD rfl hc_19 wa (aI Kq rfl 1 rfl wa (aA 0 0 il ft sz9 ag9 rfl rfl (vS x_5.Class) rfl wa ?_))
       obtain ⟨r_20,hr_21,h_15⟩:=bind_some h_15
       refine aG (fo hr_21) rfl uA rfl rfl rfl rfl wa (ae (vB (!r_20)) wa rfl (ae (vB (!r_20)) wa rfl (ae (vB (!r_20)) wz rfl (ae (vB (!r_20)) wz rfl (ak ?_)))))
       obtain rfl:=ah h_15
       exact cu
      ·refine aD rfl hc_19 wa (aj wa (aj wa (aj wa (aj wa (ae (vB false) wa rfl (ae (vB false) wz rfl (ae (vB false) wz rfl (ak ?_))))))))
       obtain rfl:=ah h_15
       exact cu
    ·rintro ⟨⟩ _ sl_ H_ hp_ hq_
     refine aL _ hp_ hq_ ?_
     rcases au hc_9 with⟨hc_22,hc_9⟩ | ⟨hc_22,hc_9⟩
     ·refine aB rfl hc_22 (af (aa (ae (vI 5) wz rfl (ak ?_))))
      obtain rfl:=ah hc_9
      obtain rfl:=ah hL_10
      obtain rfl:=ah hF
      exact aC (aO (.inr rfl) [(vI 5)] ⟨rfl,trivial⟩ rfl rfl rfl)
     ·refine ay rfl hc_22 (af ?_)
      obtain ⟨v_23,h_24,hc_9⟩:=bind_some hc_9
      refine aH (β:=Unit) (fun _=>([(0,(vL Campaign.enc l_1)),(4,(.ref n_13 0 0)),(9,(vL Campaign.enc l_1)),(10,(vI (l_1.length:Int))),(11,(vI (k_3:Int))),(32,(vB v_23))]:List (Nat×V))) (fun _=>([(n_13,some (.cells 8 [(vS x_5.Key),(vS x_5.Class),(vI x_5.Time.From),(vI x_5.Time.To),(vL eS x_5.Tags),(vI x_5.Goal),(vI x_5.Most),(vI x_5.Cents)]))]:Hp)) (fun _=>True) ?_ ?_
      ·refine bn (ae (vI (k_3:Int)) wz rfl (ae (vB (decide ((k_3:Int) > 0))) wz rfl ?_))
       rcases au h_24 with⟨hc_25,h_24⟩ | ⟨hc_25,h_24⟩
       ·refine aD rfl hc_25 wz (aI FE rfl 0 rfl wa (aA 4 0 (.inr (by kernel_rfl)) (fun _ _ ag=>trivial) sz9 ag9 rfl rfl (vS x_5.Key) rfl wa (ae (vL Campaign.enc l_1) wa rfl (ae (vI (k_3:Int)) wa rfl (ae (vI (w64 ((k_3:Int) - 1))) wa rfl ?_)))))
        obtain ⟨y_26,hy_27,h_24⟩:=bind_some h_24
        refine dL Mx rfl rfl hy_27 rfl wa (jg FE rfl [.str y_26.Key,.str y_26.Class,.int .i64 y_26.Time.From,.int .i64 y_26.Time.To,dl eS y_26.Tags,.int .i64 y_26.Goal,.int .i64 y_26.Most,.int .i64 y_26.Cents] rfl rfl wa (bG sz9 ag9 rfl (vS y_26.Key) rfl wa (ae (vB (sLe x_5.Key y_26.Key)) wa rfl (ae (vB (sLe x_5.Key y_26.Key)) wz rfl (ae (vB (sLe x_5.Key y_26.Key)) wz rfl (ak ?_))))))
        obtain rfl:=ah h_24
        exact cu
       ·refine aD rfl hc_25 wz (aj wa (aj wa (aj wa (aj wa (aj wa (aj wa (aj wa (aj wa (aj wa (ae (vB false) wz rfl (ae (vB false) wz rfl (ak ?_))))))))))))
        obtain rfl:=ah h_24
        exact cu
      ·rintro ⟨⟩ _ sl_ H_ hp_ hq_
       refine aL _ hp_ hq_ ?_
       rcases au hc_9 with⟨hc_28,hc_9⟩ | ⟨hc_28,hc_9⟩
       ·refine aB rfl hc_28 (af (aa (ae (vI 7) wz rfl (ak ?_))))
        obtain rfl:=ah hc_9
        obtain rfl:=ah hL_10
        obtain rfl:=ah hF
        exact aC (aO (.inr rfl) [(vI 7)] ⟨rfl,trivial⟩ rfl rfl rfl)
       ·refine ay rfl hc_28 (af ?_)
        obtain ⟨v_29,h_30,hc_9⟩:=bind_some hc_9
        refine aH (β:=Unit) (fun _=>([(0,(vL Campaign.enc l_1)),(4,(.ref n_13 0 0)),(9,(vL Campaign.enc l_1)),(10,(vI (l_1.length:Int))),(11,(vI (k_3:Int))),(46,(vB v_29))]:List (Nat×V))) (fun _=>([(n_13,some (.cells 8 [(vS x_5.Key),(vS x_5.Class),(vI x_5.Time.From),(vI x_5.Time.To),(vL eS x_5.Tags),(vI x_5.Goal),(vI x_5.Most),(vI x_5.Cents)]))]:Hp)) (fun _=>True) ?_ ?_
        ·refine aa (aI xy rfl 2 rfl wz (aA 0 0 il ft kW qd rfl rfl (.d (.agg (Window.enc x_5.Time))) rfl wz ?_))
         obtain ⟨r_31,hr_32,h_30⟩:=bind_some h_30
         refine aG (zz hr_32) rfl hb200 rfl rfl rfl rfl wz (ae (vB (!r_31)) wz rfl ?_)
         rcases au h_30 with⟨hc_33,h_30⟩ | ⟨hc_33,h_30⟩
         ·refine aD rfl hc_33 wz (aj wa (aj wa (aj wa (ae (vB true) wz rfl (ae (vB true) wz rfl (aj wa (aj wa (aj wa (ae (vB true) wz rfl (ae (vB true) wz rfl (aj wa (aj wa (aj wa (ae (vB true) wz rfl (ae (vB true) wz rfl (ak ?_))))))))))))))))
          obtain rfl:=ah h_30
          exact cu
         ·refine aD rfl hc_33 wz (aI GA rfl 5 rfl wa (aA 0 0 il ft sz3 ag3 rfl rfl (vI x_5.Goal) rfl wa ?_))
          obtain ⟨r_34,hr_35,h_30⟩:=bind_some h_30
          refine aG (bg hr_35) rfl qM rfl rfl rfl rfl wa (ae (vB r_34) wz rfl ?_)
          rcases au h_30 with⟨hc_36,h_30⟩ | ⟨hc_36,h_30⟩
          ·refine aD rfl hc_36 wz (aj wa (aj wa (aj wa (ae (vB true) wz rfl (ae (vB true) wz rfl (aj wa (aj wa (aj wa (ae (vB true) wz rfl (ae (vB true) wz rfl (ak ?_)))))))))))
           obtain rfl:=ah h_30
           exact cu
          ·refine aD rfl hc_36 wz (aI pl154_5 rfl 6 rfl wa (aA 0 0 il ft sz3 ag3 rfl rfl (vI x_5.Most) rfl wa ?_))
           obtain ⟨r_37,hr_38,h_30⟩:=bind_some h_30
           refine aG (bg hr_38) rfl qM rfl rfl rfl rfl wa (ae (vB r_37) wz rfl ?_)
           rcases au h_30 with⟨hc_39,h_30⟩ | ⟨hc_39,h_30⟩
           ·refine aD rfl hc_39 wz (aj wa (aj wa (aj wa (ae (vB true) wz rfl (ae (vB true) wz rfl (ak ?_))))))
            obtain rfl:=ah h_30
            exact cu
           ·refine aD rfl hc_39 wz (aI pl154_6 rfl 7 rfl wa (aA 0 0 il ft sz3 ag3 rfl rfl (vI x_5.Cents) rfl wa ?_))
            obtain ⟨r_40,hr_41,h_30⟩:=bind_some h_30
            refine aG (bg hr_41) rfl qM rfl rfl rfl rfl wa (ae (vB r_40) wz rfl (ae (vB r_40) wz rfl (ak ?_)))
            obtain rfl:=ah h_30
            exact cu
        ·rintro ⟨⟩ _ sl_ H_ hp_ hq_
         refine aL _ hp_ hq_ ?_
         rcases au hc_9 with⟨hc_42,hc_9⟩ | ⟨hc_42,hc_9⟩
         ·refine aB rfl hc_42 (af (aa (ae (vI 1) wz rfl (ak ?_))))
          obtain rfl:=ah hc_9
          obtain rfl:=ah hL_10
          obtain rfl:=ah hF
          exact aC (aO (.inr rfl) [(vI 1)] ⟨rfl,trivial⟩ rfl rfl rfl)
         ·refine ay rfl hc_42 (av (af (aa (aI pl154_3 rfl 4 rfl wz (aA 0 0 il ft BJ DD rfl rfl (vL eS x_5.Tags) rfl wz ?_)))))
          obtain ⟨r_43,hr_44,hc_9⟩:=bind_some hc_9
          refine aG (xu hr_44) rfl hb201 rfl rfl rfl rfl wz (ae (vI r_43) wz rfl (ak (af (aa (ae (vI r_43) wz rfl (ae (vB (r_43 != 0)) wz rfl (ak ?_)))))))
          rcases au hc_9 with⟨hc_45,hc_9⟩ | ⟨hc_45,hc_9⟩
          ·refine aB rfl hc_45 (af (aa (ae (vI r_43) wz rfl (ae (vI r_43) wz rfl (ak ?_)))))
           obtain rfl:=ah hc_9
           obtain rfl:=ah hL_10
           obtain rfl:=ah hF
           exact aC (aO (.inr rfl) [(vI r_43)] ⟨rfl,trivial⟩ rfl rfl rfl)
          ·refine ay rfl hc_45 (av (aa (fJ (bK hD_6 hn_7) wz rfl (ae (vI ((k_3 + 1:Nat):Int)) wz rfl (ak ?_)))))
           obtain rfl:=ah hc_9
           exact aP (k_3 + 1,l_4,()) ⟨hL_10,aW hD_6⟩ (Nat.lt_succ_self _) rfl (aJ rfl)
  ·rintro s_8 ho_ sl_ H_ hp_ hq_
   subst ho_
   refine aL _ hp_ hq_ (af (aa (ae (vI 0) wz rfl (ak ?_))))
   obtain rfl:=ah hF
   exact aC (aO (.inr rfl) [(vI 0)] ⟨rfl,trivial⟩ rfl rfl rfl)
theorem Ee {c_1:Campaign} {atv_2:Int} {r:Int} (hF:sH c_1 atv_2=some r) :
  FnM Tryz.prog 157 [(.d (.agg (Campaign.enc c_1))),(vI atv_2)] [] (vI r) []:=by
 refine FnM.of_wH ⟨Tryz.prog,35,[],[]⟩ rfl Tryz.func157 rfl rfl (Nat.le_of_ble_eq_true rfl) (by kernel_rfl) ?_
 unfold sH at hF
 refine af (aa (dR 0 (.inl rfl) [(vS c_1.Key),(vS c_1.Class),(vI c_1.Time.From),(vI c_1.Time.To),(vL eS c_1.Tags),(vI c_1.Goal),(vI c_1.Most),(vI c_1.Cents)] rfl rfl wz (fun n_3=>ae (vI 0) wz rfl (ak (af (aF (af (aa (ae (vI atv_2) wz rfl (aI xy rfl 2 rfl wz (aI gq rfl 2 rfl wz (aA 0 0 il ft sz3 ag3 rfl rfl (vI c_1.Time.From) rfl wz (ae (vB (decide (atv_2 < c_1.Time.From))) wz rfl (ae (vB (decide (atv_2 < c_1.Time.From))) wz rfl (ak ?_)))))))))))))))
 rcases au hF with⟨hc_4,hF⟩ | ⟨hc_4,hF⟩
 ·refine aB rfl hc_4 (af (aa (ae (vI 0) wz rfl (ak ?_))))
  obtain rfl:=ah hF
  exact aC (aO (.inr rfl) [(vI 0)] ⟨rfl,trivial⟩ rfl rfl rfl)
 ·refine ay rfl hc_4 (af (aa (ae (vI atv_2) wz rfl (aI xy rfl 2 rfl wz (aI iC rfl 3 rfl wz (aA 0 0 il ft sz3 ag3 rfl rfl (vI c_1.Time.To) rfl wz (ae (vB (decide (atv_2≥c_1.Time.To))) wz rfl (ae (vB (decide (atv_2≥c_1.Time.To))) wz rfl (ak ?_)))))))))
  rcases au hF with⟨hc_5,hF⟩ | ⟨hc_5,hF⟩
  ·refine aB rfl hc_5 (af (aa (aI GA rfl 5 rfl wz (aA 0 0 il ft sz3 ag3 rfl rfl (vI c_1.Goal) rfl wz (ae (vI c_1.Goal) wz rfl (ak ?_))))))
   obtain rfl:=ah hF
   exact aC (aO (.inr rfl) [(vI c_1.Goal)] ⟨rfl,trivial⟩ rfl rfl rfl)
  ·refine ay rfl hc_5 (av (af (aa (aI GA rfl 5 rfl wz (aA 0 0 il ft sz3 ag3 rfl rfl (vI c_1.Goal) rfl wz (ae (vI atv_2) wz rfl (aI xy rfl 2 rfl wz (aI gq rfl 2 rfl wz (aA 0 0 il ft sz3 ag3 rfl rfl (vI c_1.Time.From) rfl wz (ae (vI (w64 (atv_2 - c_1.Time.From))) wz rfl (ae (vI (w64 (c_1.Goal * (w64 (atv_2 - c_1.Time.From))))) wz rfl (aI xy rfl 2 rfl wz (aI iC rfl 3 rfl wz (aA 0 0 il ft sz3 ag3 rfl rfl (vI c_1.Time.To) rfl wz (aI xy rfl 2 rfl wz (aI gq rfl 2 rfl wz (aA 0 0 il ft sz3 ag3 rfl rfl (vI c_1.Time.From) rfl wz (ae (vI (w64 (c_1.Time.To - c_1.Time.From))) wz rfl ?_))))))))))))))))))
   obtain ⟨q_6,hz_7,hF⟩:=bind_some hF
   refine L9 rfl rfl hz_7 wz (ae (vI q_6) wz rfl (ak (aL (H0:=([(n_3,some (.cells 8 [(vS c_1.Key),(vS c_1.Class),(vI c_1.Time.From),(vI c_1.Time.To),(vL eS c_1.Tags),(vI c_1.Goal),(vI c_1.Most),(vI c_1.Cents)]))]:Hp)) ([(4,(vI q_6))]:List (Nat×V)) (by kernel_rfl) (tq (by kernel_rfl)) ?_)))
   obtain rfl:=ah hF
   exact aC (aO (.inr rfl) [(vI q_6)] ⟨rfl,trivial⟩ rfl rfl rfl)
theorem Cx {c_1:Campaign} {atv_2:Int} {r:Int×Int} (hF:pz c_1 atv_2=some r) :
  FnM Tryz.prog 79 [(.d (.agg (Campaign.enc c_1))),(vI atv_2)] [] (.tup [(vI r.1),(vI r.2)]) []:=by
 refine FnM.of_wH ⟨Tryz.prog,19,[],[]⟩ rfl Tryz.func79 rfl rfl (Nat.le_of_ble_eq_true rfl) (by kernel_rfl) ?_
 unfold pz at hF
 refine af (aa (dR 0 (.inl rfl) [(vS c_1.Key),(vS c_1.Class),(vI c_1.Time.From),(vI c_1.Time.To),(vL eS c_1.Tags),(vI c_1.Goal),(vI c_1.Most),(vI c_1.Cents)] rfl rfl wz (fun n_3=>ae (vI 0) wz rfl (ae (vI 0) wz rfl (ak (af (af (aa (aA 0 0 il ft JK Ma rfl rfl (.d (.agg (Campaign.enc c_1))) rfl wz (eG (([c_1]:List Campaign).map Campaign.enc) Mx ez230 rfl rfl rfl rfl rfl wz ?_))))))))))
 obtain ⟨r_4,hr_5,hF⟩:=bind_some hF
 refine aG (rU hr_5) rfl hb156 rfl rfl rfl rfl wz (ae (vI r_4) wz rfl (ak (af (aa (ae (vI r_4) wz rfl (ae (vB (r_4 != 0)) wz rfl (ak ?_)))))))
 rcases au hF with⟨hc_6,hF⟩ | ⟨hc_6,hF⟩
 ·refine aB rfl hc_6 (af (aa (ae (vI r_4) wz rfl (ae (vI 0) wz rfl (ae (vI r_4) wz rfl (ak ?_))))))
  obtain rfl:=ah hF
  exact aC (aO (.inr rfl) [(vI 0),(vI r_4)] ⟨rfl,⟨rfl,trivial⟩⟩ rfl rfl rfl)
 ·refine ay rfl hc_6 (av (af (af (aa (ae (vI atv_2) wz rfl ?_)))))
  obtain ⟨r_7,hr_8,hF⟩:=bind_some hF
  refine aG (gU hr_8) rfl Bd rfl rfl rfl rfl wz (ae (vB (!r_7)) wz rfl (ak ?_))
  rcases au hF with⟨hc_9,hF⟩ | ⟨hc_9,hF⟩
  ·refine aB rfl hc_9 (af (aa (ae (vI 0) wz rfl (ae (vI 1) wz rfl (ak ?_)))))
   obtain rfl:=ah hF
   exact aC (aO (.inr rfl) [(vI 0),(vI 1)] ⟨rfl,⟨rfl,trivial⟩⟩ rfl rfl rfl)
  ·refine ay rfl hc_9 (av (af (aa (aA 0 0 il ft JK Ma rfl rfl (.d (.agg (Campaign.enc c_1))) rfl wz (ae (vI atv_2) wz rfl ?_)))))
   obtain ⟨r_10,hr_11,hF⟩:=bind_some hF
   refine aG (Ee hr_11) rfl hb157 rfl rfl rfl rfl wz (ae (vI r_10) wz rfl (ae (vI 0) wz rfl (ak ?_)))
   obtain rfl:=ah hF
   exact aC (aO (.inr rfl) [(vI r_10),(vI 0)] ⟨rfl,⟨rfl,trivial⟩⟩ rfl rfl rfl)
theorem wB {a_1:Beat} {b_2:Beat} {r:Int} (hF:kv a_1 b_2=some r) :
  FnM Tryz.prog 267 [(.d (.agg (Beat.enc a_1))),(.d (.agg (Beat.enc b_2)))] [] (vI r) []:=by
 refine FnM.of_wH ⟨Tryz.prog,17,[],[]⟩ rfl Tryz.func267 rfl rfl (Nat.le_of_ble_eq_true rfl) (by kernel_rfl) ?_
 unfold kv at hF
 refine af (aa (dR 0 (.inl rfl) [(vS a_1.Player),(vI a_1.At),(vI a_1.Clock)] rfl rfl wz (fun n_3=>dR 0 (.inl rfl) [(vS b_2.Player),(vI b_2.At),(vI b_2.Clock)] rfl rfl wz (fun n_4=>ae (vI 0) wz rfl (ak (af (bn (aI xL rfl 0 rfl wz (aA 1 0 (.inr (by kernel_rfl)) (fun _ _ ag=>trivial) sz9 ag9 rfl rfl (vS a_1.Player) rfl wz (aI xL rfl 0 rfl wz (aA 3 1 (.inr (by kernel_rfl)) (fun _ _ ag=>⟨.inl ⟨rfl,rfl⟩,trivial⟩) sz9 ag9 rfl rfl (vS b_2.Player) rfl wz ?_)))))))))))
 obtain ⟨r_5,hr_6,hF⟩:=bind_some hF
 refine aG (nu hr_6) rfl Mw rfl rfl rfl rfl wz (aI zt rfl 1 rfl wz (aA 6 0 (.inr (by kernel_rfl)) (fun _ _ ag=>⟨.inl ⟨rfl,rfl⟩,⟨.inl ⟨rfl,rfl⟩,trivial⟩⟩) sz3 ag3 rfl rfl (vI a_1.At) rfl wz (aI zt rfl 1 rfl wz (aA 8 1 (.inr (by kernel_rfl)) (fun _ _ ag=>⟨.inl ⟨rfl,rfl⟩,⟨.inl ⟨rfl,rfl⟩,⟨.inl ⟨rfl,rfl⟩,trivial⟩⟩⟩) sz3 ag3 rfl rfl (vI b_2.At) rfl wz ?_))))
 obtain ⟨r_7,hr_8,hF⟩:=bind_some hF
 refine aG (iX hr_8) rfl G8 rfl rfl rfl rfl wz (eG (([r_5,r_7]:List Int).map eI) kE wo rfl rfl rfl rfl rfl wz ?_)
 obtain ⟨r_9,hr_10,hF⟩:=bind_some hF
 refine aG (sV hr_10) rfl L8 rfl rfl rfl rfl wz (ae (vI r_9) wz rfl (ak ?_))
 obtain rfl:=ah hF
 exact aC (aO (.inr rfl) [(vI r_9)] ⟨rfl,trivial⟩ rfl rfl rfl)
theorem yh {l_1:(List Beat)} {r:Int} (hF:jZ l_1=some r) :
  FnM Tryz.prog 202 [(vL Beat.enc l_1)] [] (vI r) []:=by
 refine FnM.of_wH ⟨Tryz.prog,69,[],[]⟩ rfl Tryz.func202 rfl rfl (Nat.le_of_ble_eq_true rfl) (by kernel_rfl) ?_
 unfold jZ at hF
 refine af (aa (ae (vI 0) wz rfl (ak (af (af (aa (ae (vL Beat.enc l_1) wz rfl (cz MB rfl wz (ae (vB (decide ((l_1.length:Int) > 500))) wz rfl (ak ?_))))))))))
 rcases au hF with⟨hc_2,hF⟩ | ⟨hc_2,hF⟩
 ·refine aB rfl hc_2 (af (aa (ae (vI 2) wz rfl (ak ?_))))
  obtain rfl:=ah hF
  exact aC (aO (.inr rfl) [(vI 2)] ⟨rfl,trivial⟩ rfl rfl rfl)
 ·refine ay rfl hc_2 (av (af (af (aa (ae (vL Beat.enc l_1) wz rfl (cz MB rfl wz (ae (vI 0) wz rfl (ak ?_))))))))
  obtain ⟨o_11,hj_12,hF⟩:=bind_some hF
  obtain ⟨hn_7,hj_12⟩:=bA hj_12
  refine aH (β:=(Unit)) (fun (s_8:Unit)=>([]:List (Nat×V))) (fun (s_8:Unit)=>([]:Hp)) (fun p=>o_11 = .go p) ?_ ?_
  ·refine aF (aV (β:=Nat×(List Beat)×(Unit)) (fun p=>(fun (k_3:Nat) (l_4:List Beat) (s_8:Unit)=>([(0,(vL Beat.enc l_1)),(8,(vL Beat.enc l_1)),(9,(vI (l_1.length:Int))),(10,(vI (k_3:Int)))]:List (Nat×V))) p.1 p.2.1 p.2.2) (fun p=>(fun (k_3:Nat) (l_4:List Beat) (s_8:Unit)=>([]:Hp)) p.1 p.2.1 p.2.2) (fun p=>forR (fun k x s=>iL l_1 k x s) p.2.1 p.1 p.2.2=some o_11∧(l_1).drop p.1=p.2.1) (fun p=>p.2.1.length) (0,l_1,()) ⟨hj_12,rfl⟩ rfl (aJ rfl) ?_)
   rintro ⟨k_3,l_4,s_8⟩ ⟨hL_10,hD_6⟩
   dsimp only at hL_10 hD_6
   cases l_4 with
   | nil =>
    obtain rfl:=ah hL_10
    refine af (aa (ae (vB (decide ((k_3:Int) < (l_1.length:Int)))) wz rfl (ak ?_)))
    refine af (ay rfl (drop_nil hD_6) (aQ ?_))
    exact aR (s_8) rfl rfl (aJ rfl)
   | cons x_5 l_4 =>
    obtain ⟨c_,hc_9,hL_10⟩:=bind_some hL_10
    refine af (aa (ae (vB (decide ((k_3:Int) < (l_1.length:Int)))) wz rfl (ak ?_)))
    refine af (aB rfl (bI hD_6) (av ?_))
    unfold iL at hc_9
    refine af (aF (af (aa (ae (vI (k_3:Int)) wz rfl (dL Fx rfl rfl (bP hD_6) rfl wz (bG EA J8 rfl (.d (.agg (Beat.enc x_5))) rfl wz (dm 0 (.inl rfl) z157 rfl wz (fun n_13=>ae (vI (k_3:Int)) wz rfl (eY 0 il ft 0 EA rfl rfl [(vS x_5.Player),(vI x_5.At),(vI x_5.Clock)] rfl wz (ak (aF (af (aa (aI xL rfl 0 rfl wz (aA 0 0 il ft sz9 ag9 rfl rfl (vS x_5.Player) rfl wz ?_)))))))))))))))
    obtain ⟨r_14,hr_15,hc_9⟩:=bind_some hc_9
    refine aG (fo hr_15) rfl uA rfl rfl rfl rfl wz (ae (vB (!r_14)) wz rfl (ae (vB (!r_14)) wz rfl (ak ?_)))
    rcases au hc_9 with⟨hc_16,hc_9⟩ | ⟨hc_16,hc_9⟩
    ·refine aB rfl hc_16 (af (aa (ae (vI 5) wz rfl (ak ?_))))
     obtain rfl:=ah hc_9
     obtain rfl:=ah hL_10
     obtain rfl:=ah hF
     exact aC (aO (.inr rfl) [(vI 5)] ⟨rfl,trivial⟩ rfl rfl rfl)
    ·refine ay rfl hc_16 (af ?_)
     obtain ⟨v_17,h_18,hc_9⟩:=bind_some hc_9
     refine aH (β:=Unit) (fun _=>([(0,(vL Beat.enc l_1)),(3,(vI (k_3:Int))),(4,(.ref n_13 0 0)),(8,(vL Beat.enc l_1)),(9,(vI (l_1.length:Int))),(10,(vI (k_3:Int))),(20,(vB v_17))]:List (Nat×V))) (fun _=>([(n_13,some (.cells 3 [(vS x_5.Player),(vI x_5.At),(vI x_5.Clock)]))]:Hp)) (fun _=>True) ?_ ?_
     ·refine aa (aI zt rfl 1 rfl wz (aA 0 0 il ft sz3 ag3 rfl rfl (vI x_5.At) rfl wz ?_))
      obtain ⟨r_19,hr_20,h_18⟩:=bind_some h_18
      refine aG (gU hr_20) rfl Bd rfl rfl rfl rfl wz (ae (vB (!r_19)) wz rfl ?_)
      rcases au h_18 with⟨hc_21,h_18⟩ | ⟨hc_21,h_18⟩
      ·refine aD rfl hc_21 wz (aj wa (aj wa (aj wa (ae (vB true) wz rfl (ae (vB true) wz rfl (ak ?_))))))
       obtain rfl:=ah h_18
       exact cu
      ·refine aD rfl hc_21 wz (aI zo rfl 2 rfl wa (aA 0 0 il ft sz3 ag3 rfl rfl (vI x_5.Clock) rfl wa ?_))
       obtain ⟨r_22,hr_23,h_18⟩:=bind_some h_18
       refine aG (bg hr_23) rfl qM rfl rfl rfl rfl wa (ae (vB r_22) wz rfl (ae (vB r_22) wz rfl (ak ?_)))
       obtain rfl:=ah h_18
       exact cu
     ·rintro ⟨⟩ _ sl_ H_ hp_ hq_
      refine aL _ hp_ hq_ ?_
      rcases au hc_9 with⟨hc_24,hc_9⟩ | ⟨hc_24,hc_9⟩
      ·refine aB rfl hc_24 (af (aa (ae (vI 1) wz rfl (ak ?_))))
       obtain rfl:=ah hc_9
       obtain rfl:=ah hL_10
       obtain rfl:=ah hF
       exact aC (aO (.inr rfl) [(vI 1)] ⟨rfl,trivial⟩ rfl rfl rfl)
      ·refine ay rfl hc_24 (af ?_)
       obtain ⟨v_25,h_26,hc_9⟩:=bind_some hc_9
       refine aH (β:=Unit) (fun _=>([(0,(vL Beat.enc l_1)),(3,(vI (k_3:Int))),(4,(.ref n_13 0 0)),(8,(vL Beat.enc l_1)),(9,(vI (l_1.length:Int))),(10,(vI (k_3:Int))),(30,(vB v_25))]:List (Nat×V))) (fun _=>([(n_13,some (.cells 3 [(vS x_5.Player),(vI x_5.At),(vI x_5.Clock)]))]:Hp)) (fun _=>True) ?_ ?_
       ·refine bn (ae (vI (k_3:Int)) wz rfl (ae (vB (decide ((k_3:Int) > 0))) wz rfl ?_))
        rcases au h_26 with⟨hc_27,h_26⟩ | ⟨hc_27,h_26⟩
        ·refine aD rfl hc_27 wz (ae (vL Beat.enc l_1) wa rfl (ae (vI (k_3:Int)) wa rfl (ae (vI (w64 ((k_3:Int) - 1))) wa rfl ?_)))
         obtain ⟨y_28,hy_29,h_26⟩:=bind_some h_26
         refine dL Fx rfl rfl hy_29 rfl wa (bG EA J8 rfl (.d (.agg (Beat.enc y_28))) rfl wa (aA 8 0 (.inr (by kernel_rfl)) (fun _ _ ag=>trivial) EA J8 rfl rfl (.d (.agg (Beat.enc x_5))) rfl wa ?_))
         obtain ⟨r_30,hr_31,h_26⟩:=bind_some h_26
         refine aG (wB hr_31) rfl hb267 rfl rfl rfl rfl wa (ae (vB (decide (r_30≥0))) wa rfl (ae (vB (decide (r_30≥0))) wz rfl (ae (vB (decide (r_30≥0))) wz rfl (ak ?_))))
         obtain rfl:=ah h_26
         exact cu
        ·refine aD rfl hc_27 wz (aj wa (aj wa (aj wa (aj wa (aj wa (aj wa (aj wa (aj wa (ae (vB false) wz rfl (ae (vB false) wz rfl (ak ?_)))))))))))
         obtain rfl:=ah h_26
         exact cu
       ·rintro ⟨⟩ _ sl_ H_ hp_ hq_
        refine aL _ hp_ hq_ ?_
        rcases au hc_9 with⟨hc_32,hc_9⟩ | ⟨hc_32,hc_9⟩
        ·refine aB rfl hc_32 (af (aa (ae (vI 7) wz rfl (ak ?_))))
         obtain rfl:=ah hc_9
         obtain rfl:=ah hL_10
         obtain rfl:=ah hF
         exact aC (aO (.inr rfl) [(vI 7)] ⟨rfl,trivial⟩ rfl rfl rfl)
        ·refine ay rfl hc_32 (af ?_)
         obtain ⟨v_33,h_34,hc_9⟩:=bind_some hc_9
         refine aH (β:=Unit) (fun _=>([(0,(vL Beat.enc l_1)),(8,(vL Beat.enc l_1)),(9,(vI (l_1.length:Int))),(10,(vI (k_3:Int))),(43,(vB v_33))]:List (Nat×V))) (fun _=>([(n_13,some (.cells 3 [(vS x_5.Player),(vI x_5.At),(vI x_5.Clock)]))]:Hp)) (fun _=>True) ?_ ?_
         ·refine bn (ae (vI (k_3:Int)) wz rfl (ae (vB (decide ((k_3:Int) > 0))) wz rfl ?_))
          rcases au h_34 with⟨hc_35,h_34⟩ | ⟨hc_35,h_34⟩
          ·refine aD rfl hc_35 wz (aI xL rfl 0 rfl wa (aA 4 0 (.inr (by kernel_rfl)) (fun _ _ ag=>trivial) sz9 ag9 rfl rfl (vS x_5.Player) rfl wa (ae (vL Beat.enc l_1) wa rfl (ae (vI (k_3:Int)) wa rfl (ae (vI (w64 ((k_3:Int) - 1))) wa rfl ?_)))))
           obtain ⟨y_36,hy_37,h_34⟩:=bind_some h_34
           refine dL Fx rfl rfl hy_37 rfl wa (jg xL rfl [.str y_36.Player,.int .i64 y_36.At,.int .i64 y_36.Clock] rfl rfl wa (bG sz9 ag9 rfl (vS y_36.Player) rfl wa (ae (vB (sEq x_5.Player y_36.Player)) wa rfl (ae (vB (sEq x_5.Player y_36.Player)) wz rfl ?_))))
           rcases au h_34 with⟨hc_38,h_34⟩ | ⟨hc_38,h_34⟩
           ·refine aD rfl hc_38 wz (aI zo rfl 2 rfl wa (aA 15 0 (.inr (by kernel_rfl)) (fun _ _ ag=>⟨.inl ⟨rfl,rfl⟩,trivial⟩) sz3 ag3 rfl rfl (vI x_5.Clock) rfl wa (ae (vL Beat.enc l_1) wa rfl (ae (vI (k_3:Int)) wa rfl (ae (vI (w64 ((k_3:Int) - 1))) wa rfl ?_)))))
            obtain ⟨y_39,hy_40,h_34⟩:=bind_some h_34
            refine dL Fx rfl rfl hy_40 rfl wa (jg zo rfl [.int .i64 y_39.Clock] rfl rfl wa (bG sz3 ag3 rfl (vI y_39.Clock) rfl wa (ae (vB (decide (x_5.Clock≤y_39.Clock))) wa rfl (ae (vB (decide (x_5.Clock≤y_39.Clock))) wz rfl (ae (vB (decide (x_5.Clock≤y_39.Clock))) wz rfl (ak ?_))))))
            obtain rfl:=ah h_34
            exact cu
           ·refine aD rfl hc_38 wz (aj wa (aj wa (aj wa (aj wa (aj wa (aj wa (aj wa (aj wa (aj wa (ae (vB false) wz rfl (ae (vB false) wz rfl (ak ?_))))))))))))
            obtain rfl:=ah h_34
            exact cu
          ·refine aD rfl hc_35 wz (aj wa (aj wa (aj wa (aj wa (aj wa (aj wa (aj wa (aj wa (aj wa (ae (vB false) wz rfl (ae (vB false) wz rfl (aj wa (aj wa (aj wa (aj wa (aj wa (aj wa (aj wa (aj wa (aj wa (ae (vB false) wz rfl (ae (vB false) wz rfl (ak ?_)))))))))))))))))))))))
           obtain rfl:=ah h_34
           exact cu
         ·rintro ⟨⟩ _ sl_ H_ hp_ hq_
          refine aL _ hp_ hq_ ?_
          rcases au hc_9 with⟨hc_41,hc_9⟩ | ⟨hc_41,hc_9⟩
          ·refine aB rfl hc_41 (af (aa (ae (vI 16) wz rfl (ak ?_))))
           obtain rfl:=ah hc_9
           obtain rfl:=ah hL_10
           obtain rfl:=ah hF
           exact aC (aO (.inr rfl) [(vI 16)] ⟨rfl,trivial⟩ rfl rfl rfl)
          ·refine ay rfl hc_41 (av (aa (fJ (bK hD_6 hn_7) wz rfl (ae (vI ((k_3 + 1:Nat):Int)) wz rfl (ak ?_)))))
           obtain rfl:=ah hc_9
           exact aP (k_3 + 1,l_4,()) ⟨hL_10,aW hD_6⟩ (Nat.lt_succ_self _) rfl (aJ rfl)
  ·rintro s_8 ho_ sl_ H_ hp_ hq_
   subst ho_
   refine aL _ hp_ hq_ (af (aa (ae (vI 0) wz rfl (ak ?_))))
   obtain rfl:=ah hF
   exact aC (aO (.inr rfl) [(vI 0)] ⟨rfl,trivial⟩ rfl rfl rfl)
theorem AP {l_1:(List Beat)} {player_2:ByteArray} {back_3:Bool} {r:(List Beat_)} (hF:o6 l_1 player_2 back_3=some r) :
  FnM Tryz.prog 204 [(vL Beat.enc l_1),(vS player_2),(vB back_3)] [] (vL Beat_.enc r) []:=by
 refine FnM.of_wH ⟨Tryz.prog,41,[],[]⟩ rfl Tryz.func204 rfl rfl (Nat.le_of_ble_eq_true rfl) (by kernel_rfl) ?_
 unfold o6 at hF
 refine af (aa (ae .nil wz rfl (ak (af (aa (ae .nil wz rfl (ak (af (af (aa (ae (vL Beat.enc l_1) wz rfl (cz MB rfl wz (ae (vI 0) wz rfl (ak (lT (fun n_10 => ?_))))))))))))))))
 obtain ⟨o_15,hj_16,hF⟩:=bind_some hF
 obtain ⟨hn_8,hj_16⟩:=bA hj_16
 refine aH (β:=((List Beat_))×Nm) (fun p=>(fun (s_9:(List Beat_)) (n_12:Nm)=>([(7,(gV n_12 2 s_9))]:List (Nat×V))) p.1 p.2) (fun p=>(fun (s_9:(List Beat_)) (n_12:Nm)=>([(n_12,gB 2 Beat_.enc s_9)]:Hp)) p.1 p.2) (fun p=>o_15 = .go p.1) ?_ ?_
 ·refine aF (aV (β:=Nat×(List Beat)×((List Beat_))×Nm) (fun p=>(fun (k_4:Nat) (l_5:List Beat) (s_9:(List Beat_)) (n_12:Nm)=>([(1,(vS player_2)),(2,(vB back_3)),(7,(gV n_12 2 s_9)),(10,(vL Beat.enc l_1)),(11,(vI (l_1.length:Int))),(12,(vI (k_4:Int)))]:List (Nat×V))) p.1 p.2.1 p.2.2.1 p.2.2.2) (fun p=>(fun (k_4:Nat) (l_5:List Beat) (s_9:(List Beat_)) (n_12:Nm)=>([(n_12,gB 2 Beat_.enc s_9)]:Hp)) p.1 p.2.1 p.2.2.1 p.2.2.2) (fun p=>forR (fun k x s=>oH player_2 back_3 k x s) p.2.1 p.1 p.2.2.1=some o_15∧(l_1).drop p.1=p.2.1) (fun p=>p.2.1.length) (0,l_1,([]:List Beat_),n_10) ⟨hj_16,rfl⟩ rfl (aJ rfl) ?_)
  rintro ⟨k_4,l_5,s_9,n_12⟩ ⟨hL_14,hD_7⟩
  dsimp only at hL_14 hD_7
  cases l_5 with
  | nil =>
   obtain rfl:=ah hL_14
   refine af (aa (ae (vB (decide ((k_4:Int) < (l_1.length:Int)))) wz rfl (ak ?_)))
   refine af (ay rfl (drop_nil hD_7) (aQ ?_))
   exact aR (s_9,n_12) rfl rfl (aJ rfl)
  | cons x_6 l_5 =>
   obtain ⟨c_,hc_13,hL_14⟩:=bind_some hL_14
   refine af (aa (ae (vB (decide ((k_4:Int) < (l_1.length:Int)))) wz rfl (ak ?_)))
   refine af (aB rfl (bI hD_7) (av ?_))
   unfold oH at hc_13
   refine af (aF (af (aa (dL Fx rfl rfl (bP hD_7) rfl wz (bG EA J8 rfl (.d (.agg (Beat.enc x_6))) rfl wz (dm 0 (.inl rfl) z157 rfl wz (fun n_17=>eY 0 il ft 1 EA rfl rfl [(vS x_6.Player),(vI x_6.At),(vI x_6.Clock)] rfl wz (ak (aF (af (aa (aI xL rfl 0 rfl wz (aA 0 1 il ft sz9 ag9 rfl rfl (vS x_6.Player) rfl wz (ae (vS player_2) wz rfl (ae (vB (sNe x_6.Player player_2)) wz rfl (ae (vB (sNe x_6.Player player_2)) wz rfl (ak ?_)))))))))))))))))
   obtain ⟨v_18,h_19,hc_13⟩:=bind_some hc_13
   refine aH (β:=Nm) (fun (n_20:Nm)=>([(1,(vS player_2)),(2,(vB back_3)),(7,(gV n_20 2 v_18)),(10,(vL Beat.enc l_1)),(11,(vI (l_1.length:Int))),(12,(vI (k_4:Int)))]:List (Nat×V))) (fun (n_20:Nm)=>([(n_20,gB 2 Beat_.enc v_18),(n_17,some (.cells 3 [(vS x_6.Player),(vI x_6.At),(vI x_6.Clock)]))]:Hp)) (fun _=>True) ?_ ?_
   ·rcases au h_19 with⟨hc_21,h_19⟩ | ⟨hc_21,h_19⟩
    ·refine aB rfl hc_21 (av ?_)
     obtain rfl:=ah h_19
     exact aR n_12 trivial rfl (aJ rfl)
    ·refine ay rfl hc_21 (af (aa (ae (vB back_3) wz rfl (ae (vB back_3) wz rfl (ak ?_)))))
     rcases au h_19 with⟨hc_22,h_19⟩ | ⟨hc_22,h_19⟩
     ·refine aB rfl hc_22 (aa (ae (gV n_12 2 s_9) wz rfl (aI zt rfl 1 rfl wz (aA 0 1 il ft sz3 ag3 rfl rfl (vI x_6.At) rfl wz (aI zo rfl 2 rfl wz (aA 0 1 il ft sz3 ag3 rfl rfl (vI x_6.Clock) rfl wz (ae (.d (.agg (Beat_.enc (⟨x_6.At,x_6.Clock⟩:Beat_)))) wz (by kernel_rfl) (eG (([(⟨x_6.At,x_6.Clock⟩:Beat_)]:List Beat_).map Beat_.enc) zn ez272 rfl rfl rfl rfl rfl wz ?_))))))))
      obtain ⟨a_23,hz_24,h_19⟩:=bind_some h_19
      refine kX 0 il ft (i:=0) Ke Ke EH z316 rfl (by decide) by316 (by decide) (fun _=>rfl) rfl rfl rfl hz_24 wz (fun n_25=>ae (gV n_25 2 a_23) wz rfl (ak ?_))
      obtain rfl:=ah h_19
      exact aR n_25 trivial rfl (aJ rfl)
     ·refine ay rfl hc_22 (aa (ae (gV n_12 2 s_9) wz rfl (aI zo rfl 2 rfl wz (aA 0 1 il ft sz3 ag3 rfl rfl (vI x_6.Clock) rfl wz (aI zt rfl 1 rfl wz (aA 0 1 il ft sz3 ag3 rfl rfl (vI x_6.At) rfl wz (ae (.d (.agg (Beat_.enc (⟨x_6.Clock,x_6.At⟩:Beat_)))) wz (by kernel_rfl) (eG (([(⟨x_6.Clock,x_6.At⟩:Beat_)]:List Beat_).map Beat_.enc) zn ez272 rfl rfl rfl rfl rfl wz ?_))))))))
      obtain ⟨a_26,hz_27,h_19⟩:=bind_some h_19
      refine kX 0 il ft (i:=0) Ke Ke EH z316 rfl (by decide) by316 (by decide) (fun _=>rfl) rfl rfl rfl hz_27 wz (fun n_28=>ae (gV n_28 2 a_26) wz rfl (ak ?_))
      obtain rfl:=ah h_19
      exact aR n_28 trivial rfl (aJ rfl)
   ·rintro n_20 _ sl_ H_ hp_ hq_
    refine aL _ hp_ hq_ (aa (fJ (bK hD_7 hn_8) wz rfl (ae (vI ((k_4 + 1:Nat):Int)) wz rfl (ak ?_))))
    obtain rfl:=ah hc_13
    exact aP (k_4 + 1,l_5,v_18,n_20) ⟨hL_14,aW hD_7⟩ (Nat.lt_succ_self _) rfl (aJ rfl)
 ·rintro ⟨s_9,n_12⟩ ho_ sl_ H_ hp_ hq_
  subst ho_
  refine aL _ hp_ hq_ (af (aa (ae (gV n_12 2 s_9) wz rfl (ae (gV n_12 2 s_9) wz rfl (ak (iB 0 rfl (dX 6 0 rfl rfl (dX 7 0 rfl rfl (dX 40 0 rfl rfl ?_)))))))))
  obtain rfl:=ah hF
  exact aC (aO (.inr rfl) [(vL Beat_.enc s_9)] ⟨rfl,trivial⟩ rfl rfl rfl)
theorem BG {l_1:(List Beat_)} {n_2:Int} {r:Int×Int} (hF:oh l_1 n_2=some r) :
  FnM Tryz.prog 203 [(vL Beat_.enc l_1),(vI n_2)] [] (.tup [(vI r.1),(vI r.2)]) []:=by
 refine FnM.of_wH ⟨Tryz.prog,108,[],[]⟩ rfl Tryz.func203 rfl rfl (Nat.le_of_ble_eq_true rfl) (by kernel_rfl) ?_
 unfold oh at hF
 refine af (aa (ae (vI 0) wz rfl (ae (vI 0) wz rfl (ak (af (af (aa (ae (vL Beat_.enc l_1) wz rfl (cz Me rfl wz (ae (vB ((l_1.length:Int) == 0)) wz rfl (ak ?_)))))))))))
 rcases au hF with⟨hc_3,hF⟩ | ⟨hc_3,hF⟩
 ·refine aB rfl hc_3 (af (aa (ae (vI 0) wz rfl (ae (vI 8) wz rfl (ak ?_)))))
  obtain rfl:=ah hF
  exact aC (aO (.inr rfl) [(vI 0),(vI 8)] ⟨rfl,⟨rfl,trivial⟩⟩ rfl rfl rfl)
 ·refine ay rfl hc_3 (av (af (aa (ae (vI 0) wz rfl (ak (af ?_))))))
  obtain ⟨o_12,hj_13,hF⟩:=bind_some hF
  obtain ⟨nq_51,hj_13⟩:=cK hj_13
  refine aH (β:=(Int)) (fun (s_9:Int)=>([(0,(vL Beat_.enc l_1)),(1,(vI n_2)),(6,(vI s_9))]:List (Nat×V))) (fun (s_9:Int)=>([]:Hp)) (fun p=>o_12 = .go p) ?_ ?_
  ·refine aF (aV (β:=Nat×(Int)) (fun p=>(fun (k_4:Nat) (s_9:Int)=>([(0,(vL Beat_.enc l_1)),(1,(vI n_2)),(6,(vI s_9))]:List (Nat×V))) p.1 p.2) (fun p=>(fun (k_4:Nat) (s_9:Int)=>([]:Hp)) p.1 p.2) (fun p=>iterN (fun s=>mU l_1 n_2 s) p.1 p.2=some o_12) (fun p=>p.1) (nq_51,0) hj_13 rfl (aJ rfl) ?_)
   rintro ⟨k_4,s_9⟩ hL_11
   dsimp only at hL_11
   cases k_4 with
   | zero=>cases hL_11
   | succ k_4 =>
    obtain ⟨c_,hc_10,hL_11⟩:=bind_some hL_11
    unfold mU at hc_10
    refine af (af ?_)
    obtain ⟨v_14,h_15,hc_10⟩:=bind_some hc_10
    refine aH (β:=Unit) (fun _=>([(0,(vL Beat_.enc l_1)),(1,(vI n_2)),(6,(vI s_9)),(25,(vB v_14))]:List (Nat×V))) (fun _=>([]:Hp)) (fun _=>True) ?_ ?_
    ·refine aa (ae (vI s_9) wz rfl (ae (vL Beat_.enc l_1) wz rfl (cz Me rfl wz (ae (vB (decide (s_9 < (l_1.length:Int)))) wz rfl ?_))))
     rcases au h_15 with⟨hc_16,h_15⟩ | ⟨hc_16,h_15⟩
     ·refine aD rfl hc_16 wz (ae (vL Beat_.enc l_1) wa rfl (ae (vI s_9) wa rfl ?_))
      obtain ⟨y_17,hy_18,h_15⟩:=bind_some h_15
      refine dL zn rfl rfl hy_18 rfl wa (jg su rfl [.int .i64 y_17.f_from,.int .i64 y_17.f_to] rfl rfl wa (bG sz3 ag3 rfl (vI y_17.f_from) rfl wa (ae (vI n_2) wa rfl (ae (vB (decide (y_17.f_from≤n_2))) wa rfl (ae (vB (decide (y_17.f_from≤n_2))) wz rfl (ak ?_))))))
      obtain rfl:=ah h_15
      exact cu
     ·refine aD rfl hc_16 wz (aj wa (aj wa (aj wa (aj wa (aj wa (aj wa (aj wa (ae (vB false) wz rfl (ak ?_)))))))))
      obtain rfl:=ah h_15
      exact cu
    ·rintro ⟨⟩ _ sl_ H_ hp_ hq_
     refine aL _ hp_ hq_ ?_
     rcases au hc_10 with⟨hc_19,hc_10⟩ | ⟨hc_19,hc_10⟩
     ·refine aB rfl hc_19 (av (aF (aa (ae (vI s_9) wz rfl (ae (vI (w64 (s_9 + 1))) wz rfl (ae (vI (w64 (s_9 + 1))) wz rfl (ak ?_)))))))
      obtain rfl:=ah hc_10
      exact aP (k_4,(w64 (s_9 + 1))) hL_11 (Nat.lt_succ_self _) rfl (aJ rfl)
     ·refine ay rfl hc_19 (aQ ?_)
      obtain rfl:=ah hc_10
      obtain rfl:=ah hL_11
      exact aR (s_9) rfl rfl (aJ rfl)
  ·rintro s_9 ho_ sl_ H_ hp_ hq_
   subst ho_
   refine aL _ hp_ hq_ (af (aa (ae (vI 0) wz rfl (ak (af (aF (af (aa (ae (vI s_9) wz rfl (ae (vB (s_9 == 0)) wz rfl (ae (vB (s_9 == 0)) wz rfl (ak ?_))))))))))))
   rcases au hF with⟨hc_20,hF⟩ | ⟨hc_20,hF⟩
   ·refine aB rfl hc_20 (bn (ae (vL Beat_.enc l_1) wz rfl ?_))
    obtain ⟨y_21,hy_22,hF⟩:=bind_some hF
    refine dL zn rfl rfl hy_22 rfl wz (jg uV rfl [.int .i64 y_21.f_to] rfl rfl wz (bG sz3 ag3 rfl (vI y_21.f_to) rfl wz (ae (vL Beat_.enc l_1) wz rfl ?_)))
    obtain ⟨y_23,hy_24,hF⟩:=bind_some hF
    refine dL zn rfl rfl hy_24 rfl wz (jg su rfl [.int .i64 y_23.f_from,.int .i64 y_23.f_to] rfl rfl wz (bG sz3 ag3 rfl (vI y_23.f_from) rfl wz (ae (vI n_2) wz rfl (ae (vI (w64 (y_23.f_from - n_2))) wz rfl (ae (vI (w64 (y_21.f_to - (w64 (y_23.f_from - n_2))))) wz rfl (ae (vI (w64 (y_21.f_to - (w64 (y_23.f_from - n_2))))) wz rfl (ak (af (af (aa (ae (vI (w64 (y_21.f_to - (w64 (y_23.f_from - n_2))))) wz rfl ?_)))))))))))
    obtain ⟨r_25,hr_26,hF⟩:=bind_some hF
    refine aG (gU hr_26) rfl Bd rfl rfl rfl rfl wz (ae (vB (!r_25)) wz rfl (ak ?_))
    rcases au hF with⟨hc_27,hF⟩ | ⟨hc_27,hF⟩
    ·refine aB rfl hc_27 (af (aa (ae (vI 0) wz rfl (ae (vI 11) wz rfl (ak ?_)))))
     obtain rfl:=ah hF
     exact aC (aO (.inr rfl) [(vI 0),(vI 11)] ⟨rfl,⟨rfl,trivial⟩⟩ rfl rfl rfl)
    ·refine ay rfl hc_27 (av (af (aa (ae (vI (w64 (y_21.f_to - (w64 (y_23.f_from - n_2))))) wz rfl (ae (vI (w64 (y_21.f_to - (w64 (y_23.f_from - n_2))))) wz rfl (ae (vI 0) wz rfl (ak ?_)))))))
     obtain rfl:=ah hF
     exact aC (aO (.inr rfl) [(vI (w64 (y_21.f_to - (w64 (y_23.f_from - n_2))))),(vI 0)] ⟨rfl,⟨rfl,trivial⟩⟩ rfl rfl rfl)
   ·refine ay rfl hc_20 (af (aa (ae (vI s_9) wz rfl (ae (vL Beat_.enc l_1) wz rfl (cz Me rfl wz (ae (vB (s_9 == (l_1.length:Int))) wz rfl (ae (vB (s_9 == (l_1.length:Int))) wz rfl (ak ?_))))))))
    rcases au hF with⟨hc_28,hF⟩ | ⟨hc_28,hF⟩
    ·refine aB rfl hc_28 (bn (ae (vL Beat_.enc l_1) wz rfl (ae (vI s_9) wz rfl (ae (vI (w64 (s_9 - 1))) wz rfl ?_))))
     obtain ⟨y_29,hy_30,hF⟩:=bind_some hF
     refine dL zn rfl rfl hy_30 rfl wz (jg uV rfl [.int .i64 y_29.f_to] rfl rfl wz (bG sz3 ag3 rfl (vI y_29.f_to) rfl wz (ae (vI n_2) wz rfl (ae (vI (w64 (y_29.f_to + n_2))) wz rfl (ae (vL Beat_.enc l_1) wz rfl (ae (vI s_9) wz rfl (ae (vI (w64 (s_9 - 1))) wz rfl ?_)))))))
     obtain ⟨y_31,hy_32,hF⟩:=bind_some hF
     refine dL zn rfl rfl hy_32 rfl wz (jg su rfl [.int .i64 y_31.f_from,.int .i64 y_31.f_to] rfl rfl wz (bG sz3 ag3 rfl (vI y_31.f_from) rfl wz (ae (vI (w64 ((w64 (y_29.f_to + n_2)) - y_31.f_from))) wz rfl (ae (vI (w64 ((w64 (y_29.f_to + n_2)) - y_31.f_from))) wz rfl (ak (af (af (aa (ae (vI (w64 ((w64 (y_29.f_to + n_2)) - y_31.f_from))) wz rfl ?_)))))))))
     obtain ⟨r_33,hr_34,hF⟩:=bind_some hF
     refine aG (gU hr_34) rfl Bd rfl rfl rfl rfl wz (ae (vB (!r_33)) wz rfl (ak ?_))
     rcases au hF with⟨hc_35,hF⟩ | ⟨hc_35,hF⟩
     ·refine aB rfl hc_35 (af (aa (ae (vI 0) wz rfl (ae (vI 11) wz rfl (ak (aL (H0:=([]:Hp)) ([(4,(vI 0)),(5,(vI 11))]:List (Nat×V)) (by kernel_rfl) (tq (by kernel_rfl)) ?_))))))
      obtain rfl:=ah hF
      exact aC (aO (.inr rfl) [(vI 0),(vI 11)] ⟨rfl,⟨rfl,trivial⟩⟩ rfl rfl rfl)
     ·refine ay rfl hc_35 (av (af (aa (ae (vI (w64 ((w64 (y_29.f_to + n_2)) - y_31.f_from))) wz rfl (ae (vI (w64 ((w64 (y_29.f_to + n_2)) - y_31.f_from))) wz rfl (ae (vI 0) wz rfl (ak (aL (H0:=([]:Hp)) ([(4,(vI (w64 ((w64 (y_29.f_to + n_2)) - y_31.f_from)))),(5,(vI 0))]:List (Nat×V)) (by kernel_rfl) (tq (by kernel_rfl)) ?_))))))))
      obtain rfl:=ah hF
      exact aC (aO (.inr rfl) [(vI (w64 ((w64 (y_29.f_to + n_2)) - y_31.f_from))),(vI 0)] ⟨rfl,⟨rfl,trivial⟩⟩ rfl rfl rfl)
    ·refine ay rfl hc_28 (af (bn (ae (vL Beat_.enc l_1) wz rfl (ae (vI s_9) wz rfl (ae (vI (w64 (s_9 - 1))) wz rfl ?_)))))
     obtain ⟨y_36,hy_37,hF⟩:=bind_some hF
     refine dL zn rfl rfl hy_37 rfl wz (bG EH ag316 rfl (.d (.agg (Beat_.enc y_36))) rfl wz (ae (vL Beat_.enc l_1) wz rfl (ae (vI s_9) wz rfl ?_)))
     obtain ⟨y_38,hy_39,hF⟩:=bind_some hF
     refine dL zn rfl rfl hy_39 rfl wz (bG EH ag316 rfl (.d (.agg (Beat_.enc y_38))) rfl wz (dm 9 (.inr (by kernel_rfl)) z316 rfl wz (fun n_40=>dm 10 (.inr (by kernel_rfl)) z316 rfl wz (fun n_41=>eY 11 (.inr (by kernel_rfl)) (fun _ _ ag=>⟨.inr (.inr (by kernel_rfl)),⟨.inr (.inr (by kernel_rfl)),trivial⟩⟩) 0 EH rfl rfl [(vI y_36.f_from),(vI y_36.f_to)] rfl wz (eY 12 (.inr (by kernel_rfl)) (fun _ _ ag=>⟨.inr (.inr (by kernel_rfl)),⟨.inr (.inr (by kernel_rfl)),⟨.inr (.inr (by kernel_rfl)),trivial⟩⟩⟩) 1 EH rfl rfl [(vI y_38.f_from),(vI y_38.f_to)] rfl wz (ak (af (af ?_))))))))
     obtain ⟨v_42,h_43,hF⟩:=bind_some hF
     refine aH (β:=Unit) (fun _=>([(1,(vI n_2)),(8,(.ref n_40 0 0)),(9,(.ref n_41 0 0)),(50,(vB v_42))]:List (Nat×V))) (fun _=>([(n_40,some (.cells 2 [(vI y_36.f_from),(vI y_36.f_to)])),(n_41,some (.cells 2 [(vI y_38.f_from),(vI y_38.f_to)]))]:Hp)) (fun _=>True) ?_ ?_
     ·refine aa (aI su rfl 0 rfl wz (aA 0 1 il ft sz3 ag3 rfl rfl (vI y_38.f_from) rfl wz (aI su rfl 0 rfl wz (aA 0 0 il ft sz3 ag3 rfl rfl (vI y_36.f_from) rfl wz (ae (vI (w64 (y_38.f_from - y_36.f_from))) wz rfl (ae (vB (decide ((w64 (y_38.f_from - y_36.f_from)) > 2592000000))) wz rfl ?_))))))
      rcases au h_43 with⟨hc_44,h_43⟩ | ⟨hc_44,h_43⟩
      ·refine aD rfl hc_44 wz (aj wa (aj wa (aj wa (aj wa (aj wa (aj wa (ae (vB true) wz rfl (ak ?_))))))))
       obtain rfl:=ah h_43
       exact cu
      ·refine aD rfl hc_44 wz (aI uV rfl 1 rfl wa (aA 0 1 il ft sz3 ag3 rfl rfl (vI y_38.f_to) rfl wa (aI uV rfl 1 rfl wa (aA 0 0 il ft sz3 ag3 rfl rfl (vI y_36.f_to) rfl wa (ae (vI (w64 (y_38.f_to - y_36.f_to))) wa rfl (ae (vB (decide ((w64 (y_38.f_to - y_36.f_to)) > 2592000000))) wa rfl (ae (vB (decide ((w64 (y_38.f_to - y_36.f_to)) > 2592000000))) wz rfl (ak ?_))))))))
       obtain rfl:=ah h_43
       exact cu
     ·rintro ⟨⟩ _ sl_ H_ hp_ hq_
      refine aL _ hp_ hq_ ?_
      rcases au hF with⟨hc_45,hF⟩ | ⟨hc_45,hF⟩
      ·refine aB rfl hc_45 (af (aa (ae (vI 0) wz rfl (ae (vI 2) wz rfl (ak ?_)))))
       obtain rfl:=ah hF
       exact aC (aO (.inr rfl) [(vI 0),(vI 2)] ⟨rfl,⟨rfl,trivial⟩⟩ rfl rfl rfl)
      ·refine ay rfl hc_45 (av (bn (aI uV rfl 1 rfl wz (aA 1 0 (.inr (by kernel_rfl)) (fun _ _ ag=>trivial) sz3 ag3 rfl rfl (vI y_36.f_to) rfl wz (ae (vI n_2) wz rfl (aI su rfl 0 rfl wz (aA 4 0 (.inr (by kernel_rfl)) (fun _ _ ag=>⟨.inl ⟨rfl,rfl⟩,trivial⟩) sz3 ag3 rfl rfl (vI y_36.f_from) rfl wz (ae (vI (w64 (n_2 - y_36.f_from))) wz rfl (aI uV rfl 1 rfl wz (aA 7 1 (.inr (by kernel_rfl)) (fun _ _ ag=>⟨.inl ⟨rfl,rfl⟩,⟨.inl ⟨rfl,rfl⟩,trivial⟩⟩) sz3 ag3 rfl rfl (vI y_38.f_to) rfl wz (aI uV rfl 1 rfl wz (aA 9 0 (.inr (by kernel_rfl)) (fun _ _ ag=>⟨.inl ⟨rfl,rfl⟩,⟨.inl ⟨rfl,rfl⟩,⟨.inl ⟨rfl,rfl⟩,trivial⟩⟩⟩) sz3 ag3 rfl rfl (vI y_36.f_to) rfl wz (ae (vI (w64 (y_38.f_to - y_36.f_to))) wz rfl (ae (vI (w64 ((w64 (n_2 - y_36.f_from)) * (w64 (y_38.f_to - y_36.f_to))))) wz rfl (aI su rfl 0 rfl wz (aA 13 1 (.inr (by kernel_rfl)) (fun _ _ ag=>⟨.inl ⟨rfl,rfl⟩,⟨.inl ⟨rfl,rfl⟩,⟨.inl ⟨rfl,rfl⟩,⟨.inl ⟨rfl,rfl⟩,trivial⟩⟩⟩⟩) sz3 ag3 rfl rfl (vI y_38.f_from) rfl wz (aI su rfl 0 rfl wz (aA 15 0 (.inr (by kernel_rfl)) (fun _ _ ag=>⟨.inl ⟨rfl,rfl⟩,⟨.inl ⟨rfl,rfl⟩,⟨.inl ⟨rfl,rfl⟩,⟨.inl ⟨rfl,rfl⟩,⟨.inl ⟨rfl,rfl⟩,trivial⟩⟩⟩⟩⟩) sz3 ag3 rfl rfl (vI y_36.f_from) rfl wz (ae (vI (w64 (y_38.f_from - y_36.f_from))) wz rfl ?_)))))))))))))))))))
       obtain ⟨q_46,hz_47,hF⟩:=bind_some hF
       refine L9 rfl rfl hz_47 wz (ae (vI (w64 (y_36.f_to + q_46))) wz rfl (ae (vI (w64 (y_36.f_to + q_46))) wz rfl (ak (af (af (aa (ae (vI (w64 (y_36.f_to + q_46))) wz rfl ?_)))))))
       obtain ⟨r_48,hr_49,hF⟩:=bind_some hF
       refine aG (gU hr_49) rfl Bd rfl rfl rfl rfl wz (ae (vB (!r_48)) wz rfl (ak ?_))
       rcases au hF with⟨hc_50,hF⟩ | ⟨hc_50,hF⟩
       ·refine aB rfl hc_50 (af (aa (ae (vI 0) wz rfl (ae (vI 11) wz rfl (ak ?_)))))
        obtain rfl:=ah hF
        exact aC (aO (.inr rfl) [(vI 0),(vI 11)] ⟨rfl,⟨rfl,trivial⟩⟩ rfl rfl rfl)
       ·refine ay rfl hc_50 (av (af (aa (ae (vI (w64 (y_36.f_to + q_46))) wz rfl (ae (vI (w64 (y_36.f_to + q_46))) wz rfl (ae (vI 0) wz rfl (ak ?_)))))))
        obtain rfl:=ah hF
        exact aC (aO (.inr rfl) [(vI (w64 (y_36.f_to + q_46))),(vI 0)] ⟨rfl,⟨rfl,trivial⟩⟩ rfl rfl rfl)
theorem DZ {l_1:(List Beat)} {player_2:ByteArray} {n_3:Int} {back_4:Bool} {r:Int×Int} (hF:pV l_1 player_2 n_3 back_4=some r) :
  FnM Tryz.prog 158 [(vL Beat.enc l_1),(vS player_2),(vI n_3),(vB back_4)] [] (.tup [(vI r.1),(vI r.2)]) []:=by
 refine FnM.of_wH ⟨Tryz.prog,30,[],[]⟩ rfl Tryz.func158 rfl rfl (Nat.le_of_ble_eq_true rfl) (by kernel_rfl) ?_
 unfold pV at hF
 refine af (aa (ae (vI 0) wz rfl (ae (vI 0) wz rfl (ak (af (af (aa (ae (vL Beat.enc l_1) wz rfl ?_))))))))
 obtain ⟨r_5,hr_6,hF⟩:=bind_some hF
 refine aG (yh hr_6) rfl hb202 rfl rfl rfl rfl wz (ae (vI r_5) wz rfl (ak (af (aa (ae (vI r_5) wz rfl (ae (vB (r_5 != 0)) wz rfl (ak ?_)))))))
 rcases au hF with⟨hc_7,hF⟩ | ⟨hc_7,hF⟩
 ·refine aB rfl hc_7 (af (aa (ae (vI r_5) wz rfl (ae (vI 0) wz rfl (ae (vI r_5) wz rfl (ak ?_))))))
  obtain rfl:=ah hF
  exact aC (aO (.inr rfl) [(vI 0),(vI r_5)] ⟨rfl,⟨rfl,trivial⟩⟩ rfl rfl rfl)
 ·refine ay rfl hc_7 (av (af (af (aa (ae (vS player_2) wz rfl ?_)))))
  obtain ⟨r_8,hr_9,hF⟩:=bind_some hF
  refine aG (fo hr_9) rfl uA rfl rfl rfl rfl wz (ae (vB (!r_8)) wz rfl (ak ?_))
  rcases au hF with⟨hc_10,hF⟩ | ⟨hc_10,hF⟩
  ·refine aB rfl hc_10 (af (aa (ae (vI 0) wz rfl (ae (vI 5) wz rfl (ak ?_)))))
   obtain rfl:=ah hF
   exact aC (aO (.inr rfl) [(vI 0),(vI 5)] ⟨rfl,⟨rfl,trivial⟩⟩ rfl rfl rfl)
  ·refine ay rfl hc_10 (av (af (af (aa (ae (vI n_3) wz rfl ?_)))))
   obtain ⟨r_11,hr_12,hF⟩:=bind_some hF
   refine aG (gU hr_12) rfl Bd rfl rfl rfl rfl wz (ae (vB (!r_11)) wz rfl (ak ?_))
   rcases au hF with⟨hc_13,hF⟩ | ⟨hc_13,hF⟩
   ·refine aB rfl hc_13 (af (aa (ae (vI 0) wz rfl (ae (vI 1) wz rfl (ak ?_)))))
    obtain rfl:=ah hF
    exact aC (aO (.inr rfl) [(vI 0),(vI 1)] ⟨rfl,⟨rfl,trivial⟩⟩ rfl rfl rfl)
   ·refine ay rfl hc_13 (av (af (aa (ae (vL Beat.enc l_1) wz rfl (ae (vS player_2) wz rfl (ae (vB back_4) wz rfl ?_))))))
    obtain ⟨r_14,hr_15,hF⟩:=bind_some hF
    refine aG (AP hr_15) rfl hb204 rfl rfl rfl rfl wz (ae (vI n_3) wz rfl ?_)
    obtain ⟨r_16,hr_17,hF⟩:=bind_some hF
    refine aG (BG hr_17) rfl hb203 rfl rfl rfl rfl wz (ae (vI r_16.1) wz rfl (ae (vI r_16.2) wz rfl (ae (vI r_16.1) wz rfl (ae (vI r_16.2) wz rfl (ak ?_)))))
    obtain rfl:=ah hF
    exact aC (aO (.inr rfl) [(vI r_16.1),(vI r_16.2)] ⟨rfl,⟨rfl,trivial⟩⟩ rfl rfl rfl)
theorem Dk {l_1:(List Beat)} {player_2:ByteArray} {clock_3:Int} {r:Int×Int} (hF:pX l_1 player_2 clock_3=some r) :
  FnM Tryz.prog 80 [(vL Beat.enc l_1),(vS player_2),(vI clock_3)] [] (.tup [(vI r.1),(vI r.2)]) []:=by
 refine FnM.of_wH ⟨Tryz.prog,14,[],[]⟩ rfl Tryz.func80 rfl rfl (Nat.le_of_ble_eq_true rfl) (by kernel_rfl) ?_
 unfold pX at hF
 refine af (aa (ae (vI 0) wz rfl (ae (vI 0) wz rfl (ak (af (aa (ae (vL Beat.enc l_1) wz rfl (ae (vS player_2) wz rfl (ae (vI clock_3) wz rfl ?_)))))))))
 obtain ⟨r_4,hr_5,hF⟩:=bind_some hF
 refine aG (DZ hr_5) rfl hb158 rfl rfl rfl rfl wz (ae (vI r_4.1) wz rfl (ae (vI r_4.2) wz rfl (ae (vI r_4.1) wz rfl (ae (vI r_4.2) wz rfl (ak ?_)))))
 obtain rfl:=ah hF
 exact aC (aO (.inr rfl) [(vI r_4.1),(vI r_4.2)] ⟨rfl,⟨rfl,trivial⟩⟩ rfl rfl rfl)
theorem yO {a_1:Alert} {r:Int} (hF:kL a_1=some r) :
  FnM Tryz.prog 268 [(.d (.agg (Alert.enc a_1)))] [] (vI r) []:=by
 refine FnM.of_wH ⟨Tryz.prog,48,[],[]⟩ rfl Tryz.func268 rfl rfl (Nat.le_of_ble_eq_true rfl) (by kernel_rfl) ?_
 unfold kL at hF
 refine af (aa (dR 0 (.inl rfl) [(vS a_1.Id),(vS a_1.Sender),(vI a_1.Kind),(vL eS a_1.Refs),(vI a_1.At),(vI a_1.Until),(vI a_1.Weight),(vL Rect.enc a_1.Areas),(vS a_1.Text)] rfl rfl wz (fun n_2=>ae (vI 0) wz rfl (ak (af (af (aa (aI Cj rfl 3 rfl wz (aA 0 0 il ft BJ DD rfl rfl (vL eS a_1.Refs) rfl wz (cz BM rfl wz (ae (vB (decide ((a_1.Refs.length:Int) > 20))) wz rfl (ak ?_))))))))))))
 rcases au hF with⟨hc_3,hF⟩ | ⟨hc_3,hF⟩
 ·refine aB rfl hc_3 (af (aa (ae (vI 2) wz rfl (ak ?_))))
  obtain rfl:=ah hF
  exact aC (aO (.inr rfl) [(vI 2)] ⟨rfl,trivial⟩ rfl rfl rfl)
 ·refine ay rfl hc_3 (av (af (af (aa (aI Cj rfl 3 rfl wz (aA 0 0 il ft BJ DD rfl rfl (vL eS a_1.Refs) rfl wz (cz BM rfl wz (ae (vI 0) wz rfl (ak ?_)))))))))
  obtain ⟨o_12,hj_13,hF⟩:=bind_some hF
  obtain ⟨hn_8,hj_13⟩:=bA hj_13
  refine aH (β:=(Unit)) (fun (s_9:Unit)=>([(1,(.ref n_2 0 0))]:List (Nat×V))) (fun (s_9:Unit)=>([(n_2,some (.cells 9 [(vS a_1.Id),(vS a_1.Sender),(vI a_1.Kind),(vL eS a_1.Refs),(vI a_1.At),(vI a_1.Until),(vI a_1.Weight),(vL Rect.enc a_1.Areas),(vS a_1.Text)]))]:Hp)) (fun p=>o_12 = .go p) ?_ ?_
  ·refine aF (aV (β:=Nat×(List ByteArray)×(Unit)) (fun p=>(fun (k_4:Nat) (l_5:List ByteArray) (s_9:Unit)=>([(1,(.ref n_2 0 0)),(10,(vL eS a_1.Refs)),(11,(vI (a_1.Refs.length:Int))),(12,(vI (k_4:Int)))]:List (Nat×V))) p.1 p.2.1 p.2.2) (fun p=>(fun (k_4:Nat) (l_5:List ByteArray) (s_9:Unit)=>([(n_2,some (.cells 9 [(vS a_1.Id),(vS a_1.Sender),(vI a_1.Kind),(vL eS a_1.Refs),(vI a_1.At),(vI a_1.Until),(vI a_1.Weight),(vL Rect.enc a_1.Areas),(vS a_1.Text)]))]:Hp)) p.1 p.2.1 p.2.2) (fun p=>forR (fun k x s=>iV a_1 k x s) p.2.1 p.1 p.2.2=some o_12∧(a_1.Refs).drop p.1=p.2.1) (fun p=>p.2.1.length) (0,a_1.Refs,()) ⟨hj_13,rfl⟩ rfl (aJ rfl) ?_)
   rintro ⟨k_4,l_5,s_9⟩ ⟨hL_11,hD_7⟩
   dsimp only at hL_11 hD_7
   cases l_5 with
   | nil =>
    obtain rfl:=ah hL_11
    refine af (aa (ae (vB (decide ((k_4:Int) < (a_1.Refs.length:Int)))) wz rfl (ak ?_)))
    refine af (ay rfl (drop_nil hD_7) (aQ ?_))
    exact aR (s_9) rfl rfl (aJ rfl)
   | cons x_6 l_5 =>
    obtain ⟨c_,hc_10,hL_11⟩:=bind_some hL_11
    refine af (aa (ae (vB (decide ((k_4:Int) < (a_1.Refs.length:Int)))) wz rfl (ak ?_)))
    refine af (aB rfl (bI hD_7) (av ?_))
    unfold iV at hc_10
    refine af (aF (af (aa (ae (vI (k_4:Int)) wz rfl (dL uQ rfl rfl (bP hD_7) rfl wz (bG sz9 ag9 rfl (vS x_6) rfl wz (ae (vI (k_4:Int)) wz rfl (ae (vS x_6) wz rfl (ak (aF (af (aa (ae (vS x_6) wz rfl ?_)))))))))))))
    obtain ⟨r_14,hr_15,hc_10⟩:=bind_some hc_10
    refine aG (fo hr_15) rfl uA rfl rfl rfl rfl wz (ae (vB (!r_14)) wz rfl (ae (vB (!r_14)) wz rfl (ak ?_)))
    rcases au hc_10 with⟨hc_16,hc_10⟩ | ⟨hc_16,hc_10⟩
    ·refine aB rfl hc_16 (af (aa (ae (vI 5) wz rfl (ak ?_))))
     obtain rfl:=ah hc_10
     obtain rfl:=ah hL_11
     obtain rfl:=ah hF
     exact aC (aO (.inr rfl) [(vI 5)] ⟨rfl,trivial⟩ rfl rfl rfl)
    ·refine ay rfl hc_16 (af ?_)
     obtain ⟨v_17,h_18,hc_10⟩:=bind_some hc_10
     refine aH (β:=Unit) (fun _=>([(1,(.ref n_2 0 0)),(4,(vS x_6)),(10,(vL eS a_1.Refs)),(11,(vI (a_1.Refs.length:Int))),(12,(vI (k_4:Int))),(21,(vB v_17))]:List (Nat×V))) (fun _=>([(n_2,some (.cells 9 [(vS a_1.Id),(vS a_1.Sender),(vI a_1.Kind),(vL eS a_1.Refs),(vI a_1.At),(vI a_1.Until),(vI a_1.Weight),(vL Rect.enc a_1.Areas),(vS a_1.Text)]))]:Hp)) (fun _=>True) ?_ ?_
     ·refine aa (ae (vI (k_4:Int)) wz rfl (ae (vB (decide ((k_4:Int) > 0))) wz rfl ?_))
      rcases au h_18 with⟨hc_19,h_18⟩ | ⟨hc_19,h_18⟩
      ·refine aD rfl hc_19 wz (ae (vS x_6) wa rfl (aI Cj rfl 3 rfl wa (aA 0 0 il ft BJ DD rfl rfl (vL eS a_1.Refs) rfl wa (ae (vI (k_4:Int)) wa rfl (ae (vI (w64 ((k_4:Int) - 1))) wa rfl ?_)))))
       obtain ⟨y_20,hy_21,h_18⟩:=bind_some h_18
       refine dL uQ rfl rfl hy_21 rfl wa (bG sz9 ag9 rfl (vS y_20) rfl wa (ae (vB (sLe x_6 y_20)) wa rfl (ae (vB (sLe x_6 y_20)) wz rfl (ae (vB (sLe x_6 y_20)) wz rfl (ak ?_)))))
       obtain rfl:=ah h_18
       exact cu
      ·refine aD rfl hc_19 wz (aj wa (aj wa (aj wa (aj wa (aj wa (aj wa (aj wa (aj wa (ae (vB false) wz rfl (ae (vB false) wz rfl (ak ?_)))))))))))
       obtain rfl:=ah h_18
       exact cu
     ·rintro ⟨⟩ _ sl_ H_ hp_ hq_
      refine aL _ hp_ hq_ ?_
      rcases au hc_10 with⟨hc_22,hc_10⟩ | ⟨hc_22,hc_10⟩
      ·refine aB rfl hc_22 (af (aa (ae (vI 7) wz rfl (ak ?_))))
       obtain rfl:=ah hc_10
       obtain rfl:=ah hL_11
       obtain rfl:=ah hF
       exact aC (aO (.inr rfl) [(vI 7)] ⟨rfl,trivial⟩ rfl rfl rfl)
      ·refine ay rfl hc_22 (af (aa (ae (vS x_6) wz rfl (aI xP rfl 0 rfl wz (aA 0 0 il ft sz9 ag9 rfl rfl (vS a_1.Id) rfl wz (ae (vB (sEq x_6 a_1.Id)) wz rfl (ae (vB (sEq x_6 a_1.Id)) wz rfl (ak ?_))))))))
       rcases au hc_10 with⟨hc_23,hc_10⟩ | ⟨hc_23,hc_10⟩
       ·refine aB rfl hc_23 (af (aa (ae (vI 14) wz rfl (ak ?_))))
        obtain rfl:=ah hc_10
        obtain rfl:=ah hL_11
        obtain rfl:=ah hF
        exact aC (aO (.inr rfl) [(vI 14)] ⟨rfl,trivial⟩ rfl rfl rfl)
       ·refine ay rfl hc_23 (av (aa (fJ (bK hD_7 hn_8) wz rfl (ae (vI ((k_4 + 1:Nat):Int)) wz rfl (ak ?_)))))
        obtain rfl:=ah hc_10
        exact aP (k_4 + 1,l_5,()) ⟨hL_11,aW hD_7⟩ (Nat.lt_succ_self _) rfl (aJ rfl)
  ·rintro s_9 ho_ sl_ H_ hp_ hq_
   subst ho_
   refine aL _ hp_ hq_ (af (af (aa (aI FY rfl 2 rfl wz (aA 0 0 il ft sz3 ag3 rfl rfl (vI a_1.Kind) rfl wz (ae (vB (a_1.Kind == 1)) wz rfl (aI Cj rfl 3 rfl wz (aA 0 0 il ft BJ DD rfl rfl (vL eS a_1.Refs) rfl wz (cz BM rfl wz (ae (vB ((a_1.Refs.length:Int) == 0)) wz rfl (GM un4 rfl rfl wz (ak ?_))))))))))))
   rcases au hF with⟨hc_24,hF⟩ | ⟨hc_24,hF⟩
   ·refine aB rfl hc_24 (af (aa (ae (vI 3) wz rfl (ak ?_))))
    obtain rfl:=ah hF
    exact aC (aO (.inr rfl) [(vI 3)] ⟨rfl,trivial⟩ rfl rfl rfl)
   ·refine ay rfl hc_24 (av (af (aa (ae (vI 0) wz rfl (ak ?_)))))
    obtain rfl:=ah hF
    exact aC (aO (.inr rfl) [(vI 0)] ⟨rfl,trivial⟩ rfl rfl rfl)
theorem cZ {s_1:ByteArray} {r:Int} (hF:bv s_1=some r) :
  FnM Tryz.prog 270 [(vS s_1)] [] (.d (.int .u64 r)) []:=by
 refine FnM.of_wH ⟨Tryz.prog,59,[],[]⟩ rfl Tryz.func270 rfl rfl (Nat.le_of_ble_eq_true rfl) (by kernel_rfl) ?_
 unfold bv at hF
 refine af (aa (ae (.d (.int .u64 0)) wz rfl (ak (af (ay rfl rfl (av (af (bn (ae (vS s_1) wz rfl ?_)))))))))
 obtain ⟨b_2,hy_3,hF⟩:=bind_some hF
 refine kU un9 rfl rfl hy_3 wz (mG un5 zT rfl wz (ae (vS s_1) wz rfl ?_))
 obtain ⟨b_4,hy_5,hF⟩:=bind_some hF
 refine kU un9 rfl rfl hy_5 wz (mG un5 zT rfl wz ?_)
 obtain ⟨q_6,hz_7,hF⟩:=bind_some hF
 refine BB rfl rfl hz_7 wz (ae (.d (.int .u64 (orI .u64 (IntKind.u64.wrap (b_2.toNat:Int)) q_6))) wz rfl (ae (vS s_1) wz rfl ?_))
 obtain ⟨b_8,hy_9,hF⟩:=bind_some hF
 refine kU un9 rfl rfl hy_9 wz (mG un5 zT rfl wz ?_)
 obtain ⟨q_10,hz_11,hF⟩:=bind_some hF
 refine BB rfl rfl hz_11 wz (ae (.d (.int .u64 (orI .u64 (orI .u64 (IntKind.u64.wrap (b_2.toNat:Int)) q_6) q_10))) wz rfl (ae (vS s_1) wz rfl ?_))
 obtain ⟨b_12,hy_13,hF⟩:=bind_some hF
 refine kU un9 rfl rfl hy_13 wz (mG un5 zT rfl wz ?_)
 obtain ⟨q_14,hz_15,hF⟩:=bind_some hF
 refine BB rfl rfl hz_15 wz (ae (.d (.int .u64 (orI .u64 (orI .u64 (orI .u64 (IntKind.u64.wrap (b_2.toNat:Int)) q_6) q_10) q_14))) wz rfl (ae (vS s_1) wz rfl ?_))
 obtain ⟨b_16,hy_17,hF⟩:=bind_some hF
 refine kU un9 rfl rfl hy_17 wz (mG un5 zT rfl wz ?_)
 obtain ⟨q_18,hz_19,hF⟩:=bind_some hF
 refine BB rfl rfl hz_19 wz (ae (.d (.int .u64 (orI .u64 (orI .u64 (orI .u64 (orI .u64 (IntKind.u64.wrap (b_2.toNat:Int)) q_6) q_10) q_14) q_18))) wz rfl (ae (vS s_1) wz rfl ?_))
 obtain ⟨b_20,hy_21,hF⟩:=bind_some hF
 refine kU un9 rfl rfl hy_21 wz (mG un5 zT rfl wz ?_)
 obtain ⟨q_22,hz_23,hF⟩:=bind_some hF
 refine BB rfl rfl hz_23 wz (ae (.d (.int .u64 (orI .u64 (orI .u64 (orI .u64 (orI .u64 (orI .u64 (IntKind.u64.wrap (b_2.toNat:Int)) q_6) q_10) q_14) q_18) q_22))) wz rfl (ae (vS s_1) wz rfl ?_))
 obtain ⟨b_24,hy_25,hF⟩:=bind_some hF
 refine kU un9 rfl rfl hy_25 wz (mG un5 zT rfl wz ?_)
 obtain ⟨q_26,hz_27,hF⟩:=bind_some hF
 refine BB rfl rfl hz_27 wz (ae (.d (.int .u64 (orI .u64 (orI .u64 (orI .u64 (orI .u64 (orI .u64 (orI .u64 (IntKind.u64.wrap (b_2.toNat:Int)) q_6) q_10) q_14) q_18) q_22) q_26))) wz rfl (ae (vS s_1) wz rfl ?_))
 obtain ⟨b_28,hy_29,hF⟩:=bind_some hF
 refine kU un9 rfl rfl hy_29 wz (mG un5 zT rfl wz ?_)
 obtain ⟨q_30,hz_31,hF⟩:=bind_some hF
 refine BB rfl rfl hz_31 wz (ae (.d (.int .u64 (orI .u64 (orI .u64 (orI .u64 (orI .u64 (orI .u64 (orI .u64 (orI .u64 (IntKind.u64.wrap (b_2.toNat:Int)) q_6) q_10) q_14) q_18) q_22) q_26) q_30))) wz rfl (ae (.d (.int .u64 (orI .u64 (orI .u64 (orI .u64 (orI .u64 (orI .u64 (orI .u64 (orI .u64 (IntKind.u64.wrap (b_2.toNat:Int)) q_6) q_10) q_14) q_18) q_22) q_26) q_30))) wz rfl (ak (aL (H0:=([]:Hp)) ([(2,(.d (.int .u64 (orI .u64 (orI .u64 (orI .u64 (orI .u64 (orI .u64 (orI .u64 (orI .u64 (IntKind.u64.wrap (b_2.toNat:Int)) q_6) q_10) q_14) q_18) q_22) q_26) q_30))))]:List (Nat×V)) (by kernel_rfl) (tq (by kernel_rfl)) ?_))))
 obtain rfl:=ah hF
 exact aC (aO (.inr rfl) [(.d (.int .u64 (orI .u64 (orI .u64 (orI .u64 (orI .u64 (orI .u64 (orI .u64 (orI .u64 (IntKind.u64.wrap (b_2.toNat:Int)) q_6) q_10) q_14) q_18) q_22) q_26) q_30)))] ⟨rfl,trivial⟩ rfl rfl rfl)
theorem qF {s_1:ByteArray} {r:Bool} (hF:fM s_1=some r) :
  FnM Tryz.prog 208 [(vS s_1)] [] (vB r) []:=by
 refine FnM.of_wH ⟨Tryz.prog,169,[],[]⟩ rfl Tryz.func208 rfl rfl (Nat.le_of_ble_eq_true rfl) (by kernel_rfl) ?_
 unfold fM at hF
 refine af (aa (ae (vB false) wz rfl (ak (af ?_))))
 obtain ⟨o_10,hj_11,hF⟩:=bind_some hF
 obtain ⟨nq_71,hj_11⟩:=cK hj_11
 refine aH (β:=(ByteArray)) (fun (s_7:ByteArray)=>([]:List (Nat×V))) (fun (s_7:ByteArray)=>([]:Hp)) (fun p=>o_10 = .go p) ?_ ?_
 ·refine aF (aV (β:=Nat×(ByteArray)) (fun p=>(fun (k_2:Nat) (s_7:ByteArray)=>([(0,(vS s_7))]:List (Nat×V))) p.1 p.2) (fun p=>(fun (k_2:Nat) (s_7:ByteArray)=>([]:Hp)) p.1 p.2) (fun p=>iterN (fun s=>eF s) p.1 p.2=some o_10) (fun p=>p.1) (nq_71,s_1) hj_11 rfl (aJ rfl) ?_)
  rintro ⟨k_2,s_7⟩ hL_9
  dsimp only at hL_9
  cases k_2 with
  | zero=>cases hL_9
  | succ k_2 =>
   obtain ⟨c_,hc_8,hL_9⟩:=bind_some hL_9
   unfold eF at hc_8
   refine af (af (aa (ae (vS s_7) wz rfl (oP un9 rfl wz (ae (vB (decide ((s_7.size:Int) > 0))) wz rfl (ak ?_))))))
   rcases au hc_8 with⟨hc_12,hc_8⟩ | ⟨hc_12,hc_8⟩
   ·refine aB rfl hc_12 (av (aF (af (aa (ae (vS s_7) wz rfl ?_)))))
    obtain ⟨b_13,hy_14,hc_8⟩:=bind_some hc_8
    refine kU un9 rfl rfl hy_14 wz (ae (.d (.int .u8 (b_13.toNat:Int))) wz rfl (ak (af (af (aa (ae (.d (.int .u8 (b_13.toNat:Int))) wz rfl (ae (vB (decide ((b_13.toNat:Int) < 128))) wz rfl (ak ?_))))))))
    rcases au hc_8 with⟨hc_15,hc_8⟩ | ⟨hc_15,hc_8⟩
    ·refine aB rfl hc_15 (af (aa (ae (vS s_7) wz rfl ?_)))
     obtain ⟨y_16,hy_17,hc_8⟩:=bind_some hc_8
     refine gz un9 rfl rfl hy_17 wz (ae (vS y_16) wz rfl (ak (af (af ?_))))
     obtain ⟨v_18,h_19,hc_8⟩:=bind_some hc_8
     refine aH (β:=Unit) (fun _=>([(0,(vS y_16)),(24,(vB v_18))]:List (Nat×V))) (fun _=>([]:Hp)) (fun _=>True) ?_ ?_
     ·refine aa (ae (vS y_16) wz rfl (oP un9 rfl wz (ae (vB (decide ((y_16.size:Int) > 8))) wz rfl ?_)))
      rcases au h_19 with⟨hc_20,h_19⟩ | ⟨hc_20,h_19⟩
      ·refine aD rfl hc_20 wz (ae (vS y_16) wa rfl ?_)
       obtain ⟨r_21,hr_22,h_19⟩:=bind_some h_19
       refine aG (cZ hr_22) rfl Dy rfl rfl rfl rfl wa (ae (.d (.int .u64 (pJ .u64 r_21 9259542123273814144))) wa rfl (ae (vB ((pJ .u64 r_21 9259542123273814144) == 0)) wa rfl (ae (vB ((pJ .u64 r_21 9259542123273814144) == 0)) wz rfl (ak ?_))))
       obtain rfl:=ah h_19
       exact cu
      ·refine aD rfl hc_20 wz (aj wa (aj wa (aj wa (aj wa (ae (vB false) wz rfl (ak ?_))))))
       obtain rfl:=ah h_19
       exact cu
     ·rintro ⟨⟩ _ sl_ H_ hp_ hq_
      refine aL _ hp_ hq_ ?_
      obtain ⟨v_23,h_24,hc_8⟩:=bind_some hc_8
      refine aH (β:=Unit) (fun _=>([(0,(vS v_23))]:List (Nat×V))) (fun _=>([]:Hp)) (fun _=>True) ?_ ?_
      ·rcases au h_24 with⟨hc_25,h_24⟩ | ⟨hc_25,h_24⟩
       ·refine aB rfl hc_25 (af (aa (ae (vS y_16) wz rfl ?_)))
        obtain ⟨y_26,hy_27,h_24⟩:=bind_some h_24
        refine gz un9 rfl rfl hy_27 wz (ae (vS y_26) wz rfl (ak (af ?_)))
        obtain ⟨v_28,h_29,h_24⟩:=bind_some h_24
        refine aH (β:=Unit) (fun _=>([(0,(vS y_26)),(39,(vB v_28))]:List (Nat×V))) (fun _=>([]:Hp)) (fun _=>True) ?_ ?_
        ·refine bn (ae (vS y_26) wz rfl (oP un9 rfl wz (ae (vB (decide ((y_26.size:Int) > 16))) wz rfl ?_)))
         rcases au h_29 with⟨hc_30,h_29⟩ | ⟨hc_30,h_29⟩
         ·refine aD rfl hc_30 wz (ae (vS y_26) wa rfl ?_)
          obtain ⟨r_31,hr_32,h_29⟩:=bind_some h_29
          refine aG (cZ hr_32) rfl Dy rfl rfl rfl rfl wa (ae (vS y_26) wa rfl ?_)
          obtain ⟨y_33,hy_34,h_29⟩:=bind_some h_29
          refine gz un9 rfl rfl hy_34 wa ?_
          obtain ⟨r_35,hr_36,h_29⟩:=bind_some h_29
          refine aG (cZ hr_36) rfl Dy rfl rfl rfl rfl wa (ae (.d (.int .u64 (orI .u64 r_31 r_35))) wa rfl (ae (.d (.int .u64 (pJ .u64 (orI .u64 r_31 r_35) 9259542123273814144))) wa rfl (ae (vB ((pJ .u64 (orI .u64 r_31 r_35) 9259542123273814144) == 0)) wa rfl (ae (vB ((pJ .u64 (orI .u64 r_31 r_35) 9259542123273814144) == 0)) wz rfl (ak ?_)))))
          obtain rfl:=ah h_29
          exact cu
         ·refine aD rfl hc_30 wz (aj wa (aj wa (aj wa (aj wa (aj wa (aj wa (aj wa (aj wa (ae (vB false) wz rfl (ak ?_))))))))))
          obtain rfl:=ah h_29
          exact cu
        ·rintro ⟨⟩ _ sl_ H_ hp_ hq_
         refine aL _ hp_ hq_ ?_
         rcases au h_24 with⟨hc_37,h_24⟩ | ⟨hc_37,h_24⟩
         ·refine aB rfl hc_37 (af (aa (ae (vS y_26) wz rfl ?_)))
          obtain ⟨y_38,hy_39,h_24⟩:=bind_some h_24
          refine gz un9 rfl rfl hy_39 wz (ae (vS y_38) wz rfl (ak ?_))
          obtain ⟨o_48,hj_49,h_24⟩:=bind_some h_24
          obtain ⟨nq_70,hj_49⟩:=cK hj_49
          refine aH (β:=(ByteArray)) (fun (s_45:ByteArray)=>([(0,(vS s_45))]:List (Nat×V))) (fun (s_45:ByteArray)=>([]:Hp)) (fun p=>o_48 = .go p) ?_ ?_
          ·refine aF (aV (β:=Nat×(ByteArray)) (fun p=>(fun (k_40:Nat) (s_45:ByteArray)=>([(0,(vS s_45))]:List (Nat×V))) p.1 p.2) (fun p=>(fun (k_40:Nat) (s_45:ByteArray)=>([]:Hp)) p.1 p.2) (fun p=>iterN (fun s=>gm s) p.1 p.2=some o_48) (fun p=>p.1) (nq_70,y_38) hj_49 rfl (aJ rfl) ?_)
           rintro ⟨k_40,s_45⟩ hL_47
           dsimp only at hL_47
           cases k_40 with
           | zero=>cases hL_47
           | succ k_40 =>
            obtain ⟨c_,hc_46,hL_47⟩:=bind_some hL_47
            unfold gm at hc_46
            refine af (af ?_)
            obtain ⟨v_50,h_51,hc_46⟩:=bind_some hc_46
            refine aH (β:=Unit) (fun _=>([(0,(vS s_45)),(62,(vB v_50))]:List (Nat×V))) (fun _=>([]:Hp)) (fun _=>True) ?_ ?_
            ·refine bn (ae (vS s_45) wz rfl (oP un9 rfl wz (ae (vB (decide ((s_45.size:Int) > 32))) wz rfl ?_)))
             rcases au h_51 with⟨hc_52,h_51⟩ | ⟨hc_52,h_51⟩
             ·refine aD rfl hc_52 wz (ae (vS s_45) wa rfl ?_)
              obtain ⟨r_53,hr_54,h_51⟩:=bind_some h_51
              refine aG (cZ hr_54) rfl Dy rfl rfl rfl rfl wa (ae (vS s_45) wa rfl ?_)
              obtain ⟨y_55,hy_56,h_51⟩:=bind_some h_51
              refine gz un9 rfl rfl hy_56 wa ?_
              obtain ⟨r_57,hr_58,h_51⟩:=bind_some h_51
              refine aG (cZ hr_58) rfl Dy rfl rfl rfl rfl wa (ae (.d (.int .u64 (orI .u64 r_53 r_57))) wa rfl (ae (vS s_45) wa rfl ?_))
              obtain ⟨y_59,hy_60,h_51⟩:=bind_some h_51
              refine gz un9 rfl rfl hy_60 wa ?_
              obtain ⟨r_61,hr_62,h_51⟩:=bind_some h_51
              refine aG (cZ hr_62) rfl Dy rfl rfl rfl rfl wa (ae (vS s_45) wa rfl ?_)
              obtain ⟨y_63,hy_64,h_51⟩:=bind_some h_51
              refine gz un9 rfl rfl hy_64 wa ?_
              obtain ⟨r_65,hr_66,h_51⟩:=bind_some h_51
              refine aG (cZ hr_66) rfl Dy rfl rfl rfl rfl wa (ae (.d (.int .u64 (orI .u64 r_61 r_65))) wa rfl (ae (.d (.int .u64 (orI .u64 (orI .u64 r_53 r_57) (orI .u64 r_61 r_65)))) wa rfl (ae (.d (.int .u64 (pJ .u64 (orI .u64 (orI .u64 r_53 r_57) (orI .u64 r_61 r_65)) 9259542123273814144))) wa rfl (ae (vB ((pJ .u64 (orI .u64 (orI .u64 r_53 r_57) (orI .u64 r_61 r_65)) 9259542123273814144) == 0)) wa rfl (ae (vB ((pJ .u64 (orI .u64 (orI .u64 r_53 r_57) (orI .u64 r_61 r_65)) 9259542123273814144) == 0)) wz rfl (ak ?_))))))
              obtain rfl:=ah h_51
              exact cu
             ·refine aD rfl hc_52 wz (aj wa (aj wa (aj wa (aj wa (aj wa (aj wa (aj wa (aj wa (aj wa (aj wa (aj wa (aj wa (aj wa (aj wa (aj wa (aj wa (ae (vB false) wz rfl (ak ?_))))))))))))))))))
              obtain rfl:=ah h_51
              exact cu
            ·rintro ⟨⟩ _ sl_ H_ hp_ hq_
             refine aL _ hp_ hq_ ?_
             rcases au hc_46 with⟨hc_67,hc_46⟩ | ⟨hc_67,hc_46⟩
             ·refine aB rfl hc_67 (av (aF (aa (ae (vS s_45) wz rfl ?_))))
              obtain ⟨y_68,hy_69,hc_46⟩:=bind_some hc_46
              refine gz un9 rfl rfl hy_69 wz (ae (vS y_68) wz rfl (ak ?_))
              obtain rfl:=ah hc_46
              exact aP (k_40,y_68) hL_47 (Nat.lt_succ_self _) rfl (aJ rfl)
             ·refine ay rfl hc_67 (aQ ?_)
              obtain rfl:=ah hc_46
              obtain rfl:=ah hL_47
              exact aR (s_45) rfl rfl (aJ rfl)
          ·rintro s_45 ho_ sl_ H_ hp_ hq_
           subst ho_
           obtain rfl:=ah h_24
           exact aR () trivial (pick_at [0] hp_ rfl) (pre_at hq_ (aJ rfl))
         ·refine ay rfl hc_37 (av ?_)
          obtain rfl:=ah h_24
          exact cu
       ·refine ay rfl hc_25 (av ?_)
        obtain rfl:=ah h_24
        exact cu
      ·rintro ⟨⟩ _ sl_ H_ hp_ hq_
       refine aL _ hp_ hq_ (aQ ?_)
       obtain rfl:=ah hc_8
       exact aP (k_2,v_23) hL_9 (Nat.lt_succ_self _) rfl (aJ rfl)
    ·refine ay rfl hc_15 (av (af (aa (ae (.d (.int .u8 (b_13.toNat:Int))) wz rfl ?_))))
     cases hc_8
   ·refine ay rfl hc_12 (aQ ?_)
    obtain rfl:=ah hc_8
    obtain rfl:=ah hL_9
    exact aR (s_7) rfl rfl (aJ rfl)
 ·rintro s_7 ho_ sl_ H_ hp_ hq_
  subst ho_
  refine aL _ hp_ hq_ (af (aa (ae (vB true) wz rfl (ak ?_))))
  obtain rfl:=ah hF
  exact aC (aO (.inr rfl) [(vB true)] ⟨rfl,trivial⟩ rfl rfl rfl)
end Go.Proofs.YtjhcehhmdmbleaaGreatDoor.Law

