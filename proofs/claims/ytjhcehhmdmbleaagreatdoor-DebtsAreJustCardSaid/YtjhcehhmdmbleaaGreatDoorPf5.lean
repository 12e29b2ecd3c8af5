/-
 The machine computes these plain functions (written by a program of ours).
-/
import Derived.Test.YtjhcehhmdmbleaaGreatDoorFacts
import Derived.Test.YtjhcehhmdmbleaaGreatDoorDefs
import Derived.Test.YtjhcehhmdmbleaaGreatDoorPf4
open Go Go.Eng Go.Proofs
namespace Go.Proofs.YtjhcehhmdmbleaaGreatDoor.Law
set_option maxRecDepth 100000
set_option linter.unusedVariables false
set_option maxHeartbeats 1000000
theorem sW {e_1:Entry} {r:Int} (hF:ig e_1=some r) :
  FnM Tryz.prog 197 [(.d (.agg (Entry.enc e_1)))] [] (vI r) []:=by
 refine FnM.of_wH ⟨Tryz.prog,61,[],[]⟩ rfl Tryz.func197 rfl rfl (Nat.le_of_ble_eq_true rfl) (by kernel_rfl) ?_
 unfold ig at hF
 refine af (aa (fB 0 (.inl rfl) [(vS e_1.Key),(vS e_1.Item),(vI e_1.Version),(vI e_1.First),(vI e_1.Last),(vI e_1.Every),(vI e_1.Days),(vL eI e_1.Except),(vI e_1.From),(vI e_1.To),(vI e_1.Prio),(vL eS e_1.Tags),(vB e_1.Gone)] rfl rfl wz (fun n_2=>ae (vI 0) wz rfl (aj (af (af ?_))))))
 obtain ⟨v_3,h_4,hF⟩:=bind_some hF
 refine aD (β:=Unit) (fun _=>([(1,(.ref n_2 0 0)),(13,(vB v_3))]:List (Nat×V))) (fun _=>([(n_2,some (.cells 13 [(vS e_1.Key),(vS e_1.Item),(vI e_1.Version),(vI e_1.First),(vI e_1.Last),(vI e_1.Every),(vI e_1.Days),(vL eI e_1.Except),(vI e_1.From),(vI e_1.To),(vI e_1.Prio),(vL eS e_1.Tags),(vB e_1.Gone)]))]:Hp)) (fun _=>True) ?_ ?_
 ·refine aa (aG Dh rfl 0 rfl wz (aC 0 0 il ft sz9 ag9 rfl rfl (vS e_1.Key) rfl wz ?_))
  obtain ⟨r_5,hr_6,h_4⟩:=bind_some h_4
  refine aF (eB hr_6) rfl rV rfl rfl rfl rfl wz (ae (vB (!r_5)) wz rfl ?_)
  rcases ak h_4 with⟨hc_7,h_4⟩ | ⟨hc_7,h_4⟩
  ·refine av rfl hc_7 wz (ai wa (ai wa (ai wa (ai wa (ae (vB true) wz rfl (aj ?_))))))
   obtain rfl:=ah h_4
   exact cu
  ·refine av rfl hc_7 wz (aG pl151_1 rfl 1 rfl wa (aC 0 0 il ft sz9 ag9 rfl rfl (vS e_1.Item) rfl wa ?_))
   obtain ⟨r_8,hr_9,h_4⟩:=bind_some h_4
   refine aF (eB hr_9) rfl rV rfl rfl rfl rfl wa (ae (vB (!r_8)) wa rfl (ae (vB (!r_8)) wz rfl (aj ?_)))
   obtain rfl:=ah h_4
   exact cu
 ·rintro ⟨⟩ _ sl_ H_ hp_ hq_
  refine aK _ hp_ hq_ ?_
  rcases ak hF with⟨hc_10,hF⟩ | ⟨hc_10,hF⟩
  ·refine ay rfl hc_10 (af (aa (ae (vI 5) wz rfl (aj ?_))))
   obtain rfl:=ah hF
   exact aB (aP (.inr rfl) [(vI 5)] ⟨rfl,trivial⟩ rfl rfl rfl)
  ·refine ax rfl hc_10 (au (af (af ?_)))
   obtain ⟨v_11,h_12,hF⟩:=bind_some hF
   refine aD (β:=Unit) (fun _=>([(1,(.ref n_2 0 0)),(38,(vB v_11))]:List (Nat×V))) (fun _=>([(n_2,some (.cells 13 [(vS e_1.Key),(vS e_1.Item),(vI e_1.Version),(vI e_1.First),(vI e_1.Last),(vI e_1.Every),(vI e_1.Days),(vL eI e_1.Except),(vI e_1.From),(vI e_1.To),(vI e_1.Prio),(vL eS e_1.Tags),(vB e_1.Gone)]))]:Hp)) (fun _=>True) ?_ ?_
   ·refine aa (aG pl151_2 rfl 2 rfl wz (aC 0 0 il ft sz3 ag3 rfl rfl (vI e_1.Version) rfl wz ?_))
    obtain ⟨r_13,hr_14,h_12⟩:=bind_some h_12
    refine aF (aY hr_14) rfl pM rfl rfl rfl rfl wz ?_
    rcases ak h_12 with⟨hc_15,h_12⟩ | ⟨hc_15,h_12⟩
    ·refine av rfl hc_15 wz (ai wa (ai wa (ai wa (ai wa (ai wa (ae (vB true) wz rfl (ae (vB true) wz rfl (ai wa (ai wa (ai wa (ae (vB true) wz rfl (ae (vB true) wz rfl (ai wa (ai wa (ai wa (ae (vB true) wz rfl (ae (vB true) wz rfl (ai wa (ai wa (ai wa (ae (vB true) wz rfl (aj ?_))))))))))))))))))))))
     obtain rfl:=ah h_12
     exact cu
    ·refine av rfl hc_15 wz (aG zY rfl 3 rfl wa (aC 0 0 il ft sz3 ag3 rfl rfl (vI e_1.First) rfl wa (aG zQ rfl 4 rfl wa (aC 0 0 il ft sz3 ag3 rfl rfl (vI e_1.Last) rfl wa ?_))))
     obtain ⟨r_16,hr_17,h_12⟩:=bind_some h_12
     refine aF (aY hr_17) rfl pM rfl rfl rfl rfl wa (ae (vB r_16) wz rfl ?_)
     rcases ak h_12 with⟨hc_18,h_12⟩ | ⟨hc_18,h_12⟩
     ·refine av rfl hc_18 wz (ai wa (ai wa (ai wa (ae (vB true) wz rfl (ae (vB true) wz rfl (ai wa (ai wa (ai wa (ae (vB true) wz rfl (ae (vB true) wz rfl (ai wa (ai wa (ai wa (ae (vB true) wz rfl (aj ?_)))))))))))))))
      obtain rfl:=ah h_12
      exact cu
     ·refine av rfl hc_18 wz (aG zQ rfl 4 rfl wa (aC 0 0 il ft sz3 ag3 rfl rfl (vI e_1.Last) rfl wa (ae (vB (decide (e_1.Last > 4000))) wa rfl (ae (vB (decide (e_1.Last > 4000))) wz rfl ?_))))
      rcases ak h_12 with⟨hc_19,h_12⟩ | ⟨hc_19,h_12⟩
      ·refine av rfl hc_19 wz (ai wa (ai wa (ai wa (ae (vB true) wz rfl (ae (vB true) wz rfl (ai wa (ai wa (ai wa (ae (vB true) wz rfl (aj ?_))))))))))
       obtain rfl:=ah h_12
       exact cu
      ·refine av rfl hc_19 wz (aG H6 rfl 5 rfl wa (aC 0 0 il ft sz3 ag3 rfl rfl (vI e_1.Every) rfl wa ?_))
       obtain ⟨r_20,hr_21,h_12⟩:=bind_some h_12
       refine aF (aY hr_21) rfl pM rfl rfl rfl rfl wa (ae (vB r_20) wz rfl ?_)
       rcases ak h_12 with⟨hc_22,h_12⟩ | ⟨hc_22,h_12⟩
       ·refine av rfl hc_22 wz (ai wa (ai wa (ai wa (ae (vB true) wz rfl (aj ?_)))))
        obtain rfl:=ah h_12
        exact cu
       ·refine av rfl hc_22 wz (aG Hr rfl 6 rfl wa (aC 0 0 il ft sz3 ag3 rfl rfl (vI e_1.Days) rfl wa ?_))
        obtain ⟨r_23,hr_24,h_12⟩:=bind_some h_12
        refine aF (aY hr_24) rfl pM rfl rfl rfl rfl wa (ae (vB r_23) wz rfl (aj ?_))
        obtain rfl:=ah h_12
        exact cu
   ·rintro ⟨⟩ _ sl_ H_ hp_ hq_
    refine aK _ hp_ hq_ ?_
    rcases ak hF with⟨hc_25,hF⟩ | ⟨hc_25,hF⟩
    ·refine ay rfl hc_25 (af (aa (ae (vI 1) wz rfl (aj ?_))))
     obtain rfl:=ah hF
     exact aB (aP (.inr rfl) [(vI 1)] ⟨rfl,trivial⟩ rfl rfl rfl)
    ·refine ax rfl hc_25 (au (af (af (aa (aG Iq rfl 7 rfl wz (aC 0 0 il ft IX IM rfl rfl (vL eI e_1.Except) rfl wz ?_))))))
     obtain ⟨r_26,hr_27,hF⟩:=bind_some hF
     refine aF (si hr_27) rfl hb264 rfl rfl rfl rfl wz (ae (vI r_26) wz rfl (aj (af (aa (ae (vI r_26) wz rfl (ae (vB (r_26 != 0)) wz rfl (aj ?_)))))))
     rcases ak hF with⟨hc_28,hF⟩ | ⟨hc_28,hF⟩
     ·refine ay rfl hc_28 (af (aa (ae (vI r_26) wz rfl (ae (vI r_26) wz rfl (aj ?_)))))
      obtain rfl:=ah hF
      exact aB (aP (.inr rfl) [(vI r_26)] ⟨rfl,trivial⟩ rfl rfl rfl)
     ·refine ax rfl hc_28 (au (af (af ?_)))
      obtain ⟨v_29,h_30,hF⟩:=bind_some hF
      refine aD (β:=Unit) (fun _=>([(1,(.ref n_2 0 0)),(57,(vB v_29))]:List (Nat×V))) (fun _=>([(n_2,some (.cells 13 [(vS e_1.Key),(vS e_1.Item),(vI e_1.Version),(vI e_1.First),(vI e_1.Last),(vI e_1.Every),(vI e_1.Days),(vL eI e_1.Except),(vI e_1.From),(vI e_1.To),(vI e_1.Prio),(vL eS e_1.Tags),(vB e_1.Gone)]))]:Hp)) (fun _=>True) ?_ ?_
      ·refine aa (aG Dt rfl 8 rfl wz (aC 0 0 il ft sz3 ag3 rfl rfl (vI e_1.From) rfl wz ?_))
       obtain ⟨r_31,hr_32,h_30⟩:=bind_some h_30
       refine aF (aY hr_32) rfl pM rfl rfl rfl rfl wz ?_
       rcases ak h_30 with⟨hc_33,h_30⟩ | ⟨hc_33,h_30⟩
       ·refine av rfl hc_33 wz (ai wa (ai wa (ai wa (ae (vB true) wz rfl (ae (vB true) wz rfl (ai wa (ai wa (ai wa (ae (vB true) wz rfl (aj ?_))))))))))
        obtain rfl:=ah h_30
        exact cu
       ·refine av rfl hc_33 wz (aG Ie rfl 9 rfl wa (aC 0 0 il ft sz3 ag3 rfl rfl (vI e_1.To) rfl wa ?_))
        obtain ⟨r_34,hr_35,h_30⟩:=bind_some h_30
        refine aF (aY hr_35) rfl pM rfl rfl rfl rfl wa (ae (vB r_34) wz rfl ?_)
        rcases ak h_30 with⟨hc_36,h_30⟩ | ⟨hc_36,h_30⟩
        ·refine av rfl hc_36 wz (ai wa (ai wa (ai wa (ae (vB true) wz rfl (aj ?_)))))
         obtain rfl:=ah h_30
         exact cu
        ·refine av rfl hc_36 wz (aG KD rfl 10 rfl wa (aC 0 0 il ft sz3 ag3 rfl rfl (vI e_1.Prio) rfl wa ?_))
         obtain ⟨r_37,hr_38,h_30⟩:=bind_some h_30
         refine aF (aY hr_38) rfl pM rfl rfl rfl rfl wa (ae (vB r_37) wz rfl (aj ?_))
         obtain rfl:=ah h_30
         exact cu
      ·rintro ⟨⟩ _ sl_ H_ hp_ hq_
       refine aK _ hp_ hq_ ?_
       rcases ak hF with⟨hc_39,hF⟩ | ⟨hc_39,hF⟩
       ·refine ay rfl hc_39 (af (aa (ae (vI 1) wz rfl (aj ?_))))
        obtain rfl:=ah hF
        exact aB (aP (.inr rfl) [(vI 1)] ⟨rfl,trivial⟩ rfl rfl rfl)
       ·refine ax rfl hc_39 (au (af (aa (aG JU rfl 11 rfl wz (aC 0 0 il ft Bu DD rfl rfl (vL eS e_1.Tags) rfl wz ?_)))))
        obtain ⟨r_40,hr_41,hF⟩:=bind_some hF
        refine aF (uB hr_41) rfl hb227 rfl rfl rfl rfl wz (ae (vI r_40) wz rfl (aj ?_))
        obtain rfl:=ah hF
        exact aB (aP (.inr rfl) [(vI r_40)] ⟨rfl,trivial⟩ rfl rfl rfl)
theorem rz {l_1:(List Entry)} {r:Int} (hF:gm l_1=some r) :
  FnM Tryz.prog 152 [(vL Entry.enc l_1)] [] (vI r) []:=by
 refine FnM.of_wH ⟨Tryz.prog,35,[],[]⟩ rfl Tryz.func152 rfl rfl (Nat.le_of_ble_eq_true rfl) (by kernel_rfl) ?_
 unfold gm at hF
 refine af (aa (ae (vI 0) wz rfl (aj (af (af (aa (ae (vL Entry.enc l_1) wz rfl (bO un77 rfl wz (ae (vB (decide ((l_1.length:Int) > 200))) wz rfl (aj ?_))))))))))
 rcases ak hF with⟨hc_2,hF⟩ | ⟨hc_2,hF⟩
 ·refine ay rfl hc_2 (af (aa (ae (vI 2) wz rfl (aj ?_))))
  obtain rfl:=ah hF
  exact aB (aP (.inr rfl) [(vI 2)] ⟨rfl,trivial⟩ rfl rfl rfl)
 ·refine ax rfl hc_2 (au (af (af (aa (ae (vL Entry.enc l_1) wz rfl (bO un77 rfl wz (ae (vI 0) wz rfl (aj ?_))))))))
  obtain ⟨o_11,hj_12,hF⟩:=bind_some hF
  obtain ⟨hn_7,hj_12⟩:=aW hj_12
  refine aD (β:=(Unit)) (fun (s_8:Unit)=>([]:List (Nat×V))) (fun (s_8:Unit)=>([]:Hp)) (fun p=>o_11 = .go p) ?_ ?_
  ·refine aA (aV (β:=Nat×(List Entry)×(Unit)) (fun p=>(fun (k_3:Nat) (l_4:List Entry) (s_8:Unit)=>([(0,(vL Entry.enc l_1)),(9,(vL Entry.enc l_1)),(10,(vI (l_1.length:Int))),(11,(vI (k_3:Int)))]:List (Nat×V))) p.1 p.2.1 p.2.2) (fun p=>(fun (k_3:Nat) (l_4:List Entry) (s_8:Unit)=>([]:Hp)) p.1 p.2.1 p.2.2) (fun p=>forR (fun k x s=>eO l_1 k x s) p.2.1 p.1 p.2.2=some o_11∧(l_1).drop p.1=p.2.1) (fun p=>p.2.1.length) (0,l_1,()) ⟨hj_12,rfl⟩ rfl (aI rfl) ?_)
   rintro ⟨k_3,l_4,s_8⟩ ⟨hL_10,hD_6⟩
   dsimp only at hL_10 hD_6
   cases l_4 with
   | nil =>
    obtain rfl:=ah hL_10
    refine af (aa (ae (vB (decide ((k_3:Int) < (l_1.length:Int)))) wz rfl (aj ?_)))
    refine af (ax rfl (drop_nil hD_6) (aS ?_))
    exact aO (s_8) rfl rfl (aI rfl)
   | cons x_5 l_4 =>
    obtain ⟨c_,hc_9,hL_10⟩:=bind_some hL_10
    refine af (aa (ae (vB (decide ((k_3:Int) < (l_1.length:Int)))) wz rfl (aj ?_)))
    refine af (ay rfl (aX hD_6) (au ?_))
    unfold eO at hc_9
    refine af (aA (af (aa (ae (vI (k_3:Int)) wz rfl (dI es77 rfl rfl (bC hD_6) rfl wz (bG AA CR rfl (.d (.agg (Entry.enc x_5))) rfl wz (dh 0 (.inl rfl) z151 rfl wz (fun n_13=>ae (vI (k_3:Int)) wz rfl (fD 0 il ft 0 AA rfl rfl [(vS x_5.Key),(vS x_5.Item),(vI x_5.Version),(vI x_5.First),(vI x_5.Last),(vI x_5.Every),(vI x_5.Days),(vL eI x_5.Except),(vI x_5.From),(vI x_5.To),(vI x_5.Prio),(vL eS x_5.Tags),(vB x_5.Gone)] rfl wz (aj (af (af (aa (aC 0 0 il ft AA CR rfl rfl (.d (.agg (Entry.enc x_5))) rfl wz ?_))))))))))))))
    obtain ⟨r_14,hr_15,hc_9⟩:=bind_some hc_9
    refine aF (sW hr_15) rfl hb197 rfl rfl rfl rfl wz (ae (vI r_14) wz rfl (aj (af (aa (ae (vI r_14) wz rfl (ae (vB (r_14 != 0)) wz rfl (aj ?_)))))))
    rcases ak hc_9 with⟨hc_16,hc_9⟩ | ⟨hc_16,hc_9⟩
    ·refine ay rfl hc_16 (af (aa (ae (vI r_14) wz rfl (ae (vI r_14) wz rfl (aj ?_)))))
     obtain rfl:=ah hc_9
     obtain rfl:=ah hL_10
     obtain rfl:=ah hF
     exact aB (aP (.inr rfl) [(vI r_14)] ⟨rfl,trivial⟩ rfl rfl rfl)
    ·refine ax rfl hc_16 (au (af ?_))
     obtain ⟨v_17,h_18,hc_9⟩:=bind_some hc_9
     refine aD (β:=Unit) (fun _=>([(0,(vL Entry.enc l_1)),(9,(vL Entry.enc l_1)),(10,(vI (l_1.length:Int))),(11,(vI (k_3:Int))),(33,(vB v_17))]:List (Nat×V))) (fun _=>([(n_13,some (.cells 13 [(vS x_5.Key),(vS x_5.Item),(vI x_5.Version),(vI x_5.First),(vI x_5.Last),(vI x_5.Every),(vI x_5.Days),(vL eI x_5.Except),(vI x_5.From),(vI x_5.To),(vI x_5.Prio),(vL eS x_5.Tags),(vB x_5.Gone)]))]:Hp)) (fun _=>True) ?_ ?_
     ·refine bA (ae (vI (k_3:Int)) wz rfl (ae (vB (decide ((k_3:Int) > 0))) wz rfl ?_))
      rcases ak h_18 with⟨hc_19,h_18⟩ | ⟨hc_19,h_18⟩
      ·refine av rfl hc_19 wz (aG Dh rfl 0 rfl wa (aC 4 0 (.inr (by kernel_rfl)) (fun _ _ ag=>trivial) sz9 ag9 rfl rfl (vS x_5.Key) rfl wa (ae (vL Entry.enc l_1) wa rfl (ae (vI (k_3:Int)) wa rfl (ae (vI (w64 ((k_3:Int) - 1))) wa rfl ?_)))))
       obtain ⟨y_20,hy_21,h_18⟩:=bind_some h_18
       refine dI es77 rfl rfl hy_21 rfl wa (pq Dh rfl [.str y_20.Key,.str y_20.Item,.int .i64 y_20.Version,.int .i64 y_20.First,.int .i64 y_20.Last,.int .i64 y_20.Every,.int .i64 y_20.Days,dl eI y_20.Except,.int .i64 y_20.From,.int .i64 y_20.To,.int .i64 y_20.Prio,dl eS y_20.Tags,.bool y_20.Gone] rfl rfl wa (bG sz9 ag9 rfl (vS y_20.Key) rfl wa (ae (vB (sLe x_5.Key y_20.Key)) wa rfl (ae (vB (sLe x_5.Key y_20.Key)) wz rfl (aj ?_)))))
       obtain rfl:=ah h_18
       exact cu
      ·refine av rfl hc_19 wz (ai wa (ai wa (ai wa (ai wa (ai wa (ai wa (ai wa (ai wa (ai wa (ae (vB false) wz rfl (aj ?_)))))))))))
       obtain rfl:=ah h_18
       exact cu
     ·rintro ⟨⟩ _ sl_ H_ hp_ hq_
      refine aK _ hp_ hq_ ?_
      rcases ak hc_9 with⟨hc_22,hc_9⟩ | ⟨hc_22,hc_9⟩
      ·refine ay rfl hc_22 (af (aa (ae (vI 7) wz rfl (aj ?_))))
       obtain rfl:=ah hc_9
       obtain rfl:=ah hL_10
       obtain rfl:=ah hF
       exact aB (aP (.inr rfl) [(vI 7)] ⟨rfl,trivial⟩ rfl rfl rfl)
      ·refine ax rfl hc_22 (au (aa (dY (bn hD_6 hn_7) wz rfl (ae (vI ((k_3 + 1:Nat):Int)) wz rfl (aj ?_)))))
       obtain rfl:=ah hc_9
       exact aU (k_3 + 1,l_4,()) ⟨hL_10,aR hD_6⟩ (Nat.lt_succ_self _) rfl (aI rfl)
  ·rintro s_8 ho_ sl_ H_ hp_ hq_
   subst ho_
   refine aK _ hp_ hq_ (af (aa (ae (vI 0) wz rfl (aj ?_))))
   obtain rfl:=ah hF
   exact aB (aP (.inr rfl) [(vI 0)] ⟨rfl,trivial⟩ rfl rfl rfl)
theorem rU {wv_1:Window} {r:Int} (hF:iX wv_1=some r) :
  FnM Tryz.prog 153 [(.d (.agg (Window.enc wv_1)))] [] (vI r) []:=by
 refine FnM.of_wH ⟨Tryz.prog,19,[],[]⟩ rfl Tryz.func153 rfl rfl (Nat.le_of_ble_eq_true rfl) (by kernel_rfl) ?_
 unfold iX at hF
 refine af (aa (fB 0 (.inl rfl) [(vI wv_1.From),(vI wv_1.To)] rfl rfl wz (fun n_2=>ae (vI 0) wz rfl (aj (af (af ?_))))))
 obtain ⟨v_3,h_4,hF⟩:=bind_some hF
 refine aD (β:=Unit) (fun _=>([(1,(.ref n_2 0 0)),(12,(vB v_3))]:List (Nat×V))) (fun _=>([(n_2,some (.cells 2 [(vI wv_1.From),(vI wv_1.To)]))]:Hp)) (fun _=>True) ?_ ?_
 ·refine aa (aG nZ rfl 0 rfl wz (aC 0 0 il ft sz3 ag3 rfl rfl (vI wv_1.From) rfl wz (aG ol rfl 1 rfl wz (aC 0 0 il ft sz3 ag3 rfl rfl (vI wv_1.To) rfl wz ?_))))
  obtain ⟨r_5,hr_6,h_4⟩:=bind_some h_4
  refine aF (aY hr_6) rfl pM rfl rfl rfl rfl wz ?_
  rcases ak h_4 with⟨hc_7,h_4⟩ | ⟨hc_7,h_4⟩
  ·refine av rfl hc_7 wz (ai wa (ai wa (ai wa (ae (vB true) wz rfl (aj ?_)))))
   obtain rfl:=ah h_4
   exact cu
  ·refine av rfl hc_7 wz (aG ol rfl 1 rfl wa (aC 0 0 il ft sz3 ag3 rfl rfl (vI wv_1.To) rfl wa (ae (vB (decide (wv_1.To > 345686400000))) wa rfl (ae (vB (decide (wv_1.To > 345686400000))) wz rfl (aj ?_)))))
   obtain rfl:=ah h_4
   exact cu
 ·rintro ⟨⟩ _ sl_ H_ hp_ hq_
  refine aK _ hp_ hq_ ?_
  rcases ak hF with⟨hc_8,hF⟩ | ⟨hc_8,hF⟩
  ·refine ay rfl hc_8 (af (aa (ae (vI 1) wz rfl (aj ?_))))
   obtain rfl:=ah hF
   exact aB (aP (.inr rfl) [(vI 1)] ⟨rfl,trivial⟩ rfl rfl rfl)
  ·refine ax rfl hc_8 (au (af (af (aa (aG ol rfl 1 rfl wz (aC 0 0 il ft sz3 ag3 rfl rfl (vI wv_1.To) rfl wz (aG nZ rfl 0 rfl wz (aC 0 0 il ft sz3 ag3 rfl rfl (vI wv_1.From) rfl wz (ae (vI (w64 (wv_1.To - wv_1.From))) wz rfl (ae (vB (decide ((w64 (wv_1.To - wv_1.From)) > 34560000000))) wz rfl (aj ?_)))))))))))
   rcases ak hF with⟨hc_9,hF⟩ | ⟨hc_9,hF⟩
   ·refine ay rfl hc_9 (af (aa (ae (vI 2) wz rfl (aj ?_))))
    obtain rfl:=ah hF
    exact aB (aP (.inr rfl) [(vI 2)] ⟨rfl,trivial⟩ rfl rfl rfl)
   ·refine ax rfl hc_9 (au (af (aa (ae (vI 0) wz rfl (aj ?_)))))
    obtain rfl:=ah hF
    exact aB (aP (.inr rfl) [(vI 0)] ⟨rfl,trivial⟩ rfl rfl rfl)
theorem zw {x_1:Int} {y_2:Int} {r:Bool} (hF:cmp_Less_int x_1 y_2=some r) :
  FnM Tryz.prog 220 [(vI x_1),(vI y_2)] [] (vB r) []:=by
 refine FnM.of_wH ⟨Tryz.prog,17,[],[]⟩ rfl Tryz.func220 rfl rfl (Nat.le_of_ble_eq_true rfl) (by kernel_rfl) ?_
 unfold cmp_Less_int at hF
 refine af (aa (ae (vB false) wz rfl (aj (af ?_))))
 obtain ⟨v_3,h_4,hF⟩:=bind_some hF
 refine aD (β:=Unit) (fun _=>([(4,(vB v_3))]:List (Nat×V))) (fun _=>([]:Hp)) (fun _=>True) ?_ ?_
 ·refine aa (ae (vI x_1) wz rfl ?_)
  obtain ⟨r_5,hr_6,h_4⟩:=bind_some h_4
  refine aF (lK hr_6) rfl IJ rfl rfl rfl rfl wz ?_
  rcases ak h_4 with⟨hc_7,h_4⟩ | ⟨hc_7,h_4⟩
  ·refine av rfl hc_7 wz (ae (vI y_2) wa rfl ?_)
   obtain ⟨r_8,hr_9,h_4⟩:=bind_some h_4
   refine aF (lK hr_9) rfl IJ rfl rfl rfl rfl wa (ae (vB (!r_8)) wa rfl (ae (vB (!r_8)) wz rfl ?_))
   rcases ak h_4 with⟨hc_10,h_4⟩ | ⟨hc_10,h_4⟩
   ·refine av rfl hc_10 wz (ai wa (ai wa (ai wa (ae (vB true) wz rfl (ae (vB true) wz rfl (aj ?_))))))
    obtain rfl:=ah h_4
    exact cu
   ·refine av rfl hc_10 wz (ae (vI x_1) wa rfl (ae (vI y_2) wa rfl (ae (vB (decide (x_1 < y_2))) wa rfl (ae (vB (decide (x_1 < y_2))) wz rfl (ae (vB (decide (x_1 < y_2))) wz rfl (aj ?_))))))
    obtain rfl:=ah h_4
    exact cu
  ·refine av rfl hc_7 wz (ai wa (ai wa (ai wa (ae (vB false) wz rfl (ae (vB false) wz rfl (ae (vI x_1) wa rfl (ae (vI y_2) wa rfl (ae (vB (decide (x_1 < y_2))) wa rfl (ae (vB (decide (x_1 < y_2))) wz rfl (ae (vB (decide (x_1 < y_2))) wz rfl (aj ?_)))))))))))
   obtain rfl:=ah h_4
   exact cu
 ·rintro ⟨⟩ _ sl_ H_ hp_ hq_
  refine aK _ hp_ hq_ ?_
  obtain rfl:=ah hF
  exact aB (aP (.inr rfl) [(vB v_3)] ⟨rfl,trivial⟩ rfl rfl rfl)
theorem pE {x_1:Int} {r:Bool} (hF:iE x_1=some r) :
  FnM Tryz.prog 313 [(vI x_1)] [] (vB r) []:=by
 refine FnM.of_wH ⟨Tryz.prog,6,[],[]⟩ rfl Tryz.func313 rfl rfl (Nat.le_of_ble_eq_true rfl) (by kernel_rfl) ?_
 unfold iE at hF
 refine af (aa (ae (vB false) wz rfl (aj (af (aa (ae (vI x_1) wz rfl (ae (vI x_1) wz rfl (ae (vB (x_1 != x_1)) wz rfl (ae (vB (x_1 != x_1)) wz rfl (aj ?_))))))))))
 obtain rfl:=ah hF
 exact aB (aP (.inr rfl) [(vB (x_1 != x_1))] ⟨rfl,trivial⟩ rfl rfl rfl)
theorem oh {x_1:(List Int)} {target_2:Int} {r:Int×Bool} (hF:dN x_1 target_2=some r) :
  FnM Tryz.prog 265 [(vL eI x_1),(vI target_2)] [] (.tup [(vI r.1),(vB r.2)]) []:=by
 refine FnM.of_wH ⟨Tryz.prog,54,[],[]⟩ rfl Tryz.func265 rfl rfl (Nat.le_of_ble_eq_true rfl) (by kernel_rfl) ?_
 unfold dN at hF
 refine af (aa (ae (vI 0) wz rfl (ae (vB false) wz rfl (aj (af (aa (ae (vL eI x_1) wz rfl (bO vZ rfl wz (ae (vI (x_1.length:Int)) wz rfl (aj (af (aa (ae (vI (x_1.length:Int)) wz rfl (ae (vI 0) wz rfl (ae (vI (x_1.length:Int)) wz rfl (aj (af ?_)))))))))))))))))
 obtain ⟨o_11,hj_12,hF⟩:=bind_some hF
 obtain ⟨nq_34,hj_12⟩:=dB hj_12
 refine aD (β:=(Int×Int)) (fun (s_8:Int×Int)=>([(0,(vL eI x_1)),(1,(vI target_2)),(6,(vI (x_1.length:Int))),(7,(vI s_8.1))]:List (Nat×V))) (fun (s_8:Int×Int)=>([]:Hp)) (fun p=>o_11 = .go p) ?_ ?_
 ·refine aA (aV (β:=Nat×(Int×Int)) (fun p=>(fun (k_3:Nat) (s_8:Int×Int)=>([(0,(vL eI x_1)),(1,(vI target_2)),(6,(vI (x_1.length:Int))),(7,(vI s_8.1)),(8,(vI s_8.2))]:List (Nat×V))) p.1 p.2) (fun p=>(fun (k_3:Nat) (s_8:Int×Int)=>([]:Hp)) p.1 p.2) (fun p=>iterN (fun s=>dZ x_1 target_2 s) p.1 p.2=some o_11) (fun p=>p.1) (nq_34,(0,(x_1.length:Int))) hj_12 rfl (aI rfl) ?_)
  rintro ⟨k_3,s_8⟩ hL_10
  dsimp only at hL_10
  cases k_3 with
  | zero=>cases hL_10
  | succ k_3 =>
   obtain ⟨c_,hc_9,hL_10⟩:=bind_some hL_10
   unfold dZ at hc_9
   refine af (af (aa (ae (vI s_8.1) wz rfl (ae (vI s_8.2) wz rfl (ae (vB (decide (s_8.1 < s_8.2))) wz rfl (aj ?_))))))
   rcases ak hc_9 with⟨hc_13,hc_9⟩ | ⟨hc_13,hc_9⟩
   ·refine ay rfl hc_13 (au (aA (af (aa (ae (vI s_8.1) wz rfl (ae (vI s_8.2) wz rfl (ae (vI (w64 (s_8.1 + s_8.2))) wz rfl (mU un3 Hf rfl wz ?_))))))))
    obtain ⟨q_14,hz_15,hc_9⟩:=bind_some hc_9
    refine HY rfl rfl hz_15 wz (mU Hf un3 rfl wz (ae (vI (w64 q_14)) wz rfl (aj (af (aa (ae (vL eI x_1) wz rfl (ae (vI (w64 q_14)) wz rfl ?_)))))))
    obtain ⟨y_16,hy_17,hc_9⟩:=bind_some hc_9
    refine dI nM rfl rfl hy_17 rfl wz (bG sz3 ag3 rfl (vI y_16) rfl wz (ae (vI target_2) wz rfl ?_))
    obtain ⟨r_18,hr_19,hc_9⟩:=bind_some hc_9
    refine aF (zw hr_19) rfl hb220 rfl rfl rfl rfl wz (aj ?_)
    rcases ak hc_9 with⟨hc_20,hc_9⟩ | ⟨hc_20,hc_9⟩
    ·refine ay rfl hc_20 (aa (ae (vI (w64 q_14)) wz rfl (ae (vI (w64 ((w64 q_14) + 1))) wz rfl (ae (vI (w64 ((w64 q_14) + 1))) wz rfl (aj ?_)))))
     obtain rfl:=ah hc_9
     exact aU (k_3,((w64 ((w64 q_14) + 1)),s_8.2)) hL_10 (Nat.lt_succ_self _) rfl (aI rfl)
    ·refine ax rfl hc_20 (aa (ae (vI (w64 q_14)) wz rfl (ae (vI (w64 q_14)) wz rfl (aj ?_))))
     obtain rfl:=ah hc_9
     exact aU (k_3,(s_8.1,(w64 q_14))) hL_10 (Nat.lt_succ_self _) rfl (aI rfl)
   ·refine ax rfl hc_13 (aS ?_)
    obtain rfl:=ah hc_9
    obtain rfl:=ah hL_10
    exact aO ((s_8.1,s_8.2)) rfl rfl (aI rfl)
 ·rintro s_8 ho_ sl_ H_ hp_ hq_
  subst ho_
  refine aK _ hp_ hq_ (af ?_)
  obtain ⟨v_21,h_22,hF⟩:=bind_some hF
  refine aD (β:=Unit) (fun _=>([(4,(vI s_8.1)),(5,(vB v_21))]:List (Nat×V))) (fun _=>([]:Hp)) (fun _=>True) ?_ ?_
  ·refine aa (ae (vI s_8.1) wz rfl (ae (vI s_8.1) wz rfl (ae (vI (x_1.length:Int)) wz rfl (ae (vB (decide (s_8.1 < (x_1.length:Int)))) wz rfl ?_))))
   rcases ak h_22 with⟨hc_23,h_22⟩ | ⟨hc_23,h_22⟩
   ·refine av rfl hc_23 wz (ae (vL eI x_1) wa rfl (ae (vI s_8.1) wa rfl ?_))
    obtain ⟨y_24,hy_25,h_22⟩:=bind_some h_22
    refine dI nM rfl rfl hy_25 rfl wa (bG sz3 ag3 rfl (vI y_24) rfl wa (ae (vI target_2) wa rfl (ae (vB (y_24 == target_2)) wa rfl ?_)))
    rcases ak h_22 with⟨hc_26,h_22⟩ | ⟨hc_26,h_22⟩
    ·refine av rfl hc_26 wa (ai wa (ai wa (ai wa (ai wa (ai wa (ai wa (ai (wn rfl rfl) (ai (wn rfl rfl) (ai wa (ae (vB true) wa rfl (ae (vB true) wz rfl (ae (vI s_8.1) wz rfl (ae (vB true) wz rfl (aj ?_))))))))))))))
     obtain rfl:=ah h_22
     exact cu
    ·refine av rfl hc_26 wa (ae (vL eI x_1) wa rfl (ae (vI s_8.1) wa rfl ?_))
     obtain ⟨y_27,hy_28,h_22⟩:=bind_some h_22
     refine dI nM rfl rfl hy_28 rfl wa (bG sz3 ag3 rfl (vI y_27) rfl wa ?_)
     obtain ⟨r_29,hr_30,h_22⟩:=bind_some h_22
     refine aF (pE hr_30) rfl hb313 rfl rfl rfl rfl wa ?_
     rcases ak h_22 with⟨hc_31,h_22⟩ | ⟨hc_31,h_22⟩
     ·refine av rfl hc_31 wa (ae (vI target_2) wa rfl ?_)
      obtain ⟨r_32,hr_33,h_22⟩:=bind_some h_22
      refine aF (pE hr_33) rfl hb313 rfl rfl rfl rfl wa (ae (vB r_32) wa rfl (ae (vB r_32) wa rfl (ae (vB r_32) wz rfl (ae (vI s_8.1) wz rfl (ae (vB r_32) wz rfl (aj ?_))))))
      obtain rfl:=ah h_22
      exact cu
     ·refine av rfl hc_31 wa (ai wa (ai wa (ae (vB false) wa rfl (ae (vB false) wa rfl (ae (vB false) wz rfl (ae (vI s_8.1) wz rfl (ae (vB false) wz rfl (aj ?_))))))))
      obtain rfl:=ah h_22
      exact cu
   ·refine av rfl hc_23 wz (ai wa (ai wa (ai wa (ai wa (ai wa (ai wa (ai wa (ai (wn rfl rfl) (ai (wn rfl rfl) (ai (wn rfl rfl) (ai (wn rfl rfl) (ai (wn rfl rfl) (ai (wn rfl rfl) (ai (wn rfl rfl) (ai (wn rfl rfl) (ai (wn rfl rfl) (ai wa (ae (vB false) wz rfl (ae (vI s_8.1) wz rfl (ae (vB false) wz rfl (aj ?_)))))))))))))))))))))
    obtain rfl:=ah h_22
    exact cu
  ·rintro ⟨⟩ _ sl_ H_ hp_ hq_
   refine aK _ hp_ hq_ ?_
   obtain rfl:=ah hF
   exact aB (aP (.inr rfl) [(vI s_8.1),(vB v_21)] ⟨rfl,⟨rfl,trivial⟩⟩ rfl rfl rfl)
theorem xP {e_1:Entry} {d_2:Int} {r:Bool} (hF:lg e_1 d_2=some r) :
  FnM Tryz.prog 198 [(.d (.agg (Entry.enc e_1))),(vI d_2)] [] (vB r) []:=by
 refine FnM.of_wH ⟨Tryz.prog,41,[],[]⟩ rfl Tryz.func198 rfl rfl (Nat.le_of_ble_eq_true rfl) (by kernel_rfl) ?_
 unfold lg at hF
 refine af (aa (fB 0 (.inl rfl) [(vS e_1.Key),(vS e_1.Item),(vI e_1.Version),(vI e_1.First),(vI e_1.Last),(vI e_1.Every),(vI e_1.Days),(vL eI e_1.Except),(vI e_1.From),(vI e_1.To),(vI e_1.Prio),(vL eS e_1.Tags),(vB e_1.Gone)] rfl rfl wz (fun n_3=>ae (vB false) wz rfl (aj (af (af ?_))))))
 obtain ⟨v_4,h_5,hF⟩:=bind_some hF
 refine aD (β:=Unit) (fun _=>([(1,(vI d_2)),(2,(.ref n_3 0 0)),(31,(vB v_4))]:List (Nat×V))) (fun _=>([(n_3,some (.cells 13 [(vS e_1.Key),(vS e_1.Item),(vI e_1.Version),(vI e_1.First),(vI e_1.Last),(vI e_1.Every),(vI e_1.Days),(vL eI e_1.Except),(vI e_1.From),(vI e_1.To),(vI e_1.Prio),(vL eS e_1.Tags),(vB e_1.Gone)]))]:Hp)) (fun _=>True) ?_ ?_
 ·refine bA (ae (vI d_2) wz rfl (aG zY rfl 3 rfl wz (aC 2 0 (.inr (by kernel_rfl)) (fun _ _ ag=>trivial) sz3 ag3 rfl rfl (vI e_1.First) rfl wz (aG zQ rfl 4 rfl wz (aC 4 0 (.inr (by kernel_rfl)) (fun _ _ ag=>⟨.inl ⟨rfl,rfl⟩,trivial⟩) sz3 ag3 rfl rfl (vI e_1.Last) rfl wz ?_)))))
  obtain ⟨r_6,hr_7,h_5⟩:=bind_some h_5
  refine aF (aY hr_7) rfl pM rfl rfl rfl rfl wz ?_
  rcases ak h_5 with⟨hc_8,h_5⟩ | ⟨hc_8,h_5⟩
  ·refine av rfl hc_8 wz (ai wa (ai wa (ai wa (ai wa (ai wa (ai wa (ai wa (ai wa (ae (vB true) wz rfl (ae (vB true) wz rfl (ai wa (ai wa (ai wa (ai wa (ai wa (ai wa (ai wa (ae (vB true) wz rfl (aj ?_)))))))))))))))))))
   obtain rfl:=ah h_5
   exact cu
  ·refine av rfl hc_8 wz (ae (vI d_2) wa rfl (aG zY rfl 3 rfl wa (aC 9 0 (.inr (by kernel_rfl)) (fun _ _ ag=>⟨.inl ⟨rfl,rfl⟩,⟨.inl ⟨rfl,rfl⟩,trivial⟩⟩) sz3 ag3 rfl rfl (vI e_1.First) rfl wa (ae (vI (w64 (d_2 - e_1.First))) wa rfl (aG H6 rfl 5 rfl wa (aC 12 0 (.inr (by kernel_rfl)) (fun _ _ ag=>⟨.inl ⟨rfl,rfl⟩,⟨.inl ⟨rfl,rfl⟩,⟨.inl ⟨rfl,rfl⟩,trivial⟩⟩⟩) sz3 ag3 rfl rfl (vI e_1.Every) rfl wa ?_))))))
   obtain ⟨q_9,hz_10,h_5⟩:=bind_some h_5
   refine KY rfl rfl hz_10 wa (ae (vB (q_9 != 0)) wa rfl (ae (vB (q_9 != 0)) wz rfl ?_))
   rcases ak h_5 with⟨hc_11,h_5⟩ | ⟨hc_11,h_5⟩
   ·refine av rfl hc_11 wz (ai wa (ai wa (ai wa (ai wa (ai wa (ai wa (ai wa (ae (vB true) wz rfl (aj ?_)))))))))
    obtain rfl:=ah h_5
    exact cu
   ·refine av rfl hc_11 wz (aG Hr rfl 6 rfl wa (aC 18 0 (.inr (by kernel_rfl)) (fun _ _ ag=>⟨.inl ⟨rfl,rfl⟩,⟨.inl ⟨rfl,rfl⟩,⟨.inl ⟨rfl,rfl⟩,⟨.inl ⟨rfl,rfl⟩,trivial⟩⟩⟩⟩) sz3 ag3 rfl rfl (vI e_1.Days) rfl wa (ae (vI d_2) wa rfl (ae (vI (d_2.tmod 7)) wa rfl ?_))))
    obtain ⟨q_12,hz_13,h_5⟩:=bind_some h_5
    refine zm rfl rfl hz_13 wa (ae (vI (tN .i64 e_1.Days q_12)) wa rfl (ae (vB ((tN .i64 e_1.Days q_12) == 0)) wa rfl (ae (vB ((tN .i64 e_1.Days q_12) == 0)) wz rfl (aj ?_))))
    obtain rfl:=ah h_5
    exact cu
 ·rintro ⟨⟩ _ sl_ H_ hp_ hq_
  refine aK _ hp_ hq_ ?_
  rcases ak hF with⟨hc_14,hF⟩ | ⟨hc_14,hF⟩
  ·refine ay rfl hc_14 (af (aa (ae (vB false) wz rfl (aj ?_))))
   obtain rfl:=ah hF
   exact aB (aP (.inr rfl) [(vB false)] ⟨rfl,trivial⟩ rfl rfl rfl)
  ·refine ax rfl hc_14 (au (af (aa (aG Iq rfl 7 rfl wz (aC 0 0 il ft IX IM rfl rfl (vL eI e_1.Except) rfl wz (ae (vI d_2) wz rfl ?_))))))
   obtain ⟨r_15,hr_16,hF⟩:=bind_some hF
   refine aF (oh hr_16) rfl hb265 rfl rfl rfl rfl wz (ae (.tup [(vI r_15.1),(vB r_15.2)]) wz rfl (ae (vI r_15.1) wz rfl (ae (vB r_15.2) wz rfl (ae (vI r_15.1) wz rfl (ae (vB r_15.2) wz rfl (aj (af (aa (ae (vB r_15.2) wz rfl (ae (vB (!r_15.2)) wz rfl (ae (vB (!r_15.2)) wz rfl (aj ?_))))))))))))
   obtain rfl:=ah hF
   exact aB (aP (.inr rfl) [(vB (!r_15.2))] ⟨rfl,trivial⟩ rfl rfl rfl)
theorem xh {e_1:Entry} {zone_2:Int} {d_3:Int} {r:Window} (hF:l9 e_1 zone_2 d_3=some r) :
  FnM Tryz.prog 199 [(.d (.agg (Entry.enc e_1))),(vI zone_2),(vI d_3)] [] (.d (.agg (Window.enc r))) []:=by
 refine FnM.of_wH ⟨Tryz.prog,32,[],[]⟩ rfl Tryz.func199 rfl rfl (Nat.le_of_ble_eq_true rfl) (by kernel_rfl) ?_
 unfold l9 at hF
 refine af (aa (fB 0 (.inl rfl) [(vS e_1.Key),(vS e_1.Item),(vI e_1.Version),(vI e_1.First),(vI e_1.Last),(vI e_1.Every),(vI e_1.Days),(vL eI e_1.Except),(vI e_1.From),(vI e_1.To),(vI e_1.Prio),(vL eS e_1.Tags),(vB e_1.Gone)] rfl rfl wz (fun n_4=>dh 0 (.inl rfl) z60 rfl wz (fun n_5=>aj (af (aa (aG Ie rfl 9 rfl wz (aC 0 0 il ft sz3 ag3 rfl rfl (vI e_1.To) rfl wz (aG Dt rfl 8 rfl wz (aC 0 0 il ft sz3 ag3 rfl rfl (vI e_1.From) rfl wz (ae (vI (w64 (e_1.To - e_1.From))) wz rfl (ae (vI (w64 (e_1.To - e_1.From))) wz rfl (aj (af (af (aa (ae (vI (w64 (e_1.To - e_1.From))) wz rfl (ae (vB (decide ((w64 (e_1.To - e_1.From))≤0))) wz rfl (aj ?_)))))))))))))))))))
 obtain ⟨v_6,h_7,hF⟩:=bind_some hF
 refine aD (β:=Unit) (fun _=>([(1,(vI zone_2)),(2,(vI d_3)),(3,(.ref n_4 0 0)),(6,(.ref n_5 0 0)),(7,(vI v_6))]:List (Nat×V))) (fun _=>([(n_4,some (.cells 13 [(vS e_1.Key),(vS e_1.Item),(vI e_1.Version),(vI e_1.First),(vI e_1.Last),(vI e_1.Every),(vI e_1.Days),(vL eI e_1.Except),(vI e_1.From),(vI e_1.To),(vI e_1.Prio),(vL eS e_1.Tags),(vB e_1.Gone)])),(n_5,some (.cells 2 [(vI 0),(vI 0)]))]:Hp)) (fun _=>True) ?_ ?_
 ·rcases ak h_7 with⟨hc_8,h_7⟩ | ⟨hc_8,h_7⟩
  ·refine ay rfl hc_8 (aa (ae (vI (w64 (e_1.To - e_1.From))) wz rfl (ae (vI (w64 ((w64 (e_1.To - e_1.From)) + 1440))) wz rfl (ae (vI (w64 ((w64 (e_1.To - e_1.From)) + 1440))) wz rfl (aj ?_)))))
   obtain rfl:=ah h_7
   exact cu
  ·refine ax rfl hc_8 (au ?_)
   obtain rfl:=ah h_7
   exact cu
 ·rintro ⟨⟩ _ sl_ H_ hp_ hq_
  refine aK _ hp_ hq_ (af (aa (ae (vI d_3) wz rfl (ae (vI (w64 (d_3 * 1440))) wz rfl (aG Dt rfl 8 rfl wz (aC 0 0 il ft sz3 ag3 rfl rfl (vI e_1.From) rfl wz (ae (vI (w64 ((w64 (d_3 * 1440)) + e_1.From))) wz rfl (ae (vI zone_2) wz rfl (ae (vI (w64 ((w64 ((w64 (d_3 * 1440)) + e_1.From)) - zone_2))) wz rfl (ae (vI (w64 ((w64 ((w64 ((w64 (d_3 * 1440)) + e_1.From)) - zone_2)) * 60000))) wz rfl (ae (vI (w64 ((w64 ((w64 ((w64 (d_3 * 1440)) + e_1.From)) - zone_2)) * 60000))) wz rfl (aj (af (aa (ae (vI (w64 ((w64 ((w64 ((w64 (d_3 * 1440)) + e_1.From)) - zone_2)) * 60000))) wz rfl (ae (vI (w64 ((w64 ((w64 ((w64 (d_3 * 1440)) + e_1.From)) - zone_2)) * 60000))) wz rfl (ae (vI v_6) wz rfl (ae (vI (w64 (v_6 * 60000))) wz rfl (ae (vI (w64 ((w64 ((w64 ((w64 ((w64 (d_3 * 1440)) + e_1.From)) - zone_2)) * 60000)) + (w64 (v_6 * 60000))))) wz rfl (ae (.d (.agg (Window.enc (⟨(w64 ((w64 ((w64 ((w64 (d_3 * 1440)) + e_1.From)) - zone_2)) * 60000)),(w64 ((w64 ((w64 ((w64 ((w64 (d_3 * 1440)) + e_1.From)) - zone_2)) * 60000)) + (w64 (v_6 * 60000))))⟩:Window)))) wz (by kernel_rfl) (fD 0 il ft 1 xy rfl rfl [(vI (w64 ((w64 ((w64 ((w64 (d_3 * 1440)) + e_1.From)) - zone_2)) * 60000))),(vI (w64 ((w64 ((w64 ((w64 ((w64 (d_3 * 1440)) + e_1.From)) - zone_2)) * 60000)) + (w64 (v_6 * 60000)))))] rfl wz (aj ?_))))))))))))))))))))))
  obtain rfl:=ah hF
  exact aB (aP (.inr rfl) [(.d (.agg (Window.enc (⟨(w64 ((w64 ((w64 ((w64 (d_3 * 1440)) + e_1.From)) - zone_2)) * 60000)),(w64 ((w64 ((w64 ((w64 ((w64 (d_3 * 1440)) + e_1.From)) - zone_2)) * 60000)) + (w64 (v_6 * 60000))))⟩:Window))))] ⟨⟨1,_,_,_,_,_,_,_,rfl,rfl,xy,Dy,rfl⟩,trivial⟩ rfl rfl rfl)
theorem zF {t_1:Window} {wv_2:Window} {r:Window} (hF:tK t_1 wv_2=some r) :
  FnM Tryz.prog 155 [(.d (.agg (Window.enc t_1))),(.d (.agg (Window.enc wv_2)))] [] (.d (.agg (Window.enc r))) []:=by
 refine FnM.of_wH ⟨Tryz.prog,16,[],[]⟩ rfl Tryz.func155 rfl rfl (Nat.le_of_ble_eq_true rfl) (by kernel_rfl) ?_
 unfold tK at hF
 refine af (aa (fB 0 (.inl rfl) [(vI t_1.From),(vI t_1.To)] rfl rfl wz (fun n_3=>fB 0 (.inl rfl) [(vI wv_2.From),(vI wv_2.To)] rfl rfl wz (fun n_4=>dh 0 (.inl rfl) z60 rfl wz (fun n_5=>aj (af (aa (aG nZ rfl 0 rfl wz (aC 0 0 il ft sz3 ag3 rfl rfl (vI t_1.From) rfl wz (aG nZ rfl 0 rfl wz (aC 0 1 il ft sz3 ag3 rfl rfl (vI wv_2.From) rfl wz (qi (vI (sI t_1.From wv_2.From)) rfl (.inr rfl) wz (aG ol rfl 1 rfl wz (aC 0 0 il ft sz3 ag3 rfl rfl (vI t_1.To) rfl wz (aG ol rfl 1 rfl wz (aC 0 1 il ft sz3 ag3 rfl rfl (vI wv_2.To) rfl wz (qi (vI (uX t_1.To wv_2.To)) rfl (.inl rfl) wz (ae (.d (.agg (Window.enc (⟨(sI t_1.From wv_2.From),(uX t_1.To wv_2.To)⟩:Window)))) wz (by kernel_rfl) (fD 0 il ft 2 xy rfl rfl [(vI (sI t_1.From wv_2.From)),(vI (uX t_1.To wv_2.To))] rfl wz (aj ?_))))))))))))))))))))
 obtain rfl:=ah hF
 exact aB (aP (.inr rfl) [(.d (.agg (Window.enc (⟨(sI t_1.From wv_2.From),(uX t_1.To wv_2.To)⟩:Window))))] ⟨⟨2,_,_,_,_,_,_,_,rfl,rfl,xy,Dy,rfl⟩,trivial⟩ rfl rfl rfl)
theorem xe {e_1:Entry} {zone_2:Int} {wv_3:Window} {r:(List Window)} (hF:lq e_1 zone_2 wv_3=some r) :
  FnM Tryz.prog 154 [(.d (.agg (Entry.enc e_1))),(vI zone_2),(.d (.agg (Window.enc wv_3)))] [] (gV (aH 0) 2 r) (([]:List Box).map some++gO 2 Window.enc r):=by
 refine FnM.of_wH ⟨Tryz.prog,72,[],[]⟩ rfl Tryz.func154 rfl rfl (Nat.le_of_ble_eq_true rfl) (by kernel_rfl) ?_
 unfold lq at hF
 refine af (aa (fB 0 (.inl rfl) [(vS e_1.Key),(vS e_1.Item),(vI e_1.Version),(vI e_1.First),(vI e_1.Last),(vI e_1.Every),(vI e_1.Days),(vL eI e_1.Except),(vI e_1.From),(vI e_1.To),(vI e_1.Prio),(vL eS e_1.Tags),(vB e_1.Gone)] rfl rfl wz (fun n_4=>fB 0 (.inl rfl) [(vI wv_3.From),(vI wv_3.To)] rfl rfl wz (fun n_5=>ae .nil wz rfl (aj (af (aa (ae .nil wz rfl (aj (af (af ?_)))))))))))
 obtain ⟨v_6,h_7,hF⟩:=bind_some hF
 refine aD (β:=Unit) (fun _=>([(1,(vI zone_2)),(3,(.ref n_4 0 0)),(5,(.ref n_5 0 0)),(7,.nil),(20,(vB v_6))]:List (Nat×V))) (fun _=>([(n_4,some (.cells 13 [(vS e_1.Key),(vS e_1.Item),(vI e_1.Version),(vI e_1.First),(vI e_1.Last),(vI e_1.Every),(vI e_1.Days),(vL eI e_1.Except),(vI e_1.From),(vI e_1.To),(vI e_1.Prio),(vL eS e_1.Tags),(vB e_1.Gone)])),(n_5,some (.cells 2 [(vI wv_3.From),(vI wv_3.To)]))]:Hp)) (fun _=>True) ?_ ?_
 ·refine aa (aG KE rfl 12 rfl wz (aC 0 0 il ft sz4 ag4 rfl rfl (vB e_1.Gone) rfl wz ?_))
  rcases ak h_7 with⟨hc_8,h_7⟩ | ⟨hc_8,h_7⟩
  ·refine av rfl hc_8 wz (ai wa (ai wa (ai wa (ai wa (ai wa (ae (vB true) wz rfl (aj ?_)))))))
   obtain rfl:=ah h_7
   exact cu
  ·refine av rfl hc_8 wz (aG nZ rfl 0 rfl wa (aC 0 1 il ft sz3 ag3 rfl rfl (vI wv_3.From) rfl wa (aG ol rfl 1 rfl wa (aC 0 1 il ft sz3 ag3 rfl rfl (vI wv_3.To) rfl wa (ae (vB (decide (wv_3.From≥wv_3.To))) wa rfl (ae (vB (decide (wv_3.From≥wv_3.To))) wz rfl (aj ?_)))))))
   obtain rfl:=ah h_7
   exact cu
 ·rintro ⟨⟩ _ sl_ H_ hp_ hq_
  refine aK _ hp_ hq_ ?_
  rcases ak hF with⟨hc_9,hF⟩ | ⟨hc_9,hF⟩
  ·refine ay rfl hc_9 (af (aa (ae .nil wz rfl (aj (lT (fun n_10 => ?_))))))
   obtain rfl:=ah hF
   exact aB (finG (outs:=([]:List Box)) (.inr rfl) 2 rfl rfl rfl (by kernel_rfl) (by kernel_rfl))
  ·refine ax rfl hc_9 (au (af (aa (aG nZ rfl 0 rfl wz (aC 0 1 il ft sz3 ag3 rfl rfl (vI wv_3.From) rfl wz (ae (vI zone_2) wz rfl (ae (vI (w64 (zone_2 * 60000))) wz rfl (ae (vI (w64 (wv_3.From + (w64 (zone_2 * 60000))))) wz rfl (ae (vI (w64 ((w64 (wv_3.From + (w64 (zone_2 * 60000)))).tdiv 86400000))) wz rfl (ae (vI (w64 ((w64 ((w64 (wv_3.From + (w64 (zone_2 * 60000)))).tdiv 86400000)) - 2))) wz rfl (ae (vI (w64 ((w64 ((w64 (wv_3.From + (w64 (zone_2 * 60000)))).tdiv 86400000)) - 2))) wz rfl (aj (af (aa (aG ol rfl 1 rfl wz (aC 0 1 il ft sz3 ag3 rfl rfl (vI wv_3.To) rfl wz (ae (vI zone_2) wz rfl (ae (vI (w64 (zone_2 * 60000))) wz rfl (ae (vI (w64 (wv_3.To + (w64 (zone_2 * 60000))))) wz rfl (ae (vI (w64 ((w64 (wv_3.To + (w64 (zone_2 * 60000)))).tdiv 86400000))) wz rfl (ae (vI (w64 ((w64 ((w64 (wv_3.To + (w64 (zone_2 * 60000)))).tdiv 86400000)) + 1))) wz rfl (ae (vI (w64 ((w64 ((w64 (wv_3.To + (w64 (zone_2 * 60000)))).tdiv 86400000)) + 1))) wz rfl (aj ?_)))))))))))))))))))))))
   refine af (af (aa (ae (vI (w64 ((w64 ((w64 (wv_3.From + (w64 (zone_2 * 60000)))).tdiv 86400000)) - 2))) wz rfl (aG zY rfl 3 rfl wz (aC 0 0 il ft sz3 ag3 rfl rfl (vI e_1.First) rfl wz (qi (vI (sI (w64 ((w64 ((w64 (wv_3.From + (w64 (zone_2 * 60000)))).tdiv 86400000)) - 2)) e_1.First)) rfl (.inr rfl) wz (ae (vI (sI (w64 ((w64 ((w64 (wv_3.From + (w64 (zone_2 * 60000)))).tdiv 86400000)) - 2)) e_1.First)) wz rfl (aj (lT (fun n_17 => ?_))))))))))
   obtain ⟨o_22,hj_23,hF⟩:=bind_some hF
   obtain ⟨nq_41,hj_23⟩:=dB hj_23
   refine aD (β:=((List Window)×Int)×Nm) (fun p=>(fun (s_16:(List Window)×Int) (n_19:Nm)=>([(7,(gV n_19 2 s_16.1))]:List (Nat×V))) p.1 p.2) (fun p=>(fun (s_16:(List Window)×Int) (n_19:Nm)=>([(n_4,some (.cells 13 [(vS e_1.Key),(vS e_1.Item),(vI e_1.Version),(vI e_1.First),(vI e_1.Last),(vI e_1.Every),(vI e_1.Days),(vL eI e_1.Except),(vI e_1.From),(vI e_1.To),(vI e_1.Prio),(vL eS e_1.Tags),(vB e_1.Gone)])),(n_5,some (.cells 2 [(vI wv_3.From),(vI wv_3.To)])),(n_19,gB 2 Window.enc s_16.1)]:Hp)) p.1 p.2) (fun p=>o_22 = .go p.1) ?_ ?_
   ·refine aA (aV (β:=Nat×((List Window)×Int)×Nm) (fun p=>(fun (k_11:Nat) (s_16:(List Window)×Int) (n_19:Nm)=>([(1,(vI zone_2)),(3,(.ref n_4 0 0)),(5,(.ref n_5 0 0)),(7,(gV n_19 2 s_16.1)),(9,(vI (w64 ((w64 ((w64 (wv_3.To + (w64 (zone_2 * 60000)))).tdiv 86400000)) + 1)))),(10,(vI s_16.2))]:List (Nat×V))) p.1 p.2.1 p.2.2) (fun p=>(fun (k_11:Nat) (s_16:(List Window)×Int) (n_19:Nm)=>([(n_4,some (.cells 13 [(vS e_1.Key),(vS e_1.Item),(vI e_1.Version),(vI e_1.First),(vI e_1.Last),(vI e_1.Every),(vI e_1.Days),(vL eI e_1.Except),(vI e_1.From),(vI e_1.To),(vI e_1.Prio),(vL eS e_1.Tags),(vB e_1.Gone)])),(n_5,some (.cells 2 [(vI wv_3.From),(vI wv_3.To)])),(n_19,gB 2 Window.enc s_16.1)]:Hp)) p.1 p.2.1 p.2.2) (fun p=>iterN (fun s=>jc wv_3 zone_2 e_1 s) p.1 p.2.1=some o_22) (fun p=>p.1) (nq_41,(([]:List Window),(sI (w64 ((w64 ((w64 (wv_3.From + (w64 (zone_2 * 60000)))).tdiv 86400000)) - 2)) e_1.First)),n_17) hj_23 rfl (aI rfl) ?_)
    rintro ⟨k_11,s_16,n_19⟩ hL_21
    dsimp only at hL_21
    cases k_11 with
    | zero=>cases hL_21
    | succ k_11 =>
     obtain ⟨c_,hc_20,hL_21⟩:=bind_some hL_21
     unfold jc at hc_20
     refine af (af (aa (ae (vI s_16.2) wz rfl (ae (vI (w64 ((w64 ((w64 (wv_3.To + (w64 (zone_2 * 60000)))).tdiv 86400000)) + 1))) wz rfl (aG zQ rfl 4 rfl wz (aC 0 0 il ft sz3 ag3 rfl rfl (vI e_1.Last) rfl wz (qi (vI (uX (w64 ((w64 ((w64 (wv_3.To + (w64 (zone_2 * 60000)))).tdiv 86400000)) + 1)) e_1.Last)) rfl (.inl rfl) wz (ae (vB (decide (s_16.2≤(uX (w64 ((w64 ((w64 (wv_3.To + (w64 (zone_2 * 60000)))).tdiv 86400000)) + 1)) e_1.Last)))) wz rfl (aj ?_)))))))))
     rcases ak hc_20 with⟨hc_24,hc_20⟩ | ⟨hc_24,hc_20⟩
     ·refine ay rfl hc_24 (au (af (aA (af (af (aa (aC 0 0 il ft AA CR rfl rfl (.d (.agg (Entry.enc e_1))) rfl wz (ae (vI s_16.2) wz rfl ?_))))))))
      obtain ⟨r_25,hr_26,hc_20⟩:=bind_some hc_20
      refine aF (xP hr_26) rfl hb198 rfl rfl rfl rfl wz (ae (vB (!r_25)) wz rfl (aj ?_))
      rcases ak hc_20 with⟨hc_27,hc_20⟩ | ⟨hc_27,hc_20⟩
      ·refine ay rfl hc_27 (aS (aa (ae (vI s_16.2) wz rfl (ae (vI (w64 (s_16.2 + 1))) wz rfl (ae (vI (w64 (s_16.2 + 1))) wz rfl (aj ?_))))))
       obtain rfl:=ah hc_20
       exact aU (k_11,(s_16.1,(w64 (s_16.2 + 1))),n_19) hL_21 (Nat.lt_succ_self _) rfl (aI rfl)
      ·refine ax rfl hc_27 (au (af (aa (aC 0 0 il ft AA CR rfl rfl (.d (.agg (Entry.enc e_1))) rfl wz (ae (vI zone_2) wz rfl (ae (vI s_16.2) wz rfl ?_))))))
       obtain ⟨r_28,hr_29,hc_20⟩:=bind_some hc_20
       refine aF (xh hr_29) rfl hb199 rfl rfl rfl rfl wz (dh 0 (.inl rfl) z60 rfl wz (fun n_30=>fD 0 il ft 3 xy rfl rfl [(vI r_28.From),(vI r_28.To)] rfl wz (aj (af ?_))))
       obtain ⟨v_31,h_32,hc_20⟩:=bind_some hc_20
       refine aD (β:=Unit) (fun _=>([(1,(vI zone_2)),(3,(.ref n_4 0 0)),(5,(.ref n_5 0 0)),(7,(gV n_19 2 s_16.1)),(9,(vI (w64 ((w64 ((w64 (wv_3.To + (w64 (zone_2 * 60000)))).tdiv 86400000)) + 1)))),(10,(vI s_16.2)),(11,(.ref n_30 0 0)),(66,(vB v_31))]:List (Nat×V))) (fun _=>([(n_4,some (.cells 13 [(vS e_1.Key),(vS e_1.Item),(vI e_1.Version),(vI e_1.First),(vI e_1.Last),(vI e_1.Every),(vI e_1.Days),(vL eI e_1.Except),(vI e_1.From),(vI e_1.To),(vI e_1.Prio),(vL eS e_1.Tags),(vB e_1.Gone)])),(n_5,some (.cells 2 [(vI wv_3.From),(vI wv_3.To)])),(n_19,gB 2 Window.enc s_16.1),(n_30,some (.cells 2 [(vI r_28.From),(vI r_28.To)]))]:Hp)) (fun _=>True) ?_ ?_
       ·refine aa (aG nZ rfl 0 rfl wz (aC 0 3 il ft sz3 ag3 rfl rfl (vI r_28.From) rfl wz (aG ol rfl 1 rfl wz (aC 0 1 il ft sz3 ag3 rfl rfl (vI wv_3.To) rfl wz (ae (vB (decide (r_28.From < wv_3.To))) wz rfl ?_)))))
        rcases ak h_32 with⟨hc_33,h_32⟩ | ⟨hc_33,h_32⟩
        ·refine av rfl hc_33 wz (aG ol rfl 1 rfl wa (aC 0 3 il ft sz3 ag3 rfl rfl (vI r_28.To) rfl wa (aG nZ rfl 0 rfl wa (aC 0 1 il ft sz3 ag3 rfl rfl (vI wv_3.From) rfl wa (ae (vB (decide (r_28.To > wv_3.From))) wa rfl (ae (vB (decide (r_28.To > wv_3.From))) wz rfl (aj ?_)))))))
         obtain rfl:=ah h_32
         exact cu
        ·refine av rfl hc_33 wz (ai wa (ai wa (ai wa (ai wa (ai wa (ae (vB false) wz rfl (aj ?_)))))))
         obtain rfl:=ah h_32
         exact cu
       ·rintro ⟨⟩ _ sl_ H_ hp_ hq_
        refine aK _ hp_ hq_ ?_
        obtain ⟨v_34,h_35,hc_20⟩:=bind_some hc_20
        refine aD (β:=Nm) (fun (n_36:Nm)=>([(1,(vI zone_2)),(3,(.ref n_4 0 0)),(5,(.ref n_5 0 0)),(7,(gV n_36 2 v_34)),(9,(vI (w64 ((w64 ((w64 (wv_3.To + (w64 (zone_2 * 60000)))).tdiv 86400000)) + 1)))),(10,(vI s_16.2))]:List (Nat×V))) (fun (n_36:Nm)=>([(n_4,some (.cells 13 [(vS e_1.Key),(vS e_1.Item),(vI e_1.Version),(vI e_1.First),(vI e_1.Last),(vI e_1.Every),(vI e_1.Days),(vL eI e_1.Except),(vI e_1.From),(vI e_1.To),(vI e_1.Prio),(vL eS e_1.Tags),(vB e_1.Gone)])),(n_5,some (.cells 2 [(vI wv_3.From),(vI wv_3.To)])),(n_36,gB 2 Window.enc v_34),(n_30,some (.cells 2 [(vI r_28.From),(vI r_28.To)]))]:Hp)) (fun _=>True) ?_ ?_
        ·rcases ak h_35 with⟨hc_37,h_35⟩ | ⟨hc_37,h_35⟩
         ·refine ay rfl hc_37 (aa (ae (gV n_19 2 s_16.1) wz rfl (aC 0 3 il ft xy Dy rfl rfl (.d (.agg (Window.enc r_28))) rfl wz (eQ (([r_28]:List Window).map Window.enc) JH ez147 rfl rfl rfl rfl rfl wz ?_))))
          obtain ⟨a_38,hz_39,h_35⟩:=bind_some h_35
          refine jT 0 il ft (i:=2) el147 el147 xy z60 rfl (by decide) by60 (by decide) (fun _=>rfl) rfl rfl rfl hz_39 wz (fun n_40=>ae (gV n_40 2 a_38) wz rfl (aj ?_))
          obtain rfl:=ah h_35
          exact aO n_40 trivial rfl (aI rfl)
         ·refine ax rfl hc_37 (au ?_)
          obtain rfl:=ah h_35
          exact aO n_19 trivial rfl (aI rfl)
        ·rintro n_36 _ sl_ H_ hp_ hq_
         refine aK _ hp_ hq_ (aa (ae (vI s_16.2) wz rfl (ae (vI (w64 (s_16.2 + 1))) wz rfl (ae (vI (w64 (s_16.2 + 1))) wz rfl (aj ?_)))))
         obtain rfl:=ah hc_20
         exact aU (k_11,(v_34,(w64 (s_16.2 + 1))),n_36) hL_21 (Nat.lt_succ_self _) rfl (aI rfl)
     ·refine ax rfl hc_24 (aS ?_)
      obtain rfl:=ah hc_20
      obtain rfl:=ah hL_21
      exact aO ((s_16.1,s_16.2),n_19) rfl rfl (aI rfl)
   ·rintro ⟨s_16,n_19⟩ ho_ sl_ H_ hp_ hq_
    subst ho_
    refine aK _ hp_ hq_ (af (aa (ae (gV n_19 2 s_16.1) wz rfl (ae (gV n_19 2 s_16.1) wz rfl (aj ?_)))))
    obtain rfl:=ah hF
    exact aB (finG (outs:=([]:List Box)) (.inr rfl) 2 rfl rfl rfl (by kernel_rfl) (by kernel_rfl))
theorem xO {e_1:Entry} {zone_2:Int} {wv_3:Window} {r:(List Window)×Int} (hF:kX e_1 zone_2 wv_3=some r) :
  FnM Tryz.prog 78 [(.d (.agg (Entry.enc e_1))),(vI zone_2),(.d (.agg (Window.enc wv_3)))] [] (.tup [(vL Window.enc r.1),(vI r.2)]) []:=by
 refine FnM.of_wH ⟨Tryz.prog,45,[],[]⟩ rfl Tryz.func78 rfl rfl (Nat.le_of_ble_eq_true rfl) (by kernel_rfl) ?_
 unfold kX at hF
 refine af (aa (fB 0 (.inl rfl) [(vS e_1.Key),(vS e_1.Item),(vI e_1.Version),(vI e_1.First),(vI e_1.Last),(vI e_1.Every),(vI e_1.Days),(vL eI e_1.Except),(vI e_1.From),(vI e_1.To),(vI e_1.Prio),(vL eS e_1.Tags),(vB e_1.Gone)] rfl rfl wz (fun n_4=>fB 0 (.inl rfl) [(vI wv_3.From),(vI wv_3.To)] rfl rfl wz (fun n_5=>ae .nil wz rfl (ae (vI 0) wz rfl (aj (af (af (aa (aC 0 0 il ft AA CR rfl rfl (.d (.agg (Entry.enc e_1))) rfl wz (eQ (([e_1]:List Entry).map Entry.enc) es77 ez77 rfl rfl rfl rfl rfl wz ?_)))))))))))
 obtain ⟨r_6,hr_7,hF⟩:=bind_some hF
 refine aF (rz hr_7) rfl hb152 rfl rfl rfl rfl wz (ae (vI r_6) wz rfl (aj (af (aa (ae (vI r_6) wz rfl (ae (vB (r_6 != 0)) wz rfl (aj ?_)))))))
 rcases ak hF with⟨hc_8,hF⟩ | ⟨hc_8,hF⟩
 ·refine ay rfl hc_8 (af (aa (ae (vI r_6) wz rfl (ae .nil wz rfl (ae (vI r_6) wz rfl (aj ?_))))))
  obtain rfl:=ah hF
  exact aB (aP (.inr rfl) [.nil,(vI r_6)] ⟨rfl,⟨rfl,trivial⟩⟩ rfl rfl rfl)
 ·refine ax rfl hc_8 (au (af (af (aa (ae (vI zone_2) wz rfl ?_)))))
  obtain ⟨r_9,hr_10,hF⟩:=bind_some hF
  refine aF (aY hr_10) rfl pM rfl rfl rfl rfl wz (aj ?_)
  rcases ak hF with⟨hc_11,hF⟩ | ⟨hc_11,hF⟩
  ·refine ay rfl hc_11 (af (aa (ae .nil wz rfl (ae (vI 1) wz rfl (aj ?_)))))
   obtain rfl:=ah hF
   exact aB (aP (.inr rfl) [.nil,(vI 1)] ⟨rfl,⟨rfl,trivial⟩⟩ rfl rfl rfl)
  ·refine ax rfl hc_11 (au (af (af (aa (aC 0 1 il ft xy Dy rfl rfl (.d (.agg (Window.enc wv_3))) rfl wz ?_)))))
   obtain ⟨r_12,hr_13,hF⟩:=bind_some hF
   refine aF (rU hr_13) rfl hb153 rfl rfl rfl rfl wz (ae (vI r_12) wz rfl (aj (af (aa (ae (vI r_12) wz rfl (ae (vB (r_12 != 0)) wz rfl (aj ?_)))))))
   rcases ak hF with⟨hc_14,hF⟩ | ⟨hc_14,hF⟩
   ·refine ay rfl hc_14 (af (aa (ae (vI r_12) wz rfl (ae .nil wz rfl (ae (vI r_12) wz rfl (aj ?_))))))
    obtain rfl:=ah hF
    exact aB (aP (.inr rfl) [.nil,(vI r_12)] ⟨rfl,⟨rfl,trivial⟩⟩ rfl rfl rfl)
   ·refine ax rfl hc_14 (au (af (aa (aC 0 0 il ft AA CR rfl rfl (.d (.agg (Entry.enc e_1))) rfl wz (ae (vI zone_2) wz rfl (aC 0 1 il ft xy Dy rfl rfl (.d (.agg (Window.enc wv_3))) rfl wz ?_))))))
    obtain ⟨r_15,hr_16,hF⟩:=bind_some hF
    refine h_callg [] (xe hr_16) rfl hb154 rfl (by kernel_rfl) (by kernel_rfl) (by kernel_rfl) (by kernel_rfl) (by kernel_rfl) rfl (by decide) (by kernel_rfl) wz ([(n_4,some (.cells 13 [(vS e_1.Key),(vS e_1.Item),(vI e_1.Version),(vI e_1.First),(vI e_1.Last),(vI e_1.Every),(vI e_1.Days),(vL eI e_1.Except),(vI e_1.From),(vI e_1.To),(vI e_1.Prio),(vL eS e_1.Tags),(vB e_1.Gone)])),(n_5,some (.cells 2 [(vI wv_3.From),(vI wv_3.To)]))]:Hp) (fun _=>by kernel_rfl) (fun n_18=>ae (gV n_18 2 r_15) wz rfl (aj (af (af (aa (ae (gV n_18 2 r_15) wz rfl (Df un147 rfl wz (ae (vI 0) wz rfl (aj ?_)))))))))
    obtain ⟨o_27,hj_28,hF⟩:=bind_some hF
    obtain ⟨hn_23,hj_28⟩:=aW hj_28
    refine aD (β:=((List Window))) (fun (s_24:(List Window))=>([(10,(gV n_18 2 s_24))]:List (Nat×V))) (fun (s_24:(List Window))=>([(n_4,some (.cells 13 [(vS e_1.Key),(vS e_1.Item),(vI e_1.Version),(vI e_1.First),(vI e_1.Last),(vI e_1.Every),(vI e_1.Days),(vL eI e_1.Except),(vI e_1.From),(vI e_1.To),(vI e_1.Prio),(vL eS e_1.Tags),(vB e_1.Gone)])),(n_5,some (.cells 2 [(vI wv_3.From),(vI wv_3.To)])),(n_18,gB 2 Window.enc s_24)]:Hp)) (fun p=>o_27 = .go p) ?_ ?_
    ·refine aA (aV (β:=Nat×(List Nat)×((List Window))) (fun p=>(fun (k_19:Nat) (l_20:List Nat) (s_24:(List Window))=>([(5,(.ref n_5 0 0)),(10,(gV n_18 2 s_24)),(30,(gV n_18 2 s_24)),(31,(vI (r_15.length:Int))),(32,(vI (k_19:Int)))]:List (Nat×V))) p.1 p.2.1 p.2.2) (fun p=>(fun (k_19:Nat) (l_20:List Nat) (s_24:(List Window))=>([(n_4,some (.cells 13 [(vS e_1.Key),(vS e_1.Item),(vI e_1.Version),(vI e_1.First),(vI e_1.Last),(vI e_1.Every),(vI e_1.Days),(vL eI e_1.Except),(vI e_1.From),(vI e_1.To),(vI e_1.Prio),(vL eS e_1.Tags),(vB e_1.Gone)])),(n_5,some (.cells 2 [(vI wv_3.From),(vI wv_3.To)])),(n_18,gB 2 Window.enc s_24)]:Hp)) p.1 p.2.1 p.2.2) (fun p=>forR (fun k x s=>kK wv_3 k x s) p.2.1 p.1 p.2.2=some o_27∧((List.range ((r_15.length:Int)).toNat)).drop p.1=p.2.1) (fun p=>p.2.1.length) (0,(List.range ((r_15.length:Int)).toNat),r_15) ⟨hj_28,rfl⟩ rfl (aI rfl) ?_)
     rintro ⟨k_19,l_20,s_24⟩ ⟨hL_26,hD_22⟩
     dsimp only at hL_26 hD_22
     cases l_20 with
     | nil =>
      obtain rfl:=ah hL_26
      refine af (aa (ae (vB (decide ((k_19:Int) < (r_15.length:Int)))) wz rfl (aj ?_)))
      refine af (ax rfl (CL hD_22) (aS ?_))
      exact aO (s_24) rfl rfl (aI rfl)
     | cons x_21 l_20 =>
      obtain ⟨c_,hc_25,hL_26⟩:=bind_some hL_26
      refine af (aa (ae (vB (decide ((k_19:Int) < (r_15.length:Int)))) wz rfl (aj ?_)))
      refine af (ay rfl (Bi hD_22) (au ?_))
      unfold kK at hc_25
      refine af (aA (af (aa (ae (vI (k_19:Int)) wz rfl ?_))))
      obtain ⟨_,hi_29,hc_25⟩:=bind_some hc_25
      refine xg JH rfl rfl (lN hi_29) (iV hi_29) wz ?_
      obtain ⟨e_30,hy_31,hc_25⟩:=bind_some hc_25
      refine nz 0 2 il ft xy Dy rfl rfl hy_31 (.d (.agg (Window.enc e_30))) rfl wz (dh 0 (.inl rfl) z60 rfl wz (fun n_32=>ae (vI (k_19:Int)) wz rfl (fD 0 il ft 3 xy rfl rfl [(vI e_30.From),(vI e_30.To)] rfl wz (aj (aa (ae (gV n_18 2 s_24) wz rfl (ae (vI (k_19:Int)) wz rfl (aC 0 3 il ft xy Dy rfl rfl (.d (.agg (Window.enc e_30))) rfl wz (aC 0 1 il ft xy Dy rfl rfl (.d (.agg (Window.enc wv_3))) rfl wz ?_)))))))))
      obtain ⟨r_33,hr_34,hc_25⟩:=bind_some hc_25
      refine aF (zF hr_34) rfl hb155 rfl rfl rfl rfl wz ?_
      obtain ⟨_,hi_35,hc_25⟩:=bind_some hc_25
      refine xg JH rfl rfl (lN hi_35) (iV hi_35) wz ?_
      obtain ⟨e_36,hy_37,hc_25⟩:=bind_some hc_25
      refine w9 0 il ft 2 xy rfl rfl hy_37 r_33 rfl wz (fU (v':=(gV n_18 2 (s_24.set (0 + ((k_19:Int)).toNat) r_33))) 10 rfl (lc (by simp)) (fU (v':=(gV n_18 2 (s_24.set (0 + ((k_19:Int)).toNat) r_33))) 30 rfl (lc (by simp)) (fU (v':=(gV n_18 2 (s_24.set (0 + ((k_19:Int)).toNat) r_33))) 37 rfl (lc (by simp)) (aj (aa (dY (Cq hD_22 hn_23) wz rfl (ae (vI ((k_19 + 1:Nat):Int)) wz rfl (aj ?_))))))))
      obtain rfl:=ah hc_25
      exact aU (k_19 + 1,l_20,(s_24.set (0 + ((k_19:Int)).toNat) r_33)) ⟨hL_26,aR hD_22⟩ (Nat.lt_succ_self _) rfl (aI rfl)
    ·rintro s_24 ho_ sl_ H_ hp_ hq_
     subst ho_
     refine aK _ hp_ hq_ (af (aa (ae (gV n_18 2 s_24) wz rfl (ae (gV n_18 2 s_24) wz rfl (ae (vI 0) wz rfl (aj (gM 2 rfl (dQ 6 2 rfl rfl (dQ 10 2 rfl rfl (dQ 44 2 rfl rfl ?_))))))))))
     obtain rfl:=ah hF
     exact aB (aP (.inr rfl) [(vL Window.enc s_24),(vI 0)] ⟨rfl,⟨rfl,trivial⟩⟩ rfl rfl rfl)
theorem xI {wv_1:Window} {r:Bool} (hF:mV wv_1=some r) :
  FnM Tryz.prog 200 [(.d (.agg (Window.enc wv_1)))] [] (vB r) []:=by
 refine FnM.of_wH ⟨Tryz.prog,18,[],[]⟩ rfl Tryz.func200 rfl rfl (Nat.le_of_ble_eq_true rfl) (by kernel_rfl) ?_
 unfold mV at hF
 refine af (aa (fB 0 (.inl rfl) [(vI wv_1.From),(vI wv_1.To)] rfl rfl wz (fun n_2=>ae (vB false) wz rfl (aj (af ?_)))))
 obtain ⟨v_3,h_4,hF⟩:=bind_some hF
 refine aD (β:=Unit) (fun _=>([(2,(vB v_3))]:List (Nat×V))) (fun _=>([(n_2,some (.cells 2 [(vI wv_1.From),(vI wv_1.To)]))]:Hp)) (fun _=>True) ?_ ?_
 ·refine aa (aG nZ rfl 0 rfl wz (aC 0 0 il ft sz3 ag3 rfl rfl (vI wv_1.From) rfl wz (ae (vB (decide (wv_1.From≥0))) wz rfl ?_)))
  rcases ak h_4 with⟨hc_5,h_4⟩ | ⟨hc_5,h_4⟩
  ·refine av rfl hc_5 wz (aG nZ rfl 0 rfl wa (aC 0 0 il ft sz3 ag3 rfl rfl (vI wv_1.From) rfl wa (aG ol rfl 1 rfl wa (aC 0 0 il ft sz3 ag3 rfl rfl (vI wv_1.To) rfl wa (ae (vB (decide (wv_1.From < wv_1.To))) wa rfl (ae (vB (decide (wv_1.From < wv_1.To))) wz rfl ?_))))))
   rcases ak h_4 with⟨hc_6,h_4⟩ | ⟨hc_6,h_4⟩
   ·refine av rfl hc_6 wz (aG ol rfl 1 rfl wa (aC 0 0 il ft sz3 ag3 rfl rfl (vI wv_1.To) rfl wa (ae (vB (decide (wv_1.To≤345686400000))) wa rfl (ae (vB (decide (wv_1.To≤345686400000))) wz rfl (ae (vB (decide (wv_1.To≤345686400000))) wz rfl (aj ?_))))))
    obtain rfl:=ah h_4
    exact cu
   ·refine av rfl hc_6 wz (ai wa (ai wa (ai wa (ae (vB false) wz rfl (ae (vB false) wz rfl (aj ?_))))))
    obtain rfl:=ah h_4
    exact cu
  ·refine av rfl hc_5 wz (ai wa (ai wa (ai wa (ai wa (ai wa (ae (vB false) wz rfl (ae (vB false) wz rfl (ai wa (ai wa (ai wa (ae (vB false) wz rfl (ae (vB false) wz rfl (aj ?_)))))))))))))
   obtain rfl:=ah h_4
   exact cu
 ·rintro ⟨⟩ _ sl_ H_ hp_ hq_
  refine aK _ hp_ hq_ ?_
  obtain rfl:=ah hF
  exact aB (aP (.inr rfl) [(vB v_3)] ⟨rfl,trivial⟩ rfl rfl rfl)
theorem uO {l_1:(List ByteArray)} {r:Int} (hF:jb l_1=some r) :
  FnM Tryz.prog 201 [(vL eS l_1)] [] (vI r) []:=by
 refine FnM.of_wH ⟨Tryz.prog,8,[],[]⟩ rfl Tryz.func201 rfl rfl (Nat.le_of_ble_eq_true rfl) (by kernel_rfl) ?_
 unfold jb at hF
 refine af (aa (ae (vI 0) wz rfl (aj (af (af (aa (ae (vL eS l_1) wz rfl (bO xu rfl wz (ae (vB (decide ((l_1.length:Int) > 20))) wz rfl (aj ?_))))))))))
 rcases ak hF with⟨hc_2,hF⟩ | ⟨hc_2,hF⟩
 ·refine ay rfl hc_2 (af (aa (ae (vI 2) wz rfl (aj ?_))))
  obtain rfl:=ah hF
  exact aB (aP (.inr rfl) [(vI 2)] ⟨rfl,trivial⟩ rfl rfl rfl)
 ·refine ax rfl hc_2 (au (af (aa (ae (vL eS l_1) wz rfl ?_))))
  obtain ⟨r_3,hr_4,hF⟩:=bind_some hF
  refine aF (qo hr_4) rfl hb266 rfl rfl rfl rfl wz (ae (vI r_3) wz rfl (aj ?_))
  obtain rfl:=ah hF
  exact aB (aP (.inr rfl) [(vI r_3)] ⟨rfl,trivial⟩ rfl rfl rfl)
theorem qM {l_1:(List Campaign)} {r:Int} (hF:fH l_1=some r) :
  FnM Tryz.prog 156 [(vL Campaign.enc l_1)] [] (vI r) []:=by
 refine FnM.of_wH ⟨Tryz.prog,73,[],[]⟩ rfl Tryz.func156 rfl rfl (Nat.le_of_ble_eq_true rfl) (by kernel_rfl) ?_
 unfold fH at hF
 refine af (aa (ae (vI 0) wz rfl (aj (af (af (aa (ae (vL Campaign.enc l_1) wz rfl (bO un230 rfl wz (ae (vB (decide ((l_1.length:Int) > 30))) wz rfl (aj ?_))))))))))
 rcases ak hF with⟨hc_2,hF⟩ | ⟨hc_2,hF⟩
 ·refine ay rfl hc_2 (af (aa (ae (vI 2) wz rfl (aj ?_))))
  obtain rfl:=ah hF
  exact aB (aP (.inr rfl) [(vI 2)] ⟨rfl,trivial⟩ rfl rfl rfl)
 ·refine ax rfl hc_2 (au (af (af (aa (ae (vL Campaign.enc l_1) wz rfl (bO un230 rfl wz (ae (vI 0) wz rfl (aj ?_))))))))
  obtain ⟨o_11,hj_12,hF⟩:=bind_some hF
  obtain ⟨hn_7,hj_12⟩:=aW hj_12
  refine aD (β:=(Unit)) (fun (s_8:Unit)=>([]:List (Nat×V))) (fun (s_8:Unit)=>([]:Hp)) (fun p=>o_11 = .go p) ?_ ?_
  ·refine aA (aV (β:=Nat×(List Campaign)×(Unit)) (fun p=>(fun (k_3:Nat) (l_4:List Campaign) (s_8:Unit)=>([(0,(vL Campaign.enc l_1)),(9,(vL Campaign.enc l_1)),(10,(vI (l_1.length:Int))),(11,(vI (k_3:Int)))]:List (Nat×V))) p.1 p.2.1 p.2.2) (fun p=>(fun (k_3:Nat) (l_4:List Campaign) (s_8:Unit)=>([]:Hp)) p.1 p.2.1 p.2.2) (fun p=>forR (fun k x s=>eD l_1 k x s) p.2.1 p.1 p.2.2=some o_11∧(l_1).drop p.1=p.2.1) (fun p=>p.2.1.length) (0,l_1,()) ⟨hj_12,rfl⟩ rfl (aI rfl) ?_)
   rintro ⟨k_3,l_4,s_8⟩ ⟨hL_10,hD_6⟩
   dsimp only at hL_10 hD_6
   cases l_4 with
   | nil =>
    obtain rfl:=ah hL_10
    refine af (aa (ae (vB (decide ((k_3:Int) < (l_1.length:Int)))) wz rfl (aj ?_)))
    refine af (ax rfl (drop_nil hD_6) (aS ?_))
    exact aO (s_8) rfl rfl (aI rfl)
   | cons x_5 l_4 =>
    obtain ⟨c_,hc_9,hL_10⟩:=bind_some hL_10
    refine af (aa (ae (vB (decide ((k_3:Int) < (l_1.length:Int)))) wz rfl (aj ?_)))
    refine af (ay rfl (aX hD_6) (au ?_))
    unfold eD at hc_9
    refine af (aA (af (aa (ae (vI (k_3:Int)) wz rfl (dI JO rfl rfl (bC hD_6) rfl wz (bG H7 JE rfl (.d (.agg (Campaign.enc x_5))) rfl wz (dh 0 (.inl rfl) z154 rfl wz (fun n_13=>ae (vI (k_3:Int)) wz rfl (fD 0 il ft 0 H7 rfl rfl [(vS x_5.Key),(vS x_5.Class),(vI x_5.Time.From),(vI x_5.Time.To),(vL eS x_5.Tags),(vI x_5.Goal),(vI x_5.Most),(vI x_5.Cents)] rfl wz (aj (af (aA (af ?_)))))))))))))
    obtain ⟨v_14,h_15,hc_9⟩:=bind_some hc_9
    refine aD (β:=Unit) (fun _=>([(0,(vL Campaign.enc l_1)),(3,(vI (k_3:Int))),(4,(.ref n_13 0 0)),(9,(vL Campaign.enc l_1)),(10,(vI (l_1.length:Int))),(11,(vI (k_3:Int))),(16,(vB v_14))]:List (Nat×V))) (fun _=>([(n_13,some (.cells 8 [(vS x_5.Key),(vS x_5.Class),(vI x_5.Time.From),(vI x_5.Time.To),(vL eS x_5.Tags),(vI x_5.Goal),(vI x_5.Most),(vI x_5.Cents)]))]:Hp)) (fun _=>True) ?_ ?_
    ·refine aa (aG DI rfl 0 rfl wz (aC 0 0 il ft sz9 ag9 rfl rfl (vS x_5.Key) rfl wz ?_))
     obtain ⟨r_16,hr_17,h_15⟩:=bind_some h_15
     refine aF (eB hr_17) rfl rV rfl rfl rfl rfl wz (ae (vB (!r_16)) wz rfl ?_)
     rcases ak h_15 with⟨hc_18,h_15⟩ | ⟨hc_18,h_15⟩
     ·refine av rfl hc_18 wz (ai wa (ai wa (ai wa (ai wa (ai (wn rfl rfl) (ai (wn rfl rfl) (ai (wn rfl rfl) (ai (wn rfl rfl) (ai wa (ae (vB true) wz rfl (ae (vB true) wz rfl (aj ?_))))))))))))
      obtain rfl:=ah h_15
      exact cu
     ·refine av rfl hc_18 wz (aG Ir rfl 1 rfl wa (aC 0 0 il ft sz9 ag9 rfl rfl (vS x_5.Class) rfl wa (ae (vB (sNe x_5.Class (⟨#[]⟩:ByteArray))) wa rfl ?_)))
      rcases ak h_15 with⟨hc_19,h_15⟩ | ⟨hc_19,h_15⟩
      ·refine av rfl hc_19 wa (aG Ir rfl 1 rfl wa (aC 0 0 il ft sz9 ag9 rfl rfl (vS x_5.Class) rfl wa ?_))
       obtain ⟨r_20,hr_21,h_15⟩:=bind_some h_15
       refine aF (eB hr_21) rfl rV rfl rfl rfl rfl wa (ae (vB (!r_20)) wa rfl (ae (vB (!r_20)) wa rfl (ae (vB (!r_20)) wz rfl (ae (vB (!r_20)) wz rfl (aj ?_)))))
       obtain rfl:=ah h_15
       exact cu
      ·refine av rfl hc_19 wa (ai wa (ai wa (ai wa (ai wa (ae (vB false) wa rfl (ae (vB false) wz rfl (ae (vB false) wz rfl (aj ?_))))))))
       obtain rfl:=ah h_15
       exact cu
    ·rintro ⟨⟩ _ sl_ H_ hp_ hq_
     refine aK _ hp_ hq_ ?_
     rcases ak hc_9 with⟨hc_22,hc_9⟩ | ⟨hc_22,hc_9⟩
     ·refine ay rfl hc_22 (af (aa (ae (vI 5) wz rfl (aj ?_))))
      obtain rfl:=ah hc_9
      obtain rfl:=ah hL_10
      obtain rfl:=ah hF
      exact aB (aP (.inr rfl) [(vI 5)] ⟨rfl,trivial⟩ rfl rfl rfl)
     ·refine ax rfl hc_22 (af ?_)
      obtain ⟨v_23,h_24,hc_9⟩:=bind_some hc_9
      refine aD (β:=Unit) (fun _=>([(0,(vL Campaign.enc l_1)),(4,(.ref n_13 0 0)),(9,(vL Campaign.enc l_1)),(10,(vI (l_1.length:Int))),(11,(vI (k_3:Int))),(32,(vB v_23))]:List (Nat×V))) (fun _=>([(n_13,some (.cells 8 [(vS x_5.Key),(vS x_5.Class),(vI x_5.Time.From),(vI x_5.Time.To),(vL eS x_5.Tags),(vI x_5.Goal),(vI x_5.Most),(vI x_5.Cents)]))]:Hp)) (fun _=>True) ?_ ?_
      ·refine bA (ae (vI (k_3:Int)) wz rfl (ae (vB (decide ((k_3:Int) > 0))) wz rfl ?_))
       rcases ak h_24 with⟨hc_25,h_24⟩ | ⟨hc_25,h_24⟩
       ·refine av rfl hc_25 wz (aG DI rfl 0 rfl wa (aC 4 0 (.inr (by kernel_rfl)) (fun _ _ ag=>trivial) sz9 ag9 rfl rfl (vS x_5.Key) rfl wa (ae (vL Campaign.enc l_1) wa rfl (ae (vI (k_3:Int)) wa rfl (ae (vI (w64 ((k_3:Int) - 1))) wa rfl ?_)))))
        obtain ⟨y_26,hy_27,h_24⟩:=bind_some h_24
        refine dI JO rfl rfl hy_27 rfl wa (pq DI rfl [.str y_26.Key,.str y_26.Class,.int .i64 y_26.Time.From,.int .i64 y_26.Time.To,dl eS y_26.Tags,.int .i64 y_26.Goal,.int .i64 y_26.Most,.int .i64 y_26.Cents] rfl rfl wa (bG sz9 ag9 rfl (vS y_26.Key) rfl wa (ae (vB (sLe x_5.Key y_26.Key)) wa rfl (ae (vB (sLe x_5.Key y_26.Key)) wz rfl (ae (vB (sLe x_5.Key y_26.Key)) wz rfl (aj ?_))))))
        obtain rfl:=ah h_24
        exact cu
       ·refine av rfl hc_25 wz (ai wa (ai wa (ai wa (ai wa (ai wa (ai wa (ai wa (ai wa (ai wa (ae (vB false) wz rfl (ae (vB false) wz rfl (aj ?_))))))))))))
        obtain rfl:=ah h_24
        exact cu
      ·rintro ⟨⟩ _ sl_ H_ hp_ hq_
       refine aK _ hp_ hq_ ?_
       rcases ak hc_9 with⟨hc_28,hc_9⟩ | ⟨hc_28,hc_9⟩
       ·refine ay rfl hc_28 (af (aa (ae (vI 7) wz rfl (aj ?_))))
        obtain rfl:=ah hc_9
        obtain rfl:=ah hL_10
        obtain rfl:=ah hF
        exact aB (aP (.inr rfl) [(vI 7)] ⟨rfl,trivial⟩ rfl rfl rfl)
       ·refine ax rfl hc_28 (af ?_)
        obtain ⟨v_29,h_30,hc_9⟩:=bind_some hc_9
        refine aD (β:=Unit) (fun _=>([(0,(vL Campaign.enc l_1)),(4,(.ref n_13 0 0)),(9,(vL Campaign.enc l_1)),(10,(vI (l_1.length:Int))),(11,(vI (k_3:Int))),(46,(vB v_29))]:List (Nat×V))) (fun _=>([(n_13,some (.cells 8 [(vS x_5.Key),(vS x_5.Class),(vI x_5.Time.From),(vI x_5.Time.To),(vL eS x_5.Tags),(vI x_5.Goal),(vI x_5.Most),(vI x_5.Cents)]))]:Hp)) (fun _=>True) ?_ ?_
        ·refine aa (aG vC rfl 2 rfl wz (aC 0 0 il ft xy Dy rfl rfl (.d (.agg (Window.enc x_5.Time))) rfl wz ?_))
         obtain ⟨r_31,hr_32,h_30⟩:=bind_some h_30
         refine aF (xI hr_32) rfl hb200 rfl rfl rfl rfl wz (ae (vB (!r_31)) wz rfl ?_)
         rcases ak h_30 with⟨hc_33,h_30⟩ | ⟨hc_33,h_30⟩
         ·refine av rfl hc_33 wz (ai wa (ai wa (ai wa (ae (vB true) wz rfl (ae (vB true) wz rfl (ai wa (ai wa (ai wa (ae (vB true) wz rfl (ae (vB true) wz rfl (ai wa (ai wa (ai wa (ae (vB true) wz rfl (ae (vB true) wz rfl (aj ?_))))))))))))))))
          obtain rfl:=ah h_30
          exact cu
         ·refine av rfl hc_33 wz (aG Ed rfl 5 rfl wa (aC 0 0 il ft sz3 ag3 rfl rfl (vI x_5.Goal) rfl wa ?_))
          obtain ⟨r_34,hr_35,h_30⟩:=bind_some h_30
          refine aF (aY hr_35) rfl pM rfl rfl rfl rfl wa (ae (vB r_34) wz rfl ?_)
          rcases ak h_30 with⟨hc_36,h_30⟩ | ⟨hc_36,h_30⟩
          ·refine av rfl hc_36 wz (ai wa (ai wa (ai wa (ae (vB true) wz rfl (ae (vB true) wz rfl (ai wa (ai wa (ai wa (ae (vB true) wz rfl (ae (vB true) wz rfl (aj ?_)))))))))))
           obtain rfl:=ah h_30
           exact cu
          ·refine av rfl hc_36 wz (aG pl154_5 rfl 6 rfl wa (aC 0 0 il ft sz3 ag3 rfl rfl (vI x_5.Most) rfl wa ?_))
           obtain ⟨r_37,hr_38,h_30⟩:=bind_some h_30
           refine aF (aY hr_38) rfl pM rfl rfl rfl rfl wa (ae (vB r_37) wz rfl ?_)
           rcases ak h_30 with⟨hc_39,h_30⟩ | ⟨hc_39,h_30⟩
           ·refine av rfl hc_39 wz (ai wa (ai wa (ai wa (ae (vB true) wz rfl (ae (vB true) wz rfl (aj ?_))))))
            obtain rfl:=ah h_30
            exact cu
           ·refine av rfl hc_39 wz (aG pl154_6 rfl 7 rfl wa (aC 0 0 il ft sz3 ag3 rfl rfl (vI x_5.Cents) rfl wa ?_))
            obtain ⟨r_40,hr_41,h_30⟩:=bind_some h_30
            refine aF (aY hr_41) rfl pM rfl rfl rfl rfl wa (ae (vB r_40) wz rfl (ae (vB r_40) wz rfl (aj ?_)))
            obtain rfl:=ah h_30
            exact cu
        ·rintro ⟨⟩ _ sl_ H_ hp_ hq_
         refine aK _ hp_ hq_ ?_
         rcases ak hc_9 with⟨hc_42,hc_9⟩ | ⟨hc_42,hc_9⟩
         ·refine ay rfl hc_42 (af (aa (ae (vI 1) wz rfl (aj ?_))))
          obtain rfl:=ah hc_9
          obtain rfl:=ah hL_10
          obtain rfl:=ah hF
          exact aB (aP (.inr rfl) [(vI 1)] ⟨rfl,trivial⟩ rfl rfl rfl)
         ·refine ax rfl hc_42 (au (af (aa (aG pl154_3 rfl 4 rfl wz (aC 0 0 il ft Bu DD rfl rfl (vL eS x_5.Tags) rfl wz ?_)))))
          obtain ⟨r_43,hr_44,hc_9⟩:=bind_some hc_9
          refine aF (uO hr_44) rfl hb201 rfl rfl rfl rfl wz (ae (vI r_43) wz rfl (aj (af (aa (ae (vI r_43) wz rfl (ae (vB (r_43 != 0)) wz rfl (aj ?_)))))))
          rcases ak hc_9 with⟨hc_45,hc_9⟩ | ⟨hc_45,hc_9⟩
          ·refine ay rfl hc_45 (af (aa (ae (vI r_43) wz rfl (ae (vI r_43) wz rfl (aj ?_)))))
           obtain rfl:=ah hc_9
           obtain rfl:=ah hL_10
           obtain rfl:=ah hF
           exact aB (aP (.inr rfl) [(vI r_43)] ⟨rfl,trivial⟩ rfl rfl rfl)
          ·refine ax rfl hc_45 (au (aa (dY (bn hD_6 hn_7) wz rfl (ae (vI ((k_3 + 1:Nat):Int)) wz rfl (aj ?_)))))
           obtain rfl:=ah hc_9
           exact aU (k_3 + 1,l_4,()) ⟨hL_10,aR hD_6⟩ (Nat.lt_succ_self _) rfl (aI rfl)
  ·rintro s_8 ho_ sl_ H_ hp_ hq_
   subst ho_
   refine aK _ hp_ hq_ (af (aa (ae (vI 0) wz rfl (aj ?_))))
   obtain rfl:=ah hF
   exact aB (aP (.inr rfl) [(vI 0)] ⟨rfl,trivial⟩ rfl rfl rfl)
theorem Bf {c_1:Campaign} {atv_2:Int} {r:Int} (hF:qV c_1 atv_2=some r) :
  FnM Tryz.prog 157 [(.d (.agg (Campaign.enc c_1))),(vI atv_2)] [] (vI r) []:=by
 refine FnM.of_wH ⟨Tryz.prog,35,[],[]⟩ rfl Tryz.func157 rfl rfl (Nat.le_of_ble_eq_true rfl) (by kernel_rfl) ?_
 unfold qV at hF
 refine af (aa (fB 0 (.inl rfl) [(vS c_1.Key),(vS c_1.Class),(vI c_1.Time.From),(vI c_1.Time.To),(vL eS c_1.Tags),(vI c_1.Goal),(vI c_1.Most),(vI c_1.Cents)] rfl rfl wz (fun n_3=>ae (vI 0) wz rfl (aj (af (aA (af (aa (ae (vI atv_2) wz rfl (aG vC rfl 2 rfl wz (aG nZ rfl 2 rfl wz (aC 0 0 il ft sz3 ag3 rfl rfl (vI c_1.Time.From) rfl wz (ae (vB (decide (atv_2 < c_1.Time.From))) wz rfl (ae (vB (decide (atv_2 < c_1.Time.From))) wz rfl (aj ?_)))))))))))))))
 rcases ak hF with⟨hc_4,hF⟩ | ⟨hc_4,hF⟩
 ·refine ay rfl hc_4 (af (aa (ae (vI 0) wz rfl (aj ?_))))
  obtain rfl:=ah hF
  exact aB (aP (.inr rfl) [(vI 0)] ⟨rfl,trivial⟩ rfl rfl rfl)
 ·refine ax rfl hc_4 (af (aa (ae (vI atv_2) wz rfl (aG vC rfl 2 rfl wz (aG ol rfl 3 rfl wz (aC 0 0 il ft sz3 ag3 rfl rfl (vI c_1.Time.To) rfl wz (ae (vB (decide (atv_2≥c_1.Time.To))) wz rfl (ae (vB (decide (atv_2≥c_1.Time.To))) wz rfl (aj ?_)))))))))
  rcases ak hF with⟨hc_5,hF⟩ | ⟨hc_5,hF⟩
  ·refine ay rfl hc_5 (af (aa (aG Ed rfl 5 rfl wz (aC 0 0 il ft sz3 ag3 rfl rfl (vI c_1.Goal) rfl wz (ae (vI c_1.Goal) wz rfl (aj ?_))))))
   obtain rfl:=ah hF
   exact aB (aP (.inr rfl) [(vI c_1.Goal)] ⟨rfl,trivial⟩ rfl rfl rfl)
  ·refine ax rfl hc_5 (au (af (aa (aG Ed rfl 5 rfl wz (aC 0 0 il ft sz3 ag3 rfl rfl (vI c_1.Goal) rfl wz (ae (vI atv_2) wz rfl (aG vC rfl 2 rfl wz (aG nZ rfl 2 rfl wz (aC 0 0 il ft sz3 ag3 rfl rfl (vI c_1.Time.From) rfl wz (ae (vI (w64 (atv_2 - c_1.Time.From))) wz rfl (ae (vI (w64 (c_1.Goal * (w64 (atv_2 - c_1.Time.From))))) wz rfl (aG vC rfl 2 rfl wz (aG ol rfl 3 rfl wz (aC 0 0 il ft sz3 ag3 rfl rfl (vI c_1.Time.To) rfl wz (aG vC rfl 2 rfl wz (aG nZ rfl 2 rfl wz (aC 0 0 il ft sz3 ag3 rfl rfl (vI c_1.Time.From) rfl wz (ae (vI (w64 (c_1.Time.To - c_1.Time.From))) wz rfl ?_))))))))))))))))))
   obtain ⟨q_6,hz_7,hF⟩:=bind_some hF
   refine KV rfl rfl hz_7 wz (ae (vI q_6) wz rfl (aj (aK (H0:=([(n_3,some (.cells 8 [(vS c_1.Key),(vS c_1.Class),(vI c_1.Time.From),(vI c_1.Time.To),(vL eS c_1.Tags),(vI c_1.Goal),(vI c_1.Most),(vI c_1.Cents)]))]:Hp)) ([(4,(vI q_6))]:List (Nat×V)) (by kernel_rfl) (xk (by kernel_rfl)) ?_)))
   obtain rfl:=ah hF
   exact aB (aP (.inr rfl) [(vI q_6)] ⟨rfl,trivial⟩ rfl rfl rfl)
theorem AX {c_1:Campaign} {atv_2:Int} {r:Int×Int} (hF:oI c_1 atv_2=some r) :
  FnM Tryz.prog 79 [(.d (.agg (Campaign.enc c_1))),(vI atv_2)] [] (.tup [(vI r.1),(vI r.2)]) []:=by
 refine FnM.of_wH ⟨Tryz.prog,19,[],[]⟩ rfl Tryz.func79 rfl rfl (Nat.le_of_ble_eq_true rfl) (by kernel_rfl) ?_
 unfold oI at hF
 refine af (aa (fB 0 (.inl rfl) [(vS c_1.Key),(vS c_1.Class),(vI c_1.Time.From),(vI c_1.Time.To),(vL eS c_1.Tags),(vI c_1.Goal),(vI c_1.Most),(vI c_1.Cents)] rfl rfl wz (fun n_3=>ae (vI 0) wz rfl (ae (vI 0) wz rfl (aj (af (af (aa (aC 0 0 il ft H7 JE rfl rfl (.d (.agg (Campaign.enc c_1))) rfl wz (eQ (([c_1]:List Campaign).map Campaign.enc) JO ez230 rfl rfl rfl rfl rfl wz ?_))))))))))
 obtain ⟨r_4,hr_5,hF⟩:=bind_some hF
 refine aF (qM hr_5) rfl hb156 rfl rfl rfl rfl wz (ae (vI r_4) wz rfl (aj (af (aa (ae (vI r_4) wz rfl (ae (vB (r_4 != 0)) wz rfl (aj ?_)))))))
 rcases ak hF with⟨hc_6,hF⟩ | ⟨hc_6,hF⟩
 ·refine ay rfl hc_6 (af (aa (ae (vI r_4) wz rfl (ae (vI 0) wz rfl (ae (vI r_4) wz rfl (aj ?_))))))
  obtain rfl:=ah hF
  exact aB (aP (.inr rfl) [(vI 0),(vI r_4)] ⟨rfl,⟨rfl,trivial⟩⟩ rfl rfl rfl)
 ·refine ax rfl hc_6 (au (af (af (aa (ae (vI atv_2) wz rfl ?_)))))
  obtain ⟨r_7,hr_8,hF⟩:=bind_some hF
  refine aF (eU hr_8) rfl xK rfl rfl rfl rfl wz (ae (vB (!r_7)) wz rfl (aj ?_))
  rcases ak hF with⟨hc_9,hF⟩ | ⟨hc_9,hF⟩
  ·refine ay rfl hc_9 (af (aa (ae (vI 0) wz rfl (ae (vI 1) wz rfl (aj ?_)))))
   obtain rfl:=ah hF
   exact aB (aP (.inr rfl) [(vI 0),(vI 1)] ⟨rfl,⟨rfl,trivial⟩⟩ rfl rfl rfl)
  ·refine ax rfl hc_9 (au (af (aa (aC 0 0 il ft H7 JE rfl rfl (.d (.agg (Campaign.enc c_1))) rfl wz (ae (vI atv_2) wz rfl ?_)))))
   obtain ⟨r_10,hr_11,hF⟩:=bind_some hF
   refine aF (Bf hr_11) rfl hb157 rfl rfl rfl rfl wz (ae (vI r_10) wz rfl (ae (vI 0) wz rfl (aj ?_)))
   obtain rfl:=ah hF
   exact aB (aP (.inr rfl) [(vI r_10),(vI 0)] ⟨rfl,⟨rfl,trivial⟩⟩ rfl rfl rfl)
end Go.Proofs.YtjhcehhmdmbleaaGreatDoor.Law

