/-
 The machine computes these plain functions (written by a program of ours).
-/
import Derived.Test.YtjhcehhmdmbleaaGreatDoorFacts
import Derived.Test.YtjhcehhmdmbleaaGreatDoorDefs
import Derived.Test.YtjhcehhmdmbleaaGreatDoorPf4
import Derived.Test.YtjhcehhmdmbleaaGreatDoorShelf
open Go Go.Eng Go.Proofs
namespace Go.Proofs.YtjhcehhmdmbleaaGreatDoor.Law
set_option maxRecDepth 100000
set_option linter.unusedVariables false
set_option maxHeartbeats 1000000
theorem wT {l_1:(List ByteArray)} {r:Int} (hF:jl l_1=some r) :
  FnM Tryz.prog 201 [(vL eS l_1)] [] (vI r) []:=by
 refine FnM.of_wH ⟨Tryz.prog,8,[],[]⟩ rfl Tryz.func201 rfl rfl (Nat.le_of_ble_eq_true rfl) (by kernel_rfl) ?_
 unfold jl at hF
 refine af (aa (ae (vI 0) wz rfl (aj (af (af (aa (ae (vL eS l_1) wz rfl (cO Ck rfl wz (ae (vB (decide ((l_1.length:Int) > 20))) wz rfl (aj ?_))))))))))
 rcases au hF with⟨hc_2,hF⟩ | ⟨hc_2,hF⟩
 ·refine aA rfl hc_2 (af (aa (ae (vI 2) wz rfl (aj ?_))))
  obtain rfl:=ah hF
  exact aB (aO (.inr rfl) [(vI 2)] ⟨rfl,trivial⟩ rfl rfl rfl)
 ·refine ay rfl hc_2 (av (af (aa (ae (vL eS l_1) wz rfl ?_))))
  obtain ⟨r_3,hr_4,hF⟩:=bind_some hF
  refine aG (qO hr_4) rfl hb266 rfl rfl rfl rfl wz (ae (vI r_3) wz rfl (aj ?_))
  obtain rfl:=ah hF
  exact aB (aO (.inr rfl) [(vI r_3)] ⟨rfl,trivial⟩ rfl rfl rfl)
theorem rG {l_1:(List Campaign)} {r:Int} (hF:gJ l_1=some r) :
  FnM Tryz.prog 156 [(vL Campaign.enc l_1)] [] (vI r) []:=by
 refine FnM.of_wH ⟨Tryz.prog,73,[],[]⟩ rfl Tryz.func156 rfl rfl (Nat.le_of_ble_eq_true rfl) (by kernel_rfl) ?_
 unfold gJ at hF
 refine af (aa (ae (vI 0) wz rfl (aj (af (af (aa (ae (vL Campaign.enc l_1) wz rfl (cO un230 rfl wz (ae (vB (decide ((l_1.length:Int) > 30))) wz rfl (aj ?_))))))))))
 rcases au hF with⟨hc_2,hF⟩ | ⟨hc_2,hF⟩
 ·refine aA rfl hc_2 (af (aa (ae (vI 2) wz rfl (aj ?_))))
  obtain rfl:=ah hF
  exact aB (aO (.inr rfl) [(vI 2)] ⟨rfl,trivial⟩ rfl rfl rfl)
 ·refine ay rfl hc_2 (av (af (af (aa (ae (vL Campaign.enc l_1) wz rfl (cO un230 rfl wz (ae (vI 0) wz rfl (aj ?_))))))))
  obtain ⟨o_11,hj_12,hF⟩:=bind_some hF
  obtain ⟨hn_7,hj_12⟩:=bv hj_12
  refine aH (β:=(Unit)) (fun (s_8:Unit)=>([]:List (Nat×V))) (fun (s_8:Unit)=>([]:Hp)) (fun p=>o_11 = .go p) ?_ ?_
  ·refine aC (aV (β:=Nat×(List Campaign)×(Unit)) (fun p=>(fun (k_3:Nat) (l_4:List Campaign) (s_8:Unit)=>([(0,(vL Campaign.enc l_1)),(9,(vL Campaign.enc l_1)),(10,(vI (l_1.length:Int))),(11,(vI (k_3:Int)))]:List (Nat×V))) p.1 p.2.1 p.2.2) (fun p=>(fun (k_3:Nat) (l_4:List Campaign) (s_8:Unit)=>([]:Hp)) p.1 p.2.1 p.2.2) (fun p=>forR (fun k x s=>fu l_1 k x s) p.2.1 p.1 p.2.2=some o_11∧(l_1).drop p.1=p.2.1) (fun p=>p.2.1.length) (0,l_1,()) ⟨hj_12,rfl⟩ rfl (aJ rfl) ?_)
   rintro ⟨k_3,l_4,s_8⟩ ⟨hL_10,hD_6⟩
   dsimp only at hL_10 hD_6
   cases l_4 with
   | nil =>
    obtain rfl:=ah hL_10
    refine af (aa (ae (vB (decide ((k_3:Int) < (l_1.length:Int)))) wz rfl (aj ?_)))
    refine af (ay rfl (drop_nil hD_6) (aQ ?_))
    exact aR (s_8) rfl rfl (aJ rfl)
   | cons x_5 l_4 =>
    obtain ⟨c_,hc_9,hL_10⟩:=bind_some hL_10
    refine af (aa (ae (vB (decide ((k_3:Int) < (l_1.length:Int)))) wz rfl (aj ?_)))
    refine af (aA rfl (bL hD_6) (av ?_))
    unfold fu at hc_9
    refine af (aC (af (aa (ae (vI (k_3:Int)) wz rfl (dU M8 rfl rfl (bT hD_6) rfl wz (bN Ju LX rfl (.d (.agg (Campaign.enc x_5))) rfl wz (dB 0 (.inl rfl) z154 rfl wz (fun n_13=>ae (vI (k_3:Int)) wz rfl (fH 0 il ft 0 Ju rfl rfl [(vS x_5.Key),(vS x_5.Class),(vI x_5.Time.From),(vI x_5.Time.To),(vL eS x_5.Tags),(vI x_5.Goal),(vI x_5.Most),(vI x_5.Cents)] rfl wz (aj (af (aC (af ?_)))))))))))))
    obtain ⟨v_14,h_15,hc_9⟩:=bind_some hc_9
    refine aH (β:=Unit) (fun _=>([(0,(vL Campaign.enc l_1)),(3,(vI (k_3:Int))),(4,(.ref n_13 0 0)),(9,(vL Campaign.enc l_1)),(10,(vI (l_1.length:Int))),(11,(vI (k_3:Int))),(16,(vB v_14))]:List (Nat×V))) (fun _=>([(n_13,some (.cells 8 [(vS x_5.Key),(vS x_5.Class),(vI x_5.Time.From),(vI x_5.Time.To),(vL eS x_5.Tags),(vI x_5.Goal),(vI x_5.Most),(vI x_5.Cents)]))]:Hp)) (fun _=>True) ?_ ?_
    ·refine aa (aI F7 rfl 0 rfl wz (aD 0 0 il ft sz9 ag9 rfl rfl (vS x_5.Key) rfl wz ?_))
     obtain ⟨r_16,hr_17,h_15⟩:=bind_some h_15
     refine aG (eY hr_17) rfl sU rfl rfl rfl rfl wz (ae (vB (!r_16)) wz rfl ?_)
     rcases au h_15 with⟨hc_18,h_15⟩ | ⟨hc_18,h_15⟩
     ·refine aF rfl hc_18 wz (ak wa (ak wa (ak wa (ak wa (ak (wn rfl rfl) (ak (wn rfl rfl) (ak (wn rfl rfl) (ak (wn rfl rfl) (ak wa (ae (vB true) wz rfl (ae (vB true) wz rfl (aj ?_))))))))))))
      obtain rfl:=ah h_15
      exact cu
     ·refine aF rfl hc_18 wz (aI J4 rfl 1 rfl wa (aD 0 0 il ft sz9 ag9 rfl rfl (vS x_5.Class) rfl wa (ae (vB (sNe x_5.Class (⟨#[]⟩:ByteArray))) wa rfl ?_)))
      rcases au h_15 with⟨hc_19,h_15⟩ | ⟨hc_19,h_15⟩
      ·refine aF rfl hc_19 wa (aI J4 rfl 1 rfl wa (aD 0 0 il ft sz9 ag9 rfl rfl (vS x_5.Class) rfl wa ?_))
       obtain ⟨r_20,hr_21,h_15⟩:=bind_some h_15
       refine aG (eY hr_21) rfl sU rfl rfl rfl rfl wa (ae (vB (!r_20)) wa rfl (ae (vB (!r_20)) wa rfl (ae (vB (!r_20)) wz rfl (ae (vB (!r_20)) wz rfl (aj ?_)))))
       obtain rfl:=ah h_15
       exact cu
      ·refine aF rfl hc_19 wa (ak wa (ak wa (ak wa (ak wa (ae (vB false) wa rfl (ae (vB false) wz rfl (ae (vB false) wz rfl (aj ?_))))))))
       obtain rfl:=ah h_15
       exact cu
    ·rintro ⟨⟩ _ sl_ H_ hp_ hq_
     refine aL _ hp_ hq_ ?_
     rcases au hc_9 with⟨hc_22,hc_9⟩ | ⟨hc_22,hc_9⟩
     ·refine aA rfl hc_22 (af (aa (ae (vI 5) wz rfl (aj ?_))))
      obtain rfl:=ah hc_9
      obtain rfl:=ah hL_10
      obtain rfl:=ah hF
      exact aB (aO (.inr rfl) [(vI 5)] ⟨rfl,trivial⟩ rfl rfl rfl)
     ·refine ay rfl hc_22 (af ?_)
      obtain ⟨v_23,h_24,hc_9⟩:=bind_some hc_9
      refine aH (β:=Unit) (fun _=>([(0,(vL Campaign.enc l_1)),(4,(.ref n_13 0 0)),(9,(vL Campaign.enc l_1)),(10,(vI (l_1.length:Int))),(11,(vI (k_3:Int))),(32,(vB v_23))]:List (Nat×V))) (fun _=>([(n_13,some (.cells 8 [(vS x_5.Key),(vS x_5.Class),(vI x_5.Time.From),(vI x_5.Time.To),(vL eS x_5.Tags),(vI x_5.Goal),(vI x_5.Most),(vI x_5.Cents)]))]:Hp)) (fun _=>True) ?_ ?_
      ·refine bC (ae (vI (k_3:Int)) wz rfl (ae (vB (decide ((k_3:Int) > 0))) wz rfl ?_))
       rcases au h_24 with⟨hc_25,h_24⟩ | ⟨hc_25,h_24⟩
       ·refine aF rfl hc_25 wz (aI F7 rfl 0 rfl wa (aD 4 0 (.inr (by kernel_rfl)) (fun _ _ ag=>trivial) sz9 ag9 rfl rfl (vS x_5.Key) rfl wa (ae (vL Campaign.enc l_1) wa rfl (ae (vI (k_3:Int)) wa rfl (ae (vI (w64 ((k_3:Int) - 1))) wa rfl ?_)))))
        obtain ⟨y_26,hy_27,h_24⟩:=bind_some h_24
        refine dU M8 rfl rfl hy_27 rfl wa (kY F7 rfl [.str y_26.Key,.str y_26.Class,.int .i64 y_26.Time.From,.int .i64 y_26.Time.To,dl eS y_26.Tags,.int .i64 y_26.Goal,.int .i64 y_26.Most,.int .i64 y_26.Cents] rfl rfl wa (bN sz9 ag9 rfl (vS y_26.Key) rfl wa (ae (vB (sLe x_5.Key y_26.Key)) wa rfl (ae (vB (sLe x_5.Key y_26.Key)) wz rfl (ae (vB (sLe x_5.Key y_26.Key)) wz rfl (aj ?_))))))
        obtain rfl:=ah h_24
        exact cu
       ·refine aF rfl hc_25 wz (ak wa (ak wa (ak wa (ak wa (ak wa (ak wa (ak wa (ak wa (ak wa (ae (vB false) wz rfl (ae (vB false) wz rfl (aj ?_))))))))))))
        obtain rfl:=ah h_24
        exact cu
      ·rintro ⟨⟩ _ sl_ H_ hp_ hq_
       refine aL _ hp_ hq_ ?_
       rcases au hc_9 with⟨hc_28,hc_9⟩ | ⟨hc_28,hc_9⟩
       ·refine aA rfl hc_28 (af (aa (ae (vI 7) wz rfl (aj ?_))))
        obtain rfl:=ah hc_9
        obtain rfl:=ah hL_10
        obtain rfl:=ah hF
        exact aB (aO (.inr rfl) [(vI 7)] ⟨rfl,trivial⟩ rfl rfl rfl)
       ·refine ay rfl hc_28 (af ?_)
        obtain ⟨v_29,h_30,hc_9⟩:=bind_some hc_9
        refine aH (β:=Unit) (fun _=>([(0,(vL Campaign.enc l_1)),(4,(.ref n_13 0 0)),(9,(vL Campaign.enc l_1)),(10,(vI (l_1.length:Int))),(11,(vI (k_3:Int))),(46,(vB v_29))]:List (Nat×V))) (fun _=>([(n_13,some (.cells 8 [(vS x_5.Key),(vS x_5.Class),(vI x_5.Time.From),(vI x_5.Time.To),(vL eS x_5.Tags),(vI x_5.Goal),(vI x_5.Most),(vI x_5.Cents)]))]:Hp)) (fun _=>True) ?_ ?_
        ·refine aa (aI xH rfl 2 rfl wz (aD 0 0 il ft mE sw rfl rfl (.d (.agg (Window.enc x_5.Time))) rfl wz ?_))
         obtain ⟨r_31,hr_32,h_30⟩:=bind_some h_30
         refine aG (zV hr_32) rfl hb200 rfl rfl rfl rfl wz (ae (vB (!r_31)) wz rfl ?_)
         rcases au h_30 with⟨hc_33,h_30⟩ | ⟨hc_33,h_30⟩
         ·refine aF rfl hc_33 wz (ak wa (ak wa (ak wa (ae (vB true) wz rfl (ae (vB true) wz rfl (ak wa (ak wa (ak wa (ae (vB true) wz rfl (ae (vB true) wz rfl (ak wa (ak wa (ak wa (ae (vB true) wz rfl (ae (vB true) wz rfl (aj ?_))))))))))))))))
          obtain rfl:=ah h_30
          exact cu
         ·refine aF rfl hc_33 wz (aI Gp rfl 5 rfl wa (aD 0 0 il ft sz3 ag3 rfl rfl (vI x_5.Goal) rfl wa ?_))
          obtain ⟨r_34,hr_35,h_30⟩:=bind_some h_30
          refine aG (bg hr_35) rfl qE rfl rfl rfl rfl wa (ae (vB r_34) wz rfl ?_)
          rcases au h_30 with⟨hc_36,h_30⟩ | ⟨hc_36,h_30⟩
          ·refine aF rfl hc_36 wz (ak wa (ak wa (ak wa (ae (vB true) wz rfl (ae (vB true) wz rfl (ak wa (ak wa (ak wa (ae (vB true) wz rfl (ae (vB true) wz rfl (aj ?_)))))))))))
           obtain rfl:=ah h_30
           exact cu
          ·refine aF rfl hc_36 wz (aI pl154_5 rfl 6 rfl wa (aD 0 0 il ft sz3 ag3 rfl rfl (vI x_5.Most) rfl wa ?_))
           obtain ⟨r_37,hr_38,h_30⟩:=bind_some h_30
           refine aG (bg hr_38) rfl qE rfl rfl rfl rfl wa (ae (vB r_37) wz rfl ?_)
           rcases au h_30 with⟨hc_39,h_30⟩ | ⟨hc_39,h_30⟩
           ·refine aF rfl hc_39 wz (ak wa (ak wa (ak wa (ae (vB true) wz rfl (ae (vB true) wz rfl (aj ?_))))))
            obtain rfl:=ah h_30
            exact cu
           ·refine aF rfl hc_39 wz (aI pl154_6 rfl 7 rfl wa (aD 0 0 il ft sz3 ag3 rfl rfl (vI x_5.Cents) rfl wa ?_))
            obtain ⟨r_40,hr_41,h_30⟩:=bind_some h_30
            refine aG (bg hr_41) rfl qE rfl rfl rfl rfl wa (ae (vB r_40) wz rfl (ae (vB r_40) wz rfl (aj ?_)))
            obtain rfl:=ah h_30
            exact cu
        ·rintro ⟨⟩ _ sl_ H_ hp_ hq_
         refine aL _ hp_ hq_ ?_
         rcases au hc_9 with⟨hc_42,hc_9⟩ | ⟨hc_42,hc_9⟩
         ·refine aA rfl hc_42 (af (aa (ae (vI 1) wz rfl (aj ?_))))
          obtain rfl:=ah hc_9
          obtain rfl:=ah hL_10
          obtain rfl:=ah hF
          exact aB (aO (.inr rfl) [(vI 1)] ⟨rfl,trivial⟩ rfl rfl rfl)
         ·refine ay rfl hc_42 (av (af (aa (aI pl154_3 rfl 4 rfl wz (aD 0 0 il ft BI Db rfl rfl (vL eS x_5.Tags) rfl wz ?_)))))
          obtain ⟨r_43,hr_44,hc_9⟩:=bind_some hc_9
          refine aG (wT hr_44) rfl hb201 rfl rfl rfl rfl wz (ae (vI r_43) wz rfl (aj (af (aa (ae (vI r_43) wz rfl (ae (vB (r_43 != 0)) wz rfl (aj ?_)))))))
          rcases au hc_9 with⟨hc_45,hc_9⟩ | ⟨hc_45,hc_9⟩
          ·refine aA rfl hc_45 (af (aa (ae (vI r_43) wz rfl (ae (vI r_43) wz rfl (aj ?_)))))
           obtain rfl:=ah hc_9
           obtain rfl:=ah hL_10
           obtain rfl:=ah hF
           exact aB (aO (.inr rfl) [(vI r_43)] ⟨rfl,trivial⟩ rfl rfl rfl)
          ·refine ay rfl hc_45 (av (aa (fJ (bO hD_6 hn_7) wz rfl (ae (vI ((k_3 + 1:Nat):Int)) wz rfl (aj ?_)))))
           obtain rfl:=ah hc_9
           exact aP (k_3 + 1,l_4,()) ⟨hL_10,aW hD_6⟩ (Nat.lt_succ_self _) rfl (aJ rfl)
  ·rintro s_8 ho_ sl_ H_ hp_ hq_
   subst ho_
   refine aL _ hp_ hq_ (af (aa (ae (vI 0) wz rfl (aj ?_))))
   obtain rfl:=ah hF
   exact aB (aO (.inr rfl) [(vI 0)] ⟨rfl,trivial⟩ rfl rfl rfl)
theorem Dj {c_1:Campaign} {atv_2:Int} {r:Int} (hF:rU c_1 atv_2=some r) :
  FnM Tryz.prog 157 [(.d (.agg (Campaign.enc c_1))),(vI atv_2)] [] (vI r) []:=by
 refine FnM.of_wH ⟨Tryz.prog,35,[],[]⟩ rfl Tryz.func157 rfl rfl (Nat.le_of_ble_eq_true rfl) (by kernel_rfl) ?_
 unfold rU at hF
 refine af (aa (ek 0 (.inl rfl) [(vS c_1.Key),(vS c_1.Class),(vI c_1.Time.From),(vI c_1.Time.To),(vL eS c_1.Tags),(vI c_1.Goal),(vI c_1.Most),(vI c_1.Cents)] rfl rfl wz (fun n_3=>ae (vI 0) wz rfl (aj (af (aC (af (aa (ae (vI atv_2) wz rfl (aI xH rfl 2 rfl wz (aI iH rfl 2 rfl wz (aD 0 0 il ft sz3 ag3 rfl rfl (vI c_1.Time.From) rfl wz (ae (vB (decide (atv_2 < c_1.Time.From))) wz rfl (ae (vB (decide (atv_2 < c_1.Time.From))) wz rfl (aj ?_)))))))))))))))
 rcases au hF with⟨hc_4,hF⟩ | ⟨hc_4,hF⟩
 ·refine aA rfl hc_4 (af (aa (ae (vI 0) wz rfl (aj ?_))))
  obtain rfl:=ah hF
  exact aB (aO (.inr rfl) [(vI 0)] ⟨rfl,trivial⟩ rfl rfl rfl)
 ·refine ay rfl hc_4 (af (aa (ae (vI atv_2) wz rfl (aI xH rfl 2 rfl wz (aI jF rfl 3 rfl wz (aD 0 0 il ft sz3 ag3 rfl rfl (vI c_1.Time.To) rfl wz (ae (vB (decide (atv_2≥c_1.Time.To))) wz rfl (ae (vB (decide (atv_2≥c_1.Time.To))) wz rfl (aj ?_)))))))))
  rcases au hF with⟨hc_5,hF⟩ | ⟨hc_5,hF⟩
  ·refine aA rfl hc_5 (af (aa (aI Gp rfl 5 rfl wz (aD 0 0 il ft sz3 ag3 rfl rfl (vI c_1.Goal) rfl wz (ae (vI c_1.Goal) wz rfl (aj ?_))))))
   obtain rfl:=ah hF
   exact aB (aO (.inr rfl) [(vI c_1.Goal)] ⟨rfl,trivial⟩ rfl rfl rfl)
  ·refine ay rfl hc_5 (av (af (aa (aI Gp rfl 5 rfl wz (aD 0 0 il ft sz3 ag3 rfl rfl (vI c_1.Goal) rfl wz (ae (vI atv_2) wz rfl (aI xH rfl 2 rfl wz (aI iH rfl 2 rfl wz (aD 0 0 il ft sz3 ag3 rfl rfl (vI c_1.Time.From) rfl wz (ae (vI (w64 (atv_2 - c_1.Time.From))) wz rfl (ae (vI (w64 (c_1.Goal * (w64 (atv_2 - c_1.Time.From))))) wz rfl (aI xH rfl 2 rfl wz (aI jF rfl 3 rfl wz (aD 0 0 il ft sz3 ag3 rfl rfl (vI c_1.Time.To) rfl wz (aI xH rfl 2 rfl wz (aI iH rfl 2 rfl wz (aD 0 0 il ft sz3 ag3 rfl rfl (vI c_1.Time.From) rfl wz (ae (vI (w64 (c_1.Time.To - c_1.Time.From))) wz rfl ?_))))))))))))))))))
   obtain ⟨q_6,hz_7,hF⟩:=bind_some hF
   refine Mx rfl rfl hz_7 wz (ae (vI q_6) wz rfl (aj (aL (H0:=([(n_3,some (.cells 8 [(vS c_1.Key),(vS c_1.Class),(vI c_1.Time.From),(vI c_1.Time.To),(vL eS c_1.Tags),(vI c_1.Goal),(vI c_1.Most),(vI c_1.Cents)]))]:Hp)) ([(4,(vI q_6))]:List (Nat×V)) (by kernel_rfl) (sF (by kernel_rfl)) ?_)))
   obtain rfl:=ah hF
   exact aB (aO (.inr rfl) [(vI q_6)] ⟨rfl,trivial⟩ rfl rfl rfl)
theorem DL {c_1:Campaign} {atv_2:Int} {r:Int×Int} (hF:pF c_1 atv_2=some r) :
  FnM Tryz.prog 79 [(.d (.agg (Campaign.enc c_1))),(vI atv_2)] [] (.tup [(vI r.1),(vI r.2)]) []:=by
 refine FnM.of_wH ⟨Tryz.prog,19,[],[]⟩ rfl Tryz.func79 rfl rfl (Nat.le_of_ble_eq_true rfl) (by kernel_rfl) ?_
 unfold pF at hF
 refine af (aa (ek 0 (.inl rfl) [(vS c_1.Key),(vS c_1.Class),(vI c_1.Time.From),(vI c_1.Time.To),(vL eS c_1.Tags),(vI c_1.Goal),(vI c_1.Most),(vI c_1.Cents)] rfl rfl wz (fun n_3=>ae (vI 0) wz rfl (ae (vI 0) wz rfl (aj (af (af (aa (aD 0 0 il ft Ju LX rfl rfl (.d (.agg (Campaign.enc c_1))) rfl wz (eU (([c_1]:List Campaign).map Campaign.enc) M8 ez230 rfl rfl rfl rfl rfl wz ?_))))))))))
 obtain ⟨r_4,hr_5,hF⟩:=bind_some hF
 refine aG (rG hr_5) rfl hb156 rfl rfl rfl rfl wz (ae (vI r_4) wz rfl (aj (af (aa (ae (vI r_4) wz rfl (ae (vB (r_4 != 0)) wz rfl (aj ?_)))))))
 rcases au hF with⟨hc_6,hF⟩ | ⟨hc_6,hF⟩
 ·refine aA rfl hc_6 (af (aa (ae (vI r_4) wz rfl (ae (vI 0) wz rfl (ae (vI r_4) wz rfl (aj ?_))))))
  obtain rfl:=ah hF
  exact aB (aO (.inr rfl) [(vI 0),(vI r_4)] ⟨rfl,⟨rfl,trivial⟩⟩ rfl rfl rfl)
 ·refine ay rfl hc_6 (av (af (af (aa (ae (vI atv_2) wz rfl ?_)))))
  obtain ⟨r_7,hr_8,hF⟩:=bind_some hF
  refine aG (gN hr_8) rfl Bw rfl rfl rfl rfl wz (ae (vB (!r_7)) wz rfl (aj ?_))
  rcases au hF with⟨hc_9,hF⟩ | ⟨hc_9,hF⟩
  ·refine aA rfl hc_9 (af (aa (ae (vI 0) wz rfl (ae (vI 1) wz rfl (aj ?_)))))
   obtain rfl:=ah hF
   exact aB (aO (.inr rfl) [(vI 0),(vI 1)] ⟨rfl,⟨rfl,trivial⟩⟩ rfl rfl rfl)
  ·refine ay rfl hc_9 (av (af (aa (aD 0 0 il ft Ju LX rfl rfl (.d (.agg (Campaign.enc c_1))) rfl wz (ae (vI atv_2) wz rfl ?_)))))
   obtain ⟨r_10,hr_11,hF⟩:=bind_some hF
   refine aG (Dj hr_11) rfl hb157 rfl rfl rfl rfl wz (ae (vI r_10) wz rfl (ae (vI 0) wz rfl (aj ?_)))
   obtain rfl:=ah hF
   exact aB (aO (.inr rfl) [(vI r_10),(vI 0)] ⟨rfl,⟨rfl,trivial⟩⟩ rfl rfl rfl)
theorem vT {a_1:Beat} {b_2:Beat} {r:Int} (hF:kg a_1 b_2=some r) :
  FnM Tryz.prog 267 [(.d (.agg (Beat.enc a_1))),(.d (.agg (Beat.enc b_2)))] [] (vI r) []:=by
 refine FnM.of_wH ⟨Tryz.prog,17,[],[]⟩ rfl Tryz.func267 rfl rfl (Nat.le_of_ble_eq_true rfl) (by kernel_rfl) ?_
 unfold kg at hF
 refine af (aa (ek 0 (.inl rfl) [(vS a_1.Player),(vI a_1.At),(vI a_1.Clock)] rfl rfl wz (fun n_3=>ek 0 (.inl rfl) [(vS b_2.Player),(vI b_2.At),(vI b_2.Clock)] rfl rfl wz (fun n_4=>ae (vI 0) wz rfl (aj (af (bC (aI xA rfl 0 rfl wz (aD 1 0 (.inr (by kernel_rfl)) (fun _ _ ag=>trivial) sz9 ag9 rfl rfl (vS a_1.Player) rfl wz (aI xA rfl 0 rfl wz (aD 3 1 (.inr (by kernel_rfl)) (fun _ _ ag=>⟨.inl ⟨rfl,rfl⟩,trivial⟩) sz9 ag9 rfl rfl (vS b_2.Player) rfl wz ?_)))))))))))
 obtain ⟨r_5,hr_6,hF⟩:=bind_some hF
 refine aG (nu hr_6) rfl Lc rfl rfl rfl rfl wz (aI zO rfl 1 rfl wz (aD 6 0 (.inr (by kernel_rfl)) (fun _ _ ag=>⟨.inl ⟨rfl,rfl⟩,⟨.inl ⟨rfl,rfl⟩,trivial⟩⟩) sz3 ag3 rfl rfl (vI a_1.At) rfl wz (aI zO rfl 1 rfl wz (aD 8 1 (.inr (by kernel_rfl)) (fun _ _ ag=>⟨.inl ⟨rfl,rfl⟩,⟨.inl ⟨rfl,rfl⟩,⟨.inl ⟨rfl,rfl⟩,trivial⟩⟩⟩) sz3 ag3 rfl rfl (vI b_2.At) rfl wz ?_))))
 obtain ⟨r_7,hr_8,hF⟩:=bind_some hF
 refine aG (iT hr_8) rfl GV rfl rfl rfl rfl wz (eU (([r_5,r_7]:List Int).map eI) kw wQ rfl rfl rfl rfl rfl wz ?_)
 obtain ⟨r_9,hr_10,hF⟩:=bind_some hF
 refine aG (si hr_10) rfl Lb rfl rfl rfl rfl wz (ae (vI r_9) wz rfl (aj ?_))
 obtain rfl:=ah hF
 exact aB (aO (.inr rfl) [(vI r_9)] ⟨rfl,trivial⟩ rfl rfl rfl)
theorem xN {l_1:(List Beat)} {r:Int} (hF:jU l_1=some r) :
  FnM Tryz.prog 202 [(vL Beat.enc l_1)] [] (vI r) []:=by
 refine FnM.of_wH ⟨Tryz.prog,69,[],[]⟩ rfl Tryz.func202 rfl rfl (Nat.le_of_ble_eq_true rfl) (by kernel_rfl) ?_
 unfold jU at hF
 refine af (aa (ae (vI 0) wz rfl (aj (af (af (aa (ae (vL Beat.enc l_1) wz rfl (cO Mf rfl wz (ae (vB (decide ((l_1.length:Int) > 500))) wz rfl (aj ?_))))))))))
 rcases au hF with⟨hc_2,hF⟩ | ⟨hc_2,hF⟩
 ·refine aA rfl hc_2 (af (aa (ae (vI 2) wz rfl (aj ?_))))
  obtain rfl:=ah hF
  exact aB (aO (.inr rfl) [(vI 2)] ⟨rfl,trivial⟩ rfl rfl rfl)
 ·refine ay rfl hc_2 (av (af (af (aa (ae (vL Beat.enc l_1) wz rfl (cO Mf rfl wz (ae (vI 0) wz rfl (aj ?_))))))))
  obtain ⟨o_11,hj_12,hF⟩:=bind_some hF
  obtain ⟨hn_7,hj_12⟩:=bv hj_12
  refine aH (β:=(Unit)) (fun (s_8:Unit)=>([]:List (Nat×V))) (fun (s_8:Unit)=>([]:Hp)) (fun p=>o_11 = .go p) ?_ ?_
  ·refine aC (aV (β:=Nat×(List Beat)×(Unit)) (fun p=>(fun (k_3:Nat) (l_4:List Beat) (s_8:Unit)=>([(0,(vL Beat.enc l_1)),(8,(vL Beat.enc l_1)),(9,(vI (l_1.length:Int))),(10,(vI (k_3:Int)))]:List (Nat×V))) p.1 p.2.1 p.2.2) (fun p=>(fun (k_3:Nat) (l_4:List Beat) (s_8:Unit)=>([]:Hp)) p.1 p.2.1 p.2.2) (fun p=>forR (fun k x s=>iJ l_1 k x s) p.2.1 p.1 p.2.2=some o_11∧(l_1).drop p.1=p.2.1) (fun p=>p.2.1.length) (0,l_1,()) ⟨hj_12,rfl⟩ rfl (aJ rfl) ?_)
   rintro ⟨k_3,l_4,s_8⟩ ⟨hL_10,hD_6⟩
   dsimp only at hL_10 hD_6
   cases l_4 with
   | nil =>
    obtain rfl:=ah hL_10
    refine af (aa (ae (vB (decide ((k_3:Int) < (l_1.length:Int)))) wz rfl (aj ?_)))
    refine af (ay rfl (drop_nil hD_6) (aQ ?_))
    exact aR (s_8) rfl rfl (aJ rfl)
   | cons x_5 l_4 =>
    obtain ⟨c_,hc_9,hL_10⟩:=bind_some hL_10
    refine af (aa (ae (vB (decide ((k_3:Int) < (l_1.length:Int)))) wz rfl (aj ?_)))
    refine af (aA rfl (bL hD_6) (av ?_))
    unfold iJ at hc_9
    refine af (aC (af (aa (ae (vI (k_3:Int)) wz rfl (dU E5 rfl rfl (bT hD_6) rfl wz (bN ET Jw rfl (.d (.agg (Beat.enc x_5))) rfl wz (dB 0 (.inl rfl) z157 rfl wz (fun n_13=>ae (vI (k_3:Int)) wz rfl (fH 0 il ft 0 ET rfl rfl [(vS x_5.Player),(vI x_5.At),(vI x_5.Clock)] rfl wz (aj (aC (af (aa (aI xA rfl 0 rfl wz (aD 0 0 il ft sz9 ag9 rfl rfl (vS x_5.Player) rfl wz ?_)))))))))))))))
    obtain ⟨r_14,hr_15,hc_9⟩:=bind_some hc_9
    refine aG (eY hr_15) rfl sU rfl rfl rfl rfl wz (ae (vB (!r_14)) wz rfl (ae (vB (!r_14)) wz rfl (aj ?_)))
    rcases au hc_9 with⟨hc_16,hc_9⟩ | ⟨hc_16,hc_9⟩
    ·refine aA rfl hc_16 (af (aa (ae (vI 5) wz rfl (aj ?_))))
     obtain rfl:=ah hc_9
     obtain rfl:=ah hL_10
     obtain rfl:=ah hF
     exact aB (aO (.inr rfl) [(vI 5)] ⟨rfl,trivial⟩ rfl rfl rfl)
    ·refine ay rfl hc_16 (af ?_)
     obtain ⟨v_17,h_18,hc_9⟩:=bind_some hc_9
     refine aH (β:=Unit) (fun _=>([(0,(vL Beat.enc l_1)),(3,(vI (k_3:Int))),(4,(.ref n_13 0 0)),(8,(vL Beat.enc l_1)),(9,(vI (l_1.length:Int))),(10,(vI (k_3:Int))),(20,(vB v_17))]:List (Nat×V))) (fun _=>([(n_13,some (.cells 3 [(vS x_5.Player),(vI x_5.At),(vI x_5.Clock)]))]:Hp)) (fun _=>True) ?_ ?_
     ·refine aa (aI zO rfl 1 rfl wz (aD 0 0 il ft sz3 ag3 rfl rfl (vI x_5.At) rfl wz ?_))
      obtain ⟨r_19,hr_20,h_18⟩:=bind_some h_18
      refine aG (gN hr_20) rfl Bw rfl rfl rfl rfl wz (ae (vB (!r_19)) wz rfl ?_)
      rcases au h_18 with⟨hc_21,h_18⟩ | ⟨hc_21,h_18⟩
      ·refine aF rfl hc_21 wz (ak wa (ak wa (ak wa (ae (vB true) wz rfl (ae (vB true) wz rfl (aj ?_))))))
       obtain rfl:=ah h_18
       exact cu
      ·refine aF rfl hc_21 wz (aI zS rfl 2 rfl wa (aD 0 0 il ft sz3 ag3 rfl rfl (vI x_5.Clock) rfl wa ?_))
       obtain ⟨r_22,hr_23,h_18⟩:=bind_some h_18
       refine aG (bg hr_23) rfl qE rfl rfl rfl rfl wa (ae (vB r_22) wz rfl (ae (vB r_22) wz rfl (aj ?_)))
       obtain rfl:=ah h_18
       exact cu
     ·rintro ⟨⟩ _ sl_ H_ hp_ hq_
      refine aL _ hp_ hq_ ?_
      rcases au hc_9 with⟨hc_24,hc_9⟩ | ⟨hc_24,hc_9⟩
      ·refine aA rfl hc_24 (af (aa (ae (vI 1) wz rfl (aj ?_))))
       obtain rfl:=ah hc_9
       obtain rfl:=ah hL_10
       obtain rfl:=ah hF
       exact aB (aO (.inr rfl) [(vI 1)] ⟨rfl,trivial⟩ rfl rfl rfl)
      ·refine ay rfl hc_24 (af ?_)
       obtain ⟨v_25,h_26,hc_9⟩:=bind_some hc_9
       refine aH (β:=Unit) (fun _=>([(0,(vL Beat.enc l_1)),(3,(vI (k_3:Int))),(4,(.ref n_13 0 0)),(8,(vL Beat.enc l_1)),(9,(vI (l_1.length:Int))),(10,(vI (k_3:Int))),(30,(vB v_25))]:List (Nat×V))) (fun _=>([(n_13,some (.cells 3 [(vS x_5.Player),(vI x_5.At),(vI x_5.Clock)]))]:Hp)) (fun _=>True) ?_ ?_
       ·refine bC (ae (vI (k_3:Int)) wz rfl (ae (vB (decide ((k_3:Int) > 0))) wz rfl ?_))
        rcases au h_26 with⟨hc_27,h_26⟩ | ⟨hc_27,h_26⟩
        ·refine aF rfl hc_27 wz (ae (vL Beat.enc l_1) wa rfl (ae (vI (k_3:Int)) wa rfl (ae (vI (w64 ((k_3:Int) - 1))) wa rfl ?_)))
         obtain ⟨y_28,hy_29,h_26⟩:=bind_some h_26
         refine dU E5 rfl rfl hy_29 rfl wa (bN ET Jw rfl (.d (.agg (Beat.enc y_28))) rfl wa (aD 8 0 (.inr (by kernel_rfl)) (fun _ _ ag=>trivial) ET Jw rfl rfl (.d (.agg (Beat.enc x_5))) rfl wa ?_))
         obtain ⟨r_30,hr_31,h_26⟩:=bind_some h_26
         refine aG (vT hr_31) rfl hb267 rfl rfl rfl rfl wa (ae (vB (decide (r_30≥0))) wa rfl (ae (vB (decide (r_30≥0))) wz rfl (ae (vB (decide (r_30≥0))) wz rfl (aj ?_))))
         obtain rfl:=ah h_26
         exact cu
        ·refine aF rfl hc_27 wz (ak wa (ak wa (ak wa (ak wa (ak wa (ak wa (ak wa (ak wa (ae (vB false) wz rfl (ae (vB false) wz rfl (aj ?_)))))))))))
         obtain rfl:=ah h_26
         exact cu
       ·rintro ⟨⟩ _ sl_ H_ hp_ hq_
        refine aL _ hp_ hq_ ?_
        rcases au hc_9 with⟨hc_32,hc_9⟩ | ⟨hc_32,hc_9⟩
        ·refine aA rfl hc_32 (af (aa (ae (vI 7) wz rfl (aj ?_))))
         obtain rfl:=ah hc_9
         obtain rfl:=ah hL_10
         obtain rfl:=ah hF
         exact aB (aO (.inr rfl) [(vI 7)] ⟨rfl,trivial⟩ rfl rfl rfl)
        ·refine ay rfl hc_32 (af ?_)
         obtain ⟨v_33,h_34,hc_9⟩:=bind_some hc_9
         refine aH (β:=Unit) (fun _=>([(0,(vL Beat.enc l_1)),(8,(vL Beat.enc l_1)),(9,(vI (l_1.length:Int))),(10,(vI (k_3:Int))),(43,(vB v_33))]:List (Nat×V))) (fun _=>([(n_13,some (.cells 3 [(vS x_5.Player),(vI x_5.At),(vI x_5.Clock)]))]:Hp)) (fun _=>True) ?_ ?_
         ·refine bC (ae (vI (k_3:Int)) wz rfl (ae (vB (decide ((k_3:Int) > 0))) wz rfl ?_))
          rcases au h_34 with⟨hc_35,h_34⟩ | ⟨hc_35,h_34⟩
          ·refine aF rfl hc_35 wz (aI xA rfl 0 rfl wa (aD 4 0 (.inr (by kernel_rfl)) (fun _ _ ag=>trivial) sz9 ag9 rfl rfl (vS x_5.Player) rfl wa (ae (vL Beat.enc l_1) wa rfl (ae (vI (k_3:Int)) wa rfl (ae (vI (w64 ((k_3:Int) - 1))) wa rfl ?_)))))
           obtain ⟨y_36,hy_37,h_34⟩:=bind_some h_34
           refine dU E5 rfl rfl hy_37 rfl wa (kY xA rfl [.str y_36.Player,.int .i64 y_36.At,.int .i64 y_36.Clock] rfl rfl wa (bN sz9 ag9 rfl (vS y_36.Player) rfl wa (ae (vB (sEq x_5.Player y_36.Player)) wa rfl (ae (vB (sEq x_5.Player y_36.Player)) wz rfl ?_))))
           rcases au h_34 with⟨hc_38,h_34⟩ | ⟨hc_38,h_34⟩
           ·refine aF rfl hc_38 wz (aI zS rfl 2 rfl wa (aD 15 0 (.inr (by kernel_rfl)) (fun _ _ ag=>⟨.inl ⟨rfl,rfl⟩,trivial⟩) sz3 ag3 rfl rfl (vI x_5.Clock) rfl wa (ae (vL Beat.enc l_1) wa rfl (ae (vI (k_3:Int)) wa rfl (ae (vI (w64 ((k_3:Int) - 1))) wa rfl ?_)))))
            obtain ⟨y_39,hy_40,h_34⟩:=bind_some h_34
            refine dU E5 rfl rfl hy_40 rfl wa (kY zS rfl [.int .i64 y_39.Clock] rfl rfl wa (bN sz3 ag3 rfl (vI y_39.Clock) rfl wa (ae (vB (decide (x_5.Clock≤y_39.Clock))) wa rfl (ae (vB (decide (x_5.Clock≤y_39.Clock))) wz rfl (ae (vB (decide (x_5.Clock≤y_39.Clock))) wz rfl (aj ?_))))))
            obtain rfl:=ah h_34
            exact cu
           ·refine aF rfl hc_38 wz (ak wa (ak wa (ak wa (ak wa (ak wa (ak wa (ak wa (ak wa (ak wa (ae (vB false) wz rfl (ae (vB false) wz rfl (aj ?_))))))))))))
            obtain rfl:=ah h_34
            exact cu
          ·refine aF rfl hc_35 wz (ak wa (ak wa (ak wa (ak wa (ak wa (ak wa (ak wa (ak wa (ak wa (ae (vB false) wz rfl (ae (vB false) wz rfl (ak wa (ak wa (ak wa (ak wa (ak wa (ak wa (ak wa (ak wa (ak wa (ae (vB false) wz rfl (ae (vB false) wz rfl (aj ?_)))))))))))))))))))))))
           obtain rfl:=ah h_34
           exact cu
         ·rintro ⟨⟩ _ sl_ H_ hp_ hq_
          refine aL _ hp_ hq_ ?_
          rcases au hc_9 with⟨hc_41,hc_9⟩ | ⟨hc_41,hc_9⟩
          ·refine aA rfl hc_41 (af (aa (ae (vI 16) wz rfl (aj ?_))))
           obtain rfl:=ah hc_9
           obtain rfl:=ah hL_10
           obtain rfl:=ah hF
           exact aB (aO (.inr rfl) [(vI 16)] ⟨rfl,trivial⟩ rfl rfl rfl)
          ·refine ay rfl hc_41 (av (aa (fJ (bO hD_6 hn_7) wz rfl (ae (vI ((k_3 + 1:Nat):Int)) wz rfl (aj ?_)))))
           obtain rfl:=ah hc_9
           exact aP (k_3 + 1,l_4,()) ⟨hL_10,aW hD_6⟩ (Nat.lt_succ_self _) rfl (aJ rfl)
  ·rintro s_8 ho_ sl_ H_ hp_ hq_
   subst ho_
   refine aL _ hp_ hq_ (af (aa (ae (vI 0) wz rfl (aj ?_))))
   obtain rfl:=ah hF
   exact aB (aO (.inr rfl) [(vI 0)] ⟨rfl,trivial⟩ rfl rfl rfl)
theorem Af {l_1:(List Beat)} {player_2:ByteArray} {back_3:Bool} {r:(List Beat_)} (hF:oZ l_1 player_2 back_3=some r) :
  FnM Tryz.prog 204 [(vL Beat.enc l_1),(vS player_2),(vB back_3)] [] (vL Beat_.enc r) []:=by
 refine FnM.of_wH ⟨Tryz.prog,41,[],[]⟩ rfl Tryz.func204 rfl rfl (Nat.le_of_ble_eq_true rfl) (by kernel_rfl) ?_
 unfold oZ at hF
 refine af (aa (ae .nil wz rfl (aj (af (aa (ae .nil wz rfl (aj (af (af (aa (ae (vL Beat.enc l_1) wz rfl (cO Mf rfl wz (ae (vI 0) wz rfl (aj (mo (fun n_10 => ?_))))))))))))))))
 obtain ⟨o_15,hj_16,hF⟩:=bind_some hF
 obtain ⟨hn_8,hj_16⟩:=bv hj_16
 refine aH (β:=((List Beat_))×Nm) (fun p=>(fun (s_9:(List Beat_)) (n_12:Nm)=>([(7,(gV n_12 2 s_9))]:List (Nat×V))) p.1 p.2) (fun p=>(fun (s_9:(List Beat_)) (n_12:Nm)=>([(n_12,gB 2 Beat_.enc s_9)]:Hp)) p.1 p.2) (fun p=>o_15 = .go p.1) ?_ ?_
 ·refine aC (aV (β:=Nat×(List Beat)×((List Beat_))×Nm) (fun p=>(fun (k_4:Nat) (l_5:List Beat) (s_9:(List Beat_)) (n_12:Nm)=>([(1,(vS player_2)),(2,(vB back_3)),(7,(gV n_12 2 s_9)),(10,(vL Beat.enc l_1)),(11,(vI (l_1.length:Int))),(12,(vI (k_4:Int)))]:List (Nat×V))) p.1 p.2.1 p.2.2.1 p.2.2.2) (fun p=>(fun (k_4:Nat) (l_5:List Beat) (s_9:(List Beat_)) (n_12:Nm)=>([(n_12,gB 2 Beat_.enc s_9)]:Hp)) p.1 p.2.1 p.2.2.1 p.2.2.2) (fun p=>forR (fun k x s=>oG player_2 back_3 k x s) p.2.1 p.1 p.2.2.1=some o_15∧(l_1).drop p.1=p.2.1) (fun p=>p.2.1.length) (0,l_1,([]:List Beat_),n_10) ⟨hj_16,rfl⟩ rfl (aJ rfl) ?_)
  rintro ⟨k_4,l_5,s_9,n_12⟩ ⟨hL_14,hD_7⟩
  dsimp only at hL_14 hD_7
  cases l_5 with
  | nil =>
   obtain rfl:=ah hL_14
   refine af (aa (ae (vB (decide ((k_4:Int) < (l_1.length:Int)))) wz rfl (aj ?_)))
   refine af (ay rfl (drop_nil hD_7) (aQ ?_))
   exact aR (s_9,n_12) rfl rfl (aJ rfl)
  | cons x_6 l_5 =>
   obtain ⟨c_,hc_13,hL_14⟩:=bind_some hL_14
   refine af (aa (ae (vB (decide ((k_4:Int) < (l_1.length:Int)))) wz rfl (aj ?_)))
   refine af (aA rfl (bL hD_7) (av ?_))
   unfold oG at hc_13
   refine af (aC (af (aa (dU E5 rfl rfl (bT hD_7) rfl wz (bN ET Jw rfl (.d (.agg (Beat.enc x_6))) rfl wz (dB 0 (.inl rfl) z157 rfl wz (fun n_17=>fH 0 il ft 1 ET rfl rfl [(vS x_6.Player),(vI x_6.At),(vI x_6.Clock)] rfl wz (aj (aC (af (aa (aI xA rfl 0 rfl wz (aD 0 1 il ft sz9 ag9 rfl rfl (vS x_6.Player) rfl wz (ae (vS player_2) wz rfl (ae (vB (sNe x_6.Player player_2)) wz rfl (ae (vB (sNe x_6.Player player_2)) wz rfl (aj ?_)))))))))))))))))
   obtain ⟨v_18,h_19,hc_13⟩:=bind_some hc_13
   refine aH (β:=Nm) (fun (n_20:Nm)=>([(1,(vS player_2)),(2,(vB back_3)),(7,(gV n_20 2 v_18)),(10,(vL Beat.enc l_1)),(11,(vI (l_1.length:Int))),(12,(vI (k_4:Int)))]:List (Nat×V))) (fun (n_20:Nm)=>([(n_20,gB 2 Beat_.enc v_18),(n_17,some (.cells 3 [(vS x_6.Player),(vI x_6.At),(vI x_6.Clock)]))]:Hp)) (fun _=>True) ?_ ?_
   ·rcases au h_19 with⟨hc_21,h_19⟩ | ⟨hc_21,h_19⟩
    ·refine aA rfl hc_21 (av ?_)
     obtain rfl:=ah h_19
     exact aR n_12 trivial rfl (aJ rfl)
    ·refine ay rfl hc_21 (af (aa (ae (vB back_3) wz rfl (ae (vB back_3) wz rfl (aj ?_)))))
     rcases au h_19 with⟨hc_22,h_19⟩ | ⟨hc_22,h_19⟩
     ·refine aA rfl hc_22 (aa (ae (gV n_12 2 s_9) wz rfl (aI zO rfl 1 rfl wz (aD 0 1 il ft sz3 ag3 rfl rfl (vI x_6.At) rfl wz (aI zS rfl 2 rfl wz (aD 0 1 il ft sz3 ag3 rfl rfl (vI x_6.Clock) rfl wz (ae (.d (.agg (Beat_.enc (⟨x_6.At,x_6.Clock⟩:Beat_)))) wz (by kernel_rfl) (eU (([(⟨x_6.At,x_6.Clock⟩:Beat_)]:List Beat_).map Beat_.enc) zB ez272 rfl rfl rfl rfl rfl wz ?_))))))))
      obtain ⟨a_23,hz_24,h_19⟩:=bind_some h_19
      refine lJ 0 il ft (i:=0) JK JK E9 z316 rfl (by decide) by316 (by decide) (fun _=>rfl) rfl rfl rfl hz_24 wz (fun n_25=>ae (gV n_25 2 a_23) wz rfl (aj ?_))
      obtain rfl:=ah h_19
      exact aR n_25 trivial rfl (aJ rfl)
     ·refine ay rfl hc_22 (aa (ae (gV n_12 2 s_9) wz rfl (aI zS rfl 2 rfl wz (aD 0 1 il ft sz3 ag3 rfl rfl (vI x_6.Clock) rfl wz (aI zO rfl 1 rfl wz (aD 0 1 il ft sz3 ag3 rfl rfl (vI x_6.At) rfl wz (ae (.d (.agg (Beat_.enc (⟨x_6.Clock,x_6.At⟩:Beat_)))) wz (by kernel_rfl) (eU (([(⟨x_6.Clock,x_6.At⟩:Beat_)]:List Beat_).map Beat_.enc) zB ez272 rfl rfl rfl rfl rfl wz ?_))))))))
      obtain ⟨a_26,hz_27,h_19⟩:=bind_some h_19
      refine lJ 0 il ft (i:=0) JK JK E9 z316 rfl (by decide) by316 (by decide) (fun _=>rfl) rfl rfl rfl hz_27 wz (fun n_28=>ae (gV n_28 2 a_26) wz rfl (aj ?_))
      obtain rfl:=ah h_19
      exact aR n_28 trivial rfl (aJ rfl)
   ·rintro n_20 _ sl_ H_ hp_ hq_
    refine aL _ hp_ hq_ (aa (fJ (bO hD_7 hn_8) wz rfl (ae (vI ((k_4 + 1:Nat):Int)) wz rfl (aj ?_))))
    obtain rfl:=ah hc_13
    exact aP (k_4 + 1,l_5,v_18,n_20) ⟨hL_14,aW hD_7⟩ (Nat.lt_succ_self _) rfl (aJ rfl)
 ·rintro ⟨s_9,n_12⟩ ho_ sl_ H_ hp_ hq_
  subst ho_
  refine aL _ hp_ hq_ (af (aa (ae (gV n_12 2 s_9) wz rfl (ae (gV n_12 2 s_9) wz rfl (aj (iK 0 rfl (eH 6 0 rfl rfl (eH 7 0 rfl rfl (eH 40 0 rfl rfl ?_)))))))))
  obtain rfl:=ah hF
  exact aB (aO (.inr rfl) [(vL Beat_.enc s_9)] ⟨rfl,trivial⟩ rfl rfl rfl)
theorem BG {l_1:(List Beat_)} {n_2:Int} {r:Int×Int} (hF:oh l_1 n_2=some r) :
  FnM Tryz.prog 203 [(vL Beat_.enc l_1),(vI n_2)] [] (.tup [(vI r.1),(vI r.2)]) []:=by
 refine FnM.of_wH ⟨Tryz.prog,108,[],[]⟩ rfl Tryz.func203 rfl rfl (Nat.le_of_ble_eq_true rfl) (by kernel_rfl) ?_
 unfold oh at hF
 refine af (aa (ae (vI 0) wz rfl (ae (vI 0) wz rfl (aj (af (af (aa (ae (vL Beat_.enc l_1) wz rfl (cO MR rfl wz (ae (vB ((l_1.length:Int) == 0)) wz rfl (aj ?_)))))))))))
 rcases au hF with⟨hc_3,hF⟩ | ⟨hc_3,hF⟩
 ·refine aA rfl hc_3 (af (aa (ae (vI 0) wz rfl (ae (vI 8) wz rfl (aj ?_)))))
  obtain rfl:=ah hF
  exact aB (aO (.inr rfl) [(vI 0),(vI 8)] ⟨rfl,⟨rfl,trivial⟩⟩ rfl rfl rfl)
 ·refine ay rfl hc_3 (av (af (aa (ae (vI 0) wz rfl (aj (af ?_))))))
  obtain ⟨o_12,hj_13,hF⟩:=bind_some hF
  obtain ⟨nq_51,hj_13⟩:=cz hj_13
  refine aH (β:=(Int)) (fun (s_9:Int)=>([(0,(vL Beat_.enc l_1)),(1,(vI n_2)),(6,(vI s_9))]:List (Nat×V))) (fun (s_9:Int)=>([]:Hp)) (fun p=>o_12 = .go p) ?_ ?_
  ·refine aC (aV (β:=Nat×(Int)) (fun p=>(fun (k_4:Nat) (s_9:Int)=>([(0,(vL Beat_.enc l_1)),(1,(vI n_2)),(6,(vI s_9))]:List (Nat×V))) p.1 p.2) (fun p=>(fun (k_4:Nat) (s_9:Int)=>([]:Hp)) p.1 p.2) (fun p=>iterN (fun s=>mR l_1 n_2 s) p.1 p.2=some o_12) (fun p=>p.1) (nq_51,0) hj_13 rfl (aJ rfl) ?_)
   rintro ⟨k_4,s_9⟩ hL_11
   dsimp only at hL_11
   cases k_4 with
   | zero=>cases hL_11
   | succ k_4 =>
    obtain ⟨c_,hc_10,hL_11⟩:=bind_some hL_11
    unfold mR at hc_10
    refine af (af ?_)
    obtain ⟨v_14,h_15,hc_10⟩:=bind_some hc_10
    refine aH (β:=Unit) (fun _=>([(0,(vL Beat_.enc l_1)),(1,(vI n_2)),(6,(vI s_9)),(25,(vB v_14))]:List (Nat×V))) (fun _=>([]:Hp)) (fun _=>True) ?_ ?_
    ·refine aa (ae (vI s_9) wz rfl (ae (vL Beat_.enc l_1) wz rfl (cO MR rfl wz (ae (vB (decide (s_9 < (l_1.length:Int)))) wz rfl ?_))))
     rcases au h_15 with⟨hc_16,h_15⟩ | ⟨hc_16,h_15⟩
     ·refine aF rfl hc_16 wz (ae (vL Beat_.enc l_1) wa rfl (ae (vI s_9) wa rfl ?_))
      obtain ⟨y_17,hy_18,h_15⟩:=bind_some h_15
      refine dU zB rfl rfl hy_18 rfl wa (kY rW rfl [.int .i64 y_17.f_from,.int .i64 y_17.f_to] rfl rfl wa (bN sz3 ag3 rfl (vI y_17.f_from) rfl wa (ae (vI n_2) wa rfl (ae (vB (decide (y_17.f_from≤n_2))) wa rfl (ae (vB (decide (y_17.f_from≤n_2))) wz rfl (aj ?_))))))
      obtain rfl:=ah h_15
      exact cu
     ·refine aF rfl hc_16 wz (ak wa (ak wa (ak wa (ak wa (ak wa (ak wa (ak wa (ae (vB false) wz rfl (aj ?_)))))))))
      obtain rfl:=ah h_15
      exact cu
    ·rintro ⟨⟩ _ sl_ H_ hp_ hq_
     refine aL _ hp_ hq_ ?_
     rcases au hc_10 with⟨hc_19,hc_10⟩ | ⟨hc_19,hc_10⟩
     ·refine aA rfl hc_19 (av (aC (aa (ae (vI s_9) wz rfl (ae (vI (w64 (s_9 + 1))) wz rfl (ae (vI (w64 (s_9 + 1))) wz rfl (aj ?_)))))))
      obtain rfl:=ah hc_10
      exact aP (k_4,(w64 (s_9 + 1))) hL_11 (Nat.lt_succ_self _) rfl (aJ rfl)
     ·refine ay rfl hc_19 (aQ ?_)
      obtain rfl:=ah hc_10
      obtain rfl:=ah hL_11
      exact aR (s_9) rfl rfl (aJ rfl)
  ·rintro s_9 ho_ sl_ H_ hp_ hq_
   subst ho_
   refine aL _ hp_ hq_ (af (aa (ae (vI 0) wz rfl (aj (af (aC (af (aa (ae (vI s_9) wz rfl (ae (vB (s_9 == 0)) wz rfl (ae (vB (s_9 == 0)) wz rfl (aj ?_))))))))))))
   rcases au hF with⟨hc_20,hF⟩ | ⟨hc_20,hF⟩
   ·refine aA rfl hc_20 (bC (ae (vL Beat_.enc l_1) wz rfl ?_))
    obtain ⟨y_21,hy_22,hF⟩:=bind_some hF
    refine dU zB rfl rfl hy_22 rfl wz (kY uG rfl [.int .i64 y_21.f_to] rfl rfl wz (bN sz3 ag3 rfl (vI y_21.f_to) rfl wz (ae (vL Beat_.enc l_1) wz rfl ?_)))
    obtain ⟨y_23,hy_24,hF⟩:=bind_some hF
    refine dU zB rfl rfl hy_24 rfl wz (kY rW rfl [.int .i64 y_23.f_from,.int .i64 y_23.f_to] rfl rfl wz (bN sz3 ag3 rfl (vI y_23.f_from) rfl wz (ae (vI n_2) wz rfl (ae (vI (w64 (y_23.f_from - n_2))) wz rfl (ae (vI (w64 (y_21.f_to - (w64 (y_23.f_from - n_2))))) wz rfl (ae (vI (w64 (y_21.f_to - (w64 (y_23.f_from - n_2))))) wz rfl (aj (af (af (aa (ae (vI (w64 (y_21.f_to - (w64 (y_23.f_from - n_2))))) wz rfl ?_)))))))))))
    obtain ⟨r_25,hr_26,hF⟩:=bind_some hF
    refine aG (gN hr_26) rfl Bw rfl rfl rfl rfl wz (ae (vB (!r_25)) wz rfl (aj ?_))
    rcases au hF with⟨hc_27,hF⟩ | ⟨hc_27,hF⟩
    ·refine aA rfl hc_27 (af (aa (ae (vI 0) wz rfl (ae (vI 11) wz rfl (aj ?_)))))
     obtain rfl:=ah hF
     exact aB (aO (.inr rfl) [(vI 0),(vI 11)] ⟨rfl,⟨rfl,trivial⟩⟩ rfl rfl rfl)
    ·refine ay rfl hc_27 (av (af (aa (ae (vI (w64 (y_21.f_to - (w64 (y_23.f_from - n_2))))) wz rfl (ae (vI (w64 (y_21.f_to - (w64 (y_23.f_from - n_2))))) wz rfl (ae (vI 0) wz rfl (aj ?_)))))))
     obtain rfl:=ah hF
     exact aB (aO (.inr rfl) [(vI (w64 (y_21.f_to - (w64 (y_23.f_from - n_2))))),(vI 0)] ⟨rfl,⟨rfl,trivial⟩⟩ rfl rfl rfl)
   ·refine ay rfl hc_20 (af (aa (ae (vI s_9) wz rfl (ae (vL Beat_.enc l_1) wz rfl (cO MR rfl wz (ae (vB (s_9 == (l_1.length:Int))) wz rfl (ae (vB (s_9 == (l_1.length:Int))) wz rfl (aj ?_))))))))
    rcases au hF with⟨hc_28,hF⟩ | ⟨hc_28,hF⟩
    ·refine aA rfl hc_28 (bC (ae (vL Beat_.enc l_1) wz rfl (ae (vI s_9) wz rfl (ae (vI (w64 (s_9 - 1))) wz rfl ?_))))
     obtain ⟨y_29,hy_30,hF⟩:=bind_some hF
     refine dU zB rfl rfl hy_30 rfl wz (kY uG rfl [.int .i64 y_29.f_to] rfl rfl wz (bN sz3 ag3 rfl (vI y_29.f_to) rfl wz (ae (vI n_2) wz rfl (ae (vI (w64 (y_29.f_to + n_2))) wz rfl (ae (vL Beat_.enc l_1) wz rfl (ae (vI s_9) wz rfl (ae (vI (w64 (s_9 - 1))) wz rfl ?_)))))))
     obtain ⟨y_31,hy_32,hF⟩:=bind_some hF
     refine dU zB rfl rfl hy_32 rfl wz (kY rW rfl [.int .i64 y_31.f_from,.int .i64 y_31.f_to] rfl rfl wz (bN sz3 ag3 rfl (vI y_31.f_from) rfl wz (ae (vI (w64 ((w64 (y_29.f_to + n_2)) - y_31.f_from))) wz rfl (ae (vI (w64 ((w64 (y_29.f_to + n_2)) - y_31.f_from))) wz rfl (aj (af (af (aa (ae (vI (w64 ((w64 (y_29.f_to + n_2)) - y_31.f_from))) wz rfl ?_)))))))))
     obtain ⟨r_33,hr_34,hF⟩:=bind_some hF
     refine aG (gN hr_34) rfl Bw rfl rfl rfl rfl wz (ae (vB (!r_33)) wz rfl (aj ?_))
     rcases au hF with⟨hc_35,hF⟩ | ⟨hc_35,hF⟩
     ·refine aA rfl hc_35 (af (aa (ae (vI 0) wz rfl (ae (vI 11) wz rfl (aj (aL (H0:=([]:Hp)) ([(4,(vI 0)),(5,(vI 11))]:List (Nat×V)) (by kernel_rfl) (sF (by kernel_rfl)) ?_))))))
      obtain rfl:=ah hF
      exact aB (aO (.inr rfl) [(vI 0),(vI 11)] ⟨rfl,⟨rfl,trivial⟩⟩ rfl rfl rfl)
     ·refine ay rfl hc_35 (av (af (aa (ae (vI (w64 ((w64 (y_29.f_to + n_2)) - y_31.f_from))) wz rfl (ae (vI (w64 ((w64 (y_29.f_to + n_2)) - y_31.f_from))) wz rfl (ae (vI 0) wz rfl (aj (aL (H0:=([]:Hp)) ([(4,(vI (w64 ((w64 (y_29.f_to + n_2)) - y_31.f_from)))),(5,(vI 0))]:List (Nat×V)) (by kernel_rfl) (sF (by kernel_rfl)) ?_))))))))
      obtain rfl:=ah hF
      exact aB (aO (.inr rfl) [(vI (w64 ((w64 (y_29.f_to + n_2)) - y_31.f_from))),(vI 0)] ⟨rfl,⟨rfl,trivial⟩⟩ rfl rfl rfl)
    ·refine ay rfl hc_28 (af (bC (ae (vL Beat_.enc l_1) wz rfl (ae (vI s_9) wz rfl (ae (vI (w64 (s_9 - 1))) wz rfl ?_)))))
     obtain ⟨y_36,hy_37,hF⟩:=bind_some hF
     refine dU zB rfl rfl hy_37 rfl wz (bN E9 ag316 rfl (.d (.agg (Beat_.enc y_36))) rfl wz (ae (vL Beat_.enc l_1) wz rfl (ae (vI s_9) wz rfl ?_)))
     obtain ⟨y_38,hy_39,hF⟩:=bind_some hF
     refine dU zB rfl rfl hy_39 rfl wz (bN E9 ag316 rfl (.d (.agg (Beat_.enc y_38))) rfl wz (dB 9 (.inr (by kernel_rfl)) z316 rfl wz (fun n_40=>dB 10 (.inr (by kernel_rfl)) z316 rfl wz (fun n_41=>fH 11 (.inr (by kernel_rfl)) (fun _ _ ag=>⟨.inr (.inr (by kernel_rfl)),⟨.inr (.inr (by kernel_rfl)),trivial⟩⟩) 0 E9 rfl rfl [(vI y_36.f_from),(vI y_36.f_to)] rfl wz (fH 12 (.inr (by kernel_rfl)) (fun _ _ ag=>⟨.inr (.inr (by kernel_rfl)),⟨.inr (.inr (by kernel_rfl)),⟨.inr (.inr (by kernel_rfl)),trivial⟩⟩⟩) 1 E9 rfl rfl [(vI y_38.f_from),(vI y_38.f_to)] rfl wz (aj (af (af ?_))))))))
     obtain ⟨v_42,h_43,hF⟩:=bind_some hF
     refine aH (β:=Unit) (fun _=>([(1,(vI n_2)),(8,(.ref n_40 0 0)),(9,(.ref n_41 0 0)),(50,(vB v_42))]:List (Nat×V))) (fun _=>([(n_40,some (.cells 2 [(vI y_36.f_from),(vI y_36.f_to)])),(n_41,some (.cells 2 [(vI y_38.f_from),(vI y_38.f_to)]))]:Hp)) (fun _=>True) ?_ ?_
     ·refine aa (aI rW rfl 0 rfl wz (aD 0 1 il ft sz3 ag3 rfl rfl (vI y_38.f_from) rfl wz (aI rW rfl 0 rfl wz (aD 0 0 il ft sz3 ag3 rfl rfl (vI y_36.f_from) rfl wz (ae (vI (w64 (y_38.f_from - y_36.f_from))) wz rfl (ae (vB (decide ((w64 (y_38.f_from - y_36.f_from)) > 2592000000))) wz rfl ?_))))))
      rcases au h_43 with⟨hc_44,h_43⟩ | ⟨hc_44,h_43⟩
      ·refine aF rfl hc_44 wz (ak wa (ak wa (ak wa (ak wa (ak wa (ak wa (ae (vB true) wz rfl (aj ?_))))))))
       obtain rfl:=ah h_43
       exact cu
      ·refine aF rfl hc_44 wz (aI uG rfl 1 rfl wa (aD 0 1 il ft sz3 ag3 rfl rfl (vI y_38.f_to) rfl wa (aI uG rfl 1 rfl wa (aD 0 0 il ft sz3 ag3 rfl rfl (vI y_36.f_to) rfl wa (ae (vI (w64 (y_38.f_to - y_36.f_to))) wa rfl (ae (vB (decide ((w64 (y_38.f_to - y_36.f_to)) > 2592000000))) wa rfl (ae (vB (decide ((w64 (y_38.f_to - y_36.f_to)) > 2592000000))) wz rfl (aj ?_))))))))
       obtain rfl:=ah h_43
       exact cu
     ·rintro ⟨⟩ _ sl_ H_ hp_ hq_
      refine aL _ hp_ hq_ ?_
      rcases au hF with⟨hc_45,hF⟩ | ⟨hc_45,hF⟩
      ·refine aA rfl hc_45 (af (aa (ae (vI 0) wz rfl (ae (vI 2) wz rfl (aj ?_)))))
       obtain rfl:=ah hF
       exact aB (aO (.inr rfl) [(vI 0),(vI 2)] ⟨rfl,⟨rfl,trivial⟩⟩ rfl rfl rfl)
      ·refine ay rfl hc_45 (av (bC (aI uG rfl 1 rfl wz (aD 1 0 (.inr (by kernel_rfl)) (fun _ _ ag=>trivial) sz3 ag3 rfl rfl (vI y_36.f_to) rfl wz (ae (vI n_2) wz rfl (aI rW rfl 0 rfl wz (aD 4 0 (.inr (by kernel_rfl)) (fun _ _ ag=>⟨.inl ⟨rfl,rfl⟩,trivial⟩) sz3 ag3 rfl rfl (vI y_36.f_from) rfl wz (ae (vI (w64 (n_2 - y_36.f_from))) wz rfl (aI uG rfl 1 rfl wz (aD 7 1 (.inr (by kernel_rfl)) (fun _ _ ag=>⟨.inl ⟨rfl,rfl⟩,⟨.inl ⟨rfl,rfl⟩,trivial⟩⟩) sz3 ag3 rfl rfl (vI y_38.f_to) rfl wz (aI uG rfl 1 rfl wz (aD 9 0 (.inr (by kernel_rfl)) (fun _ _ ag=>⟨.inl ⟨rfl,rfl⟩,⟨.inl ⟨rfl,rfl⟩,⟨.inl ⟨rfl,rfl⟩,trivial⟩⟩⟩) sz3 ag3 rfl rfl (vI y_36.f_to) rfl wz (ae (vI (w64 (y_38.f_to - y_36.f_to))) wz rfl (ae (vI (w64 ((w64 (n_2 - y_36.f_from)) * (w64 (y_38.f_to - y_36.f_to))))) wz rfl (aI rW rfl 0 rfl wz (aD 13 1 (.inr (by kernel_rfl)) (fun _ _ ag=>⟨.inl ⟨rfl,rfl⟩,⟨.inl ⟨rfl,rfl⟩,⟨.inl ⟨rfl,rfl⟩,⟨.inl ⟨rfl,rfl⟩,trivial⟩⟩⟩⟩) sz3 ag3 rfl rfl (vI y_38.f_from) rfl wz (aI rW rfl 0 rfl wz (aD 15 0 (.inr (by kernel_rfl)) (fun _ _ ag=>⟨.inl ⟨rfl,rfl⟩,⟨.inl ⟨rfl,rfl⟩,⟨.inl ⟨rfl,rfl⟩,⟨.inl ⟨rfl,rfl⟩,⟨.inl ⟨rfl,rfl⟩,trivial⟩⟩⟩⟩⟩) sz3 ag3 rfl rfl (vI y_36.f_from) rfl wz (ae (vI (w64 (y_38.f_from - y_36.f_from))) wz rfl ?_)))))))))))))))))))
       obtain ⟨q_46,hz_47,hF⟩:=bind_some hF
       refine Mx rfl rfl hz_47 wz (ae (vI (w64 (y_36.f_to + q_46))) wz rfl (ae (vI (w64 (y_36.f_to + q_46))) wz rfl (aj (af (af (aa (ae (vI (w64 (y_36.f_to + q_46))) wz rfl ?_)))))))
       obtain ⟨r_48,hr_49,hF⟩:=bind_some hF
       refine aG (gN hr_49) rfl Bw rfl rfl rfl rfl wz (ae (vB (!r_48)) wz rfl (aj ?_))
       rcases au hF with⟨hc_50,hF⟩ | ⟨hc_50,hF⟩
       ·refine aA rfl hc_50 (af (aa (ae (vI 0) wz rfl (ae (vI 11) wz rfl (aj ?_)))))
        obtain rfl:=ah hF
        exact aB (aO (.inr rfl) [(vI 0),(vI 11)] ⟨rfl,⟨rfl,trivial⟩⟩ rfl rfl rfl)
       ·refine ay rfl hc_50 (av (af (aa (ae (vI (w64 (y_36.f_to + q_46))) wz rfl (ae (vI (w64 (y_36.f_to + q_46))) wz rfl (ae (vI 0) wz rfl (aj ?_)))))))
        obtain rfl:=ah hF
        exact aB (aO (.inr rfl) [(vI (w64 (y_36.f_to + q_46))),(vI 0)] ⟨rfl,⟨rfl,trivial⟩⟩ rfl rfl rfl)
theorem DW {l_1:(List Beat)} {player_2:ByteArray} {n_3:Int} {back_4:Bool} {r:Int×Int} (hF:pI l_1 player_2 n_3 back_4=some r) :
  FnM Tryz.prog 158 [(vL Beat.enc l_1),(vS player_2),(vI n_3),(vB back_4)] [] (.tup [(vI r.1),(vI r.2)]) []:=by
 refine FnM.of_wH ⟨Tryz.prog,30,[],[]⟩ rfl Tryz.func158 rfl rfl (Nat.le_of_ble_eq_true rfl) (by kernel_rfl) ?_
 unfold pI at hF
 refine af (aa (ae (vI 0) wz rfl (ae (vI 0) wz rfl (aj (af (af (aa (ae (vL Beat.enc l_1) wz rfl ?_))))))))
 obtain ⟨r_5,hr_6,hF⟩:=bind_some hF
 refine aG (xN hr_6) rfl hb202 rfl rfl rfl rfl wz (ae (vI r_5) wz rfl (aj (af (aa (ae (vI r_5) wz rfl (ae (vB (r_5 != 0)) wz rfl (aj ?_)))))))
 rcases au hF with⟨hc_7,hF⟩ | ⟨hc_7,hF⟩
 ·refine aA rfl hc_7 (af (aa (ae (vI r_5) wz rfl (ae (vI 0) wz rfl (ae (vI r_5) wz rfl (aj ?_))))))
  obtain rfl:=ah hF
  exact aB (aO (.inr rfl) [(vI 0),(vI r_5)] ⟨rfl,⟨rfl,trivial⟩⟩ rfl rfl rfl)
 ·refine ay rfl hc_7 (av (af (af (aa (ae (vS player_2) wz rfl ?_)))))
  obtain ⟨r_8,hr_9,hF⟩:=bind_some hF
  refine aG (eY hr_9) rfl sU rfl rfl rfl rfl wz (ae (vB (!r_8)) wz rfl (aj ?_))
  rcases au hF with⟨hc_10,hF⟩ | ⟨hc_10,hF⟩
  ·refine aA rfl hc_10 (af (aa (ae (vI 0) wz rfl (ae (vI 5) wz rfl (aj ?_)))))
   obtain rfl:=ah hF
   exact aB (aO (.inr rfl) [(vI 0),(vI 5)] ⟨rfl,⟨rfl,trivial⟩⟩ rfl rfl rfl)
  ·refine ay rfl hc_10 (av (af (af (aa (ae (vI n_3) wz rfl ?_)))))
   obtain ⟨r_11,hr_12,hF⟩:=bind_some hF
   refine aG (gN hr_12) rfl Bw rfl rfl rfl rfl wz (ae (vB (!r_11)) wz rfl (aj ?_))
   rcases au hF with⟨hc_13,hF⟩ | ⟨hc_13,hF⟩
   ·refine aA rfl hc_13 (af (aa (ae (vI 0) wz rfl (ae (vI 1) wz rfl (aj ?_)))))
    obtain rfl:=ah hF
    exact aB (aO (.inr rfl) [(vI 0),(vI 1)] ⟨rfl,⟨rfl,trivial⟩⟩ rfl rfl rfl)
   ·refine ay rfl hc_13 (av (af (aa (ae (vL Beat.enc l_1) wz rfl (ae (vS player_2) wz rfl (ae (vB back_4) wz rfl ?_))))))
    obtain ⟨r_14,hr_15,hF⟩:=bind_some hF
    refine aG (Af hr_15) rfl hb204 rfl rfl rfl rfl wz (ae (vI n_3) wz rfl ?_)
    obtain ⟨r_16,hr_17,hF⟩:=bind_some hF
    refine aG (BG hr_17) rfl hb203 rfl rfl rfl rfl wz (ae (vI r_16.1) wz rfl (ae (vI r_16.2) wz rfl (ae (vI r_16.1) wz rfl (ae (vI r_16.2) wz rfl (aj ?_)))))
    obtain rfl:=ah hF
    exact aB (aO (.inr rfl) [(vI r_16.1),(vI r_16.2)] ⟨rfl,⟨rfl,trivial⟩⟩ rfl rfl rfl)
theorem CB {l_1:(List Beat)} {player_2:ByteArray} {clock_3:Int} {r:Int×Int} (hF:o8 l_1 player_2 clock_3=some r) :
  FnM Tryz.prog 80 [(vL Beat.enc l_1),(vS player_2),(vI clock_3)] [] (.tup [(vI r.1),(vI r.2)]) []:=by
 refine FnM.of_wH ⟨Tryz.prog,14,[],[]⟩ rfl Tryz.func80 rfl rfl (Nat.le_of_ble_eq_true rfl) (by kernel_rfl) ?_
 unfold o8 at hF
 refine af (aa (ae (vI 0) wz rfl (ae (vI 0) wz rfl (aj (af (aa (ae (vL Beat.enc l_1) wz rfl (ae (vS player_2) wz rfl (ae (vI clock_3) wz rfl ?_)))))))))
 obtain ⟨r_4,hr_5,hF⟩:=bind_some hF
 refine aG (DW hr_5) rfl hb158 rfl rfl rfl rfl wz (ae (vI r_4.1) wz rfl (ae (vI r_4.2) wz rfl (ae (vI r_4.1) wz rfl (ae (vI r_4.2) wz rfl (aj ?_)))))
 obtain rfl:=ah hF
 exact aB (aO (.inr rfl) [(vI r_4.1),(vI r_4.2)] ⟨rfl,⟨rfl,trivial⟩⟩ rfl rfl rfl)
theorem yG {a_1:Alert} {r:Int} (hF:kv a_1=some r) :
  FnM Tryz.prog 268 [(.d (.agg (Alert.enc a_1)))] [] (vI r) []:=by
 refine FnM.of_wH ⟨Tryz.prog,48,[],[]⟩ rfl Tryz.func268 rfl rfl (Nat.le_of_ble_eq_true rfl) (by kernel_rfl) ?_
 unfold kv at hF
 refine af (aa (ek 0 (.inl rfl) [(vS a_1.Id),(vS a_1.Sender),(vI a_1.Kind),(vL eS a_1.Refs),(vI a_1.At),(vI a_1.Until),(vI a_1.Weight),(vL Rect.enc a_1.Areas),(vS a_1.Text)] rfl rfl wz (fun n_2=>ae (vI 0) wz rfl (aj (af (af (aa (aI BS rfl 3 rfl wz (aD 0 0 il ft BI Db rfl rfl (vL eS a_1.Refs) rfl wz (cO Ck rfl wz (ae (vB (decide ((a_1.Refs.length:Int) > 20))) wz rfl (aj ?_))))))))))))
 rcases au hF with⟨hc_3,hF⟩ | ⟨hc_3,hF⟩
 ·refine aA rfl hc_3 (af (aa (ae (vI 2) wz rfl (aj ?_))))
  obtain rfl:=ah hF
  exact aB (aO (.inr rfl) [(vI 2)] ⟨rfl,trivial⟩ rfl rfl rfl)
 ·refine ay rfl hc_3 (av (af (af (aa (aI BS rfl 3 rfl wz (aD 0 0 il ft BI Db rfl rfl (vL eS a_1.Refs) rfl wz (cO Ck rfl wz (ae (vI 0) wz rfl (aj ?_)))))))))
  obtain ⟨o_12,hj_13,hF⟩:=bind_some hF
  obtain ⟨hn_8,hj_13⟩:=bv hj_13
  refine aH (β:=(Unit)) (fun (s_9:Unit)=>([(1,(.ref n_2 0 0))]:List (Nat×V))) (fun (s_9:Unit)=>([(n_2,some (.cells 9 [(vS a_1.Id),(vS a_1.Sender),(vI a_1.Kind),(vL eS a_1.Refs),(vI a_1.At),(vI a_1.Until),(vI a_1.Weight),(vL Rect.enc a_1.Areas),(vS a_1.Text)]))]:Hp)) (fun p=>o_12 = .go p) ?_ ?_
  ·refine aC (aV (β:=Nat×(List ByteArray)×(Unit)) (fun p=>(fun (k_4:Nat) (l_5:List ByteArray) (s_9:Unit)=>([(1,(.ref n_2 0 0)),(10,(vL eS a_1.Refs)),(11,(vI (a_1.Refs.length:Int))),(12,(vI (k_4:Int)))]:List (Nat×V))) p.1 p.2.1 p.2.2) (fun p=>(fun (k_4:Nat) (l_5:List ByteArray) (s_9:Unit)=>([(n_2,some (.cells 9 [(vS a_1.Id),(vS a_1.Sender),(vI a_1.Kind),(vL eS a_1.Refs),(vI a_1.At),(vI a_1.Until),(vI a_1.Weight),(vL Rect.enc a_1.Areas),(vS a_1.Text)]))]:Hp)) p.1 p.2.1 p.2.2) (fun p=>forR (fun k x s=>iW a_1 k x s) p.2.1 p.1 p.2.2=some o_12∧(a_1.Refs).drop p.1=p.2.1) (fun p=>p.2.1.length) (0,a_1.Refs,()) ⟨hj_13,rfl⟩ rfl (aJ rfl) ?_)
   rintro ⟨k_4,l_5,s_9⟩ ⟨hL_11,hD_7⟩
   dsimp only at hL_11 hD_7
   cases l_5 with
   | nil =>
    obtain rfl:=ah hL_11
    refine af (aa (ae (vB (decide ((k_4:Int) < (a_1.Refs.length:Int)))) wz rfl (aj ?_)))
    refine af (ay rfl (drop_nil hD_7) (aQ ?_))
    exact aR (s_9) rfl rfl (aJ rfl)
   | cons x_6 l_5 =>
    obtain ⟨c_,hc_10,hL_11⟩:=bind_some hL_11
    refine af (aa (ae (vB (decide ((k_4:Int) < (a_1.Refs.length:Int)))) wz rfl (aj ?_)))
    refine af (aA rfl (bL hD_7) (av ?_))
    unfold iW at hc_10
    refine af (aC (af (aa (ae (vI (k_4:Int)) wz rfl (dU wP rfl rfl (bT hD_7) rfl wz (bN sz9 ag9 rfl (vS x_6) rfl wz (ae (vI (k_4:Int)) wz rfl (ae (vS x_6) wz rfl (aj (aC (af (aa (ae (vS x_6) wz rfl ?_)))))))))))))
    obtain ⟨r_14,hr_15,hc_10⟩:=bind_some hc_10
    refine aG (eY hr_15) rfl sU rfl rfl rfl rfl wz (ae (vB (!r_14)) wz rfl (ae (vB (!r_14)) wz rfl (aj ?_)))
    rcases au hc_10 with⟨hc_16,hc_10⟩ | ⟨hc_16,hc_10⟩
    ·refine aA rfl hc_16 (af (aa (ae (vI 5) wz rfl (aj ?_))))
     obtain rfl:=ah hc_10
     obtain rfl:=ah hL_11
     obtain rfl:=ah hF
     exact aB (aO (.inr rfl) [(vI 5)] ⟨rfl,trivial⟩ rfl rfl rfl)
    ·refine ay rfl hc_16 (af ?_)
     obtain ⟨v_17,h_18,hc_10⟩:=bind_some hc_10
     refine aH (β:=Unit) (fun _=>([(1,(.ref n_2 0 0)),(4,(vS x_6)),(10,(vL eS a_1.Refs)),(11,(vI (a_1.Refs.length:Int))),(12,(vI (k_4:Int))),(21,(vB v_17))]:List (Nat×V))) (fun _=>([(n_2,some (.cells 9 [(vS a_1.Id),(vS a_1.Sender),(vI a_1.Kind),(vL eS a_1.Refs),(vI a_1.At),(vI a_1.Until),(vI a_1.Weight),(vL Rect.enc a_1.Areas),(vS a_1.Text)]))]:Hp)) (fun _=>True) ?_ ?_
     ·refine aa (ae (vI (k_4:Int)) wz rfl (ae (vB (decide ((k_4:Int) > 0))) wz rfl ?_))
      rcases au h_18 with⟨hc_19,h_18⟩ | ⟨hc_19,h_18⟩
      ·refine aF rfl hc_19 wz (ae (vS x_6) wa rfl (aI BS rfl 3 rfl wa (aD 0 0 il ft BI Db rfl rfl (vL eS a_1.Refs) rfl wa (ae (vI (k_4:Int)) wa rfl (ae (vI (w64 ((k_4:Int) - 1))) wa rfl ?_)))))
       obtain ⟨y_20,hy_21,h_18⟩:=bind_some h_18
       refine dU wP rfl rfl hy_21 rfl wa (bN sz9 ag9 rfl (vS y_20) rfl wa (ae (vB (sLe x_6 y_20)) wa rfl (ae (vB (sLe x_6 y_20)) wz rfl (ae (vB (sLe x_6 y_20)) wz rfl (aj ?_)))))
       obtain rfl:=ah h_18
       exact cu
      ·refine aF rfl hc_19 wz (ak wa (ak wa (ak wa (ak wa (ak wa (ak wa (ak wa (ak wa (ae (vB false) wz rfl (ae (vB false) wz rfl (aj ?_)))))))))))
       obtain rfl:=ah h_18
       exact cu
     ·rintro ⟨⟩ _ sl_ H_ hp_ hq_
      refine aL _ hp_ hq_ ?_
      rcases au hc_10 with⟨hc_22,hc_10⟩ | ⟨hc_22,hc_10⟩
      ·refine aA rfl hc_22 (af (aa (ae (vI 7) wz rfl (aj ?_))))
       obtain rfl:=ah hc_10
       obtain rfl:=ah hL_11
       obtain rfl:=ah hF
       exact aB (aO (.inr rfl) [(vI 7)] ⟨rfl,trivial⟩ rfl rfl rfl)
      ·refine ay rfl hc_22 (af (aa (ae (vS x_6) wz rfl (aI xD rfl 0 rfl wz (aD 0 0 il ft sz9 ag9 rfl rfl (vS a_1.Id) rfl wz (ae (vB (sEq x_6 a_1.Id)) wz rfl (ae (vB (sEq x_6 a_1.Id)) wz rfl (aj ?_))))))))
       rcases au hc_10 with⟨hc_23,hc_10⟩ | ⟨hc_23,hc_10⟩
       ·refine aA rfl hc_23 (af (aa (ae (vI 14) wz rfl (aj ?_))))
        obtain rfl:=ah hc_10
        obtain rfl:=ah hL_11
        obtain rfl:=ah hF
        exact aB (aO (.inr rfl) [(vI 14)] ⟨rfl,trivial⟩ rfl rfl rfl)
       ·refine ay rfl hc_23 (av (aa (fJ (bO hD_7 hn_8) wz rfl (ae (vI ((k_4 + 1:Nat):Int)) wz rfl (aj ?_)))))
        obtain rfl:=ah hc_10
        exact aP (k_4 + 1,l_5,()) ⟨hL_11,aW hD_7⟩ (Nat.lt_succ_self _) rfl (aJ rfl)
  ·rintro s_9 ho_ sl_ H_ hp_ hq_
   subst ho_
   refine aL _ hp_ hq_ (af (af (aa (aI Fj rfl 2 rfl wz (aD 0 0 il ft sz3 ag3 rfl rfl (vI a_1.Kind) rfl wz (ae (vB (a_1.Kind == 1)) wz rfl (aI BS rfl 3 rfl wz (aD 0 0 il ft BI Db rfl rfl (vL eS a_1.Refs) rfl wz (cO Ck rfl wz (ae (vB ((a_1.Refs.length:Int) == 0)) wz rfl (MI un4 rfl rfl wz (aj ?_))))))))))))
   rcases au hF with⟨hc_24,hF⟩ | ⟨hc_24,hF⟩
   ·refine aA rfl hc_24 (af (aa (ae (vI 3) wz rfl (aj ?_))))
    obtain rfl:=ah hF
    exact aB (aO (.inr rfl) [(vI 3)] ⟨rfl,trivial⟩ rfl rfl rfl)
   ·refine ay rfl hc_24 (av (af (aa (ae (vI 0) wz rfl (aj ?_)))))
    obtain rfl:=ah hF
    exact aB (aO (.inr rfl) [(vI 0)] ⟨rfl,trivial⟩ rfl rfl rfl)
theorem dh {s_1:ByteArray} {r:Int} (hF:bu s_1=some r) :
  FnM Tryz.prog 270 [(vS s_1)] [] (.d (.int .u64 r)) []:=by
 refine FnM.of_wH ⟨Tryz.prog,59,[],[]⟩ rfl Tryz.func270 rfl rfl (Nat.le_of_ble_eq_true rfl) (by kernel_rfl) ?_
 unfold bu at hF
 refine af (aa (ae (.d (.int .u64 0)) wz rfl (aj (af (ay rfl rfl (av (af (bC (ae (vS s_1) wz rfl ?_)))))))))
 obtain ⟨b_2,hy_3,hF⟩:=bind_some hF
 refine kP un9 rfl rfl hy_3 wz (mr un5 zm rfl wz (ae (vS s_1) wz rfl ?_))
 obtain ⟨b_4,hy_5,hF⟩:=bind_some hF
 refine kP un9 rfl rfl hy_5 wz (mr un5 zm rfl wz ?_)
 obtain ⟨q_6,hz_7,hF⟩:=bind_some hF
 refine A8 rfl rfl hz_7 wz (ae (.d (.int .u64 (orI .u64 (IntKind.u64.wrap (b_2.toNat:Int)) q_6))) wz rfl (ae (vS s_1) wz rfl ?_))
 obtain ⟨b_8,hy_9,hF⟩:=bind_some hF
 refine kP un9 rfl rfl hy_9 wz (mr un5 zm rfl wz ?_)
 obtain ⟨q_10,hz_11,hF⟩:=bind_some hF
 refine A8 rfl rfl hz_11 wz (ae (.d (.int .u64 (orI .u64 (orI .u64 (IntKind.u64.wrap (b_2.toNat:Int)) q_6) q_10))) wz rfl (ae (vS s_1) wz rfl ?_))
 obtain ⟨b_12,hy_13,hF⟩:=bind_some hF
 refine kP un9 rfl rfl hy_13 wz (mr un5 zm rfl wz ?_)
 obtain ⟨q_14,hz_15,hF⟩:=bind_some hF
 refine A8 rfl rfl hz_15 wz (ae (.d (.int .u64 (orI .u64 (orI .u64 (orI .u64 (IntKind.u64.wrap (b_2.toNat:Int)) q_6) q_10) q_14))) wz rfl (ae (vS s_1) wz rfl ?_))
 obtain ⟨b_16,hy_17,hF⟩:=bind_some hF
 refine kP un9 rfl rfl hy_17 wz (mr un5 zm rfl wz ?_)
 obtain ⟨q_18,hz_19,hF⟩:=bind_some hF
 refine A8 rfl rfl hz_19 wz (ae (.d (.int .u64 (orI .u64 (orI .u64 (orI .u64 (orI .u64 (IntKind.u64.wrap (b_2.toNat:Int)) q_6) q_10) q_14) q_18))) wz rfl (ae (vS s_1) wz rfl ?_))
 obtain ⟨b_20,hy_21,hF⟩:=bind_some hF
 refine kP un9 rfl rfl hy_21 wz (mr un5 zm rfl wz ?_)
 obtain ⟨q_22,hz_23,hF⟩:=bind_some hF
 refine A8 rfl rfl hz_23 wz (ae (.d (.int .u64 (orI .u64 (orI .u64 (orI .u64 (orI .u64 (orI .u64 (IntKind.u64.wrap (b_2.toNat:Int)) q_6) q_10) q_14) q_18) q_22))) wz rfl (ae (vS s_1) wz rfl ?_))
 obtain ⟨b_24,hy_25,hF⟩:=bind_some hF
 refine kP un9 rfl rfl hy_25 wz (mr un5 zm rfl wz ?_)
 obtain ⟨q_26,hz_27,hF⟩:=bind_some hF
 refine A8 rfl rfl hz_27 wz (ae (.d (.int .u64 (orI .u64 (orI .u64 (orI .u64 (orI .u64 (orI .u64 (orI .u64 (IntKind.u64.wrap (b_2.toNat:Int)) q_6) q_10) q_14) q_18) q_22) q_26))) wz rfl (ae (vS s_1) wz rfl ?_))
 obtain ⟨b_28,hy_29,hF⟩:=bind_some hF
 refine kP un9 rfl rfl hy_29 wz (mr un5 zm rfl wz ?_)
 obtain ⟨q_30,hz_31,hF⟩:=bind_some hF
 refine A8 rfl rfl hz_31 wz (ae (.d (.int .u64 (orI .u64 (orI .u64 (orI .u64 (orI .u64 (orI .u64 (orI .u64 (orI .u64 (IntKind.u64.wrap (b_2.toNat:Int)) q_6) q_10) q_14) q_18) q_22) q_26) q_30))) wz rfl (ae (.d (.int .u64 (orI .u64 (orI .u64 (orI .u64 (orI .u64 (orI .u64 (orI .u64 (orI .u64 (IntKind.u64.wrap (b_2.toNat:Int)) q_6) q_10) q_14) q_18) q_22) q_26) q_30))) wz rfl (aj (aL (H0:=([]:Hp)) ([(2,(.d (.int .u64 (orI .u64 (orI .u64 (orI .u64 (orI .u64 (orI .u64 (orI .u64 (orI .u64 (IntKind.u64.wrap (b_2.toNat:Int)) q_6) q_10) q_14) q_18) q_22) q_26) q_30))))]:List (Nat×V)) (by kernel_rfl) (sF (by kernel_rfl)) ?_))))
 obtain rfl:=ah hF
 exact aB (aO (.inr rfl) [(.d (.int .u64 (orI .u64 (orI .u64 (orI .u64 (orI .u64 (orI .u64 (orI .u64 (orI .u64 (IntKind.u64.wrap (b_2.toNat:Int)) q_6) q_10) q_14) q_18) q_22) q_26) q_30)))] ⟨rfl,trivial⟩ rfl rfl rfl)
theorem qx {s_1:ByteArray} {r:Bool} (hF:fI s_1=some r) :
  FnM Tryz.prog 208 [(vS s_1)] [] (vB r) []:=by
 refine FnM.of_wH ⟨Tryz.prog,169,[],[]⟩ rfl Tryz.func208 rfl rfl (Nat.le_of_ble_eq_true rfl) (by kernel_rfl) ?_
 unfold fI at hF
 refine af (aa (ae (vB false) wz rfl (aj (af ?_))))
 obtain ⟨o_10,hj_11,hF⟩:=bind_some hF
 obtain ⟨nq_71,hj_11⟩:=cz hj_11
 refine aH (β:=(ByteArray)) (fun (s_7:ByteArray)=>([]:List (Nat×V))) (fun (s_7:ByteArray)=>([]:Hp)) (fun p=>o_10 = .go p) ?_ ?_
 ·refine aC (aV (β:=Nat×(ByteArray)) (fun p=>(fun (k_2:Nat) (s_7:ByteArray)=>([(0,(vS s_7))]:List (Nat×V))) p.1 p.2) (fun p=>(fun (k_2:Nat) (s_7:ByteArray)=>([]:Hp)) p.1 p.2) (fun p=>iterN (fun s=>eF s) p.1 p.2=some o_10) (fun p=>p.1) (nq_71,s_1) hj_11 rfl (aJ rfl) ?_)
  rintro ⟨k_2,s_7⟩ hL_9
  dsimp only at hL_9
  cases k_2 with
  | zero=>cases hL_9
  | succ k_2 =>
   obtain ⟨c_,hc_8,hL_9⟩:=bind_some hL_9
   unfold eF at hc_8
   refine af (af (aa (ae (vS s_7) wz rfl (oM un9 rfl wz (ae (vB (decide ((s_7.size:Int) > 0))) wz rfl (aj ?_))))))
   rcases au hc_8 with⟨hc_12,hc_8⟩ | ⟨hc_12,hc_8⟩
   ·refine aA rfl hc_12 (av (aC (af (aa (ae (vS s_7) wz rfl ?_)))))
    obtain ⟨b_13,hy_14,hc_8⟩:=bind_some hc_8
    refine kP un9 rfl rfl hy_14 wz (ae (.d (.int .u8 (b_13.toNat:Int))) wz rfl (aj (af (af (aa (ae (.d (.int .u8 (b_13.toNat:Int))) wz rfl (ae (vB (decide ((b_13.toNat:Int) < 128))) wz rfl (aj ?_))))))))
    rcases au hc_8 with⟨hc_15,hc_8⟩ | ⟨hc_15,hc_8⟩
    ·refine aA rfl hc_15 (af (aa (ae (vS s_7) wz rfl ?_)))
     obtain ⟨y_16,hy_17,hc_8⟩:=bind_some hc_8
     refine gK un9 rfl rfl hy_17 wz (ae (vS y_16) wz rfl (aj (af (af ?_))))
     obtain ⟨v_18,h_19,hc_8⟩:=bind_some hc_8
     refine aH (β:=Unit) (fun _=>([(0,(vS y_16)),(24,(vB v_18))]:List (Nat×V))) (fun _=>([]:Hp)) (fun _=>True) ?_ ?_
     ·refine aa (ae (vS y_16) wz rfl (oM un9 rfl wz (ae (vB (decide ((y_16.size:Int) > 8))) wz rfl ?_)))
      rcases au h_19 with⟨hc_20,h_19⟩ | ⟨hc_20,h_19⟩
      ·refine aF rfl hc_20 wz (ae (vS y_16) wa rfl ?_)
       obtain ⟨r_21,hr_22,h_19⟩:=bind_some h_19
       refine aG (dh hr_22) rfl Cr rfl rfl rfl rfl wa (ae (.d (.int .u64 (pq .u64 r_21 9259542123273814144))) wa rfl (ae (vB ((pq .u64 r_21 9259542123273814144) == 0)) wa rfl (ae (vB ((pq .u64 r_21 9259542123273814144) == 0)) wz rfl (aj ?_))))
       obtain rfl:=ah h_19
       exact cu
      ·refine aF rfl hc_20 wz (ak wa (ak wa (ak wa (ak wa (ae (vB false) wz rfl (aj ?_))))))
       obtain rfl:=ah h_19
       exact cu
     ·rintro ⟨⟩ _ sl_ H_ hp_ hq_
      refine aL _ hp_ hq_ ?_
      obtain ⟨v_23,h_24,hc_8⟩:=bind_some hc_8
      refine aH (β:=Unit) (fun _=>([(0,(vS v_23))]:List (Nat×V))) (fun _=>([]:Hp)) (fun _=>True) ?_ ?_
      ·rcases au h_24 with⟨hc_25,h_24⟩ | ⟨hc_25,h_24⟩
       ·refine aA rfl hc_25 (af (aa (ae (vS y_16) wz rfl ?_)))
        obtain ⟨y_26,hy_27,h_24⟩:=bind_some h_24
        refine gK un9 rfl rfl hy_27 wz (ae (vS y_26) wz rfl (aj (af ?_)))
        obtain ⟨v_28,h_29,h_24⟩:=bind_some h_24
        refine aH (β:=Unit) (fun _=>([(0,(vS y_26)),(39,(vB v_28))]:List (Nat×V))) (fun _=>([]:Hp)) (fun _=>True) ?_ ?_
        ·refine bC (ae (vS y_26) wz rfl (oM un9 rfl wz (ae (vB (decide ((y_26.size:Int) > 16))) wz rfl ?_)))
         rcases au h_29 with⟨hc_30,h_29⟩ | ⟨hc_30,h_29⟩
         ·refine aF rfl hc_30 wz (ae (vS y_26) wa rfl ?_)
          obtain ⟨r_31,hr_32,h_29⟩:=bind_some h_29
          refine aG (dh hr_32) rfl Cr rfl rfl rfl rfl wa (ae (vS y_26) wa rfl ?_)
          obtain ⟨y_33,hy_34,h_29⟩:=bind_some h_29
          refine gK un9 rfl rfl hy_34 wa ?_
          obtain ⟨r_35,hr_36,h_29⟩:=bind_some h_29
          refine aG (dh hr_36) rfl Cr rfl rfl rfl rfl wa (ae (.d (.int .u64 (orI .u64 r_31 r_35))) wa rfl (ae (.d (.int .u64 (pq .u64 (orI .u64 r_31 r_35) 9259542123273814144))) wa rfl (ae (vB ((pq .u64 (orI .u64 r_31 r_35) 9259542123273814144) == 0)) wa rfl (ae (vB ((pq .u64 (orI .u64 r_31 r_35) 9259542123273814144) == 0)) wz rfl (aj ?_)))))
          obtain rfl:=ah h_29
          exact cu
         ·refine aF rfl hc_30 wz (ak wa (ak wa (ak wa (ak wa (ak wa (ak wa (ak wa (ak wa (ae (vB false) wz rfl (aj ?_))))))))))
          obtain rfl:=ah h_29
          exact cu
        ·rintro ⟨⟩ _ sl_ H_ hp_ hq_
         refine aL _ hp_ hq_ ?_
         rcases au h_24 with⟨hc_37,h_24⟩ | ⟨hc_37,h_24⟩
         ·refine aA rfl hc_37 (af (aa (ae (vS y_26) wz rfl ?_)))
          obtain ⟨y_38,hy_39,h_24⟩:=bind_some h_24
          refine gK un9 rfl rfl hy_39 wz (ae (vS y_38) wz rfl (aj ?_))
          obtain ⟨o_48,hj_49,h_24⟩:=bind_some h_24
          obtain ⟨nq_70,hj_49⟩:=cz hj_49
          refine aH (β:=(ByteArray)) (fun (s_45:ByteArray)=>([(0,(vS s_45))]:List (Nat×V))) (fun (s_45:ByteArray)=>([]:Hp)) (fun p=>o_48 = .go p) ?_ ?_
          ·refine aC (aV (β:=Nat×(ByteArray)) (fun p=>(fun (k_40:Nat) (s_45:ByteArray)=>([(0,(vS s_45))]:List (Nat×V))) p.1 p.2) (fun p=>(fun (k_40:Nat) (s_45:ByteArray)=>([]:Hp)) p.1 p.2) (fun p=>iterN (fun s=>fU s) p.1 p.2=some o_48) (fun p=>p.1) (nq_70,y_38) hj_49 rfl (aJ rfl) ?_)
           rintro ⟨k_40,s_45⟩ hL_47
           dsimp only at hL_47
           cases k_40 with
           | zero=>cases hL_47
           | succ k_40 =>
            obtain ⟨c_,hc_46,hL_47⟩:=bind_some hL_47
            unfold fU at hc_46
            refine af (af ?_)
            obtain ⟨v_50,h_51,hc_46⟩:=bind_some hc_46
            refine aH (β:=Unit) (fun _=>([(0,(vS s_45)),(62,(vB v_50))]:List (Nat×V))) (fun _=>([]:Hp)) (fun _=>True) ?_ ?_
            ·refine bC (ae (vS s_45) wz rfl (oM un9 rfl wz (ae (vB (decide ((s_45.size:Int) > 32))) wz rfl ?_)))
             rcases au h_51 with⟨hc_52,h_51⟩ | ⟨hc_52,h_51⟩
             ·refine aF rfl hc_52 wz (ae (vS s_45) wa rfl ?_)
              obtain ⟨r_53,hr_54,h_51⟩:=bind_some h_51
              refine aG (dh hr_54) rfl Cr rfl rfl rfl rfl wa (ae (vS s_45) wa rfl ?_)
              obtain ⟨y_55,hy_56,h_51⟩:=bind_some h_51
              refine gK un9 rfl rfl hy_56 wa ?_
              obtain ⟨r_57,hr_58,h_51⟩:=bind_some h_51
              refine aG (dh hr_58) rfl Cr rfl rfl rfl rfl wa (ae (.d (.int .u64 (orI .u64 r_53 r_57))) wa rfl (ae (vS s_45) wa rfl ?_))
              obtain ⟨y_59,hy_60,h_51⟩:=bind_some h_51
              refine gK un9 rfl rfl hy_60 wa ?_
              obtain ⟨r_61,hr_62,h_51⟩:=bind_some h_51
              refine aG (dh hr_62) rfl Cr rfl rfl rfl rfl wa (ae (vS s_45) wa rfl ?_)
              obtain ⟨y_63,hy_64,h_51⟩:=bind_some h_51
              refine gK un9 rfl rfl hy_64 wa ?_
              obtain ⟨r_65,hr_66,h_51⟩:=bind_some h_51
              refine aG (dh hr_66) rfl Cr rfl rfl rfl rfl wa (ae (.d (.int .u64 (orI .u64 r_61 r_65))) wa rfl (ae (.d (.int .u64 (orI .u64 (orI .u64 r_53 r_57) (orI .u64 r_61 r_65)))) wa rfl (ae (.d (.int .u64 (pq .u64 (orI .u64 (orI .u64 r_53 r_57) (orI .u64 r_61 r_65)) 9259542123273814144))) wa rfl (ae (vB ((pq .u64 (orI .u64 (orI .u64 r_53 r_57) (orI .u64 r_61 r_65)) 9259542123273814144) == 0)) wa rfl (ae (vB ((pq .u64 (orI .u64 (orI .u64 r_53 r_57) (orI .u64 r_61 r_65)) 9259542123273814144) == 0)) wz rfl (aj ?_))))))
              obtain rfl:=ah h_51
              exact cu
             ·refine aF rfl hc_52 wz (ak wa (ak wa (ak wa (ak wa (ak wa (ak wa (ak wa (ak wa (ak wa (ak wa (ak wa (ak wa (ak wa (ak wa (ak wa (ak wa (ae (vB false) wz rfl (aj ?_))))))))))))))))))
              obtain rfl:=ah h_51
              exact cu
            ·rintro ⟨⟩ _ sl_ H_ hp_ hq_
             refine aL _ hp_ hq_ ?_
             rcases au hc_46 with⟨hc_67,hc_46⟩ | ⟨hc_67,hc_46⟩
             ·refine aA rfl hc_67 (av (aC (aa (ae (vS s_45) wz rfl ?_))))
              obtain ⟨y_68,hy_69,hc_46⟩:=bind_some hc_46
              refine gK un9 rfl rfl hy_69 wz (ae (vS y_68) wz rfl (aj ?_))
              obtain rfl:=ah hc_46
              exact aP (k_40,y_68) hL_47 (Nat.lt_succ_self _) rfl (aJ rfl)
             ·refine ay rfl hc_67 (aQ ?_)
              obtain rfl:=ah hc_46
              obtain rfl:=ah hL_47
              exact aR (s_45) rfl rfl (aJ rfl)
          ·rintro s_45 ho_ sl_ H_ hp_ hq_
           subst ho_
           obtain rfl:=ah h_24
           exact aR () trivial (pick_at [0] hp_ rfl) (pre_at hq_ (aJ rfl))
         ·refine ay rfl hc_37 (av ?_)
          obtain rfl:=ah h_24
          exact cu
       ·refine ay rfl hc_25 (av ?_)
        obtain rfl:=ah h_24
        exact cu
      ·rintro ⟨⟩ _ sl_ H_ hp_ hq_
       refine aL _ hp_ hq_ (aQ ?_)
       obtain rfl:=ah hc_8
       exact aP (k_2,v_23) hL_9 (Nat.lt_succ_self _) rfl (aJ rfl)
    ·refine ay rfl hc_15 (av (af (aa (ae (.d (.int .u8 (b_13.toNat:Int))) wz rfl ?_))))
     cases hc_8
   ·refine ay rfl hc_12 (aQ ?_)
    obtain rfl:=ah hc_8
    obtain rfl:=ah hL_9
    exact aR (s_7) rfl rfl (aJ rfl)
 ·rintro s_7 ho_ sl_ H_ hp_ hq_
  subst ho_
  refine aL _ hp_ hq_ (af (aa (ae (vB true) wz rfl (aj ?_))))
  obtain rfl:=ah hF
  exact aB (aO (.inr rfl) [(vB true)] ⟨rfl,trivial⟩ rfl rfl rfl)
theorem sK {s_1:ByteArray} {c_2:Int} {r:ByteArray} (hF:strings_trimRightByte s_1 c_2=some r) :
  FnM Tryz.prog 273 [(vS s_1),(.d (.int .u8 c_2))] [] (vS r) []:=by
 refine FnM.of_wH ⟨Tryz.prog,23,[],[]⟩ rfl Tryz.func273 rfl rfl (Nat.le_of_ble_eq_true rfl) (by kernel_rfl) ?_
 unfold strings_trimRightByte at hF
 refine af (aa (ae (vS (⟨#[]⟩:ByteArray)) wz rfl (aj (af ?_))))
 obtain ⟨o_11,hj_12,hF⟩:=bind_some hF
 obtain ⟨nq_21,hj_12⟩:=cz hj_12
 refine aH (β:=(ByteArray)) (fun (s_8:ByteArray)=>([(0,(vS s_8))]:List (Nat×V))) (fun (s_8:ByteArray)=>([]:Hp)) (fun p=>o_11 = .go p) ?_ ?_
 ·refine aC (aV (β:=Nat×(ByteArray)) (fun p=>(fun (k_3:Nat) (s_8:ByteArray)=>([(0,(vS s_8)),(1,(.d (.int .u8 c_2)))]:List (Nat×V))) p.1 p.2) (fun p=>(fun (k_3:Nat) (s_8:ByteArray)=>([]:Hp)) p.1 p.2) (fun p=>iterN (fun s=>ig c_2 s) p.1 p.2=some o_11) (fun p=>p.1) (nq_21,s_1) hj_12 rfl (aJ rfl) ?_)
  rintro ⟨k_3,s_8⟩ hL_10
  dsimp only at hL_10
  cases k_3 with
  | zero=>cases hL_10
  | succ k_3 =>
   obtain ⟨c_,hc_9,hL_10⟩:=bind_some hL_10
   unfold ig at hc_9
   refine af (af ?_)
   obtain ⟨v_13,h_14,hc_9⟩:=bind_some hc_9
   refine aH (β:=Unit) (fun _=>([(0,(vS s_8)),(1,(.d (.int .u8 c_2))),(16,(vB v_13))]:List (Nat×V))) (fun _=>([]:Hp)) (fun _=>True) ?_ ?_
   ·refine aa (ae (vS s_8) wz rfl (oM un9 rfl wz (ae (vB (decide ((s_8.size:Int) > 0))) wz rfl ?_)))
    rcases au h_14 with⟨hc_15,h_14⟩ | ⟨hc_15,h_14⟩
    ·refine aF rfl hc_15 wz (ae (vS s_8) wa rfl (ae (vS s_8) wa rfl (oM un9 rfl wa (ae (vI (w64 ((s_8.size:Int) - 1))) wa rfl ?_))))
     obtain ⟨b_16,hy_17,h_14⟩:=bind_some h_14
     refine kP un9 rfl rfl hy_17 wa (ae (.d (.int .u8 c_2)) wa rfl (ae (vB ((b_16.toNat:Int) == c_2)) wa rfl (ae (vB ((b_16.toNat:Int) == c_2)) wz rfl (aj ?_))))
     obtain rfl:=ah h_14
     exact cu
    ·refine aF rfl hc_15 wz (ak wa (ak wa (ak wa (ak wa (ak wa (ak wa (ak wa (ae (vB false) wz rfl (aj ?_)))))))))
     obtain rfl:=ah h_14
     exact cu
   ·rintro ⟨⟩ _ sl_ H_ hp_ hq_
    refine aL _ hp_ hq_ ?_
    rcases au hc_9 with⟨hc_18,hc_9⟩ | ⟨hc_18,hc_9⟩
    ·refine aA rfl hc_18 (av (aC (aa (ae (vS s_8) wz rfl (ae (vS s_8) wz rfl (oM un9 rfl wz (ae (vI (w64 ((s_8.size:Int) - 1))) wz rfl ?_)))))))
     obtain ⟨y_19,hy_20,hc_9⟩:=bind_some hc_9
     refine CY un9 rfl rfl hy_20 wz (ae (vS y_19) wz rfl (aj ?_))
     obtain rfl:=ah hc_9
     exact aP (k_3,y_19) hL_10 (Nat.lt_succ_self _) rfl (aJ rfl)
    ·refine ay rfl hc_18 (aQ ?_)
     obtain rfl:=ah hc_9
     obtain rfl:=ah hL_10
     exact aR (s_8) rfl rfl (aJ rfl)
 ·rintro s_8 ho_ sl_ H_ hp_ hq_
  subst ho_
  refine aL _ hp_ hq_ (af (aa (ae (vS s_8) wz rfl (ae (vS s_8) wz rfl (aj ?_)))))
  obtain rfl:=ah hF
  exact aB (aO (.inr rfl) [(vS s_8)] ⟨rfl,trivial⟩ rfl rfl rfl)
theorem sS {s_1:ByteArray} {c_2:Int} {r:ByteArray} (hF:strings_trimLeftByte s_1 c_2=some r) :
  FnM Tryz.prog 272 [(vS s_1),(.d (.int .u8 c_2))] [] (vS r) []:=by
 refine FnM.of_wH ⟨Tryz.prog,17,[],[]⟩ rfl Tryz.func272 rfl rfl (Nat.le_of_ble_eq_true rfl) (by kernel_rfl) ?_
 unfold strings_trimLeftByte at hF
 refine af (aa (ae (vS (⟨#[]⟩:ByteArray)) wz rfl (aj (af ?_))))
 obtain ⟨o_11,hj_12,hF⟩:=bind_some hF
 obtain ⟨nq_21,hj_12⟩:=cz hj_12
 refine aH (β:=(ByteArray)) (fun (s_8:ByteArray)=>([(0,(vS s_8))]:List (Nat×V))) (fun (s_8:ByteArray)=>([]:Hp)) (fun p=>o_11 = .go p) ?_ ?_
 ·refine aC (aV (β:=Nat×(ByteArray)) (fun p=>(fun (k_3:Nat) (s_8:ByteArray)=>([(0,(vS s_8)),(1,(.d (.int .u8 c_2)))]:List (Nat×V))) p.1 p.2) (fun p=>(fun (k_3:Nat) (s_8:ByteArray)=>([]:Hp)) p.1 p.2) (fun p=>iterN (fun s=>iB c_2 s) p.1 p.2=some o_11) (fun p=>p.1) (nq_21,s_1) hj_12 rfl (aJ rfl) ?_)
  rintro ⟨k_3,s_8⟩ hL_10
  dsimp only at hL_10
  cases k_3 with
  | zero=>cases hL_10
  | succ k_3 =>
   obtain ⟨c_,hc_9,hL_10⟩:=bind_some hL_10
   unfold iB at hc_9
   refine af (af ?_)
   obtain ⟨v_13,h_14,hc_9⟩:=bind_some hc_9
   refine aH (β:=Unit) (fun _=>([(0,(vS s_8)),(1,(.d (.int .u8 c_2))),(13,(vB v_13))]:List (Nat×V))) (fun _=>([]:Hp)) (fun _=>True) ?_ ?_
   ·refine aa (ae (vS s_8) wz rfl (oM un9 rfl wz (ae (vB (decide ((s_8.size:Int) > 0))) wz rfl ?_)))
    rcases au h_14 with⟨hc_15,h_14⟩ | ⟨hc_15,h_14⟩
    ·refine aF rfl hc_15 wz (ae (vS s_8) wa rfl ?_)
     obtain ⟨b_16,hy_17,h_14⟩:=bind_some h_14
     refine kP un9 rfl rfl hy_17 wa (ae (.d (.int .u8 c_2)) wa rfl (ae (vB ((b_16.toNat:Int) == c_2)) wa rfl (ae (vB ((b_16.toNat:Int) == c_2)) wz rfl (aj ?_))))
     obtain rfl:=ah h_14
     exact cu
    ·refine aF rfl hc_15 wz (ak wa (ak wa (ak wa (ak wa (ae (vB false) wz rfl (aj ?_))))))
     obtain rfl:=ah h_14
     exact cu
   ·rintro ⟨⟩ _ sl_ H_ hp_ hq_
    refine aL _ hp_ hq_ ?_
    rcases au hc_9 with⟨hc_18,hc_9⟩ | ⟨hc_18,hc_9⟩
    ·refine aA rfl hc_18 (av (aC (aa (ae (vS s_8) wz rfl ?_))))
     obtain ⟨y_19,hy_20,hc_9⟩:=bind_some hc_9
     refine gK un9 rfl rfl hy_20 wz (ae (vS y_19) wz rfl (aj ?_))
     obtain rfl:=ah hc_9
     exact aP (k_3,y_19) hL_10 (Nat.lt_succ_self _) rfl (aJ rfl)
    ·refine ay rfl hc_18 (aQ ?_)
     obtain rfl:=ah hc_9
     obtain rfl:=ah hL_10
     exact aR (s_8) rfl rfl (aJ rfl)
 ·rintro s_8 ho_ sl_ H_ hp_ hq_
  subst ho_
  refine aL _ hp_ hq_ (af (aa (ae (vS s_8) wz rfl (ae (vS s_8) wz rfl (aj ?_)))))
  obtain rfl:=ah hF
  exact aB (aO (.inr rfl) [(vS s_8)] ⟨rfl,trivial⟩ rfl rfl rfl)
theorem BF {s_1:ByteArray} {cutset_2:ByteArray} {r:ByteArray} (hF:nX s_1 cutset_2=some r) :
  FnM Tryz.prog 211 [(vS s_1),(vS cutset_2)] [] (vS r) []:=by
 refine FnM.of_wH ⟨Tryz.prog,43,[],[]⟩ rfl Tryz.func211 rfl rfl (Nat.le_of_ble_eq_true rfl) (by kernel_rfl) ?_
 unfold nX at hF
 refine af (aa (ae (vS (⟨#[]⟩:ByteArray)) wz rfl (aj (af (af ?_)))))
 obtain ⟨v_3,h_4,hF⟩:=bind_some hF
 refine aH (β:=Unit) (fun _=>([(0,(vS s_1)),(1,(vS cutset_2)),(12,(vB v_3))]:List (Nat×V))) (fun _=>([]:Hp)) (fun _=>True) ?_ ?_
 ·refine aa (ae (vS s_1) wz rfl (ae (vB (sEq s_1 (⟨#[]⟩:ByteArray))) wz rfl ?_))
  rcases au h_4 with⟨hc_5,h_4⟩ | ⟨hc_5,h_4⟩
  ·refine aF rfl hc_5 wz (ak wa (ak wa (ae (vB true) wz rfl (aj ?_))))
   obtain rfl:=ah h_4
   exact cu
  ·refine aF rfl hc_5 wz (ae (vS cutset_2) wa rfl (ae (vB (sEq cutset_2 (⟨#[]⟩:ByteArray))) wa rfl (ae (vB (sEq cutset_2 (⟨#[]⟩:ByteArray))) wz rfl (aj ?_))))
   obtain rfl:=ah h_4
   exact cu
 ·rintro ⟨⟩ _ sl_ H_ hp_ hq_
  refine aL _ hp_ hq_ ?_
  rcases au hF with⟨hc_6,hF⟩ | ⟨hc_6,hF⟩
  ·refine aA rfl hc_6 (af (aa (ae (vS s_1) wz rfl (ae (vS s_1) wz rfl (aj ?_)))))
   obtain rfl:=ah hF
   exact aB (aO (.inr rfl) [(vS s_1)] ⟨rfl,trivial⟩ rfl rfl rfl)
  ·refine ay rfl hc_6 (av (af (af ?_)))
   obtain ⟨v_7,h_8,hF⟩:=bind_some hF
   refine aH (β:=Unit) (fun _=>([(0,(vS s_1)),(1,(vS cutset_2)),(21,(vB v_7))]:List (Nat×V))) (fun _=>([]:Hp)) (fun _=>True) ?_ ?_
   ·refine aa (ae (vS cutset_2) wz rfl (oM un9 rfl wz (ae (vB ((cutset_2.size:Int) == 1)) wz rfl ?_)))
    rcases au h_8 with⟨hc_9,h_8⟩ | ⟨hc_9,h_8⟩
    ·refine aF rfl hc_9 wz (ae (vS cutset_2) wa rfl ?_)
     obtain ⟨b_10,hy_11,h_8⟩:=bind_some h_8
     refine kP un9 rfl rfl hy_11 wa (ae (vB (decide ((b_10.toNat:Int) < 128))) wa rfl (ae (vB (decide ((b_10.toNat:Int) < 128))) wz rfl (aj ?_)))
     obtain rfl:=ah h_8
     exact cu
    ·refine aF rfl hc_9 wz (ak wa (ak wa (ak wa (ae (vB false) wz rfl (aj ?_)))))
     obtain rfl:=ah h_8
     exact cu
   ·rintro ⟨⟩ _ sl_ H_ hp_ hq_
    refine aL _ hp_ hq_ ?_
    rcases au hF with⟨hc_12,hF⟩ | ⟨hc_12,hF⟩
    ·refine aA rfl hc_12 (af (bC (ae (vS s_1) wz rfl (ae (vS cutset_2) wz rfl ?_))))
     obtain ⟨b_13,hy_14,hF⟩:=bind_some hF
     refine kP un9 rfl rfl hy_14 wz ?_
     obtain ⟨r_15,hr_16,hF⟩:=bind_some hF
     refine aG (sK hr_16) rfl hb273 rfl rfl rfl rfl wz (ae (vS cutset_2) wz rfl ?_)
     obtain ⟨b_17,hy_18,hF⟩:=bind_some hF
     refine kP un9 rfl rfl hy_18 wz ?_
     obtain ⟨r_19,hr_20,hF⟩:=bind_some hF
     refine aG (sS hr_20) rfl hb272 rfl rfl rfl rfl wz (ae (vS r_19) wz rfl (aj ?_))
     obtain rfl:=ah hF
     exact aB (aO (.inr rfl) [(vS r_19)] ⟨rfl,trivial⟩ rfl rfl rfl)
    ·refine ay rfl hc_12 (av (af (af (aa (ae (vS cutset_2) wz rfl ?_)))))
     cases hF
theorem xQ {x0:ByteArray} {x1:ByteArray} {r:Bool} (hF:strings_Contains x0 x1=some r) :
  FnM Tryz.prog 212 [(vS x0),(vS x1)] [] (vB r) [] :=
 GI Tryz.strings_Contains H6 hF
end Go.Proofs.YtjhcehhmdmbleaaGreatDoor.Law

