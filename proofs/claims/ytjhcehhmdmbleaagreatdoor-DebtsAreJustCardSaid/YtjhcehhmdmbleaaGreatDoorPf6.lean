/-
 The machine computes these plain functions (written by a program of ours).
-/
import Derived.Test.YtjhcehhmdmbleaaGreatDoorFacts
import Derived.Test.YtjhcehhmdmbleaaGreatDoorDefs
import Derived.Test.YtjhcehhmdmbleaaGreatDoorPf5
open Go Go.Eng Go.Proofs
namespace Go.Proofs.YtjhcehhmdmbleaaGreatDoor.Law
set_option maxRecDepth 100000
set_option linter.unusedVariables false
set_option maxHeartbeats 1000000
theorem uw {a_1:Beat} {b_2:Beat} {r:Int} (hF:jL a_1 b_2=some r) :
  FnM Tryz.prog 267 [(.d (.agg (Beat.enc a_1))),(.d (.agg (Beat.enc b_2)))] [] (vI r) []:=by
 refine FnM.of_wH ⟨Tryz.prog,17,[],[]⟩ rfl Tryz.func267 rfl rfl (Nat.le_of_ble_eq_true rfl) (by kernel_rfl) ?_
 unfold jL at hF
 refine af (aa (fB 0 (.inl rfl) [(vS a_1.Player),(vI a_1.At),(vI a_1.Clock)] rfl rfl wz (fun n_3=>fB 0 (.inl rfl) [(vS b_2.Player),(vI b_2.At),(vI b_2.Clock)] rfl rfl wz (fun n_4=>ae (vI 0) wz rfl (aj (af (bA (aG vF rfl 0 rfl wz (aC 1 0 (.inr (by kernel_rfl)) (fun _ _ ag=>trivial) sz9 ag9 rfl rfl (vS a_1.Player) rfl wz (aG vF rfl 0 rfl wz (aC 3 1 (.inr (by kernel_rfl)) (fun _ _ ag=>⟨.inl ⟨rfl,rfl⟩,trivial⟩) sz9 ag9 rfl rfl (vS b_2.Player) rfl wz ?_)))))))))))
 obtain ⟨r_5,hr_6,hF⟩:=bind_some hF
 refine aF (gq hr_6) rfl CG rfl rfl rfl rfl wz (aG xS rfl 1 rfl wz (aC 6 0 (.inr (by kernel_rfl)) (fun _ _ ag=>⟨.inl ⟨rfl,rfl⟩,⟨.inl ⟨rfl,rfl⟩,trivial⟩⟩) sz3 ag3 rfl rfl (vI a_1.At) rfl wz (aG xS rfl 1 rfl wz (aC 8 1 (.inr (by kernel_rfl)) (fun _ _ ag=>⟨.inl ⟨rfl,rfl⟩,⟨.inl ⟨rfl,rfl⟩,⟨.inl ⟨rfl,rfl⟩,trivial⟩⟩⟩) sz3 ag3 rfl rfl (vI b_2.At) rfl wz ?_))))
 obtain ⟨r_7,hr_8,hF⟩:=bind_some hF
 refine aF (mr hr_8) rfl J7 rfl rfl rfl rfl wz (eQ (([r_5,r_7]:List Int).map eI) nM Di rfl rfl rfl rfl rfl wz ?_)
 obtain ⟨r_9,hr_10,hF⟩:=bind_some hF
 refine aF (oq hr_10) rfl HZ rfl rfl rfl rfl wz (ae (vI r_9) wz rfl (aj ?_))
 obtain rfl:=ah hF
 exact aB (aP (.inr rfl) [(vI r_9)] ⟨rfl,trivial⟩ rfl rfl rfl)
theorem vW {l_1:(List Beat)} {r:Int} (hF:jD l_1=some r) :
  FnM Tryz.prog 202 [(vL Beat.enc l_1)] [] (vI r) []:=by
 refine FnM.of_wH ⟨Tryz.prog,69,[],[]⟩ rfl Tryz.func202 rfl rfl (Nat.le_of_ble_eq_true rfl) (by kernel_rfl) ?_
 unfold jD at hF
 refine af (aa (ae (vI 0) wz rfl (aj (af (af (aa (ae (vL Beat.enc l_1) wz rfl (bO JI rfl wz (ae (vB (decide ((l_1.length:Int) > 500))) wz rfl (aj ?_))))))))))
 rcases ak hF with⟨hc_2,hF⟩ | ⟨hc_2,hF⟩
 ·refine ay rfl hc_2 (af (aa (ae (vI 2) wz rfl (aj ?_))))
  obtain rfl:=ah hF
  exact aB (aP (.inr rfl) [(vI 2)] ⟨rfl,trivial⟩ rfl rfl rfl)
 ·refine ax rfl hc_2 (au (af (af (aa (ae (vL Beat.enc l_1) wz rfl (bO JI rfl wz (ae (vI 0) wz rfl (aj ?_))))))))
  obtain ⟨o_11,hj_12,hF⟩:=bind_some hF
  obtain ⟨hn_7,hj_12⟩:=aW hj_12
  refine aD (β:=(Unit)) (fun (s_8:Unit)=>([]:List (Nat×V))) (fun (s_8:Unit)=>([]:Hp)) (fun p=>o_11 = .go p) ?_ ?_
  ·refine aA (aV (β:=Nat×(List Beat)×(Unit)) (fun p=>(fun (k_3:Nat) (l_4:List Beat) (s_8:Unit)=>([(0,(vL Beat.enc l_1)),(8,(vL Beat.enc l_1)),(9,(vI (l_1.length:Int))),(10,(vI (k_3:Int)))]:List (Nat×V))) p.1 p.2.1 p.2.2) (fun p=>(fun (k_3:Nat) (l_4:List Beat) (s_8:Unit)=>([]:Hp)) p.1 p.2.1 p.2.2) (fun p=>forR (fun k x s=>ik l_1 k x s) p.2.1 p.1 p.2.2=some o_11∧(l_1).drop p.1=p.2.1) (fun p=>p.2.1.length) (0,l_1,()) ⟨hj_12,rfl⟩ rfl (aI rfl) ?_)
   rintro ⟨k_3,l_4,s_8⟩ ⟨hL_10,hD_6⟩
   dsimp only at hL_10 hD_6
   cases l_4 with
   | nil =>
    obtain rfl:=ah hL_10
    refine af (aa (ae (vB (decide ((k_3:Int) < (l_1.length:Int)))) wz rfl (aj ?_)))
    refine af (ax rfl (drop_nil hD_6) (aS ?_))
    exact aO (s_8) rfl rfl (aI rfl)
   | cons x_5 l_4 =>
    obtain ⟨c_,hc_9,hL_10⟩:=bind_some hL_10
    refine af (aa (ae (vB (decide ((k_3:Int) < (l_1.length:Int)))) wz rfl (aj ?_)))
    refine af (ay rfl (aX hD_6) (au ?_))
    unfold ik at hc_9
    refine af (aA (af (aa (ae (vI (k_3:Int)) wz rfl (dI CE rfl rfl (bC hD_6) rfl wz (bG CW Il rfl (.d (.agg (Beat.enc x_5))) rfl wz (dh 0 (.inl rfl) z157 rfl wz (fun n_13=>ae (vI (k_3:Int)) wz rfl (fD 0 il ft 0 CW rfl rfl [(vS x_5.Player),(vI x_5.At),(vI x_5.Clock)] rfl wz (aj (aA (af (aa (aG vF rfl 0 rfl wz (aC 0 0 il ft sz9 ag9 rfl rfl (vS x_5.Player) rfl wz ?_)))))))))))))))
    obtain ⟨r_14,hr_15,hc_9⟩:=bind_some hc_9
    refine aF (eB hr_15) rfl rV rfl rfl rfl rfl wz (ae (vB (!r_14)) wz rfl (ae (vB (!r_14)) wz rfl (aj ?_)))
    rcases ak hc_9 with⟨hc_16,hc_9⟩ | ⟨hc_16,hc_9⟩
    ·refine ay rfl hc_16 (af (aa (ae (vI 5) wz rfl (aj ?_))))
     obtain rfl:=ah hc_9
     obtain rfl:=ah hL_10
     obtain rfl:=ah hF
     exact aB (aP (.inr rfl) [(vI 5)] ⟨rfl,trivial⟩ rfl rfl rfl)
    ·refine ax rfl hc_16 (af ?_)
     obtain ⟨v_17,h_18,hc_9⟩:=bind_some hc_9
     refine aD (β:=Unit) (fun _=>([(0,(vL Beat.enc l_1)),(3,(vI (k_3:Int))),(4,(.ref n_13 0 0)),(8,(vL Beat.enc l_1)),(9,(vI (l_1.length:Int))),(10,(vI (k_3:Int))),(20,(vB v_17))]:List (Nat×V))) (fun _=>([(n_13,some (.cells 3 [(vS x_5.Player),(vI x_5.At),(vI x_5.Clock)]))]:Hp)) (fun _=>True) ?_ ?_
     ·refine aa (aG xS rfl 1 rfl wz (aC 0 0 il ft sz3 ag3 rfl rfl (vI x_5.At) rfl wz ?_))
      obtain ⟨r_19,hr_20,h_18⟩:=bind_some h_18
      refine aF (eU hr_20) rfl xK rfl rfl rfl rfl wz (ae (vB (!r_19)) wz rfl ?_)
      rcases ak h_18 with⟨hc_21,h_18⟩ | ⟨hc_21,h_18⟩
      ·refine av rfl hc_21 wz (ai wa (ai wa (ai wa (ae (vB true) wz rfl (ae (vB true) wz rfl (aj ?_))))))
       obtain rfl:=ah h_18
       exact cu
      ·refine av rfl hc_21 wz (aG yj rfl 2 rfl wa (aC 0 0 il ft sz3 ag3 rfl rfl (vI x_5.Clock) rfl wa ?_))
       obtain ⟨r_22,hr_23,h_18⟩:=bind_some h_18
       refine aF (aY hr_23) rfl pM rfl rfl rfl rfl wa (ae (vB r_22) wz rfl (ae (vB r_22) wz rfl (aj ?_)))
       obtain rfl:=ah h_18
       exact cu
     ·rintro ⟨⟩ _ sl_ H_ hp_ hq_
      refine aK _ hp_ hq_ ?_
      rcases ak hc_9 with⟨hc_24,hc_9⟩ | ⟨hc_24,hc_9⟩
      ·refine ay rfl hc_24 (af (aa (ae (vI 1) wz rfl (aj ?_))))
       obtain rfl:=ah hc_9
       obtain rfl:=ah hL_10
       obtain rfl:=ah hF
       exact aB (aP (.inr rfl) [(vI 1)] ⟨rfl,trivial⟩ rfl rfl rfl)
      ·refine ax rfl hc_24 (af ?_)
       obtain ⟨v_25,h_26,hc_9⟩:=bind_some hc_9
       refine aD (β:=Unit) (fun _=>([(0,(vL Beat.enc l_1)),(3,(vI (k_3:Int))),(4,(.ref n_13 0 0)),(8,(vL Beat.enc l_1)),(9,(vI (l_1.length:Int))),(10,(vI (k_3:Int))),(30,(vB v_25))]:List (Nat×V))) (fun _=>([(n_13,some (.cells 3 [(vS x_5.Player),(vI x_5.At),(vI x_5.Clock)]))]:Hp)) (fun _=>True) ?_ ?_
       ·refine bA (ae (vI (k_3:Int)) wz rfl (ae (vB (decide ((k_3:Int) > 0))) wz rfl ?_))
        rcases ak h_26 with⟨hc_27,h_26⟩ | ⟨hc_27,h_26⟩
        ·refine av rfl hc_27 wz (ae (vL Beat.enc l_1) wa rfl (ae (vI (k_3:Int)) wa rfl (ae (vI (w64 ((k_3:Int) - 1))) wa rfl ?_)))
         obtain ⟨y_28,hy_29,h_26⟩:=bind_some h_26
         refine dI CE rfl rfl hy_29 rfl wa (bG CW Il rfl (.d (.agg (Beat.enc y_28))) rfl wa (aC 8 0 (.inr (by kernel_rfl)) (fun _ _ ag=>trivial) CW Il rfl rfl (.d (.agg (Beat.enc x_5))) rfl wa ?_))
         obtain ⟨r_30,hr_31,h_26⟩:=bind_some h_26
         refine aF (uw hr_31) rfl hb267 rfl rfl rfl rfl wa (ae (vB (decide (r_30≥0))) wa rfl (ae (vB (decide (r_30≥0))) wz rfl (ae (vB (decide (r_30≥0))) wz rfl (aj ?_))))
         obtain rfl:=ah h_26
         exact cu
        ·refine av rfl hc_27 wz (ai wa (ai wa (ai wa (ai wa (ai wa (ai wa (ai wa (ai wa (ae (vB false) wz rfl (ae (vB false) wz rfl (aj ?_)))))))))))
         obtain rfl:=ah h_26
         exact cu
       ·rintro ⟨⟩ _ sl_ H_ hp_ hq_
        refine aK _ hp_ hq_ ?_
        rcases ak hc_9 with⟨hc_32,hc_9⟩ | ⟨hc_32,hc_9⟩
        ·refine ay rfl hc_32 (af (aa (ae (vI 7) wz rfl (aj ?_))))
         obtain rfl:=ah hc_9
         obtain rfl:=ah hL_10
         obtain rfl:=ah hF
         exact aB (aP (.inr rfl) [(vI 7)] ⟨rfl,trivial⟩ rfl rfl rfl)
        ·refine ax rfl hc_32 (af ?_)
         obtain ⟨v_33,h_34,hc_9⟩:=bind_some hc_9
         refine aD (β:=Unit) (fun _=>([(0,(vL Beat.enc l_1)),(8,(vL Beat.enc l_1)),(9,(vI (l_1.length:Int))),(10,(vI (k_3:Int))),(43,(vB v_33))]:List (Nat×V))) (fun _=>([(n_13,some (.cells 3 [(vS x_5.Player),(vI x_5.At),(vI x_5.Clock)]))]:Hp)) (fun _=>True) ?_ ?_
         ·refine bA (ae (vI (k_3:Int)) wz rfl (ae (vB (decide ((k_3:Int) > 0))) wz rfl ?_))
          rcases ak h_34 with⟨hc_35,h_34⟩ | ⟨hc_35,h_34⟩
          ·refine av rfl hc_35 wz (aG vF rfl 0 rfl wa (aC 4 0 (.inr (by kernel_rfl)) (fun _ _ ag=>trivial) sz9 ag9 rfl rfl (vS x_5.Player) rfl wa (ae (vL Beat.enc l_1) wa rfl (ae (vI (k_3:Int)) wa rfl (ae (vI (w64 ((k_3:Int) - 1))) wa rfl ?_)))))
           obtain ⟨y_36,hy_37,h_34⟩:=bind_some h_34
           refine dI CE rfl rfl hy_37 rfl wa (pq vF rfl [.str y_36.Player,.int .i64 y_36.At,.int .i64 y_36.Clock] rfl rfl wa (bG sz9 ag9 rfl (vS y_36.Player) rfl wa (ae (vB (sEq x_5.Player y_36.Player)) wa rfl (ae (vB (sEq x_5.Player y_36.Player)) wz rfl ?_))))
           rcases ak h_34 with⟨hc_38,h_34⟩ | ⟨hc_38,h_34⟩
           ·refine av rfl hc_38 wz (aG yj rfl 2 rfl wa (aC 15 0 (.inr (by kernel_rfl)) (fun _ _ ag=>⟨.inl ⟨rfl,rfl⟩,trivial⟩) sz3 ag3 rfl rfl (vI x_5.Clock) rfl wa (ae (vL Beat.enc l_1) wa rfl (ae (vI (k_3:Int)) wa rfl (ae (vI (w64 ((k_3:Int) - 1))) wa rfl ?_)))))
            obtain ⟨y_39,hy_40,h_34⟩:=bind_some h_34
            refine dI CE rfl rfl hy_40 rfl wa (pq yj rfl [.int .i64 y_39.Clock] rfl rfl wa (bG sz3 ag3 rfl (vI y_39.Clock) rfl wa (ae (vB (decide (x_5.Clock≤y_39.Clock))) wa rfl (ae (vB (decide (x_5.Clock≤y_39.Clock))) wz rfl (ae (vB (decide (x_5.Clock≤y_39.Clock))) wz rfl (aj ?_))))))
            obtain rfl:=ah h_34
            exact cu
           ·refine av rfl hc_38 wz (ai wa (ai wa (ai wa (ai wa (ai wa (ai wa (ai wa (ai wa (ai wa (ae (vB false) wz rfl (ae (vB false) wz rfl (aj ?_))))))))))))
            obtain rfl:=ah h_34
            exact cu
          ·refine av rfl hc_35 wz (ai wa (ai wa (ai wa (ai wa (ai wa (ai wa (ai wa (ai wa (ai wa (ae (vB false) wz rfl (ae (vB false) wz rfl (ai wa (ai wa (ai wa (ai wa (ai wa (ai wa (ai wa (ai wa (ai wa (ae (vB false) wz rfl (ae (vB false) wz rfl (aj ?_)))))))))))))))))))))))
           obtain rfl:=ah h_34
           exact cu
         ·rintro ⟨⟩ _ sl_ H_ hp_ hq_
          refine aK _ hp_ hq_ ?_
          rcases ak hc_9 with⟨hc_41,hc_9⟩ | ⟨hc_41,hc_9⟩
          ·refine ay rfl hc_41 (af (aa (ae (vI 16) wz rfl (aj ?_))))
           obtain rfl:=ah hc_9
           obtain rfl:=ah hL_10
           obtain rfl:=ah hF
           exact aB (aP (.inr rfl) [(vI 16)] ⟨rfl,trivial⟩ rfl rfl rfl)
          ·refine ax rfl hc_41 (au (aa (dY (bn hD_6 hn_7) wz rfl (ae (vI ((k_3 + 1:Nat):Int)) wz rfl (aj ?_)))))
           obtain rfl:=ah hc_9
           exact aU (k_3 + 1,l_4,()) ⟨hL_10,aR hD_6⟩ (Nat.lt_succ_self _) rfl (aI rfl)
  ·rintro s_8 ho_ sl_ H_ hp_ hq_
   subst ho_
   refine aK _ hp_ hq_ (af (aa (ae (vI 0) wz rfl (aj ?_))))
   obtain rfl:=ah hF
   exact aB (aP (.inr rfl) [(vI 0)] ⟨rfl,trivial⟩ rfl rfl rfl)
theorem yu {l_1:(List Beat)} {player_2:ByteArray} {back_3:Bool} {r:(List Beat_)} (hF:oo l_1 player_2 back_3=some r) :
  FnM Tryz.prog 204 [(vL Beat.enc l_1),(vS player_2),(vB back_3)] [] (vL Beat_.enc r) []:=by
 refine FnM.of_wH ⟨Tryz.prog,41,[],[]⟩ rfl Tryz.func204 rfl rfl (Nat.le_of_ble_eq_true rfl) (by kernel_rfl) ?_
 unfold oo at hF
 refine af (aa (ae .nil wz rfl (aj (af (aa (ae .nil wz rfl (aj (af (af (aa (ae (vL Beat.enc l_1) wz rfl (bO JI rfl wz (ae (vI 0) wz rfl (aj (lT (fun n_10 => ?_))))))))))))))))
 obtain ⟨o_15,hj_16,hF⟩:=bind_some hF
 obtain ⟨hn_8,hj_16⟩:=aW hj_16
 refine aD (β:=((List Beat_))×Nm) (fun p=>(fun (s_9:(List Beat_)) (n_12:Nm)=>([(7,(gV n_12 2 s_9))]:List (Nat×V))) p.1 p.2) (fun p=>(fun (s_9:(List Beat_)) (n_12:Nm)=>([(n_12,gB 2 Beat_.enc s_9)]:Hp)) p.1 p.2) (fun p=>o_15 = .go p.1) ?_ ?_
 ·refine aA (aV (β:=Nat×(List Beat)×((List Beat_))×Nm) (fun p=>(fun (k_4:Nat) (l_5:List Beat) (s_9:(List Beat_)) (n_12:Nm)=>([(1,(vS player_2)),(2,(vB back_3)),(7,(gV n_12 2 s_9)),(10,(vL Beat.enc l_1)),(11,(vI (l_1.length:Int))),(12,(vI (k_4:Int)))]:List (Nat×V))) p.1 p.2.1 p.2.2.1 p.2.2.2) (fun p=>(fun (k_4:Nat) (l_5:List Beat) (s_9:(List Beat_)) (n_12:Nm)=>([(n_12,gB 2 Beat_.enc s_9)]:Hp)) p.1 p.2.1 p.2.2.1 p.2.2.2) (fun p=>forR (fun k x s=>nO player_2 back_3 k x s) p.2.1 p.1 p.2.2.1=some o_15∧(l_1).drop p.1=p.2.1) (fun p=>p.2.1.length) (0,l_1,([]:List Beat_),n_10) ⟨hj_16,rfl⟩ rfl (aI rfl) ?_)
  rintro ⟨k_4,l_5,s_9,n_12⟩ ⟨hL_14,hD_7⟩
  dsimp only at hL_14 hD_7
  cases l_5 with
  | nil =>
   obtain rfl:=ah hL_14
   refine af (aa (ae (vB (decide ((k_4:Int) < (l_1.length:Int)))) wz rfl (aj ?_)))
   refine af (ax rfl (drop_nil hD_7) (aS ?_))
   exact aO (s_9,n_12) rfl rfl (aI rfl)
  | cons x_6 l_5 =>
   obtain ⟨c_,hc_13,hL_14⟩:=bind_some hL_14
   refine af (aa (ae (vB (decide ((k_4:Int) < (l_1.length:Int)))) wz rfl (aj ?_)))
   refine af (ay rfl (aX hD_7) (au ?_))
   unfold nO at hc_13
   refine af (aA (af (aa (dI CE rfl rfl (bC hD_7) rfl wz (bG CW Il rfl (.d (.agg (Beat.enc x_6))) rfl wz (dh 0 (.inl rfl) z157 rfl wz (fun n_17=>fD 0 il ft 1 CW rfl rfl [(vS x_6.Player),(vI x_6.At),(vI x_6.Clock)] rfl wz (aj (aA (af (aa (aG vF rfl 0 rfl wz (aC 0 1 il ft sz9 ag9 rfl rfl (vS x_6.Player) rfl wz (ae (vS player_2) wz rfl (ae (vB (sNe x_6.Player player_2)) wz rfl (ae (vB (sNe x_6.Player player_2)) wz rfl (aj ?_)))))))))))))))))
   obtain ⟨v_18,h_19,hc_13⟩:=bind_some hc_13
   refine aD (β:=Nm) (fun (n_20:Nm)=>([(1,(vS player_2)),(2,(vB back_3)),(7,(gV n_20 2 v_18)),(10,(vL Beat.enc l_1)),(11,(vI (l_1.length:Int))),(12,(vI (k_4:Int)))]:List (Nat×V))) (fun (n_20:Nm)=>([(n_20,gB 2 Beat_.enc v_18),(n_17,some (.cells 3 [(vS x_6.Player),(vI x_6.At),(vI x_6.Clock)]))]:Hp)) (fun _=>True) ?_ ?_
   ·rcases ak h_19 with⟨hc_21,h_19⟩ | ⟨hc_21,h_19⟩
    ·refine ay rfl hc_21 (au ?_)
     obtain rfl:=ah h_19
     exact aO n_12 trivial rfl (aI rfl)
    ·refine ax rfl hc_21 (af (aa (ae (vB back_3) wz rfl (ae (vB back_3) wz rfl (aj ?_)))))
     rcases ak h_19 with⟨hc_22,h_19⟩ | ⟨hc_22,h_19⟩
     ·refine ay rfl hc_22 (aa (ae (gV n_12 2 s_9) wz rfl (aG xS rfl 1 rfl wz (aC 0 1 il ft sz3 ag3 rfl rfl (vI x_6.At) rfl wz (aG yj rfl 2 rfl wz (aC 0 1 il ft sz3 ag3 rfl rfl (vI x_6.Clock) rfl wz (ae (.d (.agg (Beat_.enc (⟨x_6.At,x_6.Clock⟩:Beat_)))) wz (by kernel_rfl) (eQ (([(⟨x_6.At,x_6.Clock⟩:Beat_)]:List Beat_).map Beat_.enc) xZ ez272 rfl rfl rfl rfl rfl wz ?_))))))))
      obtain ⟨a_23,hz_24,h_19⟩:=bind_some h_19
      refine jT 0 il ft (i:=0) Io Io Cv z316 rfl (by decide) by316 (by decide) (fun _=>rfl) rfl rfl rfl hz_24 wz (fun n_25=>ae (gV n_25 2 a_23) wz rfl (aj ?_))
      obtain rfl:=ah h_19
      exact aO n_25 trivial rfl (aI rfl)
     ·refine ax rfl hc_22 (aa (ae (gV n_12 2 s_9) wz rfl (aG yj rfl 2 rfl wz (aC 0 1 il ft sz3 ag3 rfl rfl (vI x_6.Clock) rfl wz (aG xS rfl 1 rfl wz (aC 0 1 il ft sz3 ag3 rfl rfl (vI x_6.At) rfl wz (ae (.d (.agg (Beat_.enc (⟨x_6.Clock,x_6.At⟩:Beat_)))) wz (by kernel_rfl) (eQ (([(⟨x_6.Clock,x_6.At⟩:Beat_)]:List Beat_).map Beat_.enc) xZ ez272 rfl rfl rfl rfl rfl wz ?_))))))))
      obtain ⟨a_26,hz_27,h_19⟩:=bind_some h_19
      refine jT 0 il ft (i:=0) Io Io Cv z316 rfl (by decide) by316 (by decide) (fun _=>rfl) rfl rfl rfl hz_27 wz (fun n_28=>ae (gV n_28 2 a_26) wz rfl (aj ?_))
      obtain rfl:=ah h_19
      exact aO n_28 trivial rfl (aI rfl)
   ·rintro n_20 _ sl_ H_ hp_ hq_
    refine aK _ hp_ hq_ (aa (dY (bn hD_7 hn_8) wz rfl (ae (vI ((k_4 + 1:Nat):Int)) wz rfl (aj ?_))))
    obtain rfl:=ah hc_13
    exact aU (k_4 + 1,l_5,v_18,n_20) ⟨hL_14,aR hD_7⟩ (Nat.lt_succ_self _) rfl (aI rfl)
 ·rintro ⟨s_9,n_12⟩ ho_ sl_ H_ hp_ hq_
  subst ho_
  refine aK _ hp_ hq_ (af (aa (ae (gV n_12 2 s_9) wz rfl (ae (gV n_12 2 s_9) wz rfl (aj (gM 0 rfl (dQ 6 0 rfl rfl (dQ 7 0 rfl rfl (dQ 40 0 rfl rfl ?_)))))))))
  obtain rfl:=ah hF
  exact aB (aP (.inr rfl) [(vL Beat_.enc s_9)] ⟨rfl,trivial⟩ rfl rfl rfl)
theorem zD {l_1:(List Beat_)} {n_2:Int} {r:Int×Int} (hF:mQ l_1 n_2=some r) :
  FnM Tryz.prog 203 [(vL Beat_.enc l_1),(vI n_2)] [] (.tup [(vI r.1),(vI r.2)]) []:=by
 refine FnM.of_wH ⟨Tryz.prog,108,[],[]⟩ rfl Tryz.func203 rfl rfl (Nat.le_of_ble_eq_true rfl) (by kernel_rfl) ?_
 unfold mQ at hF
 refine af (aa (ae (vI 0) wz rfl (ae (vI 0) wz rfl (aj (af (af (aa (ae (vL Beat_.enc l_1) wz rfl (bO JK rfl wz (ae (vB ((l_1.length:Int) == 0)) wz rfl (aj ?_)))))))))))
 rcases ak hF with⟨hc_3,hF⟩ | ⟨hc_3,hF⟩
 ·refine ay rfl hc_3 (af (aa (ae (vI 0) wz rfl (ae (vI 8) wz rfl (aj ?_)))))
  obtain rfl:=ah hF
  exact aB (aP (.inr rfl) [(vI 0),(vI 8)] ⟨rfl,⟨rfl,trivial⟩⟩ rfl rfl rfl)
 ·refine ax rfl hc_3 (au (af (aa (ae (vI 0) wz rfl (aj (af ?_))))))
  obtain ⟨o_12,hj_13,hF⟩:=bind_some hF
  obtain ⟨nq_51,hj_13⟩:=dB hj_13
  refine aD (β:=(Int)) (fun (s_9:Int)=>([(0,(vL Beat_.enc l_1)),(1,(vI n_2)),(6,(vI s_9))]:List (Nat×V))) (fun (s_9:Int)=>([]:Hp)) (fun p=>o_12 = .go p) ?_ ?_
  ·refine aA (aV (β:=Nat×(Int)) (fun p=>(fun (k_4:Nat) (s_9:Int)=>([(0,(vL Beat_.enc l_1)),(1,(vI n_2)),(6,(vI s_9))]:List (Nat×V))) p.1 p.2) (fun p=>(fun (k_4:Nat) (s_9:Int)=>([]:Hp)) p.1 p.2) (fun p=>iterN (fun s=>mf l_1 n_2 s) p.1 p.2=some o_12) (fun p=>p.1) (nq_51,0) hj_13 rfl (aI rfl) ?_)
   rintro ⟨k_4,s_9⟩ hL_11
   dsimp only at hL_11
   cases k_4 with
   | zero=>cases hL_11
   | succ k_4 =>
    obtain ⟨c_,hc_10,hL_11⟩:=bind_some hL_11
    unfold mf at hc_10
    refine af (af ?_)
    obtain ⟨v_14,h_15,hc_10⟩:=bind_some hc_10
    refine aD (β:=Unit) (fun _=>([(0,(vL Beat_.enc l_1)),(1,(vI n_2)),(6,(vI s_9)),(25,(vB v_14))]:List (Nat×V))) (fun _=>([]:Hp)) (fun _=>True) ?_ ?_
    ·refine aa (ae (vI s_9) wz rfl (ae (vL Beat_.enc l_1) wz rfl (bO JK rfl wz (ae (vB (decide (s_9 < (l_1.length:Int)))) wz rfl ?_))))
     rcases ak h_15 with⟨hc_16,h_15⟩ | ⟨hc_16,h_15⟩
     ·refine av rfl hc_16 wz (ae (vL Beat_.enc l_1) wa rfl (ae (vI s_9) wa rfl ?_))
      obtain ⟨y_17,hy_18,h_15⟩:=bind_some h_15
      refine dI xZ rfl rfl hy_18 rfl wa (pq qU rfl [.int .i64 y_17.f_from,.int .i64 y_17.f_to] rfl rfl wa (bG sz3 ag3 rfl (vI y_17.f_from) rfl wa (ae (vI n_2) wa rfl (ae (vB (decide (y_17.f_from≤n_2))) wa rfl (ae (vB (decide (y_17.f_from≤n_2))) wz rfl (aj ?_))))))
      obtain rfl:=ah h_15
      exact cu
     ·refine av rfl hc_16 wz (ai wa (ai wa (ai wa (ai wa (ai wa (ai wa (ai wa (ae (vB false) wz rfl (aj ?_)))))))))
      obtain rfl:=ah h_15
      exact cu
    ·rintro ⟨⟩ _ sl_ H_ hp_ hq_
     refine aK _ hp_ hq_ ?_
     rcases ak hc_10 with⟨hc_19,hc_10⟩ | ⟨hc_19,hc_10⟩
     ·refine ay rfl hc_19 (au (aA (aa (ae (vI s_9) wz rfl (ae (vI (w64 (s_9 + 1))) wz rfl (ae (vI (w64 (s_9 + 1))) wz rfl (aj ?_)))))))
      obtain rfl:=ah hc_10
      exact aU (k_4,(w64 (s_9 + 1))) hL_11 (Nat.lt_succ_self _) rfl (aI rfl)
     ·refine ax rfl hc_19 (aS ?_)
      obtain rfl:=ah hc_10
      obtain rfl:=ah hL_11
      exact aO (s_9) rfl rfl (aI rfl)
  ·rintro s_9 ho_ sl_ H_ hp_ hq_
   subst ho_
   refine aK _ hp_ hq_ (af (aa (ae (vI 0) wz rfl (aj (af (aA (af (aa (ae (vI s_9) wz rfl (ae (vB (s_9 == 0)) wz rfl (ae (vB (s_9 == 0)) wz rfl (aj ?_))))))))))))
   rcases ak hF with⟨hc_20,hF⟩ | ⟨hc_20,hF⟩
   ·refine ay rfl hc_20 (bA (ae (vL Beat_.enc l_1) wz rfl ?_))
    obtain ⟨y_21,hy_22,hF⟩:=bind_some hF
    refine dI xZ rfl rfl hy_22 rfl wz (pq uf rfl [.int .i64 y_21.f_to] rfl rfl wz (bG sz3 ag3 rfl (vI y_21.f_to) rfl wz (ae (vL Beat_.enc l_1) wz rfl ?_)))
    obtain ⟨y_23,hy_24,hF⟩:=bind_some hF
    refine dI xZ rfl rfl hy_24 rfl wz (pq qU rfl [.int .i64 y_23.f_from,.int .i64 y_23.f_to] rfl rfl wz (bG sz3 ag3 rfl (vI y_23.f_from) rfl wz (ae (vI n_2) wz rfl (ae (vI (w64 (y_23.f_from - n_2))) wz rfl (ae (vI (w64 (y_21.f_to - (w64 (y_23.f_from - n_2))))) wz rfl (ae (vI (w64 (y_21.f_to - (w64 (y_23.f_from - n_2))))) wz rfl (aj (af (af (aa (ae (vI (w64 (y_21.f_to - (w64 (y_23.f_from - n_2))))) wz rfl ?_)))))))))))
    obtain ⟨r_25,hr_26,hF⟩:=bind_some hF
    refine aF (eU hr_26) rfl xK rfl rfl rfl rfl wz (ae (vB (!r_25)) wz rfl (aj ?_))
    rcases ak hF with⟨hc_27,hF⟩ | ⟨hc_27,hF⟩
    ·refine ay rfl hc_27 (af (aa (ae (vI 0) wz rfl (ae (vI 11) wz rfl (aj ?_)))))
     obtain rfl:=ah hF
     exact aB (aP (.inr rfl) [(vI 0),(vI 11)] ⟨rfl,⟨rfl,trivial⟩⟩ rfl rfl rfl)
    ·refine ax rfl hc_27 (au (af (aa (ae (vI (w64 (y_21.f_to - (w64 (y_23.f_from - n_2))))) wz rfl (ae (vI (w64 (y_21.f_to - (w64 (y_23.f_from - n_2))))) wz rfl (ae (vI 0) wz rfl (aj ?_)))))))
     obtain rfl:=ah hF
     exact aB (aP (.inr rfl) [(vI (w64 (y_21.f_to - (w64 (y_23.f_from - n_2))))),(vI 0)] ⟨rfl,⟨rfl,trivial⟩⟩ rfl rfl rfl)
   ·refine ax rfl hc_20 (af (aa (ae (vI s_9) wz rfl (ae (vL Beat_.enc l_1) wz rfl (bO JK rfl wz (ae (vB (s_9 == (l_1.length:Int))) wz rfl (ae (vB (s_9 == (l_1.length:Int))) wz rfl (aj ?_))))))))
    rcases ak hF with⟨hc_28,hF⟩ | ⟨hc_28,hF⟩
    ·refine ay rfl hc_28 (bA (ae (vL Beat_.enc l_1) wz rfl (ae (vI s_9) wz rfl (ae (vI (w64 (s_9 - 1))) wz rfl ?_))))
     obtain ⟨y_29,hy_30,hF⟩:=bind_some hF
     refine dI xZ rfl rfl hy_30 rfl wz (pq uf rfl [.int .i64 y_29.f_to] rfl rfl wz (bG sz3 ag3 rfl (vI y_29.f_to) rfl wz (ae (vI n_2) wz rfl (ae (vI (w64 (y_29.f_to + n_2))) wz rfl (ae (vL Beat_.enc l_1) wz rfl (ae (vI s_9) wz rfl (ae (vI (w64 (s_9 - 1))) wz rfl ?_)))))))
     obtain ⟨y_31,hy_32,hF⟩:=bind_some hF
     refine dI xZ rfl rfl hy_32 rfl wz (pq qU rfl [.int .i64 y_31.f_from,.int .i64 y_31.f_to] rfl rfl wz (bG sz3 ag3 rfl (vI y_31.f_from) rfl wz (ae (vI (w64 ((w64 (y_29.f_to + n_2)) - y_31.f_from))) wz rfl (ae (vI (w64 ((w64 (y_29.f_to + n_2)) - y_31.f_from))) wz rfl (aj (af (af (aa (ae (vI (w64 ((w64 (y_29.f_to + n_2)) - y_31.f_from))) wz rfl ?_)))))))))
     obtain ⟨r_33,hr_34,hF⟩:=bind_some hF
     refine aF (eU hr_34) rfl xK rfl rfl rfl rfl wz (ae (vB (!r_33)) wz rfl (aj ?_))
     rcases ak hF with⟨hc_35,hF⟩ | ⟨hc_35,hF⟩
     ·refine ay rfl hc_35 (af (aa (ae (vI 0) wz rfl (ae (vI 11) wz rfl (aj (aK (H0:=([]:Hp)) ([(4,(vI 0)),(5,(vI 11))]:List (Nat×V)) (by kernel_rfl) (xk (by kernel_rfl)) ?_))))))
      obtain rfl:=ah hF
      exact aB (aP (.inr rfl) [(vI 0),(vI 11)] ⟨rfl,⟨rfl,trivial⟩⟩ rfl rfl rfl)
     ·refine ax rfl hc_35 (au (af (aa (ae (vI (w64 ((w64 (y_29.f_to + n_2)) - y_31.f_from))) wz rfl (ae (vI (w64 ((w64 (y_29.f_to + n_2)) - y_31.f_from))) wz rfl (ae (vI 0) wz rfl (aj (aK (H0:=([]:Hp)) ([(4,(vI (w64 ((w64 (y_29.f_to + n_2)) - y_31.f_from)))),(5,(vI 0))]:List (Nat×V)) (by kernel_rfl) (xk (by kernel_rfl)) ?_))))))))
      obtain rfl:=ah hF
      exact aB (aP (.inr rfl) [(vI (w64 ((w64 (y_29.f_to + n_2)) - y_31.f_from))),(vI 0)] ⟨rfl,⟨rfl,trivial⟩⟩ rfl rfl rfl)
    ·refine ax rfl hc_28 (af (bA (ae (vL Beat_.enc l_1) wz rfl (ae (vI s_9) wz rfl (ae (vI (w64 (s_9 - 1))) wz rfl ?_)))))
     obtain ⟨y_36,hy_37,hF⟩:=bind_some hF
     refine dI xZ rfl rfl hy_37 rfl wz (bG Cv ag316 rfl (.d (.agg (Beat_.enc y_36))) rfl wz (ae (vL Beat_.enc l_1) wz rfl (ae (vI s_9) wz rfl ?_)))
     obtain ⟨y_38,hy_39,hF⟩:=bind_some hF
     refine dI xZ rfl rfl hy_39 rfl wz (bG Cv ag316 rfl (.d (.agg (Beat_.enc y_38))) rfl wz (dh 9 (.inr (by kernel_rfl)) z316 rfl wz (fun n_40=>dh 10 (.inr (by kernel_rfl)) z316 rfl wz (fun n_41=>fD 11 (.inr (by kernel_rfl)) (fun _ _ ag=>⟨.inr (.inr (by kernel_rfl)),⟨.inr (.inr (by kernel_rfl)),trivial⟩⟩) 0 Cv rfl rfl [(vI y_36.f_from),(vI y_36.f_to)] rfl wz (fD 12 (.inr (by kernel_rfl)) (fun _ _ ag=>⟨.inr (.inr (by kernel_rfl)),⟨.inr (.inr (by kernel_rfl)),⟨.inr (.inr (by kernel_rfl)),trivial⟩⟩⟩) 1 Cv rfl rfl [(vI y_38.f_from),(vI y_38.f_to)] rfl wz (aj (af (af ?_))))))))
     obtain ⟨v_42,h_43,hF⟩:=bind_some hF
     refine aD (β:=Unit) (fun _=>([(1,(vI n_2)),(8,(.ref n_40 0 0)),(9,(.ref n_41 0 0)),(50,(vB v_42))]:List (Nat×V))) (fun _=>([(n_40,some (.cells 2 [(vI y_36.f_from),(vI y_36.f_to)])),(n_41,some (.cells 2 [(vI y_38.f_from),(vI y_38.f_to)]))]:Hp)) (fun _=>True) ?_ ?_
     ·refine aa (aG qU rfl 0 rfl wz (aC 0 1 il ft sz3 ag3 rfl rfl (vI y_38.f_from) rfl wz (aG qU rfl 0 rfl wz (aC 0 0 il ft sz3 ag3 rfl rfl (vI y_36.f_from) rfl wz (ae (vI (w64 (y_38.f_from - y_36.f_from))) wz rfl (ae (vB (decide ((w64 (y_38.f_from - y_36.f_from)) > 2592000000))) wz rfl ?_))))))
      rcases ak h_43 with⟨hc_44,h_43⟩ | ⟨hc_44,h_43⟩
      ·refine av rfl hc_44 wz (ai wa (ai wa (ai wa (ai wa (ai wa (ai wa (ae (vB true) wz rfl (aj ?_))))))))
       obtain rfl:=ah h_43
       exact cu
      ·refine av rfl hc_44 wz (aG uf rfl 1 rfl wa (aC 0 1 il ft sz3 ag3 rfl rfl (vI y_38.f_to) rfl wa (aG uf rfl 1 rfl wa (aC 0 0 il ft sz3 ag3 rfl rfl (vI y_36.f_to) rfl wa (ae (vI (w64 (y_38.f_to - y_36.f_to))) wa rfl (ae (vB (decide ((w64 (y_38.f_to - y_36.f_to)) > 2592000000))) wa rfl (ae (vB (decide ((w64 (y_38.f_to - y_36.f_to)) > 2592000000))) wz rfl (aj ?_))))))))
       obtain rfl:=ah h_43
       exact cu
     ·rintro ⟨⟩ _ sl_ H_ hp_ hq_
      refine aK _ hp_ hq_ ?_
      rcases ak hF with⟨hc_45,hF⟩ | ⟨hc_45,hF⟩
      ·refine ay rfl hc_45 (af (aa (ae (vI 0) wz rfl (ae (vI 2) wz rfl (aj ?_)))))
       obtain rfl:=ah hF
       exact aB (aP (.inr rfl) [(vI 0),(vI 2)] ⟨rfl,⟨rfl,trivial⟩⟩ rfl rfl rfl)
      ·refine ax rfl hc_45 (au (bA (aG uf rfl 1 rfl wz (aC 1 0 (.inr (by kernel_rfl)) (fun _ _ ag=>trivial) sz3 ag3 rfl rfl (vI y_36.f_to) rfl wz (ae (vI n_2) wz rfl (aG qU rfl 0 rfl wz (aC 4 0 (.inr (by kernel_rfl)) (fun _ _ ag=>⟨.inl ⟨rfl,rfl⟩,trivial⟩) sz3 ag3 rfl rfl (vI y_36.f_from) rfl wz (ae (vI (w64 (n_2 - y_36.f_from))) wz rfl (aG uf rfl 1 rfl wz (aC 7 1 (.inr (by kernel_rfl)) (fun _ _ ag=>⟨.inl ⟨rfl,rfl⟩,⟨.inl ⟨rfl,rfl⟩,trivial⟩⟩) sz3 ag3 rfl rfl (vI y_38.f_to) rfl wz (aG uf rfl 1 rfl wz (aC 9 0 (.inr (by kernel_rfl)) (fun _ _ ag=>⟨.inl ⟨rfl,rfl⟩,⟨.inl ⟨rfl,rfl⟩,⟨.inl ⟨rfl,rfl⟩,trivial⟩⟩⟩) sz3 ag3 rfl rfl (vI y_36.f_to) rfl wz (ae (vI (w64 (y_38.f_to - y_36.f_to))) wz rfl (ae (vI (w64 ((w64 (n_2 - y_36.f_from)) * (w64 (y_38.f_to - y_36.f_to))))) wz rfl (aG qU rfl 0 rfl wz (aC 13 1 (.inr (by kernel_rfl)) (fun _ _ ag=>⟨.inl ⟨rfl,rfl⟩,⟨.inl ⟨rfl,rfl⟩,⟨.inl ⟨rfl,rfl⟩,⟨.inl ⟨rfl,rfl⟩,trivial⟩⟩⟩⟩) sz3 ag3 rfl rfl (vI y_38.f_from) rfl wz (aG qU rfl 0 rfl wz (aC 15 0 (.inr (by kernel_rfl)) (fun _ _ ag=>⟨.inl ⟨rfl,rfl⟩,⟨.inl ⟨rfl,rfl⟩,⟨.inl ⟨rfl,rfl⟩,⟨.inl ⟨rfl,rfl⟩,⟨.inl ⟨rfl,rfl⟩,trivial⟩⟩⟩⟩⟩) sz3 ag3 rfl rfl (vI y_36.f_from) rfl wz (ae (vI (w64 (y_38.f_from - y_36.f_from))) wz rfl ?_)))))))))))))))))))
       obtain ⟨q_46,hz_47,hF⟩:=bind_some hF
       refine KV rfl rfl hz_47 wz (ae (vI (w64 (y_36.f_to + q_46))) wz rfl (ae (vI (w64 (y_36.f_to + q_46))) wz rfl (aj (af (af (aa (ae (vI (w64 (y_36.f_to + q_46))) wz rfl ?_)))))))
       obtain ⟨r_48,hr_49,hF⟩:=bind_some hF
       refine aF (eU hr_49) rfl xK rfl rfl rfl rfl wz (ae (vB (!r_48)) wz rfl (aj ?_))
       rcases ak hF with⟨hc_50,hF⟩ | ⟨hc_50,hF⟩
       ·refine ay rfl hc_50 (af (aa (ae (vI 0) wz rfl (ae (vI 11) wz rfl (aj ?_)))))
        obtain rfl:=ah hF
        exact aB (aP (.inr rfl) [(vI 0),(vI 11)] ⟨rfl,⟨rfl,trivial⟩⟩ rfl rfl rfl)
       ·refine ax rfl hc_50 (au (af (aa (ae (vI (w64 (y_36.f_to + q_46))) wz rfl (ae (vI (w64 (y_36.f_to + q_46))) wz rfl (ae (vI 0) wz rfl (aj ?_)))))))
        obtain rfl:=ah hF
        exact aB (aP (.inr rfl) [(vI (w64 (y_36.f_to + q_46))),(vI 0)] ⟨rfl,⟨rfl,trivial⟩⟩ rfl rfl rfl)
theorem BP {l_1:(List Beat)} {player_2:ByteArray} {n_3:Int} {back_4:Bool} {r:Int×Int} (hF:oz l_1 player_2 n_3 back_4=some r) :
  FnM Tryz.prog 158 [(vL Beat.enc l_1),(vS player_2),(vI n_3),(vB back_4)] [] (.tup [(vI r.1),(vI r.2)]) []:=by
 refine FnM.of_wH ⟨Tryz.prog,30,[],[]⟩ rfl Tryz.func158 rfl rfl (Nat.le_of_ble_eq_true rfl) (by kernel_rfl) ?_
 unfold oz at hF
 refine af (aa (ae (vI 0) wz rfl (ae (vI 0) wz rfl (aj (af (af (aa (ae (vL Beat.enc l_1) wz rfl ?_))))))))
 obtain ⟨r_5,hr_6,hF⟩:=bind_some hF
 refine aF (vW hr_6) rfl hb202 rfl rfl rfl rfl wz (ae (vI r_5) wz rfl (aj (af (aa (ae (vI r_5) wz rfl (ae (vB (r_5 != 0)) wz rfl (aj ?_)))))))
 rcases ak hF with⟨hc_7,hF⟩ | ⟨hc_7,hF⟩
 ·refine ay rfl hc_7 (af (aa (ae (vI r_5) wz rfl (ae (vI 0) wz rfl (ae (vI r_5) wz rfl (aj ?_))))))
  obtain rfl:=ah hF
  exact aB (aP (.inr rfl) [(vI 0),(vI r_5)] ⟨rfl,⟨rfl,trivial⟩⟩ rfl rfl rfl)
 ·refine ax rfl hc_7 (au (af (af (aa (ae (vS player_2) wz rfl ?_)))))
  obtain ⟨r_8,hr_9,hF⟩:=bind_some hF
  refine aF (eB hr_9) rfl rV rfl rfl rfl rfl wz (ae (vB (!r_8)) wz rfl (aj ?_))
  rcases ak hF with⟨hc_10,hF⟩ | ⟨hc_10,hF⟩
  ·refine ay rfl hc_10 (af (aa (ae (vI 0) wz rfl (ae (vI 5) wz rfl (aj ?_)))))
   obtain rfl:=ah hF
   exact aB (aP (.inr rfl) [(vI 0),(vI 5)] ⟨rfl,⟨rfl,trivial⟩⟩ rfl rfl rfl)
  ·refine ax rfl hc_10 (au (af (af (aa (ae (vI n_3) wz rfl ?_)))))
   obtain ⟨r_11,hr_12,hF⟩:=bind_some hF
   refine aF (eU hr_12) rfl xK rfl rfl rfl rfl wz (ae (vB (!r_11)) wz rfl (aj ?_))
   rcases ak hF with⟨hc_13,hF⟩ | ⟨hc_13,hF⟩
   ·refine ay rfl hc_13 (af (aa (ae (vI 0) wz rfl (ae (vI 1) wz rfl (aj ?_)))))
    obtain rfl:=ah hF
    exact aB (aP (.inr rfl) [(vI 0),(vI 1)] ⟨rfl,⟨rfl,trivial⟩⟩ rfl rfl rfl)
   ·refine ax rfl hc_13 (au (af (aa (ae (vL Beat.enc l_1) wz rfl (ae (vS player_2) wz rfl (ae (vB back_4) wz rfl ?_))))))
    obtain ⟨r_14,hr_15,hF⟩:=bind_some hF
    refine aF (yu hr_15) rfl hb204 rfl rfl rfl rfl wz (ae (vI n_3) wz rfl ?_)
    obtain ⟨r_16,hr_17,hF⟩:=bind_some hF
    refine aF (zD hr_17) rfl hb203 rfl rfl rfl rfl wz (ae (vI r_16.1) wz rfl (ae (vI r_16.2) wz rfl (ae (vI r_16.1) wz rfl (ae (vI r_16.2) wz rfl (aj ?_)))))
    obtain rfl:=ah hF
    exact aB (aP (.inr rfl) [(vI r_16.1),(vI r_16.2)] ⟨rfl,⟨rfl,trivial⟩⟩ rfl rfl rfl)
theorem BI {l_1:(List Beat)} {player_2:ByteArray} {clock_3:Int} {r:Int×Int} (hF:oC l_1 player_2 clock_3=some r) :
  FnM Tryz.prog 80 [(vL Beat.enc l_1),(vS player_2),(vI clock_3)] [] (.tup [(vI r.1),(vI r.2)]) []:=by
 refine FnM.of_wH ⟨Tryz.prog,14,[],[]⟩ rfl Tryz.func80 rfl rfl (Nat.le_of_ble_eq_true rfl) (by kernel_rfl) ?_
 unfold oC at hF
 refine af (aa (ae (vI 0) wz rfl (ae (vI 0) wz rfl (aj (af (aa (ae (vL Beat.enc l_1) wz rfl (ae (vS player_2) wz rfl (ae (vI clock_3) wz rfl ?_)))))))))
 obtain ⟨r_4,hr_5,hF⟩:=bind_some hF
 refine aF (BP hr_5) rfl hb158 rfl rfl rfl rfl wz (ae (vI r_4.1) wz rfl (ae (vI r_4.2) wz rfl (ae (vI r_4.1) wz rfl (ae (vI r_4.2) wz rfl (aj ?_)))))
 obtain rfl:=ah hF
 exact aB (aP (.inr rfl) [(vI r_4.1),(vI r_4.2)] ⟨rfl,⟨rfl,trivial⟩⟩ rfl rfl rfl)
theorem DY {l_1:(List Int)} {r:Int} (hF:vQ l_1=some r) :
  FnM Tryz.prog 14 [(vL eI l_1)] [] (vI r) []:=by
 refine FnM.of_wH ⟨Tryz.prog,15,[],[]⟩ rfl Tryz.func14 rfl rfl (Nat.le_of_ble_eq_true rfl) (by kernel_rfl) ?_
 unfold vQ at hF
 refine af (aa (ae (vI 0) wz rfl (aj (af (af (aa (ae (vL eI l_1) wz rfl (bO un140 rfl wz (ae (vI 0) wz rfl (aj ?_))))))))))
 obtain ⟨o_10,hj_11,hF⟩:=bind_some hF
 obtain ⟨hn_6,hj_11⟩:=aW hj_11
 refine aD (β:=(Unit)) (fun (s_7:Unit)=>([]:List (Nat×V))) (fun (s_7:Unit)=>([]:Hp)) (fun p=>o_10 = .go p) ?_ ?_
 ·refine aA (aV (β:=Nat×(List Int)×(Unit)) (fun p=>(fun (k_2:Nat) (l_3:List Int) (s_7:Unit)=>([(5,(vL eI l_1)),(6,(vI (l_1.length:Int))),(7,(vI (k_2:Int)))]:List (Nat×V))) p.1 p.2.1 p.2.2) (fun p=>(fun (k_2:Nat) (l_3:List Int) (s_7:Unit)=>([]:Hp)) p.1 p.2.1 p.2.2) (fun p=>forR (fun k x s=>tO k x s) p.2.1 p.1 p.2.2=some o_10∧(l_1).drop p.1=p.2.1) (fun p=>p.2.1.length) (0,l_1,()) ⟨hj_11,rfl⟩ rfl (aI rfl) ?_)
  rintro ⟨k_2,l_3,s_7⟩ ⟨hL_9,hD_5⟩
  dsimp only at hL_9 hD_5
  cases l_3 with
  | nil =>
   obtain rfl:=ah hL_9
   refine af (aa (ae (vB (decide ((k_2:Int) < (l_1.length:Int)))) wz rfl (aj ?_)))
   refine af (ax rfl (drop_nil hD_5) (aS ?_))
   exact aO (s_7) rfl rfl (aI rfl)
  | cons x_4 l_3 =>
   obtain ⟨c_,hc_8,hL_9⟩:=bind_some hL_9
   refine af (aa (ae (vB (decide ((k_2:Int) < (l_1.length:Int)))) wz rfl (aj ?_)))
   refine af (ay rfl (aX hD_5) (au ?_))
   unfold tO at hc_8
   refine af (aA (af (aa (dI es140 rfl rfl (bC hD_5) rfl wz (bG sz35 ag35 rfl (vI x_4) rfl wz (ae (vI x_4) wz rfl (aj (af (aa (ae (vI x_4) wz rfl (ae (vB (x_4 != 0)) wz rfl (aj ?_))))))))))))
   rcases ak hc_8 with⟨hc_12,hc_8⟩ | ⟨hc_12,hc_8⟩
   ·refine ay rfl hc_12 (af (aa (ae (vI x_4) wz rfl (ae (vI x_4) wz rfl (aj ?_)))))
    obtain rfl:=ah hc_8
    obtain rfl:=ah hL_9
    obtain rfl:=ah hF
    exact aB (aP (.inr rfl) [(vI x_4)] ⟨rfl,trivial⟩ rfl rfl rfl)
   ·refine ax rfl hc_12 (au (aa (dY (bn hD_5 hn_6) wz rfl (ae (vI ((k_2 + 1:Nat):Int)) wz rfl (aj ?_)))))
    obtain rfl:=ah hc_8
    exact aU (k_2 + 1,l_3,()) ⟨hL_9,aR hD_5⟩ (Nat.lt_succ_self _) rfl (aI rfl)
 ·rintro s_7 ho_ sl_ H_ hp_ hq_
  subst ho_
  refine aK _ hp_ hq_ (af (aa (ae (vI 0) wz rfl (aj ?_))))
  obtain rfl:=ah hF
  exact aB (aP (.inr rfl) [(vI 0)] ⟨rfl,trivial⟩ rfl rfl rfl)
theorem Cb {r:Bool} (hF:nT  = some r) :
  FnM Tryz.prog 17 [] [] (vB r) []:=by
 refine FnM.of_wH ⟨Tryz.prog,75,[],[]⟩ rfl Tryz.func17 rfl rfl (Nat.le_of_ble_eq_true rfl) (by kernel_rfl) ?_
 unfold nT at hF
 refine af (aa (ae (vB false) wz rfl (aj (af (aa (ae (.d (.agg (Rect.enc (⟨0,0,2,2⟩:Rect)))) wz (by kernel_rfl) (ae (.d (.agg (Rect.enc (⟨1,1,2,2⟩:Rect)))) wz (by kernel_rfl) (eQ (([(⟨0,0,2,2⟩:Rect),(⟨1,1,2,2⟩:Rect)]:List Rect).map Rect.enc) Cj ez98 rfl rfl rfl rfl rfl wz ?_))))))))
 obtain ⟨r_1,hr_2,hF⟩:=bind_some hF
 refine aF (Bp hr_2) rfl hb77 rfl rfl rfl rfl wz (ae (.tup [(vI r_1.1),(vI r_1.2)]) wz rfl (ae (vI r_1.1) wz rfl (ae (vI r_1.2) wz rfl (ae (vI r_1.1) wz rfl (ae (vI r_1.2) wz rfl (aj (af (aa (ae (.agg [(vS (⟨#[97]⟩:ByteArray)),(vS (⟨#[98]⟩:ByteArray)),(vI 0),(vI 0),(vI 0),(vI 1),(vI 127),.nil,(vI 1),(vI 2),(vI 0),.nil,(vB false)]) wz (by kernel_rfl) (ae (.d (.agg (Window.enc (⟨0,86400000⟩:Window)))) wz (by kernel_rfl) ?_))))))))))
 obtain ⟨r_3,hr_4,hF⟩:=bind_some hF
 refine aF (xO hr_4) rfl hb78 rfl rfl rfl rfl wz (ae (.tup [(vL Window.enc r_3.1),(vI r_3.2)]) wz rfl (ae (vL Window.enc r_3.1) wz rfl (ae (vI r_3.2) wz rfl (ae (vL Window.enc r_3.1) wz rfl (ae (vI r_3.2) wz rfl (aj (af (aa (ae (.d (.agg (Window.enc (⟨0,100⟩:Window)))) wz (by kernel_rfl) (ae (.agg [(vS (⟨#[97]⟩:ByteArray)),(vS (⟨#[]⟩:ByteArray)),(vI 0),(vI 100),.nil,(vI 10),(vI 0),(vI 0)]) wz (by kernel_rfl) ?_))))))))))
 obtain ⟨r_5,hr_6,hF⟩:=bind_some hF
 refine aF (AX hr_6) rfl hb79 rfl rfl rfl rfl wz (ae (.tup [(vI r_5.1),(vI r_5.2)]) wz rfl (ae (vI r_5.1) wz rfl (ae (vI r_5.2) wz rfl (ae (vI r_5.1) wz rfl (ae (vI r_5.2) wz rfl (aj (af (aa (ae (.d (.agg (Beat.enc (⟨(⟨#[112]⟩:ByteArray),0,100⟩:Beat)))) wz (by kernel_rfl) (ae (.d (.agg (Beat.enc (⟨(⟨#[112]⟩:ByteArray),1000,1300⟩:Beat)))) wz (by kernel_rfl) (eQ (([(⟨(⟨#[112]⟩:ByteArray),0,100⟩:Beat),(⟨(⟨#[112]⟩:ByteArray),1000,1300⟩:Beat)]:List Beat).map Beat.enc) CE ez158 rfl rfl rfl rfl rfl wz ?_)))))))))))
 obtain ⟨r_7,hr_8,hF⟩:=bind_some hF
 refine aF (BI hr_8) rfl hb80 rfl rfl rfl rfl wz (ae (.tup [(vI r_7.1),(vI r_7.2)]) wz rfl (ae (vI r_7.1) wz rfl (ae (vI r_7.2) wz rfl (ae (vI r_7.1) wz rfl (ae (vI r_7.2) wz rfl (aj (aK (H0:=([]:Hp)) ([(1,(vI r_1.1)),(2,(vI r_1.2)),(3,(vL Window.enc r_3.1)),(4,(vI r_3.2)),(5,(vI r_5.1)),(6,(vI r_5.2)),(7,(vI r_7.1)),(8,(vI r_7.2))]:List (Nat×V)) (by kernel_rfl) (xk (by kernel_rfl)) (af (aa (ae (.d (.agg (Rect.enc (⟨0,0,2,2⟩:Rect)))) wz (by kernel_rfl) (eQ (([(⟨0,0,2,2⟩:Rect)]:List Rect).map Rect.enc) Cj ez98 rfl rfl rfl rfl rfl wz (ae (.agg [(vS (⟨#[97]⟩:ByteArray)),(vS (⟨#[115]⟩:ByteArray)),(vI 1),.nil,(vI 0),(vI 5),(vI 1),(vL Rect.enc ([(⟨0,0,2,2⟩:Rect)]:List Rect)),(vS (⟨#[120]⟩:ByteArray))]) wz (by kernel_rfl) (dh 0 (.inl rfl) FR rfl wz (fun n_9=>fD 0 il ft 0 gX rfl rfl [(vS (⟨#[97]⟩:ByteArray)),(vS (⟨#[115]⟩:ByteArray)),(vI 1),.nil,(vI 0),(vI 5),(vI 1),(vL Rect.enc ([(⟨0,0,2,2⟩:Rect)]:List Rect)),(vS (⟨#[120]⟩:ByteArray))] rfl wz (aj (af (aa (aC 0 0 il ft gX kC rfl rfl (.agg [(vS (⟨#[97]⟩:ByteArray)),(vS (⟨#[115]⟩:ByteArray)),(vI 1),.nil,(vI 0),(vI 5),(vI 1),(vL Rect.enc ([(⟨0,0,2,2⟩:Rect)]:List Rect)),(vS (⟨#[120]⟩:ByteArray))]) rfl wz (ae (.d (.agg (Post.enc (⟨(⟨#[112]⟩:ByteArray),1,1⟩:Post)))) wz (by kernel_rfl) ?_)))))))))))))))))))
 obtain ⟨r_10,hr_11,hF⟩:=bind_some hF
 refine aF (rY hr_11) rfl hb45 rfl rfl rfl rfl wz (ae (.tup [(vB r_10.1),(vI r_10.2)]) wz rfl (ae (vB r_10.1) wz rfl (ae (vI r_10.2) wz rfl (ae (vB r_10.1) wz rfl (ae (vI r_10.2) wz rfl (aj (af ?_)))))))
 obtain ⟨v_12,h_13,hF⟩:=bind_some hF
 refine aD (β:=Unit) (fun _=>([(0,(vB v_12))]:List (Nat×V))) (fun _=>([(n_9,some (.cells 9 [(vS (⟨#[97]⟩:ByteArray)),(vS (⟨#[115]⟩:ByteArray)),(vI 1),.nil,(vI 0),(vI 5),(vI 1),(vL Rect.enc ([(⟨0,0,2,2⟩:Rect)]:List Rect)),(vS (⟨#[120]⟩:ByteArray))]))]:Hp)) (fun _=>True) ?_ ?_
 ·refine aa (ae (vI r_1.2) wz rfl (ae (vI r_3.2) wz rfl (ae (vI r_5.2) wz rfl (ae (vI r_7.2) wz rfl (ae (vI r_10.2) wz rfl (eQ (([r_1.2,r_3.2,r_5.2,r_7.2,r_10.2]:List Int).map eI) es140 ez140 rfl rfl rfl rfl rfl wz ?_))))))
  obtain ⟨r_14,hr_15,h_13⟩:=bind_some h_13
  refine aF (DY hr_15) rfl hb14 rfl rfl rfl rfl wz (ae (vB (r_14 == 0)) wz rfl ?_)
  rcases ak h_13 with⟨hc_16,h_13⟩ | ⟨hc_16,h_13⟩
  ·refine av rfl hc_16 wz (ae (vI r_1.1) wa rfl (ae (vB (r_1.1 == 7)) wa rfl (ae (vB (r_1.1 == 7)) wz rfl ?_)))
   rcases ak h_13 with⟨hc_17,h_13⟩ | ⟨hc_17,h_13⟩
   ·refine av rfl hc_17 wz (ae (vL Window.enc r_3.1) wa rfl (bO un147 rfl wa (ae (vB ((r_3.1.length:Int) == 1)) wa rfl (ae (vB ((r_3.1.length:Int) == 1)) wz rfl ?_))))
    rcases ak h_13 with⟨hc_18,h_13⟩ | ⟨hc_18,h_13⟩
    ·refine av rfl hc_18 wz (ae (vI r_5.1) wa rfl (ae (vB (r_5.1 == 5)) wa rfl (ae (vB (r_5.1 == 5)) wz rfl ?_)))
     rcases ak h_13 with⟨hc_19,h_13⟩ | ⟨hc_19,h_13⟩
     ·refine av rfl hc_19 wz (ae (vI r_7.1) wa rfl (ae (vB (r_7.1 == 500)) wa rfl (ae (vB (r_7.1 == 500)) wz rfl ?_)))
      rcases ak h_13 with⟨hc_20,h_13⟩ | ⟨hc_20,h_13⟩
      ·refine av rfl hc_20 wz (ae (vB r_10.1) wa rfl (ae (vB r_10.1) wz rfl (ae (vB r_10.1) wz rfl (aj ?_))))
       obtain rfl:=ah h_13
       exact cu
      ·refine av rfl hc_20 wz (ai wa (ae (vB false) wz rfl (ae (vB false) wz rfl (aj ?_))))
       obtain rfl:=ah h_13
       exact cu
     ·refine av rfl hc_19 wz (ai wa (ai wa (ae (vB false) wz rfl (ae (vB false) wz rfl (ai wa (ae (vB false) wz rfl (ae (vB false) wz rfl (aj ?_))))))))
      obtain rfl:=ah h_13
      exact cu
    ·refine av rfl hc_18 wz (ai wa (ai wa (ae (vB false) wz rfl (ae (vB false) wz rfl (ai wa (ai wa (ae (vB false) wz rfl (ae (vB false) wz rfl (ai wa (ae (vB false) wz rfl (ae (vB false) wz rfl (aj ?_))))))))))))
     obtain rfl:=ah h_13
     exact cu
   ·refine av rfl hc_17 wz (ai wa (ai wa (ai wa (ae (vB false) wz rfl (ae (vB false) wz rfl (ai wa (ai wa (ae (vB false) wz rfl (ae (vB false) wz rfl (ai wa (ai wa (ae (vB false) wz rfl (ae (vB false) wz rfl (ai wa (ae (vB false) wz rfl (ae (vB false) wz rfl (aj ?_)))))))))))))))))
    obtain rfl:=ah h_13
    exact cu
  ·refine av rfl hc_16 wz (ai wa (ai wa (ae (vB false) wz rfl (ae (vB false) wz rfl (ai wa (ai wa (ai wa (ae (vB false) wz rfl (ae (vB false) wz rfl (ai wa (ai wa (ae (vB false) wz rfl (ae (vB false) wz rfl (ai wa (ai wa (ae (vB false) wz rfl (ae (vB false) wz rfl (ai wa (ae (vB false) wz rfl (ae (vB false) wz rfl (aj ?_)))))))))))))))))))))
   obtain rfl:=ah h_13
   exact cu
 ·rintro ⟨⟩ _ sl_ H_ hp_ hq_
  refine aK _ hp_ hq_ ?_
  obtain rfl:=ah hF
  exact aB (aP (.inr rfl) [(vB v_12)] ⟨rfl,trivial⟩ rfl rfl rfl)
theorem uW {l_1:(List Int)} {r:Bool} (hF:kH l_1=some r) :
  FnM Tryz.prog 7 [(vL eI l_1)] [] (vB r) []:=by
 refine FnM.of_wH ⟨Tryz.prog,182,[],[]⟩ rfl Tryz.func7 rfl rfl (Nat.le_of_ble_eq_true rfl) (by kernel_rfl) ?_
 unfold kH at hF
 refine af (aa (ae (vB false) wz rfl (aj (af (aa (ae (vL eI l_1) wz rfl (ae (.d (.agg (Stream.enc (⟨l_1,0⟩:Stream)))) wz (by kernel_rfl) (fB 0 (.inl rfl) [(vL eI l_1),(vI 0)] rfl rfl wz (fun n_2=>ae (.ref n_2 0 0) wz rfl (aj (af (aa (ae (.ref n_2 0 0) wz rfl ?_)))))))))))))
 obtain ⟨r_3,hr_4,hF⟩:=bind_some hF
 refine dw 0 [0] il ft (qZ hr_4) rfl hb38 rfl (by kernel_rfl) (by kernel_rfl) (by kernel_rfl) (by kernel_rfl) (by kernel_rfl) (by kernel_rfl) (by kernel_rfl) (by decide) (by kernel_rfl) wz (vL Alert.enc r_3.1) (by kernel_rfl) ([(n_2,some (.cells 2 [(vL eI r_3.2.L),(vI r_3.2.f_at)]))]:Hp) (by kernel_rfl) (ae (.ref n_2 0 0) wz rfl ?_)
 obtain ⟨r_6,hr_7,hF⟩:=bind_some hF
 refine dw 0 [0] il ft (rM hr_7) rfl hb39 rfl (by kernel_rfl) (by kernel_rfl) (by kernel_rfl) (by kernel_rfl) (by kernel_rfl) (by kernel_rfl) (by kernel_rfl) (by decide) (by kernel_rfl) wz (vL Post.enc r_6.1) (by kernel_rfl) ([(n_2,some (.cells 2 [(vL eI r_6.2.L),(vI r_6.2.f_at)]))]:Hp) (by kernel_rfl) (ae (.ref n_2 0 0) wz rfl ?_)
 obtain ⟨r_9,hr_10,hF⟩:=bind_some hF
 refine dw 0 [0] il ft (bX hr_10) rfl zJ rfl (by kernel_rfl) (by kernel_rfl) (by kernel_rfl) (by kernel_rfl) (by kernel_rfl) (by kernel_rfl) (by kernel_rfl) (by decide) (by kernel_rfl) wz (vI r_9.1) (by kernel_rfl) ([(n_2,some (.cells 2 [(vL eI r_9.2.L),(vI r_9.2.f_at)]))]:Hp) (by kernel_rfl) (ae (.ref n_2 0 0) wz rfl ?_)
 obtain ⟨r_12,hr_13,hF⟩:=bind_some hF
 refine dw 0 [0] il ft (bX hr_13) rfl zJ rfl (by kernel_rfl) (by kernel_rfl) (by kernel_rfl) (by kernel_rfl) (by kernel_rfl) (by kernel_rfl) (by kernel_rfl) (by decide) (by kernel_rfl) wz (vI r_12.1) (by kernel_rfl) ([(n_2,some (.cells 2 [(vL eI r_12.2.L),(vI r_12.2.f_at)]))]:Hp) (by kernel_rfl) (ae (vL Alert.enc r_3.1) wz rfl (ae (vL Post.enc r_6.1) wz rfl (ae (vI r_9.1) wz rfl (ae (vI r_12.1) wz rfl (aj (af (aa (ae .nil wz rfl (aj (af (af (aa (ae (vL Post.enc r_6.1) wz rfl (bO Jw rfl wz (ae (vI 0) wz rfl (aj (lT (fun n_21 => ?_))))))))))))))))))
 obtain ⟨o_26,hj_27,hF⟩:=bind_some hF
 obtain ⟨hn_19,hj_27⟩:=aW hj_27
 refine aD (β:=((List Receipt)×(List Int)×Int)×Nm) (fun p=>(fun (s_20:(List Receipt)×(List Int)×Int) (n_23:Nm)=>([(4,(vL Alert.enc r_3.1)),(5,(vL Post.enc r_6.1)),(6,(vI r_9.1)),(7,(vI r_12.1)),(8,(gV n_23 4 s_20.1))]:List (Nat×V))) p.1 p.2) (fun p=>(fun (s_20:(List Receipt)×(List Int)×Int) (n_23:Nm)=>([(n_2,some (.cells 2 [(vL eI s_20.2.1),(vI s_20.2.2)])),(n_23,gB 4 Receipt.enc s_20.1)]:Hp)) p.1 p.2) (fun p=>o_26 = .go p.1) ?_ ?_
 ·refine aA (aV (β:=Nat×(List Post)×((List Receipt)×(List Int)×Int)×Nm) (fun p=>(fun (k_15:Nat) (l_16:List Post) (s_20:(List Receipt)×(List Int)×Int) (n_23:Nm)=>([(3,(.ref n_2 0 0)),(4,(vL Alert.enc r_3.1)),(5,(vL Post.enc r_6.1)),(6,(vI r_9.1)),(7,(vI r_12.1)),(8,(gV n_23 4 s_20.1)),(39,(vL Post.enc r_6.1)),(40,(vI (r_6.1.length:Int))),(41,(vI (k_15:Int)))]:List (Nat×V))) p.1 p.2.1 p.2.2.1 p.2.2.2) (fun p=>(fun (k_15:Nat) (l_16:List Post) (s_20:(List Receipt)×(List Int)×Int) (n_23:Nm)=>([(n_2,some (.cells 2 [(vL eI s_20.2.1),(vI s_20.2.2)])),(n_23,gB 4 Receipt.enc s_20.1)]:Hp)) p.1 p.2.1 p.2.2.1 p.2.2.2) (fun p=>forR (fun k x s=>fq k x s) p.2.1 p.1 p.2.2.1=some o_26∧(r_6.1).drop p.1=p.2.1) (fun p=>p.2.1.length) (0,r_6.1,(([]:List Receipt),r_12.2.L,r_12.2.f_at),n_21) ⟨hj_27,rfl⟩ rfl (aI rfl) ?_)
  rintro ⟨k_15,l_16,s_20,n_23⟩ ⟨hL_25,hD_18⟩
  dsimp only at hL_25 hD_18
  cases l_16 with
  | nil =>
   obtain rfl:=ah hL_25
   refine af (aa (ae (vB (decide ((k_15:Int) < (r_6.1.length:Int)))) wz rfl (aj ?_)))
   refine af (ax rfl (drop_nil hD_18) (aS ?_))
   exact aO (s_20,n_23) rfl rfl (aI rfl)
  | cons x_17 l_16 =>
   obtain ⟨c_,hc_24,hL_25⟩:=bind_some hL_25
   refine af (aa (ae (vB (decide ((k_15:Int) < (r_6.1.length:Int)))) wz rfl (aj ?_)))
   refine af (ay rfl (aX hD_18) (au ?_))
   unfold fq at hc_24
   refine af (aA (af (aa (dI Er rfl rfl (bC hD_18) rfl wz (bG wZ Ch rfl (.d (.agg (Post.enc x_17))) rfl wz (dh 0 (.inl rfl) z66 rfl wz (fun n_28=>fD 0 il ft 2 wZ rfl rfl [(vS x_17.Player),(vI x_17.X),(vI x_17.Y)] rfl wz (aj (af (aa (eQ (([(⟨#[97,97]⟩:ByteArray),(⟨#[97,98]⟩:ByteArray),(⟨#[97,99]⟩:ByteArray),(⟨#[97,100]⟩:ByteArray),(⟨#[97,101]⟩:ByteArray)]:List ByteArray).map eS) q8 BS rfl rfl rfl rfl rfl wz (bO xu rfl wz (ae (vI 0) wz rfl (aj ?_))))))))))))))
   obtain ⟨o_39,hj_40,hc_24⟩:=bind_some hc_24
   obtain ⟨hn_33,hj_40⟩:=aW hj_40
   refine aD (β:=((List Receipt)×(List Int)×Int)×Nm) (fun p=>(fun (s_34:(List Receipt)×(List Int)×Int) (n_36:Nm)=>([(3,(.ref n_2 0 0)),(4,(vL Alert.enc r_3.1)),(5,(vL Post.enc r_6.1)),(6,(vI r_9.1)),(7,(vI r_12.1)),(8,(gV n_36 4 s_34.1)),(39,(vL Post.enc r_6.1)),(40,(vI (r_6.1.length:Int))),(41,(vI (k_15:Int)))]:List (Nat×V))) p.1 p.2) (fun p=>(fun (s_34:(List Receipt)×(List Int)×Int) (n_36:Nm)=>([(n_2,some (.cells 2 [(vL eI s_34.2.1),(vI s_34.2.2)])),(n_36,gB 4 Receipt.enc s_34.1),(n_28,some (.cells 3 [(vS x_17.Player),(vI x_17.X),(vI x_17.Y)]))]:Hp)) p.1 p.2) (fun p=>o_39 = .go p.1) ?_ ?_
   ·refine aA (aV (β:=Nat×(List ByteArray)×((List Receipt)×(List Int)×Int)×Nm) (fun p=>(fun (k_29:Nat) (l_30:List ByteArray) (s_34:(List Receipt)×(List Int)×Int) (n_36:Nm)=>([(3,(.ref n_2 0 0)),(4,(vL Alert.enc r_3.1)),(5,(vL Post.enc r_6.1)),(6,(vI r_9.1)),(7,(vI r_12.1)),(8,(gV n_36 4 s_34.1)),(10,(.ref n_28 0 0)),(39,(vL Post.enc r_6.1)),(40,(vI (r_6.1.length:Int))),(41,(vI (k_15:Int))),(45,(vL eS ([(⟨#[97,97]⟩:ByteArray),(⟨#[97,98]⟩:ByteArray),(⟨#[97,99]⟩:ByteArray),(⟨#[97,100]⟩:ByteArray),(⟨#[97,101]⟩:ByteArray)]:List ByteArray))),(46,(vI (([(⟨#[97,97]⟩:ByteArray),(⟨#[97,98]⟩:ByteArray),(⟨#[97,99]⟩:ByteArray),(⟨#[97,100]⟩:ByteArray),(⟨#[97,101]⟩:ByteArray)]:List ByteArray).length:Int))),(47,(vI (k_29:Int)))]:List (Nat×V))) p.1 p.2.1 p.2.2.1 p.2.2.2) (fun p=>(fun (k_29:Nat) (l_30:List ByteArray) (s_34:(List Receipt)×(List Int)×Int) (n_36:Nm)=>([(n_2,some (.cells 2 [(vL eI s_34.2.1),(vI s_34.2.2)])),(n_36,gB 4 Receipt.enc s_34.1),(n_28,some (.cells 3 [(vS x_17.Player),(vI x_17.X),(vI x_17.Y)]))]:Hp)) p.1 p.2.1 p.2.2.1 p.2.2.2) (fun p=>forR (fun k x s=>fw x_17 k x s) p.2.1 p.1 p.2.2.1=some o_39∧(([(⟨#[97,97]⟩:ByteArray),(⟨#[97,98]⟩:ByteArray),(⟨#[97,99]⟩:ByteArray),(⟨#[97,100]⟩:ByteArray),(⟨#[97,101]⟩:ByteArray)]:List ByteArray)).drop p.1=p.2.1) (fun p=>p.2.1.length) (0,([(⟨#[97,97]⟩:ByteArray),(⟨#[97,98]⟩:ByteArray),(⟨#[97,99]⟩:ByteArray),(⟨#[97,100]⟩:ByteArray),(⟨#[97,101]⟩:ByteArray)]:List ByteArray),(s_20.1,s_20.2.1,s_20.2.2),n_23) ⟨hj_40,rfl⟩ rfl (aI rfl) ?_)
    rintro ⟨k_29,l_30,s_34,n_36⟩ ⟨hL_38,hD_32⟩
    dsimp only at hL_38 hD_32
    cases l_30 with
    | nil =>
     obtain rfl:=ah hL_38
     refine af (aa (ae (vB (decide ((k_29:Int) < (([(⟨#[97,97]⟩:ByteArray),(⟨#[97,98]⟩:ByteArray),(⟨#[97,99]⟩:ByteArray),(⟨#[97,100]⟩:ByteArray),(⟨#[97,101]⟩:ByteArray)]:List ByteArray).length:Int)))) wz rfl (aj ?_)))
     refine af (ax rfl (drop_nil hD_32) (aS ?_))
     exact aO (s_34,n_36) rfl rfl (aI rfl)
    | cons x_31 l_30 =>
     obtain ⟨c_,hc_37,hL_38⟩:=bind_some hL_38
     refine af (aa (ae (vB (decide ((k_29:Int) < (([(⟨#[97,97]⟩:ByteArray),(⟨#[97,98]⟩:ByteArray),(⟨#[97,99]⟩:ByteArray),(⟨#[97,100]⟩:ByteArray),(⟨#[97,101]⟩:ByteArray)]:List ByteArray).length:Int)))) wz rfl (aj ?_)))
     refine af (ay rfl (aX hD_32) (au ?_))
     unfold fw at hc_37
     refine af (aA (af (aa (dI q8 rfl rfl (bC hD_32) rfl wz (bG sz9 ag9 rfl (vS x_31) rfl wz (ae (vS x_31) wz rfl (aj (af (aa (ae (.ref n_2 0 0) wz rfl ?_))))))))))
     obtain ⟨r_41,hr_42,hc_37⟩:=bind_some hc_37
     refine dw 0 [0] il ft (nC hr_42) rfl hb20 rfl (by kernel_rfl) (by kernel_rfl) (by kernel_rfl) (by kernel_rfl) (by kernel_rfl) (by kernel_rfl) (by kernel_rfl) (by decide) (by kernel_rfl) wz (vB r_41.1) (by kernel_rfl) ([(n_2,some (.cells 2 [(vL eI r_41.2.L),(vI r_41.2.f_at)])),(n_36,gB 4 Receipt.enc s_34.1),(n_28,some (.cells 3 [(vS x_17.Player),(vI x_17.X),(vI x_17.Y)]))]:Hp) (by kernel_rfl) (aj ?_)
     obtain ⟨v_44,h_45,hc_37⟩:=bind_some hc_37
     refine aD (β:=Nm) (fun (n_46:Nm)=>([(3,(.ref n_2 0 0)),(4,(vL Alert.enc r_3.1)),(5,(vL Post.enc r_6.1)),(6,(vI r_9.1)),(7,(vI r_12.1)),(8,(gV n_46 4 v_44.1)),(10,(.ref n_28 0 0)),(39,(vL Post.enc r_6.1)),(40,(vI (r_6.1.length:Int))),(41,(vI (k_15:Int))),(45,(vL eS ([(⟨#[97,97]⟩:ByteArray),(⟨#[97,98]⟩:ByteArray),(⟨#[97,99]⟩:ByteArray),(⟨#[97,100]⟩:ByteArray),(⟨#[97,101]⟩:ByteArray)]:List ByteArray))),(46,(vI (([(⟨#[97,97]⟩:ByteArray),(⟨#[97,98]⟩:ByteArray),(⟨#[97,99]⟩:ByteArray),(⟨#[97,100]⟩:ByteArray),(⟨#[97,101]⟩:ByteArray)]:List ByteArray).length:Int))),(47,(vI (k_29:Int)))]:List (Nat×V))) (fun (n_46:Nm)=>([(n_2,some (.cells 2 [(vL eI v_44.2.1),(vI v_44.2.2)])),(n_46,gB 4 Receipt.enc v_44.1),(n_28,some (.cells 3 [(vS x_17.Player),(vI x_17.X),(vI x_17.Y)]))]:Hp)) (fun _=>True) ?_ ?_
     ·rcases ak h_45 with⟨hc_47,h_45⟩ | ⟨hc_47,h_45⟩
      ·refine ay rfl hc_47 (bA (ae (gV n_36 4 s_34.1) wz rfl (aG uh rfl 0 rfl wz (aC 2 2 (.inr (by kernel_rfl)) (fun _ _ ag=>trivial) sz9 ag9 rfl rfl (vS x_17.Player) rfl wz (ae (vS x_31) wz rfl (ae (.ref n_2 0 0) wz rfl ?_))))))
       obtain ⟨r_48,hr_49,h_45⟩:=bind_some h_45
       refine dw 5 [0] (.inr (by kernel_rfl)) (fun _ _ ag=>by exact⟨.inr (.inl (dis1 (JD ag (i:=0) (j:=2) rfl rfl (by decide)))),trivial⟩) (bX hr_49) rfl zJ rfl (by kernel_rfl) (by kernel_rfl) (by kernel_rfl) (by kernel_rfl) (by kernel_rfl) (by kernel_rfl) (by kernel_rfl) (by decide) (by kernel_rfl) wz (vI r_48.1) (by kernel_rfl) ([(n_2,some (.cells 2 [(vL eI r_48.2.L),(vI r_48.2.f_at)])),(n_36,gB 4 Receipt.enc s_34.1),(n_28,some (.cells 3 [(vS x_17.Player),(vI x_17.X),(vI x_17.Y)]))]:Hp) (by kernel_rfl) (ae (.d (.agg (Receipt.enc (⟨x_17.Player,x_31,r_48.1,false⟩:Receipt)))) wz (by kernel_rfl) (eQ (([(⟨x_17.Player,x_31,r_48.1,false⟩:Receipt)]:List Receipt).map Receipt.enc) K9 ez89 rfl rfl rfl rfl rfl wz ?_))
       obtain ⟨a_51,hz_52,h_45⟩:=bind_some h_45
       refine jT 8 (.inr (by kernel_rfl)) (fun _ _ ag=>⟨.inr (.inr (by kernel_rfl)),⟨.inr (.inr (by kernel_rfl)),trivial⟩⟩) (i:=1) el89 el89 EC z91 rfl (by decide) by91 (by decide) (fun _=>rfl) rfl rfl rfl hz_52 wz (fun n_53=>ae (gV n_53 4 a_51) wz rfl (aj ?_))
       obtain rfl:=ah h_45
       exact aO n_53 trivial rfl (aI rfl)
      ·refine ax rfl hc_47 (au ?_)
       obtain rfl:=ah h_45
       exact aO n_36 trivial rfl (aI rfl)
     ·rintro n_46 _ sl_ H_ hp_ hq_
      refine aK _ hp_ hq_ (aa (dY (bn hD_32 hn_33) wz rfl (ae (vI ((k_29 + 1:Nat):Int)) wz rfl (aj ?_))))
      obtain rfl:=ah hc_37
      exact aU (k_29 + 1,l_30,(v_44.1,v_44.2.1,v_44.2.2),n_46) ⟨hL_38,aR hD_32⟩ (Nat.lt_succ_self _) rfl (aI rfl)
   ·rintro ⟨s_34,n_36⟩ ho_ sl_ H_ hp_ hq_
    subst ho_
    refine aK _ hp_ hq_ (aa (dY (bn hD_18 hn_19) wz rfl (ae (vI ((k_15 + 1:Nat):Int)) wz rfl (aj ?_))))
    obtain rfl:=ah hc_24
    exact aU (k_15 + 1,l_16,(s_34.1,s_34.2.1,s_34.2.2),n_36) ⟨hL_25,aR hD_18⟩ (Nat.lt_succ_self _) rfl (aI rfl)
 ·rintro ⟨s_20,n_23⟩ ho_ sl_ H_ hp_ hq_
  subst ho_
  refine aK _ hp_ hq_ (af (gM 1 rfl (dQ 8 1 rfl rfl (aa (ae (vL Alert.enc r_3.1) wz rfl (ae (vL Post.enc r_6.1) wz rfl (ae (vL Receipt.enc s_20.1) wz rfl (ae (vI r_9.1) wz rfl (ae (vI r_12.1) wz rfl ?_)))))))))
  obtain ⟨r_54,hr_55,hF⟩:=bind_some hF
  refine aF (vk hr_55) rfl hb40 rfl rfl rfl rfl wz (ae (.tup [(vL Debt.enc r_54.1),(vI r_54.2)]) wz rfl (ae (vL Debt.enc r_54.1) wz rfl (ae (vI r_54.2) wz rfl (ae (vL Debt.enc r_54.1) wz rfl (ae (vI r_54.2) wz rfl (aj (af (af (aa (ae (vI r_54.2) wz rfl (ae (vB (r_54.2 != 0)) wz rfl (aj ?_))))))))))))
  rcases ak hF with⟨hc_56,hF⟩ | ⟨hc_56,hF⟩
  ·refine ay rfl hc_56 (af (aa (ae (vB false) wz rfl (aj ?_))))
   obtain rfl:=ah hF
   exact aB (aP (.inr rfl) [(vB false)] ⟨rfl,trivial⟩ rfl rfl rfl)
  ·refine ax rfl hc_56 (au (af (aa (ae .nil wz rfl (aj (af (af (aa (ae (vL Post.enc r_6.1) wz rfl (bO Jw rfl wz (ae (vI 0) wz rfl (aj (lT (fun n_63 => ?_))))))))))))))
   obtain ⟨o_68,hj_69,hF⟩:=bind_some hF
   obtain ⟨hn_61,hj_69⟩:=aW hj_69
   refine aD (β:=((List Receipt))×Nm) (fun p=>(fun (s_62:(List Receipt)) (n_65:Nm)=>([(4,(vL Alert.enc r_3.1)),(5,(vL Post.enc r_6.1)),(6,(vI r_9.1)),(7,(vI r_12.1)),(13,(vL Debt.enc r_54.1)),(15,(gV n_65 4 s_62))]:List (Nat×V))) p.1 p.2) (fun p=>(fun (s_62:(List Receipt)) (n_65:Nm)=>([(n_2,some (.cells 2 [(vL eI s_20.2.1),(vI s_20.2.2)])),(n_23,gF 4 Receipt.enc s_20.1),(n_65,gB 4 Receipt.enc s_62)]:Hp)) p.1 p.2) (fun p=>o_68 = .go p.1) ?_ ?_
   ·refine aA (aV (β:=Nat×(List Post)×((List Receipt))×Nm) (fun p=>(fun (k_57:Nat) (l_58:List Post) (s_62:(List Receipt)) (n_65:Nm)=>([(4,(vL Alert.enc r_3.1)),(5,(vL Post.enc r_6.1)),(6,(vI r_9.1)),(7,(vI r_12.1)),(13,(vL Debt.enc r_54.1)),(15,(gV n_65 4 s_62)),(75,(vL Post.enc r_6.1)),(76,(vI (r_6.1.length:Int))),(77,(vI (k_57:Int)))]:List (Nat×V))) p.1 p.2.1 p.2.2.1 p.2.2.2) (fun p=>(fun (k_57:Nat) (l_58:List Post) (s_62:(List Receipt)) (n_65:Nm)=>([(n_2,some (.cells 2 [(vL eI s_20.2.1),(vI s_20.2.2)])),(n_23,gF 4 Receipt.enc s_20.1),(n_65,gB 4 Receipt.enc s_62)]:Hp)) p.1 p.2.1 p.2.2.1 p.2.2.2) (fun p=>forR (fun k x s=>fA k x s) p.2.1 p.1 p.2.2.1=some o_68∧(r_6.1).drop p.1=p.2.1) (fun p=>p.2.1.length) (0,r_6.1,([]:List Receipt),n_63) ⟨hj_69,rfl⟩ rfl (aI rfl) ?_)
    rintro ⟨k_57,l_58,s_62,n_65⟩ ⟨hL_67,hD_60⟩
    dsimp only at hL_67 hD_60
    cases l_58 with
    | nil =>
     obtain rfl:=ah hL_67
     refine af (aa (ae (vB (decide ((k_57:Int) < (r_6.1.length:Int)))) wz rfl (aj ?_)))
     refine af (ax rfl (drop_nil hD_60) (aS ?_))
     exact aO (s_62,n_65) rfl rfl (aI rfl)
    | cons x_59 l_58 =>
     obtain ⟨c_,hc_66,hL_67⟩:=bind_some hL_67
     refine af (aa (ae (vB (decide ((k_57:Int) < (r_6.1.length:Int)))) wz rfl (aj ?_)))
     refine af (ay rfl (aX hD_60) (au ?_))
     unfold fA at hc_66
     refine af (aA (af (aa (dI Er rfl rfl (bC hD_60) rfl wz (bG wZ Ch rfl (.d (.agg (Post.enc x_59))) rfl wz (dh 0 (.inl rfl) z66 rfl wz (fun n_70=>fD 0 il ft 3 wZ rfl rfl [(vS x_59.Player),(vI x_59.X),(vI x_59.Y)] rfl wz (aj (af (aa (eQ (([(⟨#[97,97]⟩:ByteArray),(⟨#[97,98]⟩:ByteArray),(⟨#[97,99]⟩:ByteArray),(⟨#[97,100]⟩:ByteArray),(⟨#[97,101]⟩:ByteArray)]:List ByteArray).map eS) q8 BS rfl rfl rfl rfl rfl wz (bO xu rfl wz (ae (vI 0) wz rfl (aj ?_))))))))))))))
     obtain ⟨o_81,hj_82,hc_66⟩:=bind_some hc_66
     obtain ⟨hn_75,hj_82⟩:=aW hj_82
     refine aD (β:=((List Receipt))×Nm) (fun p=>(fun (s_76:(List Receipt)) (n_78:Nm)=>([(4,(vL Alert.enc r_3.1)),(5,(vL Post.enc r_6.1)),(6,(vI r_9.1)),(7,(vI r_12.1)),(13,(vL Debt.enc r_54.1)),(15,(gV n_78 4 s_76)),(75,(vL Post.enc r_6.1)),(76,(vI (r_6.1.length:Int))),(77,(vI (k_57:Int)))]:List (Nat×V))) p.1 p.2) (fun p=>(fun (s_76:(List Receipt)) (n_78:Nm)=>([(n_2,some (.cells 2 [(vL eI s_20.2.1),(vI s_20.2.2)])),(n_23,gF 4 Receipt.enc s_20.1),(n_78,gB 4 Receipt.enc s_76),(n_70,some (.cells 3 [(vS x_59.Player),(vI x_59.X),(vI x_59.Y)]))]:Hp)) p.1 p.2) (fun p=>o_81 = .go p.1) ?_ ?_
     ·refine aA (aV (β:=Nat×(List ByteArray)×((List Receipt))×Nm) (fun p=>(fun (k_71:Nat) (l_72:List ByteArray) (s_76:(List Receipt)) (n_78:Nm)=>([(4,(vL Alert.enc r_3.1)),(5,(vL Post.enc r_6.1)),(6,(vI r_9.1)),(7,(vI r_12.1)),(13,(vL Debt.enc r_54.1)),(15,(gV n_78 4 s_76)),(17,(.ref n_70 0 0)),(75,(vL Post.enc r_6.1)),(76,(vI (r_6.1.length:Int))),(77,(vI (k_57:Int))),(81,(vL eS ([(⟨#[97,97]⟩:ByteArray),(⟨#[97,98]⟩:ByteArray),(⟨#[97,99]⟩:ByteArray),(⟨#[97,100]⟩:ByteArray),(⟨#[97,101]⟩:ByteArray)]:List ByteArray))),(82,(vI (([(⟨#[97,97]⟩:ByteArray),(⟨#[97,98]⟩:ByteArray),(⟨#[97,99]⟩:ByteArray),(⟨#[97,100]⟩:ByteArray),(⟨#[97,101]⟩:ByteArray)]:List ByteArray).length:Int))),(83,(vI (k_71:Int)))]:List (Nat×V))) p.1 p.2.1 p.2.2.1 p.2.2.2) (fun p=>(fun (k_71:Nat) (l_72:List ByteArray) (s_76:(List Receipt)) (n_78:Nm)=>([(n_2,some (.cells 2 [(vL eI s_20.2.1),(vI s_20.2.2)])),(n_23,gF 4 Receipt.enc s_20.1),(n_78,gB 4 Receipt.enc s_76),(n_70,some (.cells 3 [(vS x_59.Player),(vI x_59.X),(vI x_59.Y)]))]:Hp)) p.1 p.2.1 p.2.2.1 p.2.2.2) (fun p=>forR (fun k x s=>fE x_59 k x s) p.2.1 p.1 p.2.2.1=some o_81∧(([(⟨#[97,97]⟩:ByteArray),(⟨#[97,98]⟩:ByteArray),(⟨#[97,99]⟩:ByteArray),(⟨#[97,100]⟩:ByteArray),(⟨#[97,101]⟩:ByteArray)]:List ByteArray)).drop p.1=p.2.1) (fun p=>p.2.1.length) (0,([(⟨#[97,97]⟩:ByteArray),(⟨#[97,98]⟩:ByteArray),(⟨#[97,99]⟩:ByteArray),(⟨#[97,100]⟩:ByteArray),(⟨#[97,101]⟩:ByteArray)]:List ByteArray),s_62,n_65) ⟨hj_82,rfl⟩ rfl (aI rfl) ?_)
      rintro ⟨k_71,l_72,s_76,n_78⟩ ⟨hL_80,hD_74⟩
      dsimp only at hL_80 hD_74
      cases l_72 with
      | nil =>
       obtain rfl:=ah hL_80
       refine af (aa (ae (vB (decide ((k_71:Int) < (([(⟨#[97,97]⟩:ByteArray),(⟨#[97,98]⟩:ByteArray),(⟨#[97,99]⟩:ByteArray),(⟨#[97,100]⟩:ByteArray),(⟨#[97,101]⟩:ByteArray)]:List ByteArray).length:Int)))) wz rfl (aj ?_)))
       refine af (ax rfl (drop_nil hD_74) (aS ?_))
       exact aO (s_76,n_78) rfl rfl (aI rfl)
      | cons x_73 l_72 =>
       obtain ⟨c_,hc_79,hL_80⟩:=bind_some hL_80
       refine af (aa (ae (vB (decide ((k_71:Int) < (([(⟨#[97,97]⟩:ByteArray),(⟨#[97,98]⟩:ByteArray),(⟨#[97,99]⟩:ByteArray),(⟨#[97,100]⟩:ByteArray),(⟨#[97,101]⟩:ByteArray)]:List ByteArray).length:Int)))) wz rfl (aj ?_)))
       refine af (ay rfl (aX hD_74) (au ?_))
       unfold fE at hc_79
       refine af (aA (af (aa (dI q8 rfl rfl (bC hD_74) rfl wz (bG sz9 ag9 rfl (vS x_73) rfl wz (ae (vS x_73) wz rfl (aj (aa (ae (gV n_78 4 s_76) wz rfl (aG uh rfl 0 rfl wz (aC 0 3 il ft sz9 ag9 rfl rfl (vS x_59.Player) rfl wz (ae (vS x_73) wz rfl (ae (.d (.agg (Receipt.enc (⟨x_59.Player,x_73,0,false⟩:Receipt)))) wz (by kernel_rfl) (eQ (([(⟨x_59.Player,x_73,0,false⟩:Receipt)]:List Receipt).map Receipt.enc) K9 ez89 rfl rfl rfl rfl rfl wz ?_))))))))))))))
       obtain ⟨a_83,hz_84,hc_79⟩:=bind_some hc_79
       refine jT 0 il ft (i:=2) el89 el89 EC z91 rfl (by decide) by91 (by decide) (fun _=>rfl) rfl rfl rfl hz_84 wz (fun n_85=>ae (gV n_85 4 a_83) wz rfl (aj (aa (dY (bn hD_74 hn_75) wz rfl (ae (vI ((k_71 + 1:Nat):Int)) wz rfl (aj ?_))))))
       obtain rfl:=ah hc_79
       exact aU (k_71 + 1,l_72,a_83,n_85) ⟨hL_80,aR hD_74⟩ (Nat.lt_succ_self _) rfl (aI rfl)
     ·rintro ⟨s_76,n_78⟩ ho_ sl_ H_ hp_ hq_
      subst ho_
      refine aK _ hp_ hq_ (aa (dY (bn hD_60 hn_61) wz rfl (ae (vI ((k_57 + 1:Nat):Int)) wz rfl (aj ?_))))
      obtain rfl:=ah hc_66
      exact aU (k_57 + 1,l_58,s_76,n_78) ⟨hL_67,aR hD_60⟩ (Nat.lt_succ_self _) rfl (aI rfl)
   ·rintro ⟨s_62,n_65⟩ ho_ sl_ H_ hp_ hq_
    subst ho_
    refine aK _ hp_ hq_ (af (gM 2 rfl (dQ 15 2 rfl rfl (aa (ae (vL Alert.enc r_3.1) wz rfl (ae (vL Post.enc r_6.1) wz rfl (ae (vL Receipt.enc s_62) wz rfl (ae (vI r_9.1) wz rfl (ae (vI r_12.1) wz rfl ?_)))))))))
    obtain ⟨r_86,hr_87,hF⟩:=bind_some hF
    refine aF (vk hr_87) rfl hb40 rfl rfl rfl rfl wz (ae (.tup [(vL Debt.enc r_86.1),(vI r_86.2)]) wz rfl (ae (vL Debt.enc r_86.1) wz rfl (ae (vI r_86.2) wz rfl (ae (vL Debt.enc r_86.1) wz rfl (ae (vI r_86.2) wz rfl (aj (af (af (aa (ae (vL Debt.enc r_54.1) wz rfl (bO un92 rfl wz (ae (vI 0) wz rfl (aj ?_)))))))))))))
    obtain ⟨o_96,hj_97,hF⟩:=bind_some hF
    obtain ⟨hn_92,hj_97⟩:=aW hj_97
    refine aD (β:=(Unit)) (fun (s_93:Unit)=>([(20,(vL Debt.enc r_86.1)),(21,(vI r_86.2))]:List (Nat×V))) (fun (s_93:Unit)=>([(n_2,some (.cells 2 [(vL eI s_20.2.1),(vI s_20.2.2)])),(n_23,gF 4 Receipt.enc s_20.1),(n_65,gF 4 Receipt.enc s_62)]:Hp)) (fun p=>o_96 = .go p) ?_ ?_
    ·refine aA (aV (β:=Nat×(List Debt)×(Unit)) (fun p=>(fun (k_88:Nat) (l_89:List Debt) (s_93:Unit)=>([(4,(vL Alert.enc r_3.1)),(5,(vL Post.enc r_6.1)),(6,(vI r_9.1)),(7,(vI r_12.1)),(20,(vL Debt.enc r_86.1)),(21,(vI r_86.2)),(105,(vL Debt.enc r_54.1)),(106,(vI (r_54.1.length:Int))),(107,(vI (k_88:Int)))]:List (Nat×V))) p.1 p.2.1 p.2.2) (fun p=>(fun (k_88:Nat) (l_89:List Debt) (s_93:Unit)=>([(n_2,some (.cells 2 [(vL eI s_20.2.1),(vI s_20.2.2)])),(n_23,gF 4 Receipt.enc s_20.1),(n_65,gF 4 Receipt.enc s_62)]:Hp)) p.1 p.2.1 p.2.2) (fun p=>forR (fun k x s=>fu r_3 r_6 r_9 r_12 k x s) p.2.1 p.1 p.2.2=some o_96∧(r_54.1).drop p.1=p.2.1) (fun p=>p.2.1.length) (0,r_54.1,()) ⟨hj_97,rfl⟩ rfl (aI rfl) ?_)
     rintro ⟨k_88,l_89,s_93⟩ ⟨hL_95,hD_91⟩
     dsimp only at hL_95 hD_91
     cases l_89 with
     | nil =>
      obtain rfl:=ah hL_95
      refine af (aa (ae (vB (decide ((k_88:Int) < (r_54.1.length:Int)))) wz rfl (aj ?_)))
      refine af (ax rfl (drop_nil hD_91) (aS ?_))
      exact aO (s_93) rfl rfl (aI rfl)
     | cons x_90 l_89 =>
      obtain ⟨c_,hc_94,hL_95⟩:=bind_some hL_95
      refine af (aa (ae (vB (decide ((k_88:Int) < (r_54.1.length:Int)))) wz rfl (aj ?_)))
      refine af (ay rfl (aX hD_91) (au ?_))
      unfold fu at hc_94
      refine af (aA (af (aa (dI es92 rfl rfl (bC hD_91) rfl wz (bG sz96 ag96 rfl (.d (.agg (Debt.enc x_90))) rfl wz (dh 0 (.inl rfl) z96 rfl wz (fun n_98=>fD 0 il ft 3 sz96 rfl rfl [(vS x_90.Player),(vS x_90.Alert),(vI x_90.Due),(vI x_90.Got)] rfl wz (aj (af (aa (ae (vL Alert.enc r_3.1) wz rfl (ae (.fn 42 [(.ref n_98 0 0)]) wz rfl ?_))))))))))))
      obtain ⟨r_99,hr_100,hc_94⟩:=bind_some hc_94
      refine dw 0 [3] il ft (gH (gid:=42) (caps := [.ref (aH 0) 0 0]) (Sin := [(.cells 4 [(vS x_90.Player),(vS x_90.Alert),(vI x_90.Due),(vI x_90.Got)])]) (fun _ _ h_=>tH h_) hb42 ⟨rfl,rfl⟩ (by kernel_rfl) (DF (by kernel_rfl)) (zL (by kernel_rfl)) hr_100) rfl hb41 rfl (by kernel_rfl) (by kernel_rfl) (by kernel_rfl) (by kernel_rfl) (by kernel_rfl) (by kernel_rfl) (by kernel_rfl) (by decide) (by kernel_rfl) wz (vI r_99) (by kernel_rfl) ([(n_2,some (.cells 2 [(vL eI s_20.2.1),(vI s_20.2.2)])),(n_23,gF 4 Receipt.enc s_20.1),(n_65,gF 4 Receipt.enc s_62),(n_98,some (.cells 4 [(vS x_90.Player),(vS x_90.Alert),(vI x_90.Due),(vI x_90.Got)]))]:Hp) (by kernel_rfl) (ae (vI r_99) wz rfl (aj (af (aa (ae (vL Post.enc r_6.1) wz rfl (ae (.fn 44 [(.ref n_98 0 0)]) wz rfl ?_))))))
      obtain ⟨r_102,hr_103,hc_94⟩:=bind_some hc_94
      refine dw 0 [3] il ft (lI (gid:=44) (caps := [.ref (aH 0) 0 0]) (Sin := [(.cells 4 [(vS x_90.Player),(vS x_90.Alert),(vI x_90.Due),(vI x_90.Got)])]) (fun _ _ h_=>tL h_) hb44 ⟨rfl,rfl⟩ (by kernel_rfl) (DF (by kernel_rfl)) (zL (by kernel_rfl)) hr_103) rfl hb43 rfl (by kernel_rfl) (by kernel_rfl) (by kernel_rfl) (by kernel_rfl) (by kernel_rfl) (by kernel_rfl) (by kernel_rfl) (by decide) (by kernel_rfl) wz (vI r_102) (by kernel_rfl) ([(n_2,some (.cells 2 [(vL eI s_20.2.1),(vI s_20.2.2)])),(n_23,gF 4 Receipt.enc s_20.1),(n_65,gF 4 Receipt.enc s_62),(n_98,some (.cells 4 [(vS x_90.Player),(vS x_90.Alert),(vI x_90.Due),(vI x_90.Got)]))]:Hp) (by kernel_rfl) (ae (vI r_102) wz rfl (aj (af (af ?_))))
      obtain ⟨v_105,h_106,hc_94⟩:=bind_some hc_94
      refine aD (β:=Unit) (fun _=>([(4,(vL Alert.enc r_3.1)),(5,(vL Post.enc r_6.1)),(6,(vI r_9.1)),(7,(vI r_12.1)),(20,(vL Debt.enc r_86.1)),(21,(vI r_86.2)),(24,(vI r_99)),(25,(vI r_102)),(105,(vL Debt.enc r_54.1)),(106,(vI (r_54.1.length:Int))),(107,(vI (k_88:Int))),(152,(vB v_105))]:List (Nat×V))) (fun _=>([(n_2,some (.cells 2 [(vL eI s_20.2.1),(vI s_20.2.2)])),(n_23,gF 4 Receipt.enc s_20.1),(n_65,gF 4 Receipt.enc s_62),(n_98,some (.cells 4 [(vS x_90.Player),(vS x_90.Alert),(vI x_90.Due),(vI x_90.Got)]))]:Hp)) (fun _=>True) ?_ ?_
      ·refine bA (ae (vI r_99) wz rfl (ae (vB (decide (r_99 < 0))) wz rfl ?_))
       rcases ak h_106 with⟨hc_107,h_106⟩ | ⟨hc_107,h_106⟩
       ·refine av rfl hc_107 wz (ai wa (ai wa (ae (vB true) wz rfl (ae (vB true) wz rfl (ai wa (ai wa (ai wa (ai wa (ai wa (ai wa (ai wa (ai wa (ai wa (ai wa (ae (vB true) wz rfl (ae (vB true) wz rfl (ai wa (ai wa (ai wa (ai wa (ae (vB true) wz rfl (ae (vB true) wz rfl (ai wa ?_)))))))))))))))))))))))
        refine ai wa (ai wa (ai wa (ai (wn rfl rfl) (ai (wn rfl rfl) (ai (wn rfl rfl) (ai (wn rfl rfl) (ai (wn rfl rfl) (ai wa (ae (vB true) wz rfl (aj ?_))))))))))
        obtain rfl:=ah h_106
        exact cu
       ·refine av rfl hc_107 wz (ae (vI r_102) wa rfl (ae (vB (decide (r_102 < 0))) wa rfl (ae (vB (decide (r_102 < 0))) wz rfl ?_)))
        rcases ak h_106 with⟨hc_108,h_106⟩ | ⟨hc_108,h_106⟩
        ·refine av rfl hc_108 wz (ai wa (ai wa (ai wa (ai wa (ai wa (ai wa (ai wa (ai wa (ai wa (ai wa (ae (vB true) wz rfl (ae (vB true) wz rfl (ai wa (ai wa (ai wa (ai wa (ae (vB true) wz rfl (ae (vB true) wz rfl (ai wa (ai wa (ai wa (ai wa (ai (wn rfl rfl) ?_)))))))))))))))))))))))
         refine ai (wn rfl rfl) (ai (wn rfl rfl) (ai (wn rfl rfl) (ai (wn rfl rfl) (ai wa (ae (vB true) wz rfl (aj ?_))))))
         obtain rfl:=ah h_106
         exact cu
        ·refine av rfl hc_108 wz (aG G8 rfl 2 rfl wa (aC 8 3 (.inr (by kernel_rfl)) (fun _ _ ag=>trivial) sz3 ag3 rfl rfl (vI x_90.Due) rfl wa (ae (vL Alert.enc r_3.1) wa rfl (ae (vI r_99) wa rfl ?_))))
         obtain ⟨y_109,hy_110,h_106⟩:=bind_some h_106
         refine dI uF rfl rfl hy_110 rfl wa (pq jU rfl [.int .i64 y_109.At,.int .i64 y_109.Until,.int .i64 y_109.Weight,dl Rect.enc y_109.Areas,.str y_109.Text] rfl rfl wa (bG sz3 ag3 rfl (vI y_109.At) rfl wa (ae (vI r_9.1) wa rfl (ae (vI (w64 (y_109.At + r_9.1))) wa rfl (ae (vB (x_90.Due != (w64 (y_109.At + r_9.1)))) wa rfl (ae (vB (x_90.Due != (w64 (y_109.At + r_9.1)))) wz rfl ?_))))))
         rcases ak h_106 with⟨hc_111,h_106⟩ | ⟨hc_111,h_106⟩
         ·refine av rfl hc_111 wz (ai wa (ai wa (ai wa (ai wa (ae (vB true) wz rfl (ae (vB true) wz rfl (ai wa (ai wa (ai wa (ai wa (ai (wn rfl rfl) (ai (wn rfl rfl) (ai (wn rfl rfl) (ai (wn rfl rfl) (ai (wn rfl rfl) (ai wa (ae (vB true) wz rfl (aj ?_))))))))))))))))))
          obtain rfl:=ah h_106
          exact cu
         ·refine av rfl hc_111 wz (aG G8 rfl 2 rfl wa (aC 20 3 (.inr (by kernel_rfl)) (fun _ _ ag=>⟨.inl ⟨rfl,rfl⟩,trivial⟩) sz3 ag3 rfl rfl (vI x_90.Due) rfl wa (ae (vI r_12.1) wa rfl (ae (vB (decide (x_90.Due≥r_12.1))) wa rfl (ae (vB (decide (x_90.Due≥r_12.1))) wz rfl ?_)))))
          rcases ak h_106 with⟨hc_112,h_106⟩ | ⟨hc_112,h_106⟩
          ·refine av rfl hc_112 wz (ai wa (ai wa (ai wa (ai wa (ai (wn rfl rfl) (ai (wn rfl rfl) (ai (wn rfl rfl) (ai (wn rfl rfl) (ai (wn rfl rfl) (ai wa (ae (vB true) wz rfl (aj ?_))))))))))))
           obtain rfl:=ah h_106
           exact cu
          ·refine av rfl hc_112 wz (aG Ld rfl 3 rfl wa (aC 26 3 (.inr (by kernel_rfl)) (fun _ _ ag=>⟨.inl ⟨rfl,rfl⟩,⟨.inl ⟨rfl,rfl⟩,trivial⟩⟩) sz3 ag3 rfl rfl (vI x_90.Got) rfl wa (ae (vB (decide (x_90.Got≥0))) wa rfl ?_)))
           rcases ak h_106 with⟨hc_113,h_106⟩ | ⟨hc_113,h_106⟩
           ·refine av rfl hc_113 wa (aG Ld rfl 3 rfl wa (aC 30 3 (.inr (by kernel_rfl)) (fun _ _ ag=>⟨.inl ⟨rfl,rfl⟩,⟨.inl ⟨rfl,rfl⟩,⟨.inl ⟨rfl,rfl⟩,trivial⟩⟩⟩) sz3 ag3 rfl rfl (vI x_90.Got) rfl wa (aG G8 rfl 2 rfl wa (aC 32 3 (.inr (by kernel_rfl)) (fun _ _ ag=>⟨.inl ⟨rfl,rfl⟩,⟨.inl ⟨rfl,rfl⟩,⟨.inl ⟨rfl,rfl⟩,⟨.inl ⟨rfl,rfl⟩,trivial⟩⟩⟩⟩) sz3 ag3 rfl rfl (vI x_90.Due) rfl wa (ae (vB (decide (x_90.Got≤x_90.Due))) wa rfl (ae (vB (decide (x_90.Got≤x_90.Due))) wa rfl (ae (vB (decide (x_90.Got≤x_90.Due))) wz rfl (aj ?_))))))))
            obtain rfl:=ah h_106
            exact cu
           ·refine av rfl hc_113 wa (ai wa (ai wa (ai wa (ai wa (ai wa (ae (vB false) wa rfl (ae (vB false) wz rfl (aj ?_))))))))
            obtain rfl:=ah h_106
            exact cu
      ·rintro ⟨⟩ _ sl_ H_ hp_ hq_
       refine aK _ hp_ hq_ ?_
       rcases ak hc_94 with⟨hc_114,hc_94⟩ | ⟨hc_114,hc_94⟩
       ·refine ay rfl hc_114 (af (aa (ae (vB false) wz rfl (aj ?_))))
        obtain rfl:=ah hc_94
        obtain rfl:=ah hL_95
        obtain rfl:=ah hF
        exact aB (aP (.inr rfl) [(vB false)] ⟨rfl,trivial⟩ rfl rfl rfl)
       ·refine ax rfl hc_114 (au (af (bA (ae (vL Alert.enc r_3.1) wz rfl (ae (vI r_99) wz rfl ?_)))))
        obtain ⟨y_115,hy_116,hc_94⟩:=bind_some hc_94
        refine dI uF rfl rfl hy_116 rfl wz (bG gX kC rfl (.d (.agg (Alert.enc y_115))) rfl wz (ae (vL Post.enc r_6.1) wz rfl (ae (vI r_102) wz rfl ?_)))
        obtain ⟨y_117,hy_118,hc_94⟩:=bind_some hc_94
        refine dI Er rfl rfl hy_118 rfl wz (bG wZ Ch rfl (.d (.agg (Post.enc y_117))) rfl wz ?_)
        obtain ⟨r_119,hr_120,hc_94⟩:=bind_some hc_94
        refine aF (rY hr_120) rfl hb45 rfl rfl rfl rfl wz (ae (.tup [(vB r_119.1),(vI r_119.2)]) wz rfl (ae (vB r_119.1) wz rfl (ae (vI r_119.2) wz rfl (ae (vB r_119.1) wz rfl (ae (vI r_119.2) wz rfl (aj (af ?_)))))))
        obtain ⟨v_121,h_122,hc_94⟩:=bind_some hc_94
        refine aD (β:=Unit) (fun _=>([(4,(vL Alert.enc r_3.1)),(5,(vL Post.enc r_6.1)),(6,(vI r_9.1)),(7,(vI r_12.1)),(20,(vL Debt.enc r_86.1)),(21,(vI r_86.2)),(105,(vL Debt.enc r_54.1)),(106,(vI (r_54.1.length:Int))),(107,(vI (k_88:Int))),(170,(vB v_121))]:List (Nat×V))) (fun _=>([(n_2,some (.cells 2 [(vL eI s_20.2.1),(vI s_20.2.2)])),(n_23,gF 4 Receipt.enc s_20.1),(n_65,gF 4 Receipt.enc s_62),(n_98,some (.cells 4 [(vS x_90.Player),(vS x_90.Alert),(vI x_90.Due),(vI x_90.Got)]))]:Hp)) (fun _=>True) ?_ ?_
        ·refine aa (ae (vI r_119.2) wz rfl (ae (vB (r_119.2 != 0)) wz rfl ?_))
         rcases ak h_122 with⟨hc_123,h_122⟩ | ⟨hc_123,h_122⟩
         ·refine av rfl hc_123 wz (ai wa (ai wa (ae (vB true) wz rfl (aj ?_))))
          obtain rfl:=ah h_122
          exact cu
         ·refine av rfl hc_123 wz (ae (vB r_119.1) wa rfl (ae (vB (!r_119.1)) wa rfl (ae (vB (!r_119.1)) wz rfl (aj ?_))))
          obtain rfl:=ah h_122
          exact cu
        ·rintro ⟨⟩ _ sl_ H_ hp_ hq_
         refine aK _ hp_ hq_ ?_
         rcases ak hc_94 with⟨hc_124,hc_94⟩ | ⟨hc_124,hc_94⟩
         ·refine ay rfl hc_124 (af (aa (ae (vB false) wz rfl (aj ?_))))
          obtain rfl:=ah hc_94
          obtain rfl:=ah hL_95
          obtain rfl:=ah hF
          exact aB (aP (.inr rfl) [(vB false)] ⟨rfl,trivial⟩ rfl rfl rfl)
         ·refine ax rfl hc_124 (au (aa (dY (bn hD_91 hn_92) wz rfl (ae (vI ((k_88 + 1:Nat):Int)) wz rfl (aj ?_)))))
          obtain rfl:=ah hc_94
          exact aU (k_88 + 1,l_89,()) ⟨hL_95,aR hD_91⟩ (Nat.lt_succ_self _) rfl (aI rfl)
    ·rintro s_93 ho_ sl_ H_ hp_ hq_
     subst ho_
     refine aK _ hp_ hq_ (af ?_)
     obtain ⟨v_125,h_126,hF⟩:=bind_some hF
     refine aD (β:=Unit) (fun _=>([(2,(vB v_125))]:List (Nat×V))) (fun _=>([(n_2,some (.cells 2 [(vL eI s_20.2.1),(vI s_20.2.2)])),(n_23,gF 4 Receipt.enc s_20.1),(n_65,gF 4 Receipt.enc s_62)]:Hp)) (fun _=>True) ?_ ?_
     ·refine aa (ae (vI r_86.2) wz rfl (ae (vB (r_86.2 == 0)) wz rfl ?_))
      rcases ak h_126 with⟨hc_127,h_126⟩ | ⟨hc_127,h_126⟩
      ·refine av rfl hc_127 wz (ae (vL Debt.enc r_86.1) wa rfl (bO un92 rfl wa (ae (vB ((r_86.1.length:Int) == 0)) wa rfl (ae (vB ((r_86.1.length:Int) == 0)) wz rfl ?_))))
       rcases ak h_126 with⟨hc_128,h_126⟩ | ⟨hc_128,h_126⟩
       ·refine av rfl hc_128 wz ?_
        obtain ⟨r_129,hr_130,h_126⟩:=bind_some h_126
        refine aF (Cb hr_130) rfl hb17 rfl rfl rfl rfl wa (ae (vB r_129) wz rfl (ae (vB r_129) wz rfl (aj ?_)))
        obtain rfl:=ah h_126
        exact cu
       ·refine av rfl hc_128 wz (ai wa (ae (vB false) wz rfl (ae (vB false) wz rfl (aj ?_))))
        obtain rfl:=ah h_126
        exact cu
      ·refine av rfl hc_127 wz (ai wa (ai wa (ai wa (ae (vB false) wz rfl (ae (vB false) wz rfl (ai wa (ae (vB false) wz rfl (ae (vB false) wz rfl (aj ?_)))))))))
       obtain rfl:=ah h_126
       exact cu
     ·rintro ⟨⟩ _ sl_ H_ hp_ hq_
      refine aK _ hp_ hq_ ?_
      obtain rfl:=ah hF
      exact aB (aP (.inr rfl) [(vB v_125)] ⟨rfl,trivial⟩ rfl rfl rfl)
end Go.Proofs.YtjhcehhmdmbleaaGreatDoor.Law

