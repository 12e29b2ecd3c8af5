/-
 The machine computes these plain functions (written by a program of ours).
-/
import Derived.Test.YtjhcehhmdmbleaaGreatDoorFacts
import Derived.Test.YtjhcehhmdmbleaaGreatDoorDefs
import Derived.Test.YtjhcehhmdmbleaaGreatDoorPf6
open Go Go.Eng Go.Proofs
namespace Go.Proofs.YtjhcehhmdmbleaaGreatDoor.Law
set_option maxRecDepth 100000
set_option linter.unusedVariables false
set_option maxHeartbeats 1000000
theorem uM {l_1:(List Int)} {r:Bool} (hF:jL l_1=some r) :
  FnM Tryz.prog 5 [(vL eI l_1)] [] (vB r) []:=by
 refine FnM.of_wH ⟨Tryz.prog,175,[],[]⟩ rfl Tryz.func5 rfl rfl (Nat.le_of_ble_eq_true rfl) (by kernel_rfl) ?_
 unfold jL at hF
 refine af (aa (ae (vB false) wz rfl (ak (af (aa (ae (vL eI l_1) wz rfl (ae (.d (.agg (Stream.enc (⟨l_1,0⟩:Stream)))) wz (by kernel_rfl) (dR 0 (.inl rfl) [(vL eI l_1),(vI 0)] rfl rfl wz (fun n_2=>ae (.ref n_2 0 0) wz rfl (ak (af (aa (ae (.ref n_2 0 0) wz rfl ?_)))))))))))))
 obtain ⟨r_3,hr_4,hF⟩:=bind_some hF
 refine eO 0 [0] il ft (rV hr_4) rfl hb31 rfl (by kernel_rfl) (by kernel_rfl) (by kernel_rfl) (by kernel_rfl) (by kernel_rfl) (by kernel_rfl) (by kernel_rfl) (by decide) (by kernel_rfl) wz (vL Entry.enc r_3.1) (by kernel_rfl) ([(n_2,some (.cells 2 [(vL eI r_3.2.L),(vI r_3.2.f_at)]))]:Hp) (by kernel_rfl) (ae (.ref n_2 0 0) wz rfl ?_)
 obtain ⟨r_6,hr_7,hF⟩:=bind_some hF
 refine eO 0 [0] il ft (sU hr_7) rfl hb32 rfl (by kernel_rfl) (by kernel_rfl) (by kernel_rfl) (by kernel_rfl) (by kernel_rfl) (by kernel_rfl) (by kernel_rfl) (by decide) (by kernel_rfl) wz (.d (.agg (Player.enc r_6.1))) (by kernel_rfl) ([(n_2,some (.cells 2 [(vL eI r_6.2.L),(vI r_6.2.f_at)]))]:Hp) (by kernel_rfl) (ae (.ref n_2 0 0) wz rfl (eG (([0,1,36000000]:List Int).map eI) kE wo rfl rfl rfl rfl rfl wz ?_))
 obtain ⟨r_9,hr_10,hF⟩:=bind_some hF
 refine eO 0 [0] il ft (dS hr_10) rfl Eu rfl (by kernel_rfl) (by kernel_rfl) (by kernel_rfl) (by kernel_rfl) (by kernel_rfl) (by kernel_rfl) (by kernel_rfl) (by decide) (by kernel_rfl) wz (vI r_9.1) (by kernel_rfl) ([(n_2,some (.cells 2 [(vL eI r_9.2.L),(vI r_9.2.f_at)]))]:Hp) (by kernel_rfl) (ae (.ref n_2 0 0) wz rfl (eG (([86400000,345600000]:List Int).map eI) kE wo rfl rfl rfl rfl rfl wz ?_))
 obtain ⟨r_12,hr_13,hF⟩:=bind_some hF
 refine eO 0 [0] il ft (dS hr_13) rfl Eu rfl (by kernel_rfl) (by kernel_rfl) (by kernel_rfl) (by kernel_rfl) (by kernel_rfl) (by kernel_rfl) (by kernel_rfl) (by decide) (by kernel_rfl) wz (vI r_12.1) (by kernel_rfl) ([(n_2,some (.cells 2 [(vL eI r_12.2.L),(vI r_12.2.f_at)]))]:Hp) (by kernel_rfl) (ae (.d (.agg (Window.enc (⟨r_9.1,r_12.1⟩:Window)))) wz (by kernel_rfl) (dm 0 (.inl rfl) z81 rfl wz (fun n_15=>dm 0 (.inl rfl) z60 rfl wz (fun n_16=>ae (vL Entry.enc r_3.1) wz rfl (eY 0 il ft 1 tN rfl rfl [(vS r_6.1.Key),(vS r_6.1.Screen),(vI r_6.1.Zone),(vL eS r_6.1.Tags)] rfl wz (eY 0 il ft 2 kW rfl rfl [(vI r_9.1),(vI r_12.1)] rfl wz (ak (af (aa (ae (vL Entry.enc r_3.1) wz rfl (aA 0 1 il ft tN vX rfl rfl (.d (.agg (Player.enc r_6.1))) rfl wz (aA 0 2 il ft kW qd rfl rfl (.d (.agg (Window.enc (⟨r_9.1,r_12.1⟩:Window)))) rfl wz ?_))))))))))))
 obtain ⟨r_17,hr_18,hF⟩:=bind_some hF
 refine aG (xX hr_18) rfl hb33 rfl rfl rfl rfl wz (ae (.tup [(vL Slot_.enc r_17.1),(vI r_17.2)]) wz rfl (ae (vL Slot_.enc r_17.1) wz rfl (ae (vI r_17.2) wz rfl (ae (vL Slot_.enc r_17.1) wz rfl (ae (vI r_17.2) wz rfl (ak (aL (H0:=([(n_2,some (.cells 2 [(vL eI r_12.2.L),(vI r_12.2.f_at)])),(n_15,some (.cells 4 [(vS r_6.1.Key),(vS r_6.1.Screen),(vI r_6.1.Zone),(vL eS r_6.1.Tags)])),(n_16,some (.cells 2 [(vI r_9.1),(vI r_12.1)]))]:Hp)) ([(3,(.ref n_2 0 0)),(4,(vL Entry.enc r_3.1)),(5,(.ref n_15 0 0)),(6,(.ref n_16 0 0)),(7,(vL Slot_.enc r_17.1)),(8,(vI r_17.2))]:List (Nat×V)) (by kernel_rfl) (tq (by kernel_rfl)) (af (af ?_)))))))))
 obtain ⟨v_19,h_20,hF⟩:=bind_some hF
 refine aH (β:=Unit) (fun _=>([(3,(.ref n_2 0 0)),(4,(vL Entry.enc r_3.1)),(5,(.ref n_15 0 0)),(7,(vL Slot_.enc r_17.1)),(67,(vB v_19))]:List (Nat×V))) (fun _=>([(n_2,some (.cells 2 [(vL eI r_12.2.L),(vI r_12.2.f_at)])),(n_15,some (.cells 4 [(vS r_6.1.Key),(vS r_6.1.Screen),(vI r_6.1.Zone),(vL eS r_6.1.Tags)])),(n_16,some (.cells 2 [(vI r_9.1),(vI r_12.1)]))]:Hp)) (fun _=>True) ?_ ?_
 ·refine bn (ae (vI r_17.2) wz rfl (ae (vB (r_17.2 != 0)) wz rfl ?_))
  rcases au h_20 with⟨hc_21,h_20⟩ | ⟨hc_21,h_20⟩
  ·refine aD rfl hc_21 wz (aj wa (aj wa (aj wa (ae (vB true) wz rfl (ae (vB true) wz rfl (aj wa (aj wa (aj wa (aj wa (aj wa (aj wa (aj wa (aj wa (ae (vB true) wz rfl (ae (vB true) wz rfl (aj wa (aj wa (aj wa (aj wa (aj wa (aj wa (aj wa (aj wa ?_)))))))))))))))))))))))
   refine aj wa (aj wa (aj wa (ae (vB true) wz rfl (ak ?_))))
   obtain rfl:=ah h_20
   exact cu
  ·refine aD rfl hc_21 wz (ae (vL Slot_.enc r_17.1) wa rfl (cz un67 rfl wa (ae (vB ((r_17.1.length:Int) == 0)) wa rfl (ae (vB ((r_17.1.length:Int) == 0)) wz rfl ?_))))
   rcases au h_20 with⟨hc_22,h_20⟩ | ⟨hc_22,h_20⟩
   ·refine aD rfl hc_22 wz (aj wa (aj wa (aj wa (aj wa (aj wa (aj wa (aj wa (aj wa (ae (vB true) wz rfl (ae (vB true) wz rfl (aj wa (aj wa (aj wa (aj wa (aj wa (aj wa (aj wa (aj wa (aj wa (aj wa (aj wa (ae (vB true) wz rfl (ak ?_)))))))))))))))))))))))
    obtain rfl:=ah h_20
    exact cu
   ·refine aD rfl hc_22 wz (ae (vL Slot_.enc r_17.1) wa rfl ?_)
    obtain ⟨y_23,hy_24,h_20⟩:=bind_some h_20
    refine dL H6 rfl rfl hy_24 rfl wa (jg tC rfl [.int .i64 y_23.Time.From,.int .i64 y_23.Time.To,.str y_23.Entry] rfl rfl wa (jg gq rfl [.int .i64 y_23.Time.From,.int .i64 y_23.Time.To,.str y_23.Entry] rfl rfl wa (bG sz3 ag3 rfl (vI y_23.Time.From) rfl wa (aI gq rfl 0 rfl wa (aA 14 2 (.inr (by kernel_rfl)) (fun _ _ ag=>trivial) sz3 ag3 rfl rfl (vI r_9.1) rfl wa (ae (vB (y_23.Time.From != r_9.1)) wa rfl (ae (vB (y_23.Time.From != r_9.1)) wz rfl ?_)))))))
    rcases au h_20 with⟨hc_25,h_20⟩ | ⟨hc_25,h_20⟩
    ·refine aD rfl hc_25 wz (aj wa (aj wa (aj wa (aj wa (aj wa (aj wa (aj wa (aj wa (aj wa (aj wa (aj wa (ae (vB true) wz rfl (ak ?_)))))))))))))
     obtain rfl:=ah h_20
     exact cu
    ·refine aD rfl hc_25 wz (ae (vL Slot_.enc r_17.1) wa rfl (ae (vL Slot_.enc r_17.1) wa rfl (cz un67 rfl wa (ae (vI (w64 ((r_17.1.length:Int) - 1))) wa rfl ?_))))
     obtain ⟨y_26,hy_27,h_20⟩:=bind_some h_20
     refine dL H6 rfl rfl hy_27 rfl wa (jg tC rfl [.int .i64 y_26.Time.From,.int .i64 y_26.Time.To,.str y_26.Entry] rfl rfl wa (jg iC rfl [.int .i64 y_26.Time.To,.str y_26.Entry] rfl rfl wa (bG sz3 ag3 rfl (vI y_26.Time.To) rfl wa (aI iC rfl 1 rfl wa (aA 27 2 (.inr (by kernel_rfl)) (fun _ _ ag=>⟨.inl ⟨rfl,rfl⟩,trivial⟩) sz3 ag3 rfl rfl (vI r_12.1) rfl wa (ae (vB (y_26.Time.To != r_12.1)) wa rfl (ae (vB (y_26.Time.To != r_12.1)) wz rfl (ak ?_))))))))
     obtain rfl:=ah h_20
     exact cu
 ·rintro ⟨⟩ _ sl_ H_ hp_ hq_
  refine aL _ hp_ hq_ ?_
  rcases au hF with⟨hc_28,hF⟩ | ⟨hc_28,hF⟩
  ·refine aB rfl hc_28 (af (aa (ae (vB false) wz rfl (ak ?_))))
   obtain rfl:=ah hF
   exact aC (aO (.inr rfl) [(vB false)] ⟨rfl,trivial⟩ rfl rfl rfl)
  ·refine ay rfl hc_28 (av (af (af (aa (ae (vL Slot_.enc r_17.1) wz rfl (cz un67 rfl wz (ae (vI 0) wz rfl (ak ?_))))))))
   obtain ⟨o_37,hj_38,hF⟩:=bind_some hF
   obtain ⟨hn_33,hj_38⟩:=bA hj_38
   refine aH (β:=((List Int)×Int)) (fun (s_34:(List Int)×Int)=>([]:List (Nat×V))) (fun (s_34:(List Int)×Int)=>([(n_2,some (.cells 2 [(vL eI s_34.1),(vI s_34.2)])),(n_15,some (.cells 4 [(vS r_6.1.Key),(vS r_6.1.Screen),(vI r_6.1.Zone),(vL eS r_6.1.Tags)])),(n_16,some (.cells 2 [(vI r_9.1),(vI r_12.1)]))]:Hp)) (fun p=>o_37 = .go p) ?_ ?_
   ·refine aF (aV (β:=Nat×(List Slot_)×((List Int)×Int)) (fun p=>(fun (k_29:Nat) (l_30:List Slot_) (s_34:(List Int)×Int)=>([(3,(.ref n_2 0 0)),(4,(vL Entry.enc r_3.1)),(5,(.ref n_15 0 0)),(7,(vL Slot_.enc r_17.1)),(68,(vL Slot_.enc r_17.1)),(69,(vI (r_17.1.length:Int))),(70,(vI (k_29:Int)))]:List (Nat×V))) p.1 p.2.1 p.2.2) (fun p=>(fun (k_29:Nat) (l_30:List Slot_) (s_34:(List Int)×Int)=>([(n_2,some (.cells 2 [(vL eI s_34.1),(vI s_34.2)])),(n_15,some (.cells 4 [(vS r_6.1.Key),(vS r_6.1.Screen),(vI r_6.1.Zone),(vL eS r_6.1.Tags)])),(n_16,some (.cells 2 [(vI r_9.1),(vI r_12.1)]))]:Hp)) p.1 p.2.1 p.2.2) (fun p=>forR (fun k x s=>fA r_17 r_3 r_6 k x s) p.2.1 p.1 p.2.2=some o_37∧(r_17.1).drop p.1=p.2.1) (fun p=>p.2.1.length) (0,r_17.1,(r_12.2.L,r_12.2.f_at)) ⟨hj_38,rfl⟩ rfl (aJ rfl) ?_)
    rintro ⟨k_29,l_30,s_34⟩ ⟨hL_36,hD_32⟩
    dsimp only at hL_36 hD_32
    cases l_30 with
    | nil =>
     obtain rfl:=ah hL_36
     refine af (aa (ae (vB (decide ((k_29:Int) < (r_17.1.length:Int)))) wz rfl (ak ?_)))
     refine af (ay rfl (drop_nil hD_32) (aQ ?_))
     exact aR (s_34) rfl rfl (aJ rfl)
    | cons x_31 l_30 =>
     obtain ⟨c_,hc_35,hL_36⟩:=bind_some hL_36
     refine af (aa (ae (vB (decide ((k_29:Int) < (r_17.1.length:Int)))) wz rfl (ak ?_)))
     refine af (aB rfl (bI hD_32) (av ?_))
     unfold fA at hc_35
     refine af (aF (af (aa (ae (vI (k_29:Int)) wz rfl (dL H6 rfl rfl (bP hD_32) rfl wz (bG sz76 ag76 rfl (.d (.agg (Slot_.enc x_31))) rfl wz (dm 0 (.inl rfl) z76 rfl wz (fun n_39=>ae (vI (k_29:Int)) wz rfl (eY 0 il ft 3 sz76 rfl rfl [(vI x_31.Time.From),(vI x_31.Time.To),(vS x_31.Entry)] rfl wz (ak (af (af ?_))))))))))))
     obtain ⟨v_40,h_41,hc_35⟩:=bind_some hc_35
     refine aH (β:=Unit) (fun _=>([(3,(.ref n_2 0 0)),(4,(vL Entry.enc r_3.1)),(5,(.ref n_15 0 0)),(7,(vL Slot_.enc r_17.1)),(10,(.ref n_39 0 0)),(68,(vL Slot_.enc r_17.1)),(69,(vI (r_17.1.length:Int))),(70,(vI (k_29:Int))),(109,(vB v_40))]:List (Nat×V))) (fun _=>([(n_2,some (.cells 2 [(vL eI s_34.1),(vI s_34.2)])),(n_15,some (.cells 4 [(vS r_6.1.Key),(vS r_6.1.Screen),(vI r_6.1.Zone),(vL eS r_6.1.Tags)])),(n_16,some (.cells 2 [(vI r_9.1),(vI r_12.1)])),(n_39,some (.cells 3 [(vI x_31.Time.From),(vI x_31.Time.To),(vS x_31.Entry)]))]:Hp)) (fun _=>True) ?_ ?_
     ·refine bn (aI tC rfl 0 rfl wz (aI gq rfl 0 rfl wz (aA 2 3 (.inr (by kernel_rfl)) (fun _ _ ag=>trivial) sz3 ag3 rfl rfl (vI x_31.Time.From) rfl wz (aI tC rfl 0 rfl wz (aI iC rfl 1 rfl wz (aA 5 3 (.inr (by kernel_rfl)) (fun _ _ ag=>⟨.inl ⟨rfl,rfl⟩,trivial⟩) sz3 ag3 rfl rfl (vI x_31.Time.To) rfl wz (ae (vB (decide (x_31.Time.From≥x_31.Time.To))) wz rfl ?_)))))))
      rcases au h_41 with⟨hc_42,h_41⟩ | ⟨hc_42,h_41⟩
      ·refine aD rfl hc_42 wz (aj wa (aj wa (aj wa (aj (wn rfl rfl) (aj (wn rfl rfl) (aj (wn rfl rfl) (aj (wn rfl rfl) (aj (wn rfl rfl) (aj (wn rfl rfl) (aj (wn rfl rfl) (aj (wn rfl rfl) (aj (wn rfl rfl) (aj (wn rfl rfl) (aj (wn rfl rfl) (aj (wn rfl rfl) (aj (wn rfl rfl) (aj (wn rfl rfl) (aj (wn rfl rfl) (aj (wn rfl rfl) (aj (wn rfl rfl) (aj (wn rfl rfl) (aj (wn rfl rfl) (aj (wn rfl rfl) ?_)))))))))))))))))))))))
       refine aj (wn rfl rfl) (aj (wn rfl rfl) (aj wa (ae (vB true) wz rfl (ak ?_))))
       obtain rfl:=ah h_41
       exact cu
      ·refine aD rfl hc_42 wz (ae (vI (k_29:Int)) wa rfl (ae (vB (decide ((k_29:Int) > 0))) wa rfl ?_))
       rcases au h_41 with⟨hc_43,h_41⟩ | ⟨hc_43,h_41⟩
       ·refine aD rfl hc_43 wa (aI tC rfl 0 rfl wa (aI gq rfl 0 rfl wa (aA 13 3 (.inr (by kernel_rfl)) (fun _ _ ag=>⟨.inl ⟨rfl,rfl⟩,⟨.inl ⟨rfl,rfl⟩,trivial⟩⟩) sz3 ag3 rfl rfl (vI x_31.Time.From) rfl wa (ae (vL Slot_.enc r_17.1) wa rfl (ae (vI (k_29:Int)) wa rfl (ae (vI (w64 ((k_29:Int) - 1))) wa rfl ?_))))))
        obtain ⟨y_44,hy_45,h_41⟩:=bind_some h_41
        refine dL H6 rfl rfl hy_45 rfl wa (jg tC rfl [.int .i64 y_44.Time.From,.int .i64 y_44.Time.To,.str y_44.Entry] rfl rfl wa (jg iC rfl [.int .i64 y_44.Time.To,.str y_44.Entry] rfl rfl wa (bG sz3 ag3 rfl (vI y_44.Time.To) rfl wa (ae (vB (x_31.Time.From != y_44.Time.To)) wa rfl ?_))))
        rcases au h_41 with⟨hc_46,h_41⟩ | ⟨hc_46,h_41⟩
        ·refine aD rfl hc_46 wa (aj wa (aj wa (aj wa (aj wa (aj wa (aj wa (aj wa (aj wa (aj wa (ae (vB true) wa rfl (ae (vB true) wa rfl (ae (vB true) wz rfl (ak ?_)))))))))))))
         obtain rfl:=ah h_41
         exact cu
        ·refine aD rfl hc_46 wa (aI FW rfl 2 rfl wa (aA 24 3 (.inr (by kernel_rfl)) (fun _ _ ag=>⟨.inl ⟨rfl,rfl⟩,⟨.inl ⟨rfl,rfl⟩,⟨.inl ⟨rfl,rfl⟩,trivial⟩⟩⟩) sz9 ag9 rfl rfl (vS x_31.Entry) rfl wa (ae (vL Slot_.enc r_17.1) wa rfl (ae (vI (k_29:Int)) wa rfl (ae (vI (w64 ((k_29:Int) - 1))) wa rfl ?_)))))
         obtain ⟨y_47,hy_48,h_41⟩:=bind_some h_41
         refine dL H6 rfl rfl hy_48 rfl wa (jg FW rfl [.str y_47.Entry] rfl rfl wa (bG sz9 ag9 rfl (vS y_47.Entry) rfl wa (ae (vB (sEq x_31.Entry y_47.Entry)) wa rfl (ae (vB (sEq x_31.Entry y_47.Entry)) wa rfl (ae (vB (sEq x_31.Entry y_47.Entry)) wa rfl (ae (vB (sEq x_31.Entry y_47.Entry)) wz rfl (ak ?_)))))))
         obtain rfl:=ah h_41
         exact cu
       ·refine aD rfl hc_43 wa (aj wa (aj wa (aj wa (aj wa (aj wa (aj wa (aj wa (aj wa (aj wa (aj wa (aj wa (aj wa (aj (wn rfl rfl) (aj (wn rfl rfl) (aj (wn rfl rfl) (aj (wn rfl rfl) (aj (wn rfl rfl) (aj (wn rfl rfl) (aj (wn rfl rfl) (aj (wn rfl rfl) (aj (wn rfl rfl) (aj wa (ae (vB false) wa rfl ?_)))))))))))))))))))))))
        refine ae (vB false) wz rfl (ak ?_)
        obtain rfl:=ah h_41
        exact cu
     ·rintro ⟨⟩ _ sl_ H_ hp_ hq_
      refine aL _ hp_ hq_ ?_
      rcases au hc_35 with⟨hc_49,hc_35⟩ | ⟨hc_49,hc_35⟩
      ·refine aB rfl hc_49 (af (aa (ae (vB false) wz rfl (ak ?_))))
       obtain rfl:=ah hc_35
       obtain rfl:=ah hL_36
       obtain rfl:=ah hF
       exact aC (aO (.inr rfl) [(vB false)] ⟨rfl,trivial⟩ rfl rfl rfl)
      ·refine ay rfl hc_49 (av (af (bn (aI tC rfl 0 rfl wz (aI gq rfl 0 rfl wz (aA 2 3 (.inr (by kernel_rfl)) (fun _ _ ag=>trivial) sz3 ag3 rfl rfl (vI x_31.Time.From) rfl wz (ae (.ref n_2 0 0) wz rfl (aI tC rfl 0 rfl wz (aI iC rfl 1 rfl wz (aA 6 3 (.inr (by kernel_rfl)) (fun _ _ ag=>⟨.inl ⟨rfl,rfl⟩,trivial⟩) sz3 ag3 rfl rfl (vI x_31.Time.To) rfl wz (aI tC rfl 0 rfl wz (aI gq rfl 0 rfl wz (aA 9 3 (.inr (by kernel_rfl)) (fun _ _ ag=>⟨.inl ⟨rfl,rfl⟩,⟨.inl ⟨rfl,rfl⟩,trivial⟩⟩) sz3 ag3 rfl rfl (vI x_31.Time.From) rfl wz (ae (vI (w64 (x_31.Time.To - x_31.Time.From))) wz rfl (ae (vI (w64 ((w64 (x_31.Time.To - x_31.Time.From)) - 1))) wz rfl ?_)))))))))))))))
       obtain ⟨r_50,hr_51,hc_35⟩:=bind_some hc_35
       refine eO 12 [0] (.inr (by kernel_rfl)) (fun _ _ ag=>by exact⟨.inr (.inl (Li (Fs ag (i:=0) (j:=3) rfl rfl (by decide)))),⟨.inr (.inr (by kernel_rfl)),⟨.inr (.inr (by kernel_rfl)),trivial⟩⟩⟩) (rz hr_51) rfl hb34 rfl (by kernel_rfl) (by kernel_rfl) (by kernel_rfl) (by kernel_rfl) (by kernel_rfl) (by kernel_rfl) (by kernel_rfl) (by decide) (by kernel_rfl) wz (vI r_50.1) (by kernel_rfl) ([(n_2,some (.cells 2 [(vL eI r_50.2.L),(vI r_50.2.f_at)])),(n_15,some (.cells 4 [(vS r_6.1.Key),(vS r_6.1.Screen),(vI r_6.1.Zone),(vL eS r_6.1.Tags)])),(n_16,some (.cells 2 [(vI r_9.1),(vI r_12.1)])),(n_39,some (.cells 3 [(vI x_31.Time.From),(vI x_31.Time.To),(vS x_31.Entry)]))]:Hp) (by kernel_rfl) (ae (vI (w64 (x_31.Time.From + r_50.1))) wz rfl (ae (vI (w64 (x_31.Time.From + r_50.1))) wz rfl (ak (af (aa (ae (vL Entry.enc r_3.1) wz rfl (aA 0 1 il ft tN vX rfl rfl (.d (.agg (Player.enc r_6.1))) rfl wz (ae (vI (w64 (x_31.Time.From + r_50.1))) wz rfl ?_))))))))
       obtain ⟨r_53,hr_54,hc_35⟩:=bind_some hc_35
       refine aG (CB hr_54) rfl hb35 rfl rfl rfl rfl wz (ae (.tup [(vS r_53.1),(vB r_53.2.1),(vI r_53.2.2)]) wz rfl (ae (vS r_53.1) wz rfl (ae (vB r_53.2.1) wz rfl (ae (vI r_53.2.2) wz rfl (ae (vS r_53.1) wz rfl (ae (vB r_53.2.1) wz rfl (ae (vI r_53.2.2) wz rfl (ak (af (aa (ae (vL Entry.enc r_3.1) wz rfl (aA 0 1 il ft tN vX rfl rfl (.d (.agg (Player.enc r_6.1))) rfl wz (ae (vI (w64 (x_31.Time.From + r_50.1))) wz rfl ?_)))))))))))))
       obtain ⟨r_55,hr_56,hc_35⟩:=bind_some hc_35
       refine aG (BP hr_56) rfl hb36 rfl rfl rfl rfl wz (ae (.tup [(vL eS r_55.1),(vI r_55.2)]) wz rfl (ae (vL eS r_55.1) wz rfl (ae (vI r_55.2) wz rfl (ae (vL eS r_55.1) wz rfl (ae (vI r_55.2) wz rfl (ak (aL (H0:=([(n_2,some (.cells 2 [(vL eI r_50.2.L),(vI r_50.2.f_at)])),(n_15,some (.cells 4 [(vS r_6.1.Key),(vS r_6.1.Screen),(vI r_6.1.Zone),(vL eS r_6.1.Tags)])),(n_16,some (.cells 2 [(vI r_9.1),(vI r_12.1)])),(n_39,some (.cells 3 [(vI x_31.Time.From),(vI x_31.Time.To),(vS x_31.Entry)]))]:Hp)) ([(3,(.ref n_2 0 0)),(4,(vL Entry.enc r_3.1)),(5,(.ref n_15 0 0)),(7,(vL Slot_.enc r_17.1)),(10,(.ref n_39 0 0)),(12,(vS r_53.1)),(13,(vB r_53.2.1)),(14,(vI r_53.2.2)),(15,(vL eS r_55.1)),(16,(vI r_55.2)),(68,(vL Slot_.enc r_17.1)),(69,(vI (r_17.1.length:Int))),(70,(vI (k_29:Int)))]:List (Nat×V)) (by kernel_rfl) (tq (by kernel_rfl)) (af ?_))))))))
       obtain ⟨v_57,h_58,hc_35⟩:=bind_some hc_35
       refine aH (β:=Unit) (fun _=>([(3,(.ref n_2 0 0)),(4,(vL Entry.enc r_3.1)),(5,(.ref n_15 0 0)),(7,(vL Slot_.enc r_17.1)),(68,(vL Slot_.enc r_17.1)),(69,(vI (r_17.1.length:Int))),(70,(vI (k_29:Int))),(172,(vB v_57))]:List (Nat×V))) (fun _=>([(n_2,some (.cells 2 [(vL eI r_50.2.L),(vI r_50.2.f_at)])),(n_15,some (.cells 4 [(vS r_6.1.Key),(vS r_6.1.Screen),(vI r_6.1.Zone),(vL eS r_6.1.Tags)])),(n_16,some (.cells 2 [(vI r_9.1),(vI r_12.1)])),(n_39,some (.cells 3 [(vI x_31.Time.From),(vI x_31.Time.To),(vS x_31.Entry)]))]:Hp)) (fun _=>True) ?_ ?_
       ·refine aa (ae (vI r_53.2.2) wz rfl (ae (vI r_55.2) wz rfl (eG (([r_53.2.2,r_55.2]:List Int).map eI) M0 ez140 rfl rfl rfl rfl rfl wz ?_)))
        obtain ⟨r_59,hr_60,h_58⟩:=bind_some h_58
        refine aG (zk hr_60) rfl hb14 rfl rfl rfl rfl wz (ae (vB (r_59 != 0)) wz rfl ?_)
        rcases au h_58 with⟨hc_61,h_58⟩ | ⟨hc_61,h_58⟩
        ·refine aD rfl hc_61 wz (aj wa (aj wa (aj wa (aj wa (ae (vB true) wz rfl (ae (vB true) wz rfl (aj wa (aj wa (aj wa (aj wa (ae (vB true) wz rfl (ae (vB true) wz rfl (aj wa (aj wa (aj wa (aj wa (aj wa (ae (vB true) wz rfl (ae (vB true) wz rfl (aj wa (aj wa (aj (wn rfl rfl) (aj (wn rfl rfl) ?_)))))))))))))))))))))))
         refine aj (wn rfl rfl) (aj (wn rfl rfl) (aj (wn rfl rfl) (aj wa (ae (vB true) wz rfl (ak ?_)))))
         obtain rfl:=ah h_58
         exact cu
        ·refine aD rfl hc_61 wz (ae (vS r_53.1) wa rfl (aI FW rfl 2 rfl wa (aA 0 3 il ft sz9 ag9 rfl rfl (vS x_31.Entry) rfl wa (ae (vB (sNe r_53.1 x_31.Entry)) wa rfl (ae (vB (sNe r_53.1 x_31.Entry)) wz rfl ?_)))))
         rcases au h_58 with⟨hc_62,h_58⟩ | ⟨hc_62,h_58⟩
         ·refine aD rfl hc_62 wz (aj wa (aj wa (aj wa (aj wa (ae (vB true) wz rfl (ae (vB true) wz rfl (aj wa (aj wa (aj wa (aj wa (aj wa (ae (vB true) wz rfl (ae (vB true) wz rfl (aj wa (aj wa (aj (wn rfl rfl) (aj (wn rfl rfl) (aj (wn rfl rfl) (aj (wn rfl rfl) (aj (wn rfl rfl) (aj wa (ae (vB true) wz rfl (ak ?_)))))))))))))))))))))))
          obtain rfl:=ah h_58
          exact cu
         ·refine aD rfl hc_62 wz (ae (vB r_53.2.1) wa rfl (ae (vS r_53.1) wa rfl (ae (vB (sNe r_53.1 (⟨#[]⟩:ByteArray))) wa rfl (GM un4 rfl rfl wa (ae (vB (!(r_53.2.1 == (sNe r_53.1 (⟨#[]⟩:ByteArray))))) wz rfl ?_)))))
          rcases au h_58 with⟨hc_63,h_58⟩ | ⟨hc_63,h_58⟩
          ·refine aD rfl hc_63 wz (aj wa (aj wa (aj wa (aj wa (aj wa (ae (vB true) wz rfl (ae (vB true) wz rfl (aj wa (aj wa (aj (wn rfl rfl) (aj (wn rfl rfl) (aj (wn rfl rfl) (aj (wn rfl rfl) (aj (wn rfl rfl) (aj wa (ae (vB true) wz rfl (ak ?_)))))))))))))))))
           obtain rfl:=ah h_58
           exact cu
          ·refine aD rfl hc_63 wz (ae (vB r_53.2.1) wa rfl (ae (vL eS r_55.1) wa rfl (cz BM rfl wa (ae (vB (decide ((r_55.1.length:Int) > 0))) wa rfl (GM un4 rfl rfl wa (ae (vB (!(r_53.2.1 == (decide ((r_55.1.length:Int) > 0))))) wz rfl ?_))))))
           rcases au h_58 with⟨hc_64,h_58⟩ | ⟨hc_64,h_58⟩
           ·refine aD rfl hc_64 wz (aj wa (aj wa (aj (wn rfl rfl) (aj (wn rfl rfl) (aj (wn rfl rfl) (aj (wn rfl rfl) (aj (wn rfl rfl) (aj wa (ae (vB true) wz rfl (ak ?_))))))))))
            obtain rfl:=ah h_58
            exact cu
           ·refine aD rfl hc_64 wz (ae (vB r_53.2.1) wa rfl ?_)
            rcases au h_58 with⟨hc_65,h_58⟩ | ⟨hc_65,h_58⟩
            ·refine aD rfl hc_65 wa (ae (vL eS r_55.1) wa rfl ?_)
             obtain ⟨y_66,hy_67,h_58⟩:=bind_some h_58
             refine dL uQ rfl rfl hy_67 rfl wa (bG sz9 ag9 rfl (vS y_66) rfl wa (ae (vS r_53.1) wa rfl (ae (vB (sNe y_66 r_53.1)) wa rfl (ae (vB (sNe y_66 r_53.1)) wa rfl (ae (vB (sNe y_66 r_53.1)) wz rfl (ak ?_))))))
             obtain rfl:=ah h_58
             exact cu
            ·refine aD rfl hc_65 wa (aj wa (aj wa (aj wa (aj wa (aj wa (ae (vB false) wa rfl (ae (vB false) wz rfl (ak ?_))))))))
             obtain rfl:=ah h_58
             exact cu
       ·rintro ⟨⟩ _ sl_ H_ hp_ hq_
        refine aL _ hp_ hq_ ?_
        rcases au hc_35 with⟨hc_68,hc_35⟩ | ⟨hc_68,hc_35⟩
        ·refine aB rfl hc_68 (af (aa (ae (vB false) wz rfl (ak ?_))))
         obtain rfl:=ah hc_35
         obtain rfl:=ah hL_36
         obtain rfl:=ah hF
         exact aC (aO (.inr rfl) [(vB false)] ⟨rfl,trivial⟩ rfl rfl rfl)
        ·refine ay rfl hc_68 (av (aa (fJ (bK hD_32 hn_33) wz rfl (ae (vI ((k_29 + 1:Nat):Int)) wz rfl (ak ?_)))))
         obtain rfl:=ah hc_35
         exact aP (k_29 + 1,l_30,(r_50.2.L,r_50.2.f_at)) ⟨hL_36,aW hD_32⟩ (Nat.lt_succ_self _) rfl (aJ rfl)
   ·rintro s_34 ho_ sl_ H_ hp_ hq_
    subst ho_
    refine aL _ hp_ hq_ (af (aa ?_))
    obtain ⟨r_69,hr_70,hF⟩:=bind_some hF
    refine aG (Ep hr_70) rfl hb17 rfl rfl rfl rfl wz (ae (vB r_69) wz rfl (ak ?_))
    obtain rfl:=ah hF
    exact aC (aO (.inr rfl) [(vB r_69)] ⟨rfl,trivial⟩ rfl rfl rfl)
end Go.Proofs.YtjhcehhmdmbleaaGreatDoor.Law

