/-
 The machine computes these plain functions (written by a program of ours).
-/
import Derived.Test.YtjhcehhmdmbleaaGreatDoorFacts
import Derived.Test.YtjhcehhmdmbleaaGreatDoorDefs
import Derived.Test.YtjhcehhmdmbleaaGreatDoorPf3
open Go Go.Eng Go.Proofs
namespace Go.Proofs.YtjhcehhmdmbleaaGreatDoor.Law
set_option maxRecDepth 100000
set_option linter.unusedVariables false
set_option maxHeartbeats 1000000
theorem Bo {wv_1:Wall} {l_2:Layout} {r:(List View)×Int} (hF:lN wv_1 l_2=some r) :
  FnM Tryz.prog 11 [(.d (.agg (Wall.enc wv_1))),(.d (.agg (Layout.enc l_2)))] [] (.tup [(vL View.enc r.1),(vI r.2)]) []:=by
 refine FnM.of_wH ⟨Tryz.prog,61,[],[]⟩ rfl Tryz.func11 rfl rfl (Nat.le_of_ble_eq_true rfl) (by kernel_rfl) ?_
 unfold lN at hF
 refine af (aa (dJ 0 (.inl rfl) [(vS wv_1.Key),(vI wv_1.W),(vI wv_1.H),(vL Screen.enc wv_1.Screens)] rfl rfl wz (fun n_3=>dJ 0 (.inl rfl) [(vS l_2.Key),(vI l_2.W),(vI l_2.H),(vL Zone.enc l_2.Zones)] rfl rfl wz (fun n_4=>ae .nil wz rfl (ae (vI 0) wz rfl (ai (af (aa (au 0 0 il ft xk Cf rfl rfl (.d (.agg (Wall.enc wv_1))) rfl wz (au 0 1 il ft yg BF rfl rfl (.d (.agg (Layout.enc l_2))) rfl wz ?_))))))))))
 obtain ⟨r_5,hr_6,hF⟩:=bind_some hF
 refine aC (sZ hr_6) rfl hb65 rfl rfl rfl rfl wz (ae (.tup [(vL Piece.enc r_5.1),(vI r_5.2)]) wz rfl (ae (vL Piece.enc r_5.1) wz rfl (ae (vI r_5.2) wz rfl (ae (vL Piece.enc r_5.1) wz rfl (ae (vI r_5.2) wz rfl (ai (af (af (aa (ae (vI r_5.2) wz rfl (ae (vB (r_5.2 != 0)) wz rfl (ai ?_))))))))))))
 rcases ak hF with⟨hc_7,hF⟩ | ⟨hc_7,hF⟩
 ·refine aB rfl hc_7 (af (aa (ae (vI r_5.2) wz rfl (ae .nil wz rfl (ae (vI r_5.2) wz rfl (ai ?_))))))
  obtain rfl:=ah hF
  exact ay (aM (.inr rfl) [.nil,(vI r_5.2)] ⟨rfl,⟨rfl,trivial⟩⟩ rfl rfl rfl)
 ·refine aA rfl hc_7 (av (af (aa (ae .nil wz rfl (ai (af (af (aa (ax ol rfl 3 rfl wz (au 0 0 il ft zJ Bu rfl rfl (vL Screen.enc wv_1.Screens) rfl wz (bP Ah rfl wz (ae (vI 0) wz rfl (ai (l5 (fun n_14 => ?_)))))))))))))))
  obtain ⟨o_19,hj_20,hF⟩:=bind_some hF
  obtain ⟨hn_12,hj_20⟩:=aQ hj_20
  refine aG (β:=((List View))×Nm) (fun p=>(fun (s_13:(List View)) (n_16:Nm)=>([(8,(gV n_16 6 s_13))]:List (Nat×V))) p.1 p.2) (fun p=>(fun (s_13:(List View)) (n_16:Nm)=>([(n_3,some (.cells 4 [(vS wv_1.Key),(vI wv_1.W),(vI wv_1.H),(vL Screen.enc wv_1.Screens)])),(n_4,some (.cells 4 [(vS l_2.Key),(vI l_2.W),(vI l_2.H),(vL Zone.enc l_2.Zones)])),(n_16,gB 6 View.enc s_13)]:Hp)) p.1 p.2) (fun p=>o_19 = .go p.1) ?_ ?_
  ·refine aF (aW (β:=Nat×(List Screen)×((List View))×Nm) (fun p=>(fun (k_8:Nat) (l_9:List Screen) (s_13:(List View)) (n_16:Nm)=>([(6,(vL Piece.enc r_5.1)),(8,(gV n_16 6 s_13)),(25,(vL Screen.enc wv_1.Screens)),(26,(vI (wv_1.Screens.length:Int))),(27,(vI (k_8:Int)))]:List (Nat×V))) p.1 p.2.1 p.2.2.1 p.2.2.2) (fun p=>(fun (k_8:Nat) (l_9:List Screen) (s_13:(List View)) (n_16:Nm)=>([(n_3,some (.cells 4 [(vS wv_1.Key),(vI wv_1.W),(vI wv_1.H),(vL Screen.enc wv_1.Screens)])),(n_4,some (.cells 4 [(vS l_2.Key),(vI l_2.W),(vI l_2.H),(vL Zone.enc l_2.Zones)])),(n_16,gB 6 View.enc s_13)]:Hp)) p.1 p.2.1 p.2.2.1 p.2.2.2) (fun p=>forR (fun k x s=>mH r_5 k x s) p.2.1 p.1 p.2.2.1=some o_19∧(wv_1.Screens).drop p.1=p.2.1) (fun p=>p.2.1.length) (0,wv_1.Screens,([]:List View),n_14) ⟨hj_20,rfl⟩ rfl (aH rfl) ?_)
   rintro ⟨k_8,l_9,s_13,n_16⟩ ⟨hL_18,hD_11⟩
   dsimp only at hL_18 hD_11
   cases l_9 with
   | nil =>
    obtain rfl:=ah hL_18
    refine af (aa (ae (vB (decide ((k_8:Int) < (wv_1.Screens.length:Int)))) wz rfl (ai ?_)))
    refine af (aA rfl (drop_nil hD_11) (aS ?_))
    exact aP (s_13,n_16) rfl rfl (aH rfl)
   | cons x_10 l_9 =>
    obtain ⟨c_,hc_17,hL_18⟩:=bind_some hL_18
    refine af (aa (ae (vB (decide ((k_8:Int) < (wv_1.Screens.length:Int)))) wz rfl (ai ?_)))
    refine af (aB rfl (aX hD_11) (av ?_))
    unfold mH at hc_17
    refine af (aF (af (aa (dL DF rfl rfl (bC hD_11) rfl wz (bJ lX zi rfl (.d (.agg (Screen.enc x_10))) rfl wz (aY 0 (.inl rfl) z127 rfl wz (fun n_21=>bL 0 il ft 3 lX rfl rfl [(vS x_10.Key),(vI x_10.On.X),(vI x_10.On.Y),(vI x_10.On.W),(vI x_10.On.H)] rfl wz (ai (af (aa (ae (vL Piece.enc r_5.1) wz rfl (bP MU rfl wz (ae (vI 0) wz rfl (ai ?_))))))))))))))
    obtain ⟨o_32,hj_33,hc_17⟩:=bind_some hc_17
    obtain ⟨hn_26,hj_33⟩:=aQ hj_33
    refine aG (β:=((List View))×Nm) (fun p=>(fun (s_27:(List View)) (n_29:Nm)=>([(6,(vL Piece.enc r_5.1)),(8,(gV n_29 6 s_27)),(25,(vL Screen.enc wv_1.Screens)),(26,(vI (wv_1.Screens.length:Int))),(27,(vI (k_8:Int)))]:List (Nat×V))) p.1 p.2) (fun p=>(fun (s_27:(List View)) (n_29:Nm)=>([(n_3,some (.cells 4 [(vS wv_1.Key),(vI wv_1.W),(vI wv_1.H),(vL Screen.enc wv_1.Screens)])),(n_4,some (.cells 4 [(vS l_2.Key),(vI l_2.W),(vI l_2.H),(vL Zone.enc l_2.Zones)])),(n_29,gB 6 View.enc s_27),(n_21,some (.cells 5 [(vS x_10.Key),(vI x_10.On.X),(vI x_10.On.Y),(vI x_10.On.W),(vI x_10.On.H)]))]:Hp)) p.1 p.2) (fun p=>o_32 = .go p.1) ?_ ?_
    ·refine aF (aW (β:=Nat×(List Piece)×((List View))×Nm) (fun p=>(fun (k_22:Nat) (l_23:List Piece) (s_27:(List View)) (n_29:Nm)=>([(6,(vL Piece.enc r_5.1)),(8,(gV n_29 6 s_27)),(10,(.ref n_21 0 0)),(25,(vL Screen.enc wv_1.Screens)),(26,(vI (wv_1.Screens.length:Int))),(27,(vI (k_8:Int))),(31,(vL Piece.enc r_5.1)),(32,(vI (r_5.1.length:Int))),(33,(vI (k_22:Int)))]:List (Nat×V))) p.1 p.2.1 p.2.2.1 p.2.2.2) (fun p=>(fun (k_22:Nat) (l_23:List Piece) (s_27:(List View)) (n_29:Nm)=>([(n_3,some (.cells 4 [(vS wv_1.Key),(vI wv_1.W),(vI wv_1.H),(vL Screen.enc wv_1.Screens)])),(n_4,some (.cells 4 [(vS l_2.Key),(vI l_2.W),(vI l_2.H),(vL Zone.enc l_2.Zones)])),(n_29,gB 6 View.enc s_27),(n_21,some (.cells 5 [(vS x_10.Key),(vI x_10.On.X),(vI x_10.On.Y),(vI x_10.On.W),(vI x_10.On.H)]))]:Hp)) p.1 p.2.1 p.2.2.1 p.2.2.2) (fun p=>forR (fun k x s=>jd x_10 k x s) p.2.1 p.1 p.2.2.1=some o_32∧(r_5.1).drop p.1=p.2.1) (fun p=>p.2.1.length) (0,r_5.1,s_13,n_16) ⟨hj_33,rfl⟩ rfl (aH rfl) ?_)
     rintro ⟨k_22,l_23,s_27,n_29⟩ ⟨hL_31,hD_25⟩
     dsimp only at hL_31 hD_25
     cases l_23 with
     | nil =>
      obtain rfl:=ah hL_31
      refine af (aa (ae (vB (decide ((k_22:Int) < (r_5.1.length:Int)))) wz rfl (ai ?_)))
      refine af (aA rfl (drop_nil hD_25) (aS ?_))
      exact aP (s_27,n_29) rfl rfl (aH rfl)
     | cons x_24 l_23 =>
      obtain ⟨c_,hc_30,hL_31⟩:=bind_some hL_31
      refine af (aa (ae (vB (decide ((k_22:Int) < (r_5.1.length:Int)))) wz rfl (ai ?_)))
      refine af (aB rfl (aX hD_25) (av ?_))
      unfold jd at hc_30
      refine af (aF (af (aa (dL LC rfl rfl (bC hD_25) rfl wz (bJ Et ag51 rfl (.d (.agg (Piece.enc x_24))) rfl wz (aY 0 (.inl rfl) z51 rfl wz (fun n_34=>bL 0 il ft 4 Et rfl rfl [(vS x_24.Zone),(vI x_24.On.X),(vI x_24.On.Y),(vI x_24.On.W),(vI x_24.On.H)] rfl wz (ai (af (aa (ax kg rfl 1 rfl wz (au 0 3 il ft dx gm rfl rfl (.d (.agg (Rect.enc x_10.On))) rfl wz (ax GI rfl 1 rfl wz (au 0 4 il ft dx gm rfl rfl (.d (.agg (Rect.enc x_24.On))) rfl wz ?_))))))))))))))
      obtain ⟨r_35,hr_36,hc_30⟩:=bind_some hc_30
      refine aC (ru hr_36) rfl hb66 rfl rfl rfl rfl wz (ae (.tup [(.d (.agg (Rect.enc r_35.1))),(vB r_35.2)]) wz rfl (ae (.d (.agg (Rect.enc r_35.1))) wz rfl (ae (vB r_35.2) wz rfl (aY 0 (.inl rfl) z45 rfl wz (fun n_37=>bL 0 il ft 5 dx rfl rfl [(vI r_35.1.X),(vI r_35.1.Y),(vI r_35.1.W),(vI r_35.1.H)] rfl wz (ae (vB r_35.2) wz rfl (ai (af (aa (ae (vB r_35.2) wz rfl (ai ?_)))))))))))
      obtain ⟨v_38,h_39,hc_30⟩:=bind_some hc_30
      refine aG (β:=Nm) (fun (n_40:Nm)=>([(6,(vL Piece.enc r_5.1)),(8,(gV n_40 6 v_38)),(10,(.ref n_21 0 0)),(25,(vL Screen.enc wv_1.Screens)),(26,(vI (wv_1.Screens.length:Int))),(27,(vI (k_8:Int))),(31,(vL Piece.enc r_5.1)),(32,(vI (r_5.1.length:Int))),(33,(vI (k_22:Int)))]:List (Nat×V))) (fun (n_40:Nm)=>([(n_3,some (.cells 4 [(vS wv_1.Key),(vI wv_1.W),(vI wv_1.H),(vL Screen.enc wv_1.Screens)])),(n_4,some (.cells 4 [(vS l_2.Key),(vI l_2.W),(vI l_2.H),(vL Zone.enc l_2.Zones)])),(n_40,gB 6 View.enc v_38),(n_21,some (.cells 5 [(vS x_10.Key),(vI x_10.On.X),(vI x_10.On.Y),(vI x_10.On.W),(vI x_10.On.H)])),(n_34,some (.cells 5 [(vS x_24.Zone),(vI x_24.On.X),(vI x_24.On.Y),(vI x_24.On.W),(vI x_24.On.H)])),(n_37,some (.cells 4 [(vI r_35.1.X),(vI r_35.1.Y),(vI r_35.1.W),(vI r_35.1.H)]))]:Hp)) (fun _=>True) ?_ ?_
      ·rcases ak h_39 with⟨hc_41,h_39⟩ | ⟨hc_41,h_39⟩
       ·refine aB rfl hc_41 (bB (ae (gV n_29 6 s_27) wz rfl (ax uK rfl 0 rfl wz (au 2 3 (.inr (by kernel_rfl)) (fun _ _ ag=>trivial) sz9 ag9 rfl rfl (vS x_10.Key) rfl wz (ax Mv rfl 0 rfl wz (au 4 4 (.inr (by kernel_rfl)) (fun _ _ ag=>⟨.inl ⟨rfl,rfl⟩,trivial⟩) sz9 ag9 rfl rfl (vS x_24.Zone) rfl wz (au 5 5 (.inr (by kernel_rfl)) (fun _ _ ag=>⟨.inl ⟨rfl,rfl⟩,⟨.inl ⟨rfl,rfl⟩,trivial⟩⟩) dx gm rfl rfl (.d (.agg (Rect.enc r_35.1))) rfl wz (ax kg rfl 1 rfl wz (au 7 3 (.inr (by kernel_rfl)) (fun _ _ ag=>⟨.inl ⟨rfl,rfl⟩,⟨.inl ⟨rfl,rfl⟩,⟨.inl ⟨rfl,rfl⟩,trivial⟩⟩⟩) dx gm rfl rfl (.d (.agg (Rect.enc x_10.On))) rfl wz ?_)))))))))
        obtain ⟨r_42,hr_43,h_39⟩:=bind_some h_39
        refine aC (Bq hr_43) rfl hb67 rfl rfl rfl rfl wz (ae (.d (.agg (View.enc (⟨x_10.Key,x_24.Zone,r_42⟩:View)))) wz (by kernel_rfl) (fH (([(⟨x_10.Key,x_24.Zone,r_42⟩:View)]:List View).map View.enc) es34 ez34 rfl rfl rfl rfl rfl wz ?_))
        obtain ⟨a_44,hz_45,h_39⟩:=bind_some h_39
        refine kN 11 (.inr (by kernel_rfl)) (fun _ _ ag=>⟨.inr (.inr (by kernel_rfl)),⟨.inr (.inr (by kernel_rfl)),⟨.inr (.inr (by kernel_rfl)),⟨.inr (.inr (by kernel_rfl)),trivial⟩⟩⟩⟩) (i:=2) el34 el34 LD z47 rfl (by decide) by47 (by decide) (fun _=>rfl) rfl rfl rfl hz_45 wz (fun n_46=>ae (gV n_46 6 a_44) wz rfl (ai ?_))
        obtain rfl:=ah h_39
        exact aP n_46 trivial rfl (aH rfl)
       ·refine aA rfl hc_41 (av ?_)
        obtain rfl:=ah h_39
        exact aP n_29 trivial rfl (aH rfl)
      ·rintro n_40 _ sl_ H_ hp_ hq_
       refine aK _ hp_ hq_ (aa (dQ (bu hD_25 hn_26) wz rfl (ae (vI ((k_22 + 1:Nat):Int)) wz rfl (ai ?_))))
       obtain rfl:=ah hc_30
       exact aR (k_22 + 1,l_23,v_38,n_40) ⟨hL_31,aN hD_25⟩ (Nat.lt_succ_self _) rfl (aH rfl)
    ·rintro ⟨s_27,n_29⟩ ho_ sl_ H_ hp_ hq_
     subst ho_
     refine aK _ hp_ hq_ (aa (dQ (bu hD_11 hn_12) wz rfl (ae (vI ((k_8 + 1:Nat):Int)) wz rfl (ai ?_))))
     obtain rfl:=ah hc_17
     exact aR (k_8 + 1,l_9,s_27,n_29) ⟨hL_18,aN hD_11⟩ (Nat.lt_succ_self _) rfl (aH rfl)
  ·rintro ⟨s_13,n_16⟩ ho_ sl_ H_ hp_ hq_
   subst ho_
   refine aK _ hp_ hq_ (af (aa (ae (gV n_16 6 s_13) wz rfl (ae (gV n_16 6 s_13) wz rfl (ae (vI 0) wz rfl (ai (gU 2 rfl (dX 4 2 rfl rfl (dX 8 2 rfl rfl (dX 60 2 rfl rfl ?_))))))))))
   obtain rfl:=ah hF
   exact ay (aM (.inr rfl) [(vL View.enc s_13),(vI 0)] ⟨rfl,⟨rfl,trivial⟩⟩ rfl rfl rfl)
theorem Es {wv_1:Wall} {r:(List Rect)} (hF:qJ wv_1=some r) :
  FnM Tryz.prog 70 [(.d (.agg (Wall.enc wv_1)))] [] (vL Rect.enc r) []:=by
 refine FnM.of_wH ⟨Tryz.prog,20,[],[]⟩ rfl Tryz.func70 rfl rfl (Nat.le_of_ble_eq_true rfl) (by kernel_rfl) ?_
 unfold qJ at hF
 refine af (aa (dJ 0 (.inl rfl) [(vS wv_1.Key),(vI wv_1.W),(vI wv_1.H),(vL Screen.enc wv_1.Screens)] rfl rfl wz (fun n_2=>ae .nil wz rfl (ai (af (aa (ae .nil wz rfl (ai (af (af (aa (ax ol rfl 3 rfl wz (au 0 0 il ft zJ Bu rfl rfl (vL Screen.enc wv_1.Screens) rfl wz (bP Ah rfl wz (ae (vI 0) wz rfl (ai (l5 (fun n_9 => ?_))))))))))))))))))
 obtain ⟨o_14,hj_15,hF⟩:=bind_some hF
 obtain ⟨hn_7,hj_15⟩:=aQ hj_15
 refine aG (β:=((List Rect))×Nm) (fun p=>(fun (s_8:(List Rect)) (n_11:Nm)=>([(3,(gV n_11 4 s_8))]:List (Nat×V))) p.1 p.2) (fun p=>(fun (s_8:(List Rect)) (n_11:Nm)=>([(n_2,some (.cells 4 [(vS wv_1.Key),(vI wv_1.W),(vI wv_1.H),(vL Screen.enc wv_1.Screens)])),(n_11,gB 4 Rect.enc s_8)]:Hp)) p.1 p.2) (fun p=>o_14 = .go p.1) ?_ ?_
 ·refine aF (aW (β:=Nat×(List Screen)×((List Rect))×Nm) (fun p=>(fun (k_3:Nat) (l_4:List Screen) (s_8:(List Rect)) (n_11:Nm)=>([(3,(gV n_11 4 s_8)),(7,(vL Screen.enc wv_1.Screens)),(8,(vI (wv_1.Screens.length:Int))),(9,(vI (k_3:Int)))]:List (Nat×V))) p.1 p.2.1 p.2.2.1 p.2.2.2) (fun p=>(fun (k_3:Nat) (l_4:List Screen) (s_8:(List Rect)) (n_11:Nm)=>([(n_2,some (.cells 4 [(vS wv_1.Key),(vI wv_1.W),(vI wv_1.H),(vL Screen.enc wv_1.Screens)])),(n_11,gB 4 Rect.enc s_8)]:Hp)) p.1 p.2.1 p.2.2.1 p.2.2.2) (fun p=>forR (fun k x s=>oP k x s) p.2.1 p.1 p.2.2.1=some o_14∧(wv_1.Screens).drop p.1=p.2.1) (fun p=>p.2.1.length) (0,wv_1.Screens,([]:List Rect),n_9) ⟨hj_15,rfl⟩ rfl (aH rfl) ?_)
  rintro ⟨k_3,l_4,s_8,n_11⟩ ⟨hL_13,hD_6⟩
  dsimp only at hL_13 hD_6
  cases l_4 with
  | nil =>
   obtain rfl:=ah hL_13
   refine af (aa (ae (vB (decide ((k_3:Int) < (wv_1.Screens.length:Int)))) wz rfl (ai ?_)))
   refine af (aA rfl (drop_nil hD_6) (aS ?_))
   exact aP (s_8,n_11) rfl rfl (aH rfl)
  | cons x_5 l_4 =>
   obtain ⟨c_,hc_12,hL_13⟩:=bind_some hL_13
   refine af (aa (ae (vB (decide ((k_3:Int) < (wv_1.Screens.length:Int)))) wz rfl (ai ?_)))
   refine af (aB rfl (aX hD_6) (av ?_))
   unfold oP at hc_12
   refine af (aF (af (aa (dL DF rfl rfl (bC hD_6) rfl wz (bJ lX zi rfl (.d (.agg (Screen.enc x_5))) rfl wz (aY 0 (.inl rfl) z127 rfl wz (fun n_16=>bL 0 il ft 2 lX rfl rfl [(vS x_5.Key),(vI x_5.On.X),(vI x_5.On.Y),(vI x_5.On.W),(vI x_5.On.H)] rfl wz (ai (aa (ae (gV n_11 4 s_8) wz rfl (ax kg rfl 1 rfl wz (au 0 2 il ft dx gm rfl rfl (.d (.agg (Rect.enc x_5.On))) rfl wz (fH (([x_5.On]:List Rect).map Rect.enc) zu JM rfl rfl rfl rfl rfl wz ?_)))))))))))))
   obtain ⟨a_17,hz_18,hc_12⟩:=bind_some hc_12
   refine kN 0 il ft (i:=1) AA AA dx z45 rfl (by decide) Ll (by decide) (fun _=>rfl) rfl rfl rfl hz_18 wz (fun n_19=>ae (gV n_19 4 a_17) wz rfl (ai (aa (dQ (bu hD_6 hn_7) wz rfl (ae (vI ((k_3 + 1:Nat):Int)) wz rfl (ai ?_))))))
   obtain rfl:=ah hc_12
   exact aR (k_3 + 1,l_4,a_17,n_19) ⟨hL_13,aN hD_6⟩ (Nat.lt_succ_self _) rfl (aH rfl)
 ·rintro ⟨s_8,n_11⟩ ho_ sl_ H_ hp_ hq_
  subst ho_
  refine aK _ hp_ hq_ (af (aa (ae (gV n_11 4 s_8) wz rfl (ae (gV n_11 4 s_8) wz rfl (ai (gU 1 rfl (dX 2 1 rfl rfl (dX 3 1 rfl rfl (dX 19 1 rfl rfl ?_)))))))))
  obtain rfl:=ah hF
  exact ay (aM (.inr rfl) [(vL Rect.enc s_8)] ⟨rfl,trivial⟩ rfl rfl rfl)
theorem vP {l_1:(List Rect)} {r:Int} (hF:lH l_1=some r) :
  FnM Tryz.prog 68 [(vL Rect.enc l_1)] [] (vI r) []:=by
 refine FnM.of_wH ⟨Tryz.prog,21,[],[]⟩ rfl Tryz.func68 rfl rfl (Nat.le_of_ble_eq_true rfl) (by kernel_rfl) ?_
 unfold lH at hF
 refine af (aa (ae (vI 0) wz rfl (ai (af (aa (ae (vI 0) wz rfl (ai (af (af (aa (ae (vL Rect.enc l_1) wz rfl (bP zw rfl wz (ae (vI 0) wz rfl (ai ?_))))))))))))))
 obtain ⟨o_10,hj_11,hF⟩:=bind_some hF
 obtain ⟨hn_6,hj_11⟩:=aQ hj_11
 refine aG (β:=(Int)) (fun (s_7:Int)=>([(3,(vI s_7))]:List (Nat×V))) (fun (s_7:Int)=>([]:Hp)) (fun p=>o_10 = .go p) ?_ ?_
 ·refine aF (aW (β:=Nat×(List Rect)×(Int)) (fun p=>(fun (k_2:Nat) (l_3:List Rect) (s_7:Int)=>([(3,(vI s_7)),(6,(vL Rect.enc l_1)),(7,(vI (l_1.length:Int))),(8,(vI (k_2:Int)))]:List (Nat×V))) p.1 p.2.1 p.2.2) (fun p=>(fun (k_2:Nat) (l_3:List Rect) (s_7:Int)=>([]:Hp)) p.1 p.2.1 p.2.2) (fun p=>forR (fun k x s=>nC k x s) p.2.1 p.1 p.2.2=some o_10∧(l_1).drop p.1=p.2.1) (fun p=>p.2.1.length) (0,l_1,0) ⟨hj_11,rfl⟩ rfl (aH rfl) ?_)
  rintro ⟨k_2,l_3,s_7⟩ ⟨hL_9,hD_5⟩
  dsimp only at hL_9 hD_5
  cases l_3 with
  | nil =>
   obtain rfl:=ah hL_9
   refine af (aa (ae (vB (decide ((k_2:Int) < (l_1.length:Int)))) wz rfl (ai ?_)))
   refine af (aA rfl (drop_nil hD_5) (aS ?_))
   exact aP (s_7) rfl rfl (aH rfl)
  | cons x_4 l_3 =>
   obtain ⟨c_,hc_8,hL_9⟩:=bind_some hL_9
   refine af (aa (ae (vB (decide ((k_2:Int) < (l_1.length:Int)))) wz rfl (ai ?_)))
   refine af (aB rfl (aX hD_5) (av ?_))
   unfold nC at hc_8
   refine af (aF (af (aa (dL zu rfl rfl (bC hD_5) rfl wz (bJ dx gm rfl (.d (.agg (Rect.enc x_4))) rfl wz (aY 0 (.inl rfl) z45 rfl wz (fun n_12=>bL 0 il ft 0 dx rfl rfl [(vI x_4.X),(vI x_4.Y),(vI x_4.W),(vI x_4.H)] rfl wz (ai (aa (ae (vI s_7) wz rfl (ax ku rfl 2 rfl wz (au 0 0 il ft sz3 ag3 rfl rfl (vI x_4.W) rfl wz (ax kw rfl 3 rfl wz (au 0 0 il ft sz3 ag3 rfl rfl (vI x_4.H) rfl wz (ae (vI (w64 (x_4.W * x_4.H))) wz rfl (ae (vI (w64 (s_7 + (w64 (x_4.W * x_4.H))))) wz rfl (ae (vI (w64 (s_7 + (w64 (x_4.W * x_4.H))))) wz rfl (ai (aa (dQ (bu hD_5 hn_6) wz rfl (ae (vI ((k_2 + 1:Nat):Int)) wz rfl (ai ?_))))))))))))))))))))))
   obtain rfl:=ah hc_8
   exact aR (k_2 + 1,l_3,(w64 (s_7 + (w64 (x_4.W * x_4.H))))) ⟨hL_9,aN hD_5⟩ (Nat.lt_succ_self _) rfl (aH rfl)
 ·rintro s_7 ho_ sl_ H_ hp_ hq_
  subst ho_
  refine aK _ hp_ hq_ (af (aa (ae (vI s_7) wz rfl (ae (vI s_7) wz rfl (ai ?_)))))
  obtain rfl:=ah hF
  exact ay (aM (.inr rfl) [(vI s_7)] ⟨rfl,trivial⟩ rfl rfl rfl)
theorem CQ {wv_1:Wall} {l_2:Layout} {r:Int×Int} (hF:mZ wv_1 l_2=some r) :
  FnM Tryz.prog 12 [(.d (.agg (Wall.enc wv_1))),(.d (.agg (Layout.enc l_2)))] [] (.tup [(vI r.1),(vI r.2)]) []:=by
 refine FnM.of_wH ⟨Tryz.prog,37,[],[]⟩ rfl Tryz.func12 rfl rfl (Nat.le_of_ble_eq_true rfl) (by kernel_rfl) ?_
 unfold mZ at hF
 refine af (aa (dJ 0 (.inl rfl) [(vS wv_1.Key),(vI wv_1.W),(vI wv_1.H),(vL Screen.enc wv_1.Screens)] rfl rfl wz (fun n_3=>dJ 0 (.inl rfl) [(vS l_2.Key),(vI l_2.W),(vI l_2.H),(vL Zone.enc l_2.Zones)] rfl rfl wz (fun n_4=>ae (vI 0) wz rfl (ae (vI 0) wz rfl (ai (af (aa (au 0 0 il ft xk Cf rfl rfl (.d (.agg (Wall.enc wv_1))) rfl wz (au 0 1 il ft yg BF rfl rfl (.d (.agg (Layout.enc l_2))) rfl wz ?_))))))))))
 obtain ⟨r_5,hr_6,hF⟩:=bind_some hF
 refine aC (sZ hr_6) rfl hb65 rfl rfl rfl rfl wz (ae (.tup [(vL Piece.enc r_5.1),(vI r_5.2)]) wz rfl (ae (vL Piece.enc r_5.1) wz rfl (ae (vI r_5.2) wz rfl (ae (vL Piece.enc r_5.1) wz rfl (ae (vI r_5.2) wz rfl (ai (af (af (aa (ae (vI r_5.2) wz rfl (ae (vB (r_5.2 != 0)) wz rfl (ai ?_))))))))))))
 rcases ak hF with⟨hc_7,hF⟩ | ⟨hc_7,hF⟩
 ·refine aB rfl hc_7 (af (aa (ae (vI r_5.2) wz rfl (ae (vI 0) wz rfl (ae (vI r_5.2) wz rfl (ai ?_))))))
  obtain rfl:=ah hF
  exact ay (aM (.inr rfl) [(vI 0),(vI r_5.2)] ⟨rfl,⟨rfl,trivial⟩⟩ rfl rfl rfl)
 ·refine aA rfl hc_7 (av (af (aa (ae .nil wz rfl (ai (af (af (aa (ae (vL Piece.enc r_5.1) wz rfl (bP MU rfl wz (ae (vI 0) wz rfl (ai (l5 (fun n_14 => ?_))))))))))))))
  obtain ⟨o_19,hj_20,hF⟩:=bind_some hF
  obtain ⟨hn_12,hj_20⟩:=aQ hj_20
  refine aG (β:=((List Rect))×Nm) (fun p=>(fun (s_13:(List Rect)) (n_16:Nm)=>([(2,(.ref n_3 0 0)),(8,(gV n_16 4 s_13))]:List (Nat×V))) p.1 p.2) (fun p=>(fun (s_13:(List Rect)) (n_16:Nm)=>([(n_3,some (.cells 4 [(vS wv_1.Key),(vI wv_1.W),(vI wv_1.H),(vL Screen.enc wv_1.Screens)])),(n_4,some (.cells 4 [(vS l_2.Key),(vI l_2.W),(vI l_2.H),(vL Zone.enc l_2.Zones)])),(n_16,gB 4 Rect.enc s_13)]:Hp)) p.1 p.2) (fun p=>o_19 = .go p.1) ?_ ?_
  ·refine aF (aW (β:=Nat×(List Piece)×((List Rect))×Nm) (fun p=>(fun (k_8:Nat) (l_9:List Piece) (s_13:(List Rect)) (n_16:Nm)=>([(2,(.ref n_3 0 0)),(8,(gV n_16 4 s_13)),(20,(vL Piece.enc r_5.1)),(21,(vI (r_5.1.length:Int))),(22,(vI (k_8:Int)))]:List (Nat×V))) p.1 p.2.1 p.2.2.1 p.2.2.2) (fun p=>(fun (k_8:Nat) (l_9:List Piece) (s_13:(List Rect)) (n_16:Nm)=>([(n_3,some (.cells 4 [(vS wv_1.Key),(vI wv_1.W),(vI wv_1.H),(vL Screen.enc wv_1.Screens)])),(n_4,some (.cells 4 [(vS l_2.Key),(vI l_2.W),(vI l_2.H),(vL Zone.enc l_2.Zones)])),(n_16,gB 4 Rect.enc s_13)]:Hp)) p.1 p.2.1 p.2.2.1 p.2.2.2) (fun p=>forR (fun k x s=>nD k x s) p.2.1 p.1 p.2.2.1=some o_19∧(r_5.1).drop p.1=p.2.1) (fun p=>p.2.1.length) (0,r_5.1,([]:List Rect),n_14) ⟨hj_20,rfl⟩ rfl (aH rfl) ?_)
   rintro ⟨k_8,l_9,s_13,n_16⟩ ⟨hL_18,hD_11⟩
   dsimp only at hL_18 hD_11
   cases l_9 with
   | nil =>
    obtain rfl:=ah hL_18
    refine af (aa (ae (vB (decide ((k_8:Int) < (r_5.1.length:Int)))) wz rfl (ai ?_)))
    refine af (aA rfl (drop_nil hD_11) (aS ?_))
    exact aP (s_13,n_16) rfl rfl (aH rfl)
   | cons x_10 l_9 =>
    obtain ⟨c_,hc_17,hL_18⟩:=bind_some hL_18
    refine af (aa (ae (vB (decide ((k_8:Int) < (r_5.1.length:Int)))) wz rfl (ai ?_)))
    refine af (aB rfl (aX hD_11) (av ?_))
    unfold nD at hc_17
    refine af (aF (af (aa (dL LC rfl rfl (bC hD_11) rfl wz (bJ Et ag51 rfl (.d (.agg (Piece.enc x_10))) rfl wz (aY 0 (.inl rfl) z51 rfl wz (fun n_21=>bL 0 il ft 3 Et rfl rfl [(vS x_10.Zone),(vI x_10.On.X),(vI x_10.On.Y),(vI x_10.On.W),(vI x_10.On.H)] rfl wz (ai (aa (ae (gV n_16 4 s_13) wz rfl (ax GI rfl 1 rfl wz (au 0 3 il ft dx gm rfl rfl (.d (.agg (Rect.enc x_10.On))) rfl wz (fH (([x_10.On]:List Rect).map Rect.enc) zu JM rfl rfl rfl rfl rfl wz ?_)))))))))))))
    obtain ⟨a_22,hz_23,hc_17⟩:=bind_some hc_17
    refine kN 0 il ft (i:=2) AA AA dx z45 rfl (by decide) Ll (by decide) (fun _=>rfl) rfl rfl rfl hz_23 wz (fun n_24=>ae (gV n_24 4 a_22) wz rfl (ai (aa (dQ (bu hD_11 hn_12) wz rfl (ae (vI ((k_8 + 1:Nat):Int)) wz rfl (ai ?_))))))
    obtain rfl:=ah hc_17
    exact aR (k_8 + 1,l_9,a_22,n_24) ⟨hL_18,aN hD_11⟩ (Nat.lt_succ_self _) rfl (aH rfl)
  ·rintro ⟨s_13,n_16⟩ ho_ sl_ H_ hp_ hq_
   subst ho_
   refine aK _ hp_ hq_ (af (gU 2 rfl (dX 8 2 rfl rfl (aa (ae (vL Rect.enc s_13) wz rfl (au 0 0 il ft xk Cf rfl rfl (.d (.agg (Wall.enc wv_1))) rfl wz ?_))))))
   obtain ⟨r_25,hr_26,hF⟩:=bind_some hF
   refine aC (Es hr_26) rfl hb70 rfl rfl rfl rfl wz ?_
   obtain ⟨r_27,hr_28,hF⟩:=bind_some hF
   refine aC (ou hr_28) rfl hb69 rfl rfl rfl rfl wz ?_
   obtain ⟨r_29,hr_30,hF⟩:=bind_some hF
   refine aC (vP hr_30) rfl hb68 rfl rfl rfl rfl wz (ae (vI r_29) wz rfl (ae (vI 0) wz rfl (ai ?_)))
   obtain rfl:=ah hF
   exact ay (aM (.inr rfl) [(vI r_29),(vI 0)] ⟨rfl,⟨rfl,trivial⟩⟩ rfl rfl rfl)
theorem Di {l_1:Layout} {r:(List Piece)×Int} (hF:pF l_1=some r) :
  FnM Tryz.prog 13 [(.d (.agg (Layout.enc l_1)))] [] (.tup [(vL Piece.enc r.1),(vI r.2)]) []:=by
 refine FnM.of_wH ⟨Tryz.prog,14,[],[]⟩ rfl Tryz.func13 rfl rfl (Nat.le_of_ble_eq_true rfl) (by kernel_rfl) ?_
 unfold pF at hF
 refine af (aa (dJ 0 (.inl rfl) [(vS l_1.Key),(vI l_1.W),(vI l_1.H),(vL Zone.enc l_1.Zones)] rfl rfl wz (fun n_2=>ae .nil wz rfl (ae (vI 0) wz rfl (ai (af (af (aa (au 0 0 il ft yg BF rfl rfl (.d (.agg (Layout.enc l_1))) rfl wz ?_)))))))))
 obtain ⟨r_3,hr_4,hF⟩:=bind_some hF
 refine aC (nW hr_4) rfl hb71 rfl rfl rfl rfl wz (ae (vI r_3) wz rfl (ai (af (aa (ae (vI r_3) wz rfl (ae (vB (r_3 != 0)) wz rfl (ai ?_)))))))
 rcases ak hF with⟨hc_5,hF⟩ | ⟨hc_5,hF⟩
 ·refine aB rfl hc_5 (af (aa (ae (vI r_3) wz rfl (ae .nil wz rfl (ae (vI r_3) wz rfl (ai ?_))))))
  obtain rfl:=ah hF
  exact ay (aM (.inr rfl) [.nil,(vI r_3)] ⟨rfl,⟨rfl,trivial⟩⟩ rfl rfl rfl)
 ·refine aA rfl hc_5 (av (af (aa (au 0 0 il ft yg BF rfl rfl (.d (.agg (Layout.enc l_1))) rfl wz ?_))))
  obtain ⟨r_6,hr_7,hF⟩:=bind_some hF
  refine aC (wE hr_7) rfl hb72 rfl rfl rfl rfl wz (ae (vL Piece.enc r_6.1) wz rfl (ae (vI r_6.2) wz rfl (ae (vL Piece.enc r_6.1) wz rfl (ae (vI r_6.2) wz rfl (ai ?_)))))
  obtain rfl:=ah hF
  exact ay (aM (.inr rfl) [(vL Piece.enc r_6.1),(vI r_6.2)] ⟨rfl,⟨rfl,trivial⟩⟩ rfl rfl rfl)
theorem zC {l_1:(List Int)} {r:Int} (hF:qz l_1=some r) :
  FnM Tryz.prog 14 [(vL eI l_1)] [] (vI r) []:=by
 refine FnM.of_wH ⟨Tryz.prog,15,[],[]⟩ rfl Tryz.func14 rfl rfl (Nat.le_of_ble_eq_true rfl) (by kernel_rfl) ?_
 unfold qz at hF
 refine af (aa (ae (vI 0) wz rfl (ai (af (af (aa (ae (vL eI l_1) wz rfl (bP un140 rfl wz (ae (vI 0) wz rfl (ai ?_))))))))))
 obtain ⟨o_10,hj_11,hF⟩:=bind_some hF
 obtain ⟨hn_6,hj_11⟩:=aQ hj_11
 refine aG (β:=(Unit)) (fun (s_7:Unit)=>([]:List (Nat×V))) (fun (s_7:Unit)=>([]:Hp)) (fun p=>o_10 = .go p) ?_ ?_
 ·refine aF (aW (β:=Nat×(List Int)×(Unit)) (fun p=>(fun (k_2:Nat) (l_3:List Int) (s_7:Unit)=>([(5,(vL eI l_1)),(6,(vI (l_1.length:Int))),(7,(vI (k_2:Int)))]:List (Nat×V))) p.1 p.2.1 p.2.2) (fun p=>(fun (k_2:Nat) (l_3:List Int) (s_7:Unit)=>([]:Hp)) p.1 p.2.1 p.2.2) (fun p=>forR (fun k x s=>tQ k x s) p.2.1 p.1 p.2.2=some o_10∧(l_1).drop p.1=p.2.1) (fun p=>p.2.1.length) (0,l_1,()) ⟨hj_11,rfl⟩ rfl (aH rfl) ?_)
  rintro ⟨k_2,l_3,s_7⟩ ⟨hL_9,hD_5⟩
  dsimp only at hL_9 hD_5
  cases l_3 with
  | nil =>
   obtain rfl:=ah hL_9
   refine af (aa (ae (vB (decide ((k_2:Int) < (l_1.length:Int)))) wz rfl (ai ?_)))
   refine af (aA rfl (drop_nil hD_5) (aS ?_))
   exact aP (s_7) rfl rfl (aH rfl)
  | cons x_4 l_3 =>
   obtain ⟨c_,hc_8,hL_9⟩:=bind_some hL_9
   refine af (aa (ae (vB (decide ((k_2:Int) < (l_1.length:Int)))) wz rfl (ai ?_)))
   refine af (aB rfl (aX hD_5) (av ?_))
   unfold tQ at hc_8
   refine af (aF (af (aa (dL NQ rfl rfl (bC hD_5) rfl wz (bJ sz35 ag35 rfl (vI x_4) rfl wz (ae (vI x_4) wz rfl (ai (af (aa (ae (vI x_4) wz rfl (ae (vB (x_4 != 0)) wz rfl (ai ?_))))))))))))
   rcases ak hc_8 with⟨hc_12,hc_8⟩ | ⟨hc_12,hc_8⟩
   ·refine aB rfl hc_12 (af (aa (ae (vI x_4) wz rfl (ae (vI x_4) wz rfl (ai ?_)))))
    obtain rfl:=ah hc_8
    obtain rfl:=ah hL_9
    obtain rfl:=ah hF
    exact ay (aM (.inr rfl) [(vI x_4)] ⟨rfl,trivial⟩ rfl rfl rfl)
   ·refine aA rfl hc_12 (av (aa (dQ (bu hD_5 hn_6) wz rfl (ae (vI ((k_2 + 1:Nat):Int)) wz rfl (ai ?_)))))
    obtain rfl:=ah hc_8
    exact aR (k_2 + 1,l_3,()) ⟨hL_9,aN hD_5⟩ (Nat.lt_succ_self _) rfl (aH rfl)
 ·rintro s_7 ho_ sl_ H_ hp_ hq_
  subst ho_
  refine aK _ hp_ hq_ (af (aa (ae (vI 0) wz rfl (ai ?_))))
  obtain rfl:=ah hF
  exact ay (aM (.inr rfl) [(vI 0)] ⟨rfl,trivial⟩ rfl rfl rfl)
theorem DD {a_1:Rect} {b_2:Rect} {r:Rect×Bool×Int} (hF:pz a_1 b_2=some r) :
  FnM Tryz.prog 15 [(.d (.agg (Rect.enc a_1))),(.d (.agg (Rect.enc b_2)))] [] (.tup [(.d (.agg (Rect.enc r.1))),(vB r.2.1),(vI r.2.2)]) []:=by
 refine FnM.of_wH ⟨Tryz.prog,33,[],[]⟩ rfl Tryz.func15 rfl rfl (Nat.le_of_ble_eq_true rfl) (by kernel_rfl) ?_
 unfold pz at hF
 refine af (aa (dJ 0 (.inl rfl) [(vI a_1.X),(vI a_1.Y),(vI a_1.W),(vI a_1.H)] rfl rfl wz (fun n_3=>dJ 0 (.inl rfl) [(vI b_2.X),(vI b_2.Y),(vI b_2.W),(vI b_2.H)] rfl rfl wz (fun n_4=>aY 0 (.inl rfl) z45 rfl wz (fun n_5=>ae (vB false) wz rfl (ae (vI 0) wz rfl (ai (af (af (aa (au 0 0 il ft dx gm rfl rfl (.d (.agg (Rect.enc a_1))) rfl wz (au 0 1 il ft dx gm rfl rfl (.d (.agg (Rect.enc b_2))) rfl wz (ae (.d (.agg [.int .i64 a_1.X,.int .i64 a_1.Y,.int .i64 a_1.W,.int .i64 a_1.H,.int .i64 b_2.X,.int .i64 b_2.Y,.int .i64 b_2.W,.int .i64 b_2.H])) wz (by kernel_rfl) (ae (vI 0) wz rfl (ai ?_)))))))))))))))
 obtain ⟨o_14,hj_15,hF⟩:=bind_some hF
 obtain ⟨hn_10,hj_15⟩:=aQ hj_15
 refine aG (β:=(Unit)) (fun (s_11:Unit)=>([(2,(.ref n_3 0 0)),(3,(.ref n_4 0 0)),(4,(.ref n_5 0 0))]:List (Nat×V))) (fun (s_11:Unit)=>([(n_3,some (.cells 4 [(vI a_1.X),(vI a_1.Y),(vI a_1.W),(vI a_1.H)])),(n_4,some (.cells 4 [(vI b_2.X),(vI b_2.Y),(vI b_2.W),(vI b_2.H)])),(n_5,some (.cells 4 [(vI 0),(vI 0),(vI 0),(vI 0)]))]:Hp)) (fun p=>o_14 = .go p) ?_ ?_
 ·refine aF (aW (β:=Nat×(List Nat)×(Unit)) (fun p=>(fun (k_6:Nat) (l_7:List Nat) (s_11:Unit)=>([(2,(.ref n_3 0 0)),(3,(.ref n_4 0 0)),(4,(.ref n_5 0 0)),(14,(.d (.agg [.int .i64 a_1.X,.int .i64 a_1.Y,.int .i64 a_1.W,.int .i64 a_1.H,.int .i64 b_2.X,.int .i64 b_2.Y,.int .i64 b_2.W,.int .i64 b_2.H]))),(15,(vI (k_6:Int)))]:List (Nat×V))) p.1 p.2.1 p.2.2) (fun p=>(fun (k_6:Nat) (l_7:List Nat) (s_11:Unit)=>([(n_3,some (.cells 4 [(vI a_1.X),(vI a_1.Y),(vI a_1.W),(vI a_1.H)])),(n_4,some (.cells 4 [(vI b_2.X),(vI b_2.Y),(vI b_2.W),(vI b_2.H)])),(n_5,some (.cells 4 [(vI 0),(vI 0),(vI 0),(vI 0)]))]:Hp)) p.1 p.2.1 p.2.2) (fun p=>forR (fun k x s=>lF a_1 b_2 k x s) p.2.1 p.1 p.2.2=some o_14∧((List.range (2:Int).toNat)).drop p.1=p.2.1) (fun p=>p.2.1.length) (0,(List.range (2:Int).toNat),()) ⟨hj_15,rfl⟩ rfl (aH rfl) ?_)
  rintro ⟨k_6,l_7,s_11⟩ ⟨hL_13,hD_9⟩
  dsimp only at hL_13 hD_9
  cases l_7 with
  | nil =>
   obtain rfl:=ah hL_13
   refine af (aa (ae (vB (decide ((k_6:Int) < 2))) wz rfl (ai ?_)))
   refine af (aA rfl (AU hD_9) (aS ?_))
   exact aP (s_11) rfl rfl (aH rfl)
  | cons x_8 l_7 =>
   obtain ⟨c_,hc_12,hL_13⟩:=bind_some hL_13
   refine af (aa (ae (vB (decide ((k_6:Int) < 2))) wz rfl (ai ?_)))
   refine af (aB rfl (xW hD_9) (av ?_))
   unfold lF at hc_12
   refine af (aF (af (aa ?_)))
   obtain ⟨y_16,hy_17,hc_12⟩:=bind_some hc_12
   refine h_idxa (enc:=Rect.enc) (xs:=([a_1,b_2]:List Rect)) un141 dx gm rfl rfl rfl rfl hy_17 (fun _=>rfl) (.inl rfl) (.d (.agg (Rect.enc y_16))) rfl wz (aY 0 (.inl rfl) z45 rfl wz (fun n_18=>bL 0 il ft 3 dx rfl rfl [(vI y_16.X),(vI y_16.Y),(vI y_16.W),(vI y_16.H)] rfl wz (ai (af (aa (au 0 3 il ft dx gm rfl rfl (.d (.agg (Rect.enc y_16))) rfl wz ?_))))))
   obtain ⟨r_19,hr_20,hc_12⟩:=bind_some hc_12
   refine aC (fT hr_20) rfl LM rfl rfl rfl rfl wz (ae (vI r_19) wz rfl (ai (af (aa (ae (vI r_19) wz rfl (ae (vB (r_19 != 0)) wz rfl (ai ?_)))))))
   rcases ak hc_12 with⟨hc_21,hc_12⟩ | ⟨hc_21,hc_12⟩
   ·refine aB rfl hc_21 (af (aa (ae (.d (.agg (Rect.enc (⟨0,0,0,0⟩:Rect)))) wz (by kernel_rfl) (ae (vI r_19) wz rfl (bL 0 il ft 2 dx rfl rfl [(vI 0),(vI 0),(vI 0),(vI 0)] rfl wz (ae (vB false) wz rfl (ae (vI r_19) wz rfl (ai ?_))))))))
    obtain rfl:=ah hc_12
    obtain rfl:=ah hL_13
    obtain rfl:=ah hF
    exact ay (aM (.inr rfl) [(.d (.agg (Rect.enc (⟨0,0,0,0⟩:Rect)))),(vB false),(vI r_19)] ⟨⟨2,_,_,_,_,_,_,_,rfl,rfl,dx,gm,rfl⟩,⟨rfl,⟨rfl,trivial⟩⟩⟩ rfl rfl rfl)
   ·refine aA rfl hc_21 (av (aa (dQ (AL hD_9 hn_10) wz rfl (ae (vI ((k_6 + 1:Nat):Int)) wz rfl (ai ?_)))))
    obtain rfl:=ah hc_12
    exact aR (k_6 + 1,l_7,()) ⟨hL_13,aN hD_9⟩ (Nat.lt_succ_self _) rfl (aH rfl)
 ·rintro s_11 ho_ sl_ H_ hp_ hq_
  subst ho_
  refine aK _ hp_ hq_ (af (aa (au 0 0 il ft dx gm rfl rfl (.d (.agg (Rect.enc a_1))) rfl wz (au 0 1 il ft dx gm rfl rfl (.d (.agg (Rect.enc b_2))) rfl wz ?_))))
  obtain ⟨r_22,hr_23,hF⟩:=bind_some hF
  refine aC (ru hr_23) rfl hb66 rfl rfl rfl rfl wz (ae (.tup [(.d (.agg (Rect.enc r_22.1))),(vB r_22.2)]) wz rfl (ae (.d (.agg (Rect.enc r_22.1))) wz rfl (ae (vB r_22.2) wz rfl (aY 0 (.inl rfl) z45 rfl wz (fun n_24=>bL 0 il ft 3 dx rfl rfl [(vI r_22.1.X),(vI r_22.1.Y),(vI r_22.1.W),(vI r_22.1.H)] rfl wz (ae (vB r_22.2) wz rfl (ai (af (aa (au 0 3 il ft dx gm rfl rfl (.d (.agg (Rect.enc r_22.1))) rfl wz (ae (vB r_22.2) wz rfl (bL 0 il ft 2 dx rfl rfl [(vI r_22.1.X),(vI r_22.1.Y),(vI r_22.1.W),(vI r_22.1.H)] rfl wz (ae (vB r_22.2) wz rfl (ae (vI 0) wz rfl (ai ?_)))))))))))))))
  obtain rfl:=ah hF
  exact ay (aM (.inr rfl) [(.d (.agg (Rect.enc r_22.1))),(vB r_22.2),(vI 0)] ⟨⟨2,_,_,_,_,_,_,_,rfl,rfl,dx,gm,rfl⟩,⟨rfl,⟨rfl,trivial⟩⟩⟩ rfl rfl rfl)
theorem Bz {r_1:Rect} {wv_2:Int} {h_3:Int} {toW_4:Int} {toH_5:Int} {r:Rect×Int} (hF:lV r_1 wv_2 h_3 toW_4 toH_5=some r) :
  FnM Tryz.prog 16 [(.d (.agg (Rect.enc r_1))),(vI wv_2),(vI h_3),(vI toW_4),(vI toH_5)] [] (.tup [(.d (.agg (Rect.enc r.1))),(vI r.2)]) []:=by
 refine FnM.of_wH ⟨Tryz.prog,42,[],[]⟩ rfl Tryz.func16 rfl rfl (Nat.le_of_ble_eq_true rfl) (by kernel_rfl) ?_
 unfold lV at hF
 refine af (aa (dJ 0 (.inl rfl) [(vI r_1.X),(vI r_1.Y),(vI r_1.W),(vI r_1.H)] rfl rfl wz (fun n_6=>aY 0 (.inl rfl) z45 rfl wz (fun n_7=>ae (vI 0) wz rfl (ai (af (af (aa (au 0 0 il ft dx gm rfl rfl (.d (.agg (Rect.enc r_1))) rfl wz ?_)))))))))
 obtain ⟨r_8,hr_9,hF⟩:=bind_some hF
 refine aC (fT hr_9) rfl LM rfl rfl rfl rfl wz (ae (vI r_8) wz rfl (ai (af (aa (ae (vI r_8) wz rfl (ae (vB (r_8 != 0)) wz rfl (ai ?_)))))))
 rcases ak hF with⟨hc_10,hF⟩ | ⟨hc_10,hF⟩
 ·refine aB rfl hc_10 (af (aa (ae (.d (.agg (Rect.enc (⟨0,0,0,0⟩:Rect)))) wz (by kernel_rfl) (ae (vI r_8) wz rfl (bL 0 il ft 1 dx rfl rfl [(vI 0),(vI 0),(vI 0),(vI 0)] rfl wz (ae (vI r_8) wz rfl (ai ?_)))))))
  obtain rfl:=ah hF
  exact ay (aM (.inr rfl) [(.d (.agg (Rect.enc (⟨0,0,0,0⟩:Rect)))),(vI r_8)] ⟨⟨1,_,_,_,_,_,_,_,rfl,rfl,dx,gm,rfl⟩,⟨rfl,trivial⟩⟩ rfl rfl rfl)
 ·refine aA rfl hc_10 (av (af (af (aa (ae (vI wv_2) wz rfl (ae (vI h_3) wz rfl (ae (vI toW_4) wz rfl (ae (vI toH_5) wz rfl (fH (([wv_2,h_3,toW_4,toH_5]:List Int).map eI) oo Ce rfl rfl rfl rfl rfl wz ?_)))))))))
  obtain ⟨r_11,hr_12,hF⟩:=bind_some hF
  refine aC (lw hr_12) rfl hb74 rfl rfl rfl rfl wz (ae (vI r_11) wz rfl (ai (af (aa (ae (vI r_11) wz rfl (ae (vB (r_11 != 0)) wz rfl (ai ?_)))))))
  rcases ak hF with⟨hc_13,hF⟩ | ⟨hc_13,hF⟩
  ·refine aB rfl hc_13 (af (aa (ae (.d (.agg (Rect.enc (⟨0,0,0,0⟩:Rect)))) wz (by kernel_rfl) (ae (vI r_11) wz rfl (bL 0 il ft 1 dx rfl rfl [(vI 0),(vI 0),(vI 0),(vI 0)] rfl wz (ae (vI r_11) wz rfl (ai ?_)))))))
   obtain rfl:=ah hF
   exact ay (aM (.inr rfl) [(.d (.agg (Rect.enc (⟨0,0,0,0⟩:Rect)))),(vI r_11)] ⟨⟨1,_,_,_,_,_,_,_,rfl,rfl,dx,gm,rfl⟩,⟨rfl,trivial⟩⟩ rfl rfl rfl)
  ·refine aA rfl hc_13 (av (af (af (aa (au 0 0 il ft dx gm rfl rfl (.d (.agg (Rect.enc r_1))) rfl wz (ae (vI wv_2) wz rfl (ae (vI h_3) wz rfl ?_)))))))
   obtain ⟨r_14,hr_15,hF⟩:=bind_some hF
   refine aC (oJ hr_15) rfl hb75 rfl rfl rfl rfl wz (ae (vB (!r_14)) wz rfl (ai ?_))
   rcases ak hF with⟨hc_16,hF⟩ | ⟨hc_16,hF⟩
   ·refine aB rfl hc_16 (af (aa (ae (.d (.agg (Rect.enc (⟨0,0,0,0⟩:Rect)))) wz (by kernel_rfl) (bL 0 il ft 1 dx rfl rfl [(vI 0),(vI 0),(vI 0),(vI 0)] rfl wz (ae (vI 3) wz rfl (ai ?_))))))
    obtain rfl:=ah hF
    exact ay (aM (.inr rfl) [(.d (.agg (Rect.enc (⟨0,0,0,0⟩:Rect)))),(vI 3)] ⟨⟨1,_,_,_,_,_,_,_,rfl,rfl,dx,gm,rfl⟩,⟨rfl,trivial⟩⟩ rfl rfl rfl)
   ·refine aA rfl hc_16 (av (af (aa (au 0 0 il ft dx gm rfl rfl (.d (.agg (Rect.enc r_1))) rfl wz (ae (vI wv_2) wz rfl (ae (vI h_3) wz rfl (ae (vI toW_4) wz rfl (ae (vI toH_5) wz rfl ?_))))))))
    obtain ⟨r_17,hr_18,hF⟩:=bind_some hF
    refine aC (uU hr_18) rfl hb76 rfl rfl rfl rfl wz (bL 0 il ft 1 dx rfl rfl [(vI r_17.X),(vI r_17.Y),(vI r_17.W),(vI r_17.H)] rfl wz (ae (vI 0) wz rfl (ai (aK (H0:=([(n_6,some (.cells 4 [(vI r_1.X),(vI r_1.Y),(vI r_1.W),(vI r_1.H)])),(n_7,some (.cells 4 [(vI r_17.X),(vI r_17.Y),(vI r_17.W),(vI r_17.H)]))]:Hp)) ([(10,(.ref n_7 0 0)),(11,(vI 0))]:List (Nat×V)) (by kernel_rfl) (mM (by kernel_rfl)) ?_))))
    obtain rfl:=ah hF
    exact ay (aM (.inr rfl) [(.d (.agg (Rect.enc r_17))),(vI 0)] ⟨⟨1,_,_,_,_,_,_,_,rfl,rfl,dx,gm,rfl⟩,⟨rfl,trivial⟩⟩ rfl rfl rfl)
theorem wm {l_1:(List Rect)} {r:Int} (hF:kR l_1=some r) :
  FnM Tryz.prog 151 [(vL Rect.enc l_1)] [] (vI r) []:=by
 refine FnM.of_wH ⟨Tryz.prog,21,[],[]⟩ rfl Tryz.func151 rfl rfl (Nat.le_of_ble_eq_true rfl) (by kernel_rfl) ?_
 unfold kR at hF
 refine af (aa (ae (vI 0) wz rfl (ai (af (af (aa (ae (vL Rect.enc l_1) wz rfl (bP zw rfl wz (ae (vB (decide ((l_1.length:Int) > 2000))) wz rfl (ai ?_))))))))))
 rcases ak hF with⟨hc_2,hF⟩ | ⟨hc_2,hF⟩
 ·refine aB rfl hc_2 (af (aa (ae (vI 2) wz rfl (ai ?_))))
  obtain rfl:=ah hF
  exact ay (aM (.inr rfl) [(vI 2)] ⟨rfl,trivial⟩ rfl rfl rfl)
 ·refine aA rfl hc_2 (av (af (af (aa (ae (vL Rect.enc l_1) wz rfl (bP zw rfl wz (ae (vI 0) wz rfl (ai ?_))))))))
  obtain ⟨o_11,hj_12,hF⟩:=bind_some hF
  obtain ⟨hn_7,hj_12⟩:=aQ hj_12
  refine aG (β:=(Unit)) (fun (s_8:Unit)=>([]:List (Nat×V))) (fun (s_8:Unit)=>([]:Hp)) (fun p=>o_11 = .go p) ?_ ?_
  ·refine aF (aW (β:=Nat×(List Rect)×(Unit)) (fun p=>(fun (k_3:Nat) (l_4:List Rect) (s_8:Unit)=>([(9,(vL Rect.enc l_1)),(10,(vI (l_1.length:Int))),(11,(vI (k_3:Int)))]:List (Nat×V))) p.1 p.2.1 p.2.2) (fun p=>(fun (k_3:Nat) (l_4:List Rect) (s_8:Unit)=>([]:Hp)) p.1 p.2.1 p.2.2) (fun p=>forR (fun k x s=>lm k x s) p.2.1 p.1 p.2.2=some o_11∧(l_1).drop p.1=p.2.1) (fun p=>p.2.1.length) (0,l_1,()) ⟨hj_12,rfl⟩ rfl (aH rfl) ?_)
   rintro ⟨k_3,l_4,s_8⟩ ⟨hL_10,hD_6⟩
   dsimp only at hL_10 hD_6
   cases l_4 with
   | nil =>
    obtain rfl:=ah hL_10
    refine af (aa (ae (vB (decide ((k_3:Int) < (l_1.length:Int)))) wz rfl (ai ?_)))
    refine af (aA rfl (drop_nil hD_6) (aS ?_))
    exact aP (s_8) rfl rfl (aH rfl)
   | cons x_5 l_4 =>
    obtain ⟨c_,hc_9,hL_10⟩:=bind_some hL_10
    refine af (aa (ae (vB (decide ((k_3:Int) < (l_1.length:Int)))) wz rfl (ai ?_)))
    refine af (aB rfl (aX hD_6) (av ?_))
    unfold lm at hc_9
    refine af (aF (af (aa (dL zu rfl rfl (bC hD_6) rfl wz (bJ dx gm rfl (.d (.agg (Rect.enc x_5))) rfl wz (aY 0 (.inl rfl) z45 rfl wz (fun n_13=>bL 0 il ft 0 dx rfl rfl [(vI x_5.X),(vI x_5.Y),(vI x_5.W),(vI x_5.H)] rfl wz (ai (af (aa (au 0 0 il ft dx gm rfl rfl (.d (.agg (Rect.enc x_5))) rfl wz ?_)))))))))))
    obtain ⟨r_14,hr_15,hc_9⟩:=bind_some hc_9
    refine aC (fT hr_15) rfl LM rfl rfl rfl rfl wz (ae (vI r_14) wz rfl (ai (af (aa (ae (vI r_14) wz rfl (ae (vB (r_14 != 0)) wz rfl (ai ?_)))))))
    rcases ak hc_9 with⟨hc_16,hc_9⟩ | ⟨hc_16,hc_9⟩
    ·refine aB rfl hc_16 (af (aa (ae (vI r_14) wz rfl (ae (vI r_14) wz rfl (ai ?_)))))
     obtain rfl:=ah hc_9
     obtain rfl:=ah hL_10
     obtain rfl:=ah hF
     exact ay (aM (.inr rfl) [(vI r_14)] ⟨rfl,trivial⟩ rfl rfl rfl)
    ·refine aA rfl hc_16 (av (aa (dQ (bu hD_6 hn_7) wz rfl (ae (vI ((k_3 + 1:Nat):Int)) wz rfl (ai ?_)))))
     obtain rfl:=ah hc_9
     exact aR (k_3 + 1,l_4,()) ⟨hL_10,aN hD_6⟩ (Nat.lt_succ_self _) rfl (aH rfl)
  ·rintro s_8 ho_ sl_ H_ hp_ hq_
   subst ho_
   refine aK _ hp_ hq_ (af (aa (ae (vI 0) wz rfl (ai ?_))))
   obtain rfl:=ah hF
   exact ay (aM (.inr rfl) [(vI 0)] ⟨rfl,trivial⟩ rfl rfl rfl)
theorem Dk {l_1:(List Rect)} {r:Int×Int} (hF:pq l_1=some r) :
  FnM Tryz.prog 77 [(vL Rect.enc l_1)] [] (.tup [(vI r.1),(vI r.2)]) []:=by
 refine FnM.of_wH ⟨Tryz.prog,13,[],[]⟩ rfl Tryz.func77 rfl rfl (Nat.le_of_ble_eq_true rfl) (by kernel_rfl) ?_
 unfold pq at hF
 refine af (aa (ae (vI 0) wz rfl (ae (vI 0) wz rfl (ai (af (af (aa (ae (vL Rect.enc l_1) wz rfl ?_))))))))
 obtain ⟨r_2,hr_3,hF⟩:=bind_some hF
 refine aC (wm hr_3) rfl hb151 rfl rfl rfl rfl wz (ae (vI r_2) wz rfl (ai (af (aa (ae (vI r_2) wz rfl (ae (vB (r_2 != 0)) wz rfl (ai ?_)))))))
 rcases ak hF with⟨hc_4,hF⟩ | ⟨hc_4,hF⟩
 ·refine aB rfl hc_4 (af (aa (ae (vI r_2) wz rfl (ae (vI 0) wz rfl (ae (vI r_2) wz rfl (ai ?_))))))
  obtain rfl:=ah hF
  exact ay (aM (.inr rfl) [(vI 0),(vI r_2)] ⟨rfl,⟨rfl,trivial⟩⟩ rfl rfl rfl)
 ·refine aA rfl hc_4 (av (af (aa (ae (vL Rect.enc l_1) wz rfl ?_))))
  obtain ⟨r_5,hr_6,hF⟩:=bind_some hF
  refine aC (ou hr_6) rfl hb69 rfl rfl rfl rfl wz ?_
  obtain ⟨r_7,hr_8,hF⟩:=bind_some hF
  refine aC (vP hr_8) rfl hb68 rfl rfl rfl rfl wz (ae (vI r_7) wz rfl (ae (vI 0) wz rfl (ai ?_)))
  obtain rfl:=ah hF
  exact ay (aM (.inr rfl) [(vI r_7),(vI 0)] ⟨rfl,⟨rfl,trivial⟩⟩ rfl rfl rfl)
theorem FV {n_1:Int} {r:Bool} (hF:Ao n_1=some r) :
  FnM Tryz.prog 312 [(vI n_1)] [] (vB r) []:=by
 refine FnM.of_wH ⟨Tryz.prog,9,[],[]⟩ rfl Tryz.func312 rfl rfl (Nat.le_of_ble_eq_true rfl) (by kernel_rfl) ?_
 unfold Ao at hF
 refine af (aa (ae (vB false) wz rfl (ai (af ?_))))
 obtain ⟨v_2,h_3,hF⟩:=bind_some hF
 refine aG (β:=Unit) (fun _=>([(2,(vB v_2))]:List (Nat×V))) (fun _=>([]:Hp)) (fun _=>True) ?_ ?_
 ·refine aa (ae (vI n_1) wz rfl (ae (vB (decide (n_1≥0))) wz rfl ?_))
  rcases ak h_3 with⟨hc_4,h_3⟩ | ⟨hc_4,h_3⟩
  ·refine aD rfl hc_4 wz (ae (vI n_1) wa rfl (ae (vB (decide (n_1≤4000))) wa rfl (ae (vB (decide (n_1≤4000))) wz rfl (ae (vB (decide (n_1≤4000))) wz rfl (ai ?_)))))
   obtain rfl:=ah h_3
   exact cu
  ·refine aD rfl hc_4 wz (aj wa (aj wa (ae (vB false) wz rfl (ae (vB false) wz rfl (ai ?_)))))
   obtain rfl:=ah h_3
   exact cu
 ·rintro ⟨⟩ _ sl_ H_ hp_ hq_
  refine aK _ hp_ hq_ ?_
  obtain rfl:=ah hF
  exact ay (aM (.inr rfl) [(vB v_2)] ⟨rfl,trivial⟩ rfl rfl rfl)
theorem tL {l_1:(List Int)} {r:Int} (hF:jA l_1=some r) :
  FnM Tryz.prog 264 [(vL eI l_1)] [] (vI r) []:=by
 refine FnM.of_wH ⟨Tryz.prog,30,[],[]⟩ rfl Tryz.func264 rfl rfl (Nat.le_of_ble_eq_true rfl) (by kernel_rfl) ?_
 unfold jA at hF
 refine af (aa (ae (vI 0) wz rfl (ai (af (af (aa (ae (vL eI l_1) wz rfl (bP vE rfl wz (ae (vB (decide ((l_1.length:Int) > 100))) wz rfl (ai ?_))))))))))
 rcases ak hF with⟨hc_2,hF⟩ | ⟨hc_2,hF⟩
 ·refine aB rfl hc_2 (af (aa (ae (vI 2) wz rfl (ai ?_))))
  obtain rfl:=ah hF
  exact ay (aM (.inr rfl) [(vI 2)] ⟨rfl,trivial⟩ rfl rfl rfl)
 ·refine aA rfl hc_2 (av (af (af (aa (ae (vL eI l_1) wz rfl (bP vE rfl wz (ae (vI 0) wz rfl (ai ?_))))))))
  obtain ⟨o_11,hj_12,hF⟩:=bind_some hF
  obtain ⟨hn_7,hj_12⟩:=aQ hj_12
  refine aG (β:=(Unit)) (fun (s_8:Unit)=>([]:List (Nat×V))) (fun (s_8:Unit)=>([]:Hp)) (fun p=>o_11 = .go p) ?_ ?_
  ·refine aF (aW (β:=Nat×(List Int)×(Unit)) (fun p=>(fun (k_3:Nat) (l_4:List Int) (s_8:Unit)=>([(0,(vL eI l_1)),(8,(vL eI l_1)),(9,(vI (l_1.length:Int))),(10,(vI (k_3:Int)))]:List (Nat×V))) p.1 p.2.1 p.2.2) (fun p=>(fun (k_3:Nat) (l_4:List Int) (s_8:Unit)=>([]:Hp)) p.1 p.2.1 p.2.2) (fun p=>forR (fun k x s=>jT l_1 k x s) p.2.1 p.1 p.2.2=some o_11∧(l_1).drop p.1=p.2.1) (fun p=>p.2.1.length) (0,l_1,()) ⟨hj_12,rfl⟩ rfl (aH rfl) ?_)
   rintro ⟨k_3,l_4,s_8⟩ ⟨hL_10,hD_6⟩
   dsimp only at hL_10 hD_6
   cases l_4 with
   | nil =>
    obtain rfl:=ah hL_10
    refine af (aa (ae (vB (decide ((k_3:Int) < (l_1.length:Int)))) wz rfl (ai ?_)))
    refine af (aA rfl (drop_nil hD_6) (aS ?_))
    exact aP (s_8) rfl rfl (aH rfl)
   | cons x_5 l_4 =>
    obtain ⟨c_,hc_9,hL_10⟩:=bind_some hL_10
    refine af (aa (ae (vB (decide ((k_3:Int) < (l_1.length:Int)))) wz rfl (ai ?_)))
    refine af (aB rfl (aX hD_6) (av ?_))
    unfold jT at hc_9
    refine af (aF (af (aa (ae (vI (k_3:Int)) wz rfl (dL oo rfl rfl (bC hD_6) rfl wz (bJ sz3 ag3 rfl (vI x_5) rfl wz (ae (vI (k_3:Int)) wz rfl (ae (vI x_5) wz rfl (ai (af (af (aa (ae (vI x_5) wz rfl ?_)))))))))))))
    obtain ⟨r_13,hr_14,hc_9⟩:=bind_some hc_9
    refine aC (FV hr_14) rfl hb312 rfl rfl rfl rfl wz (ae (vB (!r_13)) wz rfl (ai ?_))
    rcases ak hc_9 with⟨hc_15,hc_9⟩ | ⟨hc_15,hc_9⟩
    ·refine aB rfl hc_15 (af (aa (ae (vI 1) wz rfl (ai ?_))))
     obtain rfl:=ah hc_9
     obtain rfl:=ah hL_10
     obtain rfl:=ah hF
     exact ay (aM (.inr rfl) [(vI 1)] ⟨rfl,trivial⟩ rfl rfl rfl)
    ·refine aA rfl hc_15 (av (af ?_))
     obtain ⟨v_16,h_17,hc_9⟩:=bind_some hc_9
     refine aG (β:=Unit) (fun _=>([(0,(vL eI l_1)),(8,(vL eI l_1)),(9,(vI (l_1.length:Int))),(10,(vI (k_3:Int))),(28,(vB v_16))]:List (Nat×V))) (fun _=>([]:Hp)) (fun _=>True) ?_ ?_
     ·refine aa (ae (vI (k_3:Int)) wz rfl (ae (vB (decide ((k_3:Int) > 0))) wz rfl ?_))
      rcases ak h_17 with⟨hc_18,h_17⟩ | ⟨hc_18,h_17⟩
      ·refine aD rfl hc_18 wz (ae (vI x_5) wa rfl (ae (vL eI l_1) wa rfl (ae (vI (k_3:Int)) wa rfl (ae (vI (w64 ((k_3:Int) - 1))) wa rfl ?_))))
       obtain ⟨y_19,hy_20,h_17⟩:=bind_some h_17
       refine dL oo rfl rfl hy_20 rfl wa (bJ sz3 ag3 rfl (vI y_19) rfl wa (ae (vB (decide (x_5≤y_19))) wa rfl (ae (vB (decide (x_5≤y_19))) wz rfl (ai ?_))))
       obtain rfl:=ah h_17
       exact cu
      ·refine aD rfl hc_18 wz (aj wa (aj wa (aj wa (aj wa (aj wa (aj wa (aj wa (ae (vB false) wz rfl (ai ?_)))))))))
       obtain rfl:=ah h_17
       exact cu
     ·rintro ⟨⟩ _ sl_ H_ hp_ hq_
      refine aK _ hp_ hq_ ?_
      rcases ak hc_9 with⟨hc_21,hc_9⟩ | ⟨hc_21,hc_9⟩
      ·refine aB rfl hc_21 (af (aa (ae (vI 7) wz rfl (ai ?_))))
       obtain rfl:=ah hc_9
       obtain rfl:=ah hL_10
       obtain rfl:=ah hF
       exact ay (aM (.inr rfl) [(vI 7)] ⟨rfl,trivial⟩ rfl rfl rfl)
      ·refine aA rfl hc_21 (av (aa (dQ (bu hD_6 hn_7) wz rfl (ae (vI ((k_3 + 1:Nat):Int)) wz rfl (ai ?_)))))
       obtain rfl:=ah hc_9
       exact aR (k_3 + 1,l_4,()) ⟨hL_10,aN hD_6⟩ (Nat.lt_succ_self _) rfl (aH rfl)
  ·rintro s_8 ho_ sl_ H_ hp_ hq_
   subst ho_
   refine aK _ hp_ hq_ (af (aa (ae (vI 0) wz rfl (ai ?_))))
   obtain rfl:=ah hF
   exact ay (aM (.inr rfl) [(vI 0)] ⟨rfl,trivial⟩ rfl rfl rfl)
theorem rC {l_1:(List ByteArray)} {r:Int} (hF:jc l_1=some r) :
  FnM Tryz.prog 266 [(vL eS l_1)] [] (vI r) []:=by
 refine FnM.of_wH ⟨Tryz.prog,27,[],[]⟩ rfl Tryz.func266 rfl rfl (Nat.le_of_ble_eq_true rfl) (by kernel_rfl) ?_
 unfold jc at hF
 refine af (aa (ae (vI 0) wz rfl (ai (af (af (aa (ae (vL eS l_1) wz rfl (bP I6 rfl wz (ae (vI 0) wz rfl (ai ?_))))))))))
 obtain ⟨o_10,hj_11,hF⟩:=bind_some hF
 obtain ⟨hn_6,hj_11⟩:=aQ hj_11
 refine aG (β:=(Unit)) (fun (s_7:Unit)=>([]:List (Nat×V))) (fun (s_7:Unit)=>([]:Hp)) (fun p=>o_10 = .go p) ?_ ?_
 ·refine aF (aW (β:=Nat×(List ByteArray)×(Unit)) (fun p=>(fun (k_2:Nat) (l_3:List ByteArray) (s_7:Unit)=>([(0,(vL eS l_1)),(5,(vL eS l_1)),(6,(vI (l_1.length:Int))),(7,(vI (k_2:Int)))]:List (Nat×V))) p.1 p.2.1 p.2.2) (fun p=>(fun (k_2:Nat) (l_3:List ByteArray) (s_7:Unit)=>([]:Hp)) p.1 p.2.1 p.2.2) (fun p=>forR (fun k x s=>iM l_1 k x s) p.2.1 p.1 p.2.2=some o_10∧(l_1).drop p.1=p.2.1) (fun p=>p.2.1.length) (0,l_1,()) ⟨hj_11,rfl⟩ rfl (aH rfl) ?_)
  rintro ⟨k_2,l_3,s_7⟩ ⟨hL_9,hD_5⟩
  dsimp only at hL_9 hD_5
  cases l_3 with
  | nil =>
   obtain rfl:=ah hL_9
   refine af (aa (ae (vB (decide ((k_2:Int) < (l_1.length:Int)))) wz rfl (ai ?_)))
   refine af (aA rfl (drop_nil hD_5) (aS ?_))
   exact aP (s_7) rfl rfl (aH rfl)
  | cons x_4 l_3 =>
   obtain ⟨c_,hc_8,hL_9⟩:=bind_some hL_9
   refine af (aa (ae (vB (decide ((k_2:Int) < (l_1.length:Int)))) wz rfl (ai ?_)))
   refine af (aB rfl (aX hD_5) (av ?_))
   unfold iM at hc_8
   refine af (aF (af (aa (ae (vI (k_2:Int)) wz rfl (dL Ia rfl rfl (bC hD_5) rfl wz (bJ sz9 ag9 rfl (vS x_4) rfl wz (ae (vI (k_2:Int)) wz rfl (ae (vS x_4) wz rfl (ai (af (af (aa (ae (vS x_4) wz rfl ?_)))))))))))))
   obtain ⟨r_12,hr_13,hc_8⟩:=bind_some hc_8
   refine aC (dN hr_13) rfl qM rfl rfl rfl rfl wz (ae (vB (!r_12)) wz rfl (ai ?_))
   rcases ak hc_8 with⟨hc_14,hc_8⟩ | ⟨hc_14,hc_8⟩
   ·refine aB rfl hc_14 (af (aa (ae (vI 5) wz rfl (ai ?_))))
    obtain rfl:=ah hc_8
    obtain rfl:=ah hL_9
    obtain rfl:=ah hF
    exact ay (aM (.inr rfl) [(vI 5)] ⟨rfl,trivial⟩ rfl rfl rfl)
   ·refine aA rfl hc_14 (av (af ?_))
    obtain ⟨v_15,h_16,hc_8⟩:=bind_some hc_8
    refine aG (β:=Unit) (fun _=>([(0,(vL eS l_1)),(5,(vL eS l_1)),(6,(vI (l_1.length:Int))),(7,(vI (k_2:Int))),(25,(vB v_15))]:List (Nat×V))) (fun _=>([]:Hp)) (fun _=>True) ?_ ?_
    ·refine aa (ae (vI (k_2:Int)) wz rfl (ae (vB (decide ((k_2:Int) > 0))) wz rfl ?_))
     rcases ak h_16 with⟨hc_17,h_16⟩ | ⟨hc_17,h_16⟩
     ·refine aD rfl hc_17 wz (ae (vS x_4) wa rfl (ae (vL eS l_1) wa rfl (ae (vI (k_2:Int)) wa rfl (ae (vI (w64 ((k_2:Int) - 1))) wa rfl ?_))))
      obtain ⟨y_18,hy_19,h_16⟩:=bind_some h_16
      refine dL Ia rfl rfl hy_19 rfl wa (bJ sz9 ag9 rfl (vS y_18) rfl wa (ae (vB (sLe x_4 y_18)) wa rfl (ae (vB (sLe x_4 y_18)) wz rfl (ai ?_))))
      obtain rfl:=ah h_16
      exact cu
     ·refine aD rfl hc_17 wz (aj wa (aj wa (aj wa (aj wa (aj wa (aj wa (aj wa (ae (vB false) wz rfl (ai ?_)))))))))
      obtain rfl:=ah h_16
      exact cu
    ·rintro ⟨⟩ _ sl_ H_ hp_ hq_
     refine aK _ hp_ hq_ ?_
     rcases ak hc_8 with⟨hc_20,hc_8⟩ | ⟨hc_20,hc_8⟩
     ·refine aB rfl hc_20 (af (aa (ae (vI 7) wz rfl (ai ?_))))
      obtain rfl:=ah hc_8
      obtain rfl:=ah hL_9
      obtain rfl:=ah hF
      exact ay (aM (.inr rfl) [(vI 7)] ⟨rfl,trivial⟩ rfl rfl rfl)
     ·refine aA rfl hc_20 (av (aa (dQ (bu hD_5 hn_6) wz rfl (ae (vI ((k_2 + 1:Nat):Int)) wz rfl (ai ?_)))))
      obtain rfl:=ah hc_8
      exact aR (k_2 + 1,l_3,()) ⟨hL_9,aN hD_5⟩ (Nat.lt_succ_self _) rfl (aH rfl)
 ·rintro s_7 ho_ sl_ H_ hp_ hq_
  subst ho_
  refine aK _ hp_ hq_ (af (aa (ae (vI 0) wz rfl (ai ?_))))
  obtain rfl:=ah hF
  exact ay (aM (.inr rfl) [(vI 0)] ⟨rfl,trivial⟩ rfl rfl rfl)
theorem vk {l_1:(List ByteArray)} {r:Int} (hF:iQ l_1=some r) :
  FnM Tryz.prog 227 [(vL eS l_1)] [] (vI r) []:=by
 refine FnM.of_wH ⟨Tryz.prog,8,[],[]⟩ rfl Tryz.func227 rfl rfl (Nat.le_of_ble_eq_true rfl) (by kernel_rfl) ?_
 unfold iQ at hF
 refine af (aa (ae (vI 0) wz rfl (ai (af (af (aa (ae (vL eS l_1) wz rfl (bP I6 rfl wz (ae (vB (decide ((l_1.length:Int) > 20))) wz rfl (ai ?_))))))))))
 rcases ak hF with⟨hc_2,hF⟩ | ⟨hc_2,hF⟩
 ·refine aB rfl hc_2 (af (aa (ae (vI 2) wz rfl (ai ?_))))
  obtain rfl:=ah hF
  exact ay (aM (.inr rfl) [(vI 2)] ⟨rfl,trivial⟩ rfl rfl rfl)
 ·refine aA rfl hc_2 (av (af (aa (ae (vL eS l_1) wz rfl ?_))))
  obtain ⟨r_3,hr_4,hF⟩:=bind_some hF
  refine aC (rC hr_4) rfl hb266 rfl rfl rfl rfl wz (ae (vI r_3) wz rfl (ai ?_))
  obtain rfl:=ah hF
  exact ay (aM (.inr rfl) [(vI r_3)] ⟨rfl,trivial⟩ rfl rfl rfl)
theorem uw {e_1:Entry} {r:Int} (hF:iB e_1=some r) :
  FnM Tryz.prog 197 [(.d (.agg (Entry.enc e_1)))] [] (vI r) []:=by
 refine FnM.of_wH ⟨Tryz.prog,61,[],[]⟩ rfl Tryz.func197 rfl rfl (Nat.le_of_ble_eq_true rfl) (by kernel_rfl) ?_
 unfold iB at hF
 refine af (aa (dJ 0 (.inl rfl) [(vS e_1.Key),(vS e_1.Item),(vI e_1.Version),(vI e_1.First),(vI e_1.Last),(vI e_1.Every),(vI e_1.Days),(vL eI e_1.Except),(vI e_1.From),(vI e_1.To),(vI e_1.Prio),(vL eS e_1.Tags),(vB e_1.Gone)] rfl rfl wz (fun n_2=>ae (vI 0) wz rfl (ai (af (af ?_))))))
 obtain ⟨v_3,h_4,hF⟩:=bind_some hF
 refine aG (β:=Unit) (fun _=>([(1,(.ref n_2 0 0)),(13,(vB v_3))]:List (Nat×V))) (fun _=>([(n_2,some (.cells 13 [(vS e_1.Key),(vS e_1.Item),(vI e_1.Version),(vI e_1.First),(vI e_1.Last),(vI e_1.Every),(vI e_1.Days),(vL eI e_1.Except),(vI e_1.From),(vI e_1.To),(vI e_1.Prio),(vL eS e_1.Tags),(vB e_1.Gone)]))]:Hp)) (fun _=>True) ?_ ?_
 ·refine aa (ax G6 rfl 0 rfl wz (au 0 0 il ft sz9 ag9 rfl rfl (vS e_1.Key) rfl wz ?_))
  obtain ⟨r_5,hr_6,h_4⟩:=bind_some h_4
  refine aC (dN hr_6) rfl qM rfl rfl rfl rfl wz (ae (vB (!r_5)) wz rfl ?_)
  rcases ak h_4 with⟨hc_7,h_4⟩ | ⟨hc_7,h_4⟩
  ·refine aD rfl hc_7 wz (aj wa (aj wa (aj wa (aj wa (ae (vB true) wz rfl (ai ?_))))))
   obtain rfl:=ah h_4
   exact cu
  ·refine aD rfl hc_7 wz (ax pl151_1 rfl 1 rfl wa (au 0 0 il ft sz9 ag9 rfl rfl (vS e_1.Item) rfl wa ?_))
   obtain ⟨r_8,hr_9,h_4⟩:=bind_some h_4
   refine aC (dN hr_9) rfl qM rfl rfl rfl rfl wa (ae (vB (!r_8)) wa rfl (ae (vB (!r_8)) wz rfl (ai ?_)))
   obtain rfl:=ah h_4
   exact cu
 ·rintro ⟨⟩ _ sl_ H_ hp_ hq_
  refine aK _ hp_ hq_ ?_
  rcases ak hF with⟨hc_10,hF⟩ | ⟨hc_10,hF⟩
  ·refine aB rfl hc_10 (af (aa (ae (vI 5) wz rfl (ai ?_))))
   obtain rfl:=ah hF
   exact ay (aM (.inr rfl) [(vI 5)] ⟨rfl,trivial⟩ rfl rfl rfl)
  ·refine aA rfl hc_10 (av (af (af ?_)))
   obtain ⟨v_11,h_12,hF⟩:=bind_some hF
   refine aG (β:=Unit) (fun _=>([(1,(.ref n_2 0 0)),(38,(vB v_11))]:List (Nat×V))) (fun _=>([(n_2,some (.cells 13 [(vS e_1.Key),(vS e_1.Item),(vI e_1.Version),(vI e_1.First),(vI e_1.Last),(vI e_1.Every),(vI e_1.Days),(vL eI e_1.Except),(vI e_1.From),(vI e_1.To),(vI e_1.Prio),(vL eS e_1.Tags),(vB e_1.Gone)]))]:Hp)) (fun _=>True) ?_ ?_
   ·refine aa (ax pl151_2 rfl 2 rfl wz (au 0 0 il ft sz3 ag3 rfl rfl (vI e_1.Version) rfl wz ?_))
    obtain ⟨r_13,hr_14,h_12⟩:=bind_some h_12
    refine aC (bf hr_14) rfl pJ rfl rfl rfl rfl wz ?_
    rcases ak h_12 with⟨hc_15,h_12⟩ | ⟨hc_15,h_12⟩
    ·refine aD rfl hc_15 wz (aj wa (aj wa (aj wa (aj wa (aj wa (ae (vB true) wz rfl (ae (vB true) wz rfl (aj wa (aj wa (aj wa (ae (vB true) wz rfl (ae (vB true) wz rfl (aj wa (aj wa (aj wa (ae (vB true) wz rfl (ae (vB true) wz rfl (aj wa (aj wa (aj wa (ae (vB true) wz rfl (ai ?_))))))))))))))))))))))
     obtain rfl:=ah h_12
     exact cu
    ·refine aD rfl hc_15 wz (ax BI rfl 3 rfl wa (au 0 0 il ft sz3 ag3 rfl rfl (vI e_1.First) rfl wa (ax BM rfl 4 rfl wa (au 0 0 il ft sz3 ag3 rfl rfl (vI e_1.Last) rfl wa ?_))))
     obtain ⟨r_16,hr_17,h_12⟩:=bind_some h_12
     refine aC (bf hr_17) rfl pJ rfl rfl rfl rfl wa (ae (vB r_16) wz rfl ?_)
     rcases ak h_12 with⟨hc_18,h_12⟩ | ⟨hc_18,h_12⟩
     ·refine aD rfl hc_18 wz (aj wa (aj wa (aj wa (ae (vB true) wz rfl (ae (vB true) wz rfl (aj wa (aj wa (aj wa (ae (vB true) wz rfl (ae (vB true) wz rfl (aj wa (aj wa (aj wa (ae (vB true) wz rfl (ai ?_)))))))))))))))
      obtain rfl:=ah h_12
      exact cu
     ·refine aD rfl hc_18 wz (ax BM rfl 4 rfl wa (au 0 0 il ft sz3 ag3 rfl rfl (vI e_1.Last) rfl wa (ae (vB (decide (e_1.Last > 4000))) wa rfl (ae (vB (decide (e_1.Last > 4000))) wz rfl ?_))))
      rcases ak h_12 with⟨hc_19,h_12⟩ | ⟨hc_19,h_12⟩
      ·refine aD rfl hc_19 wz (aj wa (aj wa (aj wa (ae (vB true) wz rfl (ae (vB true) wz rfl (aj wa (aj wa (aj wa (ae (vB true) wz rfl (ai ?_))))))))))
       obtain rfl:=ah h_12
       exact cu
      ·refine aD rfl hc_19 wz (ax KG rfl 5 rfl wa (au 0 0 il ft sz3 ag3 rfl rfl (vI e_1.Every) rfl wa ?_))
       obtain ⟨r_20,hr_21,h_12⟩:=bind_some h_12
       refine aC (bf hr_21) rfl pJ rfl rfl rfl rfl wa (ae (vB r_20) wz rfl ?_)
       rcases ak h_12 with⟨hc_22,h_12⟩ | ⟨hc_22,h_12⟩
       ·refine aD rfl hc_22 wz (aj wa (aj wa (aj wa (ae (vB true) wz rfl (ai ?_)))))
        obtain rfl:=ah h_12
        exact cu
       ·refine aD rfl hc_22 wz (ax Kz rfl 6 rfl wa (au 0 0 il ft sz3 ag3 rfl rfl (vI e_1.Days) rfl wa ?_))
        obtain ⟨r_23,hr_24,h_12⟩:=bind_some h_12
        refine aC (bf hr_24) rfl pJ rfl rfl rfl rfl wa (ae (vB r_23) wz rfl (ai ?_))
        obtain rfl:=ah h_12
        exact cu
   ·rintro ⟨⟩ _ sl_ H_ hp_ hq_
    refine aK _ hp_ hq_ ?_
    rcases ak hF with⟨hc_25,hF⟩ | ⟨hc_25,hF⟩
    ·refine aB rfl hc_25 (af (aa (ae (vI 1) wz rfl (ai ?_))))
     obtain rfl:=ah hF
     exact ay (aM (.inr rfl) [(vI 1)] ⟨rfl,trivial⟩ rfl rfl rfl)
    ·refine aA rfl hc_25 (av (af (af (aa (ax KN rfl 7 rfl wz (au 0 0 il ft Me Lj rfl rfl (vL eI e_1.Except) rfl wz ?_))))))
     obtain ⟨r_26,hr_27,hF⟩:=bind_some hF
     refine aC (tL hr_27) rfl hb264 rfl rfl rfl rfl wz (ae (vI r_26) wz rfl (ai (af (aa (ae (vI r_26) wz rfl (ae (vB (r_26 != 0)) wz rfl (ai ?_)))))))
     rcases ak hF with⟨hc_28,hF⟩ | ⟨hc_28,hF⟩
     ·refine aB rfl hc_28 (af (aa (ae (vI r_26) wz rfl (ae (vI r_26) wz rfl (ai ?_)))))
      obtain rfl:=ah hF
      exact ay (aM (.inr rfl) [(vI r_26)] ⟨rfl,trivial⟩ rfl rfl rfl)
     ·refine aA rfl hc_28 (av (af (af ?_)))
      obtain ⟨v_29,h_30,hF⟩:=bind_some hF
      refine aG (β:=Unit) (fun _=>([(1,(.ref n_2 0 0)),(57,(vB v_29))]:List (Nat×V))) (fun _=>([(n_2,some (.cells 13 [(vS e_1.Key),(vS e_1.Item),(vI e_1.Version),(vI e_1.First),(vI e_1.Last),(vI e_1.Every),(vI e_1.Days),(vL eI e_1.Except),(vI e_1.From),(vI e_1.To),(vI e_1.Prio),(vL eS e_1.Tags),(vB e_1.Gone)]))]:Hp)) (fun _=>True) ?_ ?_
      ·refine aa (ax Gv rfl 8 rfl wz (au 0 0 il ft sz3 ag3 rfl rfl (vI e_1.From) rfl wz ?_))
       obtain ⟨r_31,hr_32,h_30⟩:=bind_some h_30
       refine aC (bf hr_32) rfl pJ rfl rfl rfl rfl wz ?_
       rcases ak h_30 with⟨hc_33,h_30⟩ | ⟨hc_33,h_30⟩
       ·refine aD rfl hc_33 wz (aj wa (aj wa (aj wa (ae (vB true) wz rfl (ae (vB true) wz rfl (aj wa (aj wa (aj wa (ae (vB true) wz rfl (ai ?_))))))))))
        obtain rfl:=ah h_30
        exact cu
       ·refine aD rfl hc_33 wz (ax KV rfl 9 rfl wa (au 0 0 il ft sz3 ag3 rfl rfl (vI e_1.To) rfl wa ?_))
        obtain ⟨r_34,hr_35,h_30⟩:=bind_some h_30
        refine aC (bf hr_35) rfl pJ rfl rfl rfl rfl wa (ae (vB r_34) wz rfl ?_)
        rcases ak h_30 with⟨hc_36,h_30⟩ | ⟨hc_36,h_30⟩
        ·refine aD rfl hc_36 wz (aj wa (aj wa (aj wa (ae (vB true) wz rfl (ai ?_)))))
         obtain rfl:=ah h_30
         exact cu
        ·refine aD rfl hc_36 wz (ax Nt rfl 10 rfl wa (au 0 0 il ft sz3 ag3 rfl rfl (vI e_1.Prio) rfl wa ?_))
         obtain ⟨r_37,hr_38,h_30⟩:=bind_some h_30
         refine aC (bf hr_38) rfl pJ rfl rfl rfl rfl wa (ae (vB r_37) wz rfl (ai ?_))
         obtain rfl:=ah h_30
         exact cu
      ·rintro ⟨⟩ _ sl_ H_ hp_ hq_
       refine aK _ hp_ hq_ ?_
       rcases ak hF with⟨hc_39,hF⟩ | ⟨hc_39,hF⟩
       ·refine aB rfl hc_39 (af (aa (ae (vI 1) wz rfl (ai ?_))))
        obtain rfl:=ah hF
        exact ay (aM (.inr rfl) [(vI 1)] ⟨rfl,trivial⟩ rfl rfl rfl)
       ·refine aA rfl hc_39 (av (af (aa (ax Ni rfl 11 rfl wz (au 0 0 il ft Md LJ rfl rfl (vL eS e_1.Tags) rfl wz ?_)))))
        obtain ⟨r_40,hr_41,hF⟩:=bind_some hF
        refine aC (vk hr_41) rfl hb227 rfl rfl rfl rfl wz (ae (vI r_40) wz rfl (ai ?_))
        obtain rfl:=ah hF
        exact ay (aM (.inr rfl) [(vI r_40)] ⟨rfl,trivial⟩ rfl rfl rfl)
theorem rZ {l_1:(List Entry)} {r:Int} (hF:gu l_1=some r) :
  FnM Tryz.prog 152 [(vL Entry.enc l_1)] [] (vI r) []:=by
 refine FnM.of_wH ⟨Tryz.prog,35,[],[]⟩ rfl Tryz.func152 rfl rfl (Nat.le_of_ble_eq_true rfl) (by kernel_rfl) ?_
 unfold gu at hF
 refine af (aa (ae (vI 0) wz rfl (ai (af (af (aa (ae (vL Entry.enc l_1) wz rfl (bP un77 rfl wz (ae (vB (decide ((l_1.length:Int) > 200))) wz rfl (ai ?_))))))))))
 rcases ak hF with⟨hc_2,hF⟩ | ⟨hc_2,hF⟩
 ·refine aB rfl hc_2 (af (aa (ae (vI 2) wz rfl (ai ?_))))
  obtain rfl:=ah hF
  exact ay (aM (.inr rfl) [(vI 2)] ⟨rfl,trivial⟩ rfl rfl rfl)
 ·refine aA rfl hc_2 (av (af (af (aa (ae (vL Entry.enc l_1) wz rfl (bP un77 rfl wz (ae (vI 0) wz rfl (ai ?_))))))))
  obtain ⟨o_11,hj_12,hF⟩:=bind_some hF
  obtain ⟨hn_7,hj_12⟩:=aQ hj_12
  refine aG (β:=(Unit)) (fun (s_8:Unit)=>([]:List (Nat×V))) (fun (s_8:Unit)=>([]:Hp)) (fun p=>o_11 = .go p) ?_ ?_
  ·refine aF (aW (β:=Nat×(List Entry)×(Unit)) (fun p=>(fun (k_3:Nat) (l_4:List Entry) (s_8:Unit)=>([(0,(vL Entry.enc l_1)),(9,(vL Entry.enc l_1)),(10,(vI (l_1.length:Int))),(11,(vI (k_3:Int)))]:List (Nat×V))) p.1 p.2.1 p.2.2) (fun p=>(fun (k_3:Nat) (l_4:List Entry) (s_8:Unit)=>([]:Hp)) p.1 p.2.1 p.2.2) (fun p=>forR (fun k x s=>fu l_1 k x s) p.2.1 p.1 p.2.2=some o_11∧(l_1).drop p.1=p.2.1) (fun p=>p.2.1.length) (0,l_1,()) ⟨hj_12,rfl⟩ rfl (aH rfl) ?_)
   rintro ⟨k_3,l_4,s_8⟩ ⟨hL_10,hD_6⟩
   dsimp only at hL_10 hD_6
   cases l_4 with
   | nil =>
    obtain rfl:=ah hL_10
    refine af (aa (ae (vB (decide ((k_3:Int) < (l_1.length:Int)))) wz rfl (ai ?_)))
    refine af (aA rfl (drop_nil hD_6) (aS ?_))
    exact aP (s_8) rfl rfl (aH rfl)
   | cons x_5 l_4 =>
    obtain ⟨c_,hc_9,hL_10⟩:=bind_some hL_10
    refine af (aa (ae (vB (decide ((k_3:Int) < (l_1.length:Int)))) wz rfl (ai ?_)))
    refine af (aB rfl (aX hD_6) (av ?_))
    unfold fu at hc_9
    refine af (aF (af (aa (ae (vI (k_3:Int)) wz rfl (dL es77 rfl rfl (bC hD_6) rfl wz (bJ D5 EE rfl (.d (.agg (Entry.enc x_5))) rfl wz (aY 0 (.inl rfl) z151 rfl wz (fun n_13=>ae (vI (k_3:Int)) wz rfl (bL 0 il ft 0 D5 rfl rfl [(vS x_5.Key),(vS x_5.Item),(vI x_5.Version),(vI x_5.First),(vI x_5.Last),(vI x_5.Every),(vI x_5.Days),(vL eI x_5.Except),(vI x_5.From),(vI x_5.To),(vI x_5.Prio),(vL eS x_5.Tags),(vB x_5.Gone)] rfl wz (ai (af (af (aa (au 0 0 il ft D5 EE rfl rfl (.d (.agg (Entry.enc x_5))) rfl wz ?_))))))))))))))
    obtain ⟨r_14,hr_15,hc_9⟩:=bind_some hc_9
    refine aC (uw hr_15) rfl hb197 rfl rfl rfl rfl wz (ae (vI r_14) wz rfl (ai (af (aa (ae (vI r_14) wz rfl (ae (vB (r_14 != 0)) wz rfl (ai ?_)))))))
    rcases ak hc_9 with⟨hc_16,hc_9⟩ | ⟨hc_16,hc_9⟩
    ·refine aB rfl hc_16 (af (aa (ae (vI r_14) wz rfl (ae (vI r_14) wz rfl (ai ?_)))))
     obtain rfl:=ah hc_9
     obtain rfl:=ah hL_10
     obtain rfl:=ah hF
     exact ay (aM (.inr rfl) [(vI r_14)] ⟨rfl,trivial⟩ rfl rfl rfl)
    ·refine aA rfl hc_16 (av (af ?_))
     obtain ⟨v_17,h_18,hc_9⟩:=bind_some hc_9
     refine aG (β:=Unit) (fun _=>([(0,(vL Entry.enc l_1)),(9,(vL Entry.enc l_1)),(10,(vI (l_1.length:Int))),(11,(vI (k_3:Int))),(33,(vB v_17))]:List (Nat×V))) (fun _=>([(n_13,some (.cells 13 [(vS x_5.Key),(vS x_5.Item),(vI x_5.Version),(vI x_5.First),(vI x_5.Last),(vI x_5.Every),(vI x_5.Days),(vL eI x_5.Except),(vI x_5.From),(vI x_5.To),(vI x_5.Prio),(vL eS x_5.Tags),(vB x_5.Gone)]))]:Hp)) (fun _=>True) ?_ ?_
     ·refine bB (ae (vI (k_3:Int)) wz rfl (ae (vB (decide ((k_3:Int) > 0))) wz rfl ?_))
      rcases ak h_18 with⟨hc_19,h_18⟩ | ⟨hc_19,h_18⟩
      ·refine aD rfl hc_19 wz (ax G6 rfl 0 rfl wa (au 4 0 (.inr (by kernel_rfl)) (fun _ _ ag=>trivial) sz9 ag9 rfl rfl (vS x_5.Key) rfl wa (ae (vL Entry.enc l_1) wa rfl (ae (vI (k_3:Int)) wa rfl (ae (vI (w64 ((k_3:Int) - 1))) wa rfl ?_)))))
       obtain ⟨y_20,hy_21,h_18⟩:=bind_some h_18
       refine dL es77 rfl rfl hy_21 rfl wa (lW G6 rfl [.str y_20.Key,.str y_20.Item,.int .i64 y_20.Version,.int .i64 y_20.First,.int .i64 y_20.Last,.int .i64 y_20.Every,.int .i64 y_20.Days,dl eI y_20.Except,.int .i64 y_20.From,.int .i64 y_20.To,.int .i64 y_20.Prio,dl eS y_20.Tags,.bool y_20.Gone] rfl rfl wa (bJ sz9 ag9 rfl (vS y_20.Key) rfl wa (ae (vB (sLe x_5.Key y_20.Key)) wa rfl (ae (vB (sLe x_5.Key y_20.Key)) wz rfl (ai ?_)))))
       obtain rfl:=ah h_18
       exact cu
      ·refine aD rfl hc_19 wz (aj wa (aj wa (aj wa (aj wa (aj wa (aj wa (aj wa (aj wa (aj wa (ae (vB false) wz rfl (ai ?_)))))))))))
       obtain rfl:=ah h_18
       exact cu
     ·rintro ⟨⟩ _ sl_ H_ hp_ hq_
      refine aK _ hp_ hq_ ?_
      rcases ak hc_9 with⟨hc_22,hc_9⟩ | ⟨hc_22,hc_9⟩
      ·refine aB rfl hc_22 (af (aa (ae (vI 7) wz rfl (ai ?_))))
       obtain rfl:=ah hc_9
       obtain rfl:=ah hL_10
       obtain rfl:=ah hF
       exact ay (aM (.inr rfl) [(vI 7)] ⟨rfl,trivial⟩ rfl rfl rfl)
      ·refine aA rfl hc_22 (av (aa (dQ (bu hD_6 hn_7) wz rfl (ae (vI ((k_3 + 1:Nat):Int)) wz rfl (ai ?_)))))
       obtain rfl:=ah hc_9
       exact aR (k_3 + 1,l_4,()) ⟨hL_10,aN hD_6⟩ (Nat.lt_succ_self _) rfl (aH rfl)
  ·rintro s_8 ho_ sl_ H_ hp_ hq_
   subst ho_
   refine aK _ hp_ hq_ (af (aa (ae (vI 0) wz rfl (ai ?_))))
   obtain rfl:=ah hF
   exact ay (aM (.inr rfl) [(vI 0)] ⟨rfl,trivial⟩ rfl rfl rfl)
theorem sP {wv_1:Window} {r:Int} (hF:jh wv_1=some r) :
  FnM Tryz.prog 153 [(.d (.agg (Window.enc wv_1)))] [] (vI r) []:=by
 refine FnM.of_wH ⟨Tryz.prog,19,[],[]⟩ rfl Tryz.func153 rfl rfl (Nat.le_of_ble_eq_true rfl) (by kernel_rfl) ?_
 unfold jh at hF
 refine af (aa (dJ 0 (.inl rfl) [(vI wv_1.From),(vI wv_1.To)] rfl rfl wz (fun n_2=>ae (vI 0) wz rfl (ai (af (af ?_))))))
 obtain ⟨v_3,h_4,hF⟩:=bind_some hF
 refine aG (β:=Unit) (fun _=>([(1,(.ref n_2 0 0)),(12,(vB v_3))]:List (Nat×V))) (fun _=>([(n_2,some (.cells 2 [(vI wv_1.From),(vI wv_1.To)]))]:Hp)) (fun _=>True) ?_ ?_
 ·refine aa (ax oD rfl 0 rfl wz (au 0 0 il ft sz3 ag3 rfl rfl (vI wv_1.From) rfl wz (ax nY rfl 1 rfl wz (au 0 0 il ft sz3 ag3 rfl rfl (vI wv_1.To) rfl wz ?_))))
  obtain ⟨r_5,hr_6,h_4⟩:=bind_some h_4
  refine aC (bf hr_6) rfl pJ rfl rfl rfl rfl wz ?_
  rcases ak h_4 with⟨hc_7,h_4⟩ | ⟨hc_7,h_4⟩
  ·refine aD rfl hc_7 wz (aj wa (aj wa (aj wa (ae (vB true) wz rfl (ai ?_)))))
   obtain rfl:=ah h_4
   exact cu
  ·refine aD rfl hc_7 wz (ax nY rfl 1 rfl wa (au 0 0 il ft sz3 ag3 rfl rfl (vI wv_1.To) rfl wa (ae (vB (decide (wv_1.To > 345686400000))) wa rfl (ae (vB (decide (wv_1.To > 345686400000))) wz rfl (ai ?_)))))
   obtain rfl:=ah h_4
   exact cu
 ·rintro ⟨⟩ _ sl_ H_ hp_ hq_
  refine aK _ hp_ hq_ ?_
  rcases ak hF with⟨hc_8,hF⟩ | ⟨hc_8,hF⟩
  ·refine aB rfl hc_8 (af (aa (ae (vI 1) wz rfl (ai ?_))))
   obtain rfl:=ah hF
   exact ay (aM (.inr rfl) [(vI 1)] ⟨rfl,trivial⟩ rfl rfl rfl)
  ·refine aA rfl hc_8 (av (af (af (aa (ax nY rfl 1 rfl wz (au 0 0 il ft sz3 ag3 rfl rfl (vI wv_1.To) rfl wz (ax oD rfl 0 rfl wz (au 0 0 il ft sz3 ag3 rfl rfl (vI wv_1.From) rfl wz (ae (vI (w64 (wv_1.To - wv_1.From))) wz rfl (ae (vB (decide ((w64 (wv_1.To - wv_1.From)) > 34560000000))) wz rfl (ai ?_)))))))))))
   rcases ak hF with⟨hc_9,hF⟩ | ⟨hc_9,hF⟩
   ·refine aB rfl hc_9 (af (aa (ae (vI 2) wz rfl (ai ?_))))
    obtain rfl:=ah hF
    exact ay (aM (.inr rfl) [(vI 2)] ⟨rfl,trivial⟩ rfl rfl rfl)
   ·refine aA rfl hc_9 (av (af (aa (ae (vI 0) wz rfl (ai ?_)))))
    obtain rfl:=ah hF
    exact ay (aM (.inr rfl) [(vI 0)] ⟨rfl,trivial⟩ rfl rfl rfl)
theorem lS {x_1:Int} {r:Bool} (hF:cmp_isNaN_int x_1=some r) :
  FnM Tryz.prog 186 [(vI x_1)] [] (vB r) []:=by
 refine FnM.of_wH ⟨Tryz.prog,6,[],[]⟩ rfl Tryz.func186 rfl rfl (Nat.le_of_ble_eq_true rfl) (by kernel_rfl) ?_
 unfold cmp_isNaN_int at hF
 refine af (aa (ae (vB false) wz rfl (ai (af (aa (ae (vI x_1) wz rfl (ae (vI x_1) wz rfl (ae (vB (x_1 != x_1)) wz rfl (ae (vB (x_1 != x_1)) wz rfl (ai ?_))))))))))
 obtain rfl:=ah hF
 exact ay (aM (.inr rfl) [(vB (x_1 != x_1))] ⟨rfl,trivial⟩ rfl rfl rfl)
theorem BA {x_1:Int} {y_2:Int} {r:Bool} (hF:cmp_Less_int x_1 y_2=some r) :
  FnM Tryz.prog 220 [(vI x_1),(vI y_2)] [] (vB r) []:=by
 refine FnM.of_wH ⟨Tryz.prog,17,[],[]⟩ rfl Tryz.func220 rfl rfl (Nat.le_of_ble_eq_true rfl) (by kernel_rfl) ?_
 unfold cmp_Less_int at hF
 refine af (aa (ae (vB false) wz rfl (ai (af ?_))))
 obtain ⟨v_3,h_4,hF⟩:=bind_some hF
 refine aG (β:=Unit) (fun _=>([(4,(vB v_3))]:List (Nat×V))) (fun _=>([]:Hp)) (fun _=>True) ?_ ?_
 ·refine aa (ae (vI x_1) wz rfl ?_)
  obtain ⟨r_5,hr_6,h_4⟩:=bind_some h_4
  refine aC (lS hr_6) rfl Kl rfl rfl rfl rfl wz ?_
  rcases ak h_4 with⟨hc_7,h_4⟩ | ⟨hc_7,h_4⟩
  ·refine aD rfl hc_7 wz (ae (vI y_2) wa rfl ?_)
   obtain ⟨r_8,hr_9,h_4⟩:=bind_some h_4
   refine aC (lS hr_9) rfl Kl rfl rfl rfl rfl wa (ae (vB (!r_8)) wa rfl (ae (vB (!r_8)) wz rfl ?_))
   rcases ak h_4 with⟨hc_10,h_4⟩ | ⟨hc_10,h_4⟩
   ·refine aD rfl hc_10 wz (aj wa (aj wa (aj wa (ae (vB true) wz rfl (ae (vB true) wz rfl (ai ?_))))))
    obtain rfl:=ah h_4
    exact cu
   ·refine aD rfl hc_10 wz (ae (vI x_1) wa rfl (ae (vI y_2) wa rfl (ae (vB (decide (x_1 < y_2))) wa rfl (ae (vB (decide (x_1 < y_2))) wz rfl (ae (vB (decide (x_1 < y_2))) wz rfl (ai ?_))))))
    obtain rfl:=ah h_4
    exact cu
  ·refine aD rfl hc_7 wz (aj wa (aj wa (aj wa (ae (vB false) wz rfl (ae (vB false) wz rfl (ae (vI x_1) wa rfl (ae (vI y_2) wa rfl (ae (vB (decide (x_1 < y_2))) wa rfl (ae (vB (decide (x_1 < y_2))) wz rfl (ae (vB (decide (x_1 < y_2))) wz rfl (ai ?_)))))))))))
   obtain rfl:=ah h_4
   exact cu
 ·rintro ⟨⟩ _ sl_ H_ hp_ hq_
  refine aK _ hp_ hq_ ?_
  obtain rfl:=ah hF
  exact ay (aM (.inr rfl) [(vB v_3)] ⟨rfl,trivial⟩ rfl rfl rfl)
theorem qd {x_1:Int} {r:Bool} (hF:iI x_1=some r) :
  FnM Tryz.prog 313 [(vI x_1)] [] (vB r) []:=by
 refine FnM.of_wH ⟨Tryz.prog,6,[],[]⟩ rfl Tryz.func313 rfl rfl (Nat.le_of_ble_eq_true rfl) (by kernel_rfl) ?_
 unfold iI at hF
 refine af (aa (ae (vB false) wz rfl (ai (af (aa (ae (vI x_1) wz rfl (ae (vI x_1) wz rfl (ae (vB (x_1 != x_1)) wz rfl (ae (vB (x_1 != x_1)) wz rfl (ai ?_))))))))))
 obtain rfl:=ah hF
 exact ay (aM (.inr rfl) [(vB (x_1 != x_1))] ⟨rfl,trivial⟩ rfl rfl rfl)
theorem ow {x_1:(List Int)} {target_2:Int} {r:Int×Bool} (hF:dZ x_1 target_2=some r) :
  FnM Tryz.prog 265 [(vL eI x_1),(vI target_2)] [] (.tup [(vI r.1),(vB r.2)]) []:=by
 refine FnM.of_wH ⟨Tryz.prog,54,[],[]⟩ rfl Tryz.func265 rfl rfl (Nat.le_of_ble_eq_true rfl) (by kernel_rfl) ?_
 unfold dZ at hF
 refine af (aa (ae (vI 0) wz rfl (ae (vB false) wz rfl (ai (af (aa (ae (vL eI x_1) wz rfl (bP vE rfl wz (ae (vI (x_1.length:Int)) wz rfl (ai (af (aa (ae (vI (x_1.length:Int)) wz rfl (ae (vI 0) wz rfl (ae (vI (x_1.length:Int)) wz rfl (ai (af ?_)))))))))))))))))
 obtain ⟨o_11,hj_12,hF⟩:=bind_some hF
 obtain ⟨nq_34,hj_12⟩:=eY hj_12
 refine aG (β:=(Int×Int)) (fun (s_8:Int×Int)=>([(0,(vL eI x_1)),(1,(vI target_2)),(6,(vI (x_1.length:Int))),(7,(vI s_8.1))]:List (Nat×V))) (fun (s_8:Int×Int)=>([]:Hp)) (fun p=>o_11 = .go p) ?_ ?_
 ·refine aF (aW (β:=Nat×(Int×Int)) (fun p=>(fun (k_3:Nat) (s_8:Int×Int)=>([(0,(vL eI x_1)),(1,(vI target_2)),(6,(vI (x_1.length:Int))),(7,(vI s_8.1)),(8,(vI s_8.2))]:List (Nat×V))) p.1 p.2) (fun p=>(fun (k_3:Nat) (s_8:Int×Int)=>([]:Hp)) p.1 p.2) (fun p=>iterN (fun s=>eG x_1 target_2 s) p.1 p.2=some o_11) (fun p=>p.1) (nq_34,(0,(x_1.length:Int))) hj_12 rfl (aH rfl) ?_)
  rintro ⟨k_3,s_8⟩ hL_10
  dsimp only at hL_10
  cases k_3 with
  | zero=>cases hL_10
  | succ k_3 =>
   obtain ⟨c_,hc_9,hL_10⟩:=bind_some hL_10
   unfold eG at hc_9
   refine af (af (aa (ae (vI s_8.1) wz rfl (ae (vI s_8.2) wz rfl (ae (vB (decide (s_8.1 < s_8.2))) wz rfl (ai ?_))))))
   rcases ak hc_9 with⟨hc_13,hc_9⟩ | ⟨hc_13,hc_9⟩
   ·refine aB rfl hc_13 (av (aF (af (aa (ae (vI s_8.1) wz rfl (ae (vI s_8.2) wz rfl (ae (vI (w64 (s_8.1 + s_8.2))) wz rfl (oh un3 NW rfl wz ?_))))))))
    obtain ⟨q_14,hz_15,hc_9⟩:=bind_some hc_9
    refine Km rfl rfl hz_15 wz (oh NW un3 rfl wz (ae (vI (w64 q_14)) wz rfl (ai (af (aa (ae (vL eI x_1) wz rfl (ae (vI (w64 q_14)) wz rfl ?_)))))))
    obtain ⟨y_16,hy_17,hc_9⟩:=bind_some hc_9
    refine dL oo rfl rfl hy_17 rfl wz (bJ sz3 ag3 rfl (vI y_16) rfl wz (ae (vI target_2) wz rfl ?_))
    obtain ⟨r_18,hr_19,hc_9⟩:=bind_some hc_9
    refine aC (BA hr_19) rfl hb220 rfl rfl rfl rfl wz (ai ?_)
    rcases ak hc_9 with⟨hc_20,hc_9⟩ | ⟨hc_20,hc_9⟩
    ·refine aB rfl hc_20 (aa (ae (vI (w64 q_14)) wz rfl (ae (vI (w64 ((w64 q_14) + 1))) wz rfl (ae (vI (w64 ((w64 q_14) + 1))) wz rfl (ai ?_)))))
     obtain rfl:=ah hc_9
     exact aR (k_3,((w64 ((w64 q_14) + 1)),s_8.2)) hL_10 (Nat.lt_succ_self _) rfl (aH rfl)
    ·refine aA rfl hc_20 (aa (ae (vI (w64 q_14)) wz rfl (ae (vI (w64 q_14)) wz rfl (ai ?_))))
     obtain rfl:=ah hc_9
     exact aR (k_3,(s_8.1,(w64 q_14))) hL_10 (Nat.lt_succ_self _) rfl (aH rfl)
   ·refine aA rfl hc_13 (aS ?_)
    obtain rfl:=ah hc_9
    obtain rfl:=ah hL_10
    exact aP ((s_8.1,s_8.2)) rfl rfl (aH rfl)
 ·rintro s_8 ho_ sl_ H_ hp_ hq_
  subst ho_
  refine aK _ hp_ hq_ (af ?_)
  obtain ⟨v_21,h_22,hF⟩:=bind_some hF
  refine aG (β:=Unit) (fun _=>([(4,(vI s_8.1)),(5,(vB v_21))]:List (Nat×V))) (fun _=>([]:Hp)) (fun _=>True) ?_ ?_
  ·refine aa (ae (vI s_8.1) wz rfl (ae (vI s_8.1) wz rfl (ae (vI (x_1.length:Int)) wz rfl (ae (vB (decide (s_8.1 < (x_1.length:Int)))) wz rfl ?_))))
   rcases ak h_22 with⟨hc_23,h_22⟩ | ⟨hc_23,h_22⟩
   ·refine aD rfl hc_23 wz (ae (vL eI x_1) wa rfl (ae (vI s_8.1) wa rfl ?_))
    obtain ⟨y_24,hy_25,h_22⟩:=bind_some h_22
    refine dL oo rfl rfl hy_25 rfl wa (bJ sz3 ag3 rfl (vI y_24) rfl wa (ae (vI target_2) wa rfl (ae (vB (y_24 == target_2)) wa rfl ?_)))
    rcases ak h_22 with⟨hc_26,h_22⟩ | ⟨hc_26,h_22⟩
    ·refine aD rfl hc_26 wa (aj wa (aj wa (aj wa (aj wa (aj wa (aj wa (aj (wn rfl rfl) (aj (wn rfl rfl) (aj wa (ae (vB true) wa rfl (ae (vB true) wz rfl (ae (vI s_8.1) wz rfl (ae (vB true) wz rfl (ai ?_))))))))))))))
     obtain rfl:=ah h_22
     exact cu
    ·refine aD rfl hc_26 wa (ae (vL eI x_1) wa rfl (ae (vI s_8.1) wa rfl ?_))
     obtain ⟨y_27,hy_28,h_22⟩:=bind_some h_22
     refine dL oo rfl rfl hy_28 rfl wa (bJ sz3 ag3 rfl (vI y_27) rfl wa ?_)
     obtain ⟨r_29,hr_30,h_22⟩:=bind_some h_22
     refine aC (qd hr_30) rfl hb313 rfl rfl rfl rfl wa ?_
     rcases ak h_22 with⟨hc_31,h_22⟩ | ⟨hc_31,h_22⟩
     ·refine aD rfl hc_31 wa (ae (vI target_2) wa rfl ?_)
      obtain ⟨r_32,hr_33,h_22⟩:=bind_some h_22
      refine aC (qd hr_33) rfl hb313 rfl rfl rfl rfl wa (ae (vB r_32) wa rfl (ae (vB r_32) wa rfl (ae (vB r_32) wz rfl (ae (vI s_8.1) wz rfl (ae (vB r_32) wz rfl (ai ?_))))))
      obtain rfl:=ah h_22
      exact cu
     ·refine aD rfl hc_31 wa (aj wa (aj wa (ae (vB false) wa rfl (ae (vB false) wa rfl (ae (vB false) wz rfl (ae (vI s_8.1) wz rfl (ae (vB false) wz rfl (ai ?_))))))))
      obtain rfl:=ah h_22
      exact cu
   ·refine aD rfl hc_23 wz (aj wa (aj wa (aj wa (aj wa (aj wa (aj wa (aj wa (aj (wn rfl rfl) (aj (wn rfl rfl) (aj (wn rfl rfl) (aj (wn rfl rfl) (aj (wn rfl rfl) (aj (wn rfl rfl) (aj (wn rfl rfl) (aj (wn rfl rfl) (aj (wn rfl rfl) (aj wa (ae (vB false) wz rfl (ae (vI s_8.1) wz rfl (ae (vB false) wz rfl (ai ?_)))))))))))))))))))))
    obtain rfl:=ah h_22
    exact cu
  ·rintro ⟨⟩ _ sl_ H_ hp_ hq_
   refine aK _ hp_ hq_ ?_
   obtain rfl:=ah hF
   exact ay (aM (.inr rfl) [(vI s_8.1),(vB v_21)] ⟨rfl,⟨rfl,trivial⟩⟩ rfl rfl rfl)
theorem yJ {e_1:Entry} {d_2:Int} {r:Bool} (hF:lv e_1 d_2=some r) :
  FnM Tryz.prog 198 [(.d (.agg (Entry.enc e_1))),(vI d_2)] [] (vB r) []:=by
 refine FnM.of_wH ⟨Tryz.prog,41,[],[]⟩ rfl Tryz.func198 rfl rfl (Nat.le_of_ble_eq_true rfl) (by kernel_rfl) ?_
 unfold lv at hF
 refine af (aa (dJ 0 (.inl rfl) [(vS e_1.Key),(vS e_1.Item),(vI e_1.Version),(vI e_1.First),(vI e_1.Last),(vI e_1.Every),(vI e_1.Days),(vL eI e_1.Except),(vI e_1.From),(vI e_1.To),(vI e_1.Prio),(vL eS e_1.Tags),(vB e_1.Gone)] rfl rfl wz (fun n_3=>ae (vB false) wz rfl (ai (af (af ?_))))))
 obtain ⟨v_4,h_5,hF⟩:=bind_some hF
 refine aG (β:=Unit) (fun _=>([(1,(vI d_2)),(2,(.ref n_3 0 0)),(31,(vB v_4))]:List (Nat×V))) (fun _=>([(n_3,some (.cells 13 [(vS e_1.Key),(vS e_1.Item),(vI e_1.Version),(vI e_1.First),(vI e_1.Last),(vI e_1.Every),(vI e_1.Days),(vL eI e_1.Except),(vI e_1.From),(vI e_1.To),(vI e_1.Prio),(vL eS e_1.Tags),(vB e_1.Gone)]))]:Hp)) (fun _=>True) ?_ ?_
 ·refine bB (ae (vI d_2) wz rfl (ax BI rfl 3 rfl wz (au 2 0 (.inr (by kernel_rfl)) (fun _ _ ag=>trivial) sz3 ag3 rfl rfl (vI e_1.First) rfl wz (ax BM rfl 4 rfl wz (au 4 0 (.inr (by kernel_rfl)) (fun _ _ ag=>⟨.inl ⟨rfl,rfl⟩,trivial⟩) sz3 ag3 rfl rfl (vI e_1.Last) rfl wz ?_)))))
  obtain ⟨r_6,hr_7,h_5⟩:=bind_some h_5
  refine aC (bf hr_7) rfl pJ rfl rfl rfl rfl wz ?_
  rcases ak h_5 with⟨hc_8,h_5⟩ | ⟨hc_8,h_5⟩
  ·refine aD rfl hc_8 wz (aj wa (aj wa (aj wa (aj wa (aj wa (aj wa (aj wa (aj wa (ae (vB true) wz rfl (ae (vB true) wz rfl (aj wa (aj wa (aj wa (aj wa (aj wa (aj wa (aj wa (ae (vB true) wz rfl (ai ?_)))))))))))))))))))
   obtain rfl:=ah h_5
   exact cu
  ·refine aD rfl hc_8 wz (ae (vI d_2) wa rfl (ax BI rfl 3 rfl wa (au 9 0 (.inr (by kernel_rfl)) (fun _ _ ag=>⟨.inl ⟨rfl,rfl⟩,⟨.inl ⟨rfl,rfl⟩,trivial⟩⟩) sz3 ag3 rfl rfl (vI e_1.First) rfl wa (ae (vI (w64 (d_2 - e_1.First))) wa rfl (ax KG rfl 5 rfl wa (au 12 0 (.inr (by kernel_rfl)) (fun _ _ ag=>⟨.inl ⟨rfl,rfl⟩,⟨.inl ⟨rfl,rfl⟩,⟨.inl ⟨rfl,rfl⟩,trivial⟩⟩⟩) sz3 ag3 rfl rfl (vI e_1.Every) rfl wa ?_))))))
   obtain ⟨q_9,hz_10,h_5⟩:=bind_some h_5
   refine Ob rfl rfl hz_10 wa (ae (vB (q_9 != 0)) wa rfl (ae (vB (q_9 != 0)) wz rfl ?_))
   rcases ak h_5 with⟨hc_11,h_5⟩ | ⟨hc_11,h_5⟩
   ·refine aD rfl hc_11 wz (aj wa (aj wa (aj wa (aj wa (aj wa (aj wa (aj wa (ae (vB true) wz rfl (ai ?_)))))))))
    obtain rfl:=ah h_5
    exact cu
   ·refine aD rfl hc_11 wz (ax Kz rfl 6 rfl wa (au 18 0 (.inr (by kernel_rfl)) (fun _ _ ag=>⟨.inl ⟨rfl,rfl⟩,⟨.inl ⟨rfl,rfl⟩,⟨.inl ⟨rfl,rfl⟩,⟨.inl ⟨rfl,rfl⟩,trivial⟩⟩⟩⟩) sz3 ag3 rfl rfl (vI e_1.Days) rfl wa (ae (vI d_2) wa rfl (ae (vI (d_2.tmod 7)) wa rfl ?_))))
    obtain ⟨q_12,hz_13,h_5⟩:=bind_some h_5
    refine A9 rfl rfl hz_13 wa (ae (vI (uj .i64 e_1.Days q_12)) wa rfl (ae (vB ((uj .i64 e_1.Days q_12) == 0)) wa rfl (ae (vB ((uj .i64 e_1.Days q_12) == 0)) wz rfl (ai ?_))))
    obtain rfl:=ah h_5
    exact cu
 ·rintro ⟨⟩ _ sl_ H_ hp_ hq_
  refine aK _ hp_ hq_ ?_
  rcases ak hF with⟨hc_14,hF⟩ | ⟨hc_14,hF⟩
  ·refine aB rfl hc_14 (af (aa (ae (vB false) wz rfl (ai ?_))))
   obtain rfl:=ah hF
   exact ay (aM (.inr rfl) [(vB false)] ⟨rfl,trivial⟩ rfl rfl rfl)
  ·refine aA rfl hc_14 (av (af (aa (ax KN rfl 7 rfl wz (au 0 0 il ft Me Lj rfl rfl (vL eI e_1.Except) rfl wz (ae (vI d_2) wz rfl ?_))))))
   obtain ⟨r_15,hr_16,hF⟩:=bind_some hF
   refine aC (ow hr_16) rfl hb265 rfl rfl rfl rfl wz (ae (.tup [(vI r_15.1),(vB r_15.2)]) wz rfl (ae (vI r_15.1) wz rfl (ae (vB r_15.2) wz rfl (ae (vI r_15.1) wz rfl (ae (vB r_15.2) wz rfl (ai (af (aa (ae (vB r_15.2) wz rfl (ae (vB (!r_15.2)) wz rfl (ae (vB (!r_15.2)) wz rfl (ai ?_))))))))))))
   obtain rfl:=ah hF
   exact ay (aM (.inr rfl) [(vB (!r_15.2))] ⟨rfl,trivial⟩ rfl rfl rfl)
theorem yB {e_1:Entry} {zone_2:Int} {d_3:Int} {r:Window} (hF:mD e_1 zone_2 d_3=some r) :
  FnM Tryz.prog 199 [(.d (.agg (Entry.enc e_1))),(vI zone_2),(vI d_3)] [] (.d (.agg (Window.enc r))) []:=by
 refine FnM.of_wH ⟨Tryz.prog,32,[],[]⟩ rfl Tryz.func199 rfl rfl (Nat.le_of_ble_eq_true rfl) (by kernel_rfl) ?_
 unfold mD at hF
 refine af (aa (dJ 0 (.inl rfl) [(vS e_1.Key),(vS e_1.Item),(vI e_1.Version),(vI e_1.First),(vI e_1.Last),(vI e_1.Every),(vI e_1.Days),(vL eI e_1.Except),(vI e_1.From),(vI e_1.To),(vI e_1.Prio),(vL eS e_1.Tags),(vB e_1.Gone)] rfl rfl wz (fun n_4=>aY 0 (.inl rfl) z60 rfl wz (fun n_5=>ai (af (aa (ax KV rfl 9 rfl wz (au 0 0 il ft sz3 ag3 rfl rfl (vI e_1.To) rfl wz (ax Gv rfl 8 rfl wz (au 0 0 il ft sz3 ag3 rfl rfl (vI e_1.From) rfl wz (ae (vI (w64 (e_1.To - e_1.From))) wz rfl (ae (vI (w64 (e_1.To - e_1.From))) wz rfl (ai (af (af (aa (ae (vI (w64 (e_1.To - e_1.From))) wz rfl (ae (vB (decide ((w64 (e_1.To - e_1.From))≤0))) wz rfl (ai ?_)))))))))))))))))))
 obtain ⟨v_6,h_7,hF⟩:=bind_some hF
 refine aG (β:=Unit) (fun _=>([(1,(vI zone_2)),(2,(vI d_3)),(3,(.ref n_4 0 0)),(6,(.ref n_5 0 0)),(7,(vI v_6))]:List (Nat×V))) (fun _=>([(n_4,some (.cells 13 [(vS e_1.Key),(vS e_1.Item),(vI e_1.Version),(vI e_1.First),(vI e_1.Last),(vI e_1.Every),(vI e_1.Days),(vL eI e_1.Except),(vI e_1.From),(vI e_1.To),(vI e_1.Prio),(vL eS e_1.Tags),(vB e_1.Gone)])),(n_5,some (.cells 2 [(vI 0),(vI 0)]))]:Hp)) (fun _=>True) ?_ ?_
 ·rcases ak h_7 with⟨hc_8,h_7⟩ | ⟨hc_8,h_7⟩
  ·refine aB rfl hc_8 (aa (ae (vI (w64 (e_1.To - e_1.From))) wz rfl (ae (vI (w64 ((w64 (e_1.To - e_1.From)) + 1440))) wz rfl (ae (vI (w64 ((w64 (e_1.To - e_1.From)) + 1440))) wz rfl (ai ?_)))))
   obtain rfl:=ah h_7
   exact cu
  ·refine aA rfl hc_8 (av ?_)
   obtain rfl:=ah h_7
   exact cu
 ·rintro ⟨⟩ _ sl_ H_ hp_ hq_
  refine aK _ hp_ hq_ (af (aa (ae (vI d_3) wz rfl (ae (vI (w64 (d_3 * 1440))) wz rfl (ax Gv rfl 8 rfl wz (au 0 0 il ft sz3 ag3 rfl rfl (vI e_1.From) rfl wz (ae (vI (w64 ((w64 (d_3 * 1440)) + e_1.From))) wz rfl (ae (vI zone_2) wz rfl (ae (vI (w64 ((w64 ((w64 (d_3 * 1440)) + e_1.From)) - zone_2))) wz rfl (ae (vI (w64 ((w64 ((w64 ((w64 (d_3 * 1440)) + e_1.From)) - zone_2)) * 60000))) wz rfl (ae (vI (w64 ((w64 ((w64 ((w64 (d_3 * 1440)) + e_1.From)) - zone_2)) * 60000))) wz rfl (ai (af (aa (ae (vI (w64 ((w64 ((w64 ((w64 (d_3 * 1440)) + e_1.From)) - zone_2)) * 60000))) wz rfl (ae (vI (w64 ((w64 ((w64 ((w64 (d_3 * 1440)) + e_1.From)) - zone_2)) * 60000))) wz rfl (ae (vI v_6) wz rfl (ae (vI (w64 (v_6 * 60000))) wz rfl (ae (vI (w64 ((w64 ((w64 ((w64 ((w64 (d_3 * 1440)) + e_1.From)) - zone_2)) * 60000)) + (w64 (v_6 * 60000))))) wz rfl (ae (.d (.agg (Window.enc (⟨(w64 ((w64 ((w64 ((w64 (d_3 * 1440)) + e_1.From)) - zone_2)) * 60000)),(w64 ((w64 ((w64 ((w64 ((w64 (d_3 * 1440)) + e_1.From)) - zone_2)) * 60000)) + (w64 (v_6 * 60000))))⟩:Window)))) wz (by kernel_rfl) (bL 0 il ft 1 yw rfl rfl [(vI (w64 ((w64 ((w64 ((w64 (d_3 * 1440)) + e_1.From)) - zone_2)) * 60000))),(vI (w64 ((w64 ((w64 ((w64 ((w64 (d_3 * 1440)) + e_1.From)) - zone_2)) * 60000)) + (w64 (v_6 * 60000)))))] rfl wz (ai ?_))))))))))))))))))))))
  obtain rfl:=ah hF
  exact ay (aM (.inr rfl) [(.d (.agg (Window.enc (⟨(w64 ((w64 ((w64 ((w64 (d_3 * 1440)) + e_1.From)) - zone_2)) * 60000)),(w64 ((w64 ((w64 ((w64 ((w64 (d_3 * 1440)) + e_1.From)) - zone_2)) * 60000)) + (w64 (v_6 * 60000))))⟩:Window))))] ⟨⟨1,_,_,_,_,_,_,_,rfl,rfl,yw,Hd,rfl⟩,trivial⟩ rfl rfl rfl)
end Go.Proofs.YtjhcehhmdmbleaaGreatDoor.Law

