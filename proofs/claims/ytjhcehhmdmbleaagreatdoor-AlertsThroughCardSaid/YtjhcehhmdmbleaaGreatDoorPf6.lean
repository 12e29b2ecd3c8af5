/-
 The machine computes these plain functions (written by a program of ours).
-/
import Derived.Test.YtjhcehhmdmbleaaGreatDoorFacts
import Derived.Test.YtjhcehhmdmbleaaGreatDoorDefs
import Derived.Test.YtjhcehhmdmbleaaGreatDoorPf5
open Go Go.Eng Go.Proofs
namespace Go.Proofs.YtjhcehhmdmbleaaGreatDoor.Law
set_option maxRecDepth 100000
set_option linter.unusedVariables false
set_option maxHeartbeats 1000000
theorem tq {l_1:(List Alert)} {p_2:Post} {wv_3:Window} {r:(List Slot_)} (hF:iM l_1 p_2 wv_3=some r) :
  FnM Tryz.prog 28 [(vL Alert.enc l_1),(.d (.agg (Post.enc p_2))),(.d (.agg (Window.enc wv_3)))] [] (vL Slot_.enc r) []:=by
 refine FnM.of_wH ⟨Tryz.prog,114,[21],[]⟩ rfl Tryz.func28 rfl rfl (Nat.le_of_ble_eq_true rfl) (by kernel_rfl) ?_
 unfold iM at hF
 refine af (aa (eD 0 (.inl rfl) [(vS p_2.Player),(vI p_2.X),(vI p_2.Y)] rfl rfl wz (fun n_4=>eD 0 (.inl rfl) [(vI wv_3.From),(vI wv_3.To)] rfl rfl wz (fun n_5=>ae .nil wz rfl (ai (af (aa (aG xn rfl 0 rfl wz (aF 0 1 il ft sz3 ag3 rfl rfl (vI wv_3.From) rfl wz (aG pV rfl 1 rfl wz (aF 0 1 il ft sz3 ag3 rfl rfl (vI wv_3.To) rfl wz (Km 0 (.inl rfl) (([wv_3.From,wv_3.To]:List Int).map eI) iW si rfl rfl rfl rfl rfl wz (fun n_6=>ae (vV n_6 1 ([wv_3.From,wv_3.To]:List Int)) wz rfl (ai (af (af (aa (ae (vL Alert.enc l_1) wz rfl (bZ pG rfl wz (ae (vI 0) wz rfl (ai ?_)))))))))))))))))))))
 obtain ⟨o_17,hj_18,hF⟩:=bind_some hF
 obtain ⟨hn_11,hj_18⟩:=aZ hj_18
 refine aC (β:=((List Int))×Nm) (fun p=>(fun (s_12:(List Int)) (n_14:Nm)=>([(0,(vL Alert.enc l_1)),(4,(.ref n_4 0 0)),(7,(vV n_14 1 s_12))]:List (Nat×V))) p.1 p.2) (fun p=>(fun (s_12:(List Int)) (n_14:Nm)=>([(n_4,some (.cells 3 [(vS p_2.Player),(vI p_2.X),(vI p_2.Y)])),(n_5,some (.cells 2 [(vI wv_3.From),(vI wv_3.To)])),(n_14,some (bV 1 eI s_12))]:Hp)) p.1 p.2) (fun p=>o_17 = .go p.1) ?_ ?_
 ·refine aA (aV (β:=Nat×(List Alert)×((List Int))×Nm) (fun p=>(fun (k_7:Nat) (l_8:List Alert) (s_12:(List Int)) (n_14:Nm)=>([(0,(vL Alert.enc l_1)),(4,(.ref n_4 0 0)),(5,(.ref n_5 0 0)),(7,(vV n_14 1 s_12)),(22,(vL Alert.enc l_1)),(23,(vI (l_1.length:Int))),(24,(vI (k_7:Int)))]:List (Nat×V))) p.1 p.2.1 p.2.2.1 p.2.2.2) (fun p=>(fun (k_7:Nat) (l_8:List Alert) (s_12:(List Int)) (n_14:Nm)=>([(n_4,some (.cells 3 [(vS p_2.Player),(vI p_2.X),(vI p_2.Y)])),(n_5,some (.cells 2 [(vI wv_3.From),(vI wv_3.To)])),(n_14,some (bV 1 eI s_12))]:Hp)) p.1 p.2.1 p.2.2.1 p.2.2.2) (fun p=>forR (fun k x s=>fG wv_3 k x s) p.2.1 p.1 p.2.2.1=some o_17∧(l_1).drop p.1=p.2.1) (fun p=>p.2.1.length) (0,l_1,([wv_3.From,wv_3.To]:List Int),n_6) ⟨hj_18,rfl⟩ rfl (aJ rfl) ?_)
  rintro ⟨k_7,l_8,s_12,n_14⟩ ⟨hL_16,hD_10⟩
  dsimp only at hL_16 hD_10
  cases l_8 with
  | nil =>
   obtain rfl:=ah hL_16
   refine af (aa (ae (vB (decide ((k_7:Int) < (l_1.length:Int)))) wz rfl (ai ?_)))
   refine af (ax rfl (drop_nil hD_10) (aX ?_))
   exact aU (s_12,n_14) rfl rfl (aJ rfl)
  | cons x_9 l_8 =>
   obtain ⟨c_,hc_15,hL_16⟩:=bind_some hL_16
   refine af (aa (ae (vB (decide ((k_7:Int) < (l_1.length:Int)))) wz rfl (ai ?_)))
   refine af (aB rfl (bv hD_10) (av ?_))
   unfold fG at hc_15
   refine af (aA (af (aa (gL jD rfl rfl (bN hD_10) rfl wz (dn bB dS rfl (.d (.agg (Alert.enc x_9))) rfl wz (fH 0 (.inl rfl) sQ rfl wz (fun n_19=>gu 0 il ft 3 bB rfl rfl [(vS x_9.Id),(vS x_9.Sender),(vI x_9.Kind),(vL eS x_9.Refs),(vI x_9.At),(vI x_9.Until),(vI x_9.Weight),(vL Rect.enc x_9.Areas),(vS x_9.Text)] rfl wz (ai (af (aa (aG dZ rfl 4 rfl wz (aF 0 3 il ft sz3 ag3 rfl rfl (vI x_9.At) rfl wz (aG rJ rfl 5 rfl wz (aF 0 3 il ft sz3 ag3 rfl rfl (vI x_9.Until) rfl wz (dY (([x_9.At,x_9.Until]:List Int).map eI) iW si rfl rfl rfl rfl rfl wz (bZ rZ rfl wz (ae (vI 0) wz rfl (ai ?_))))))))))))))))))
   obtain ⟨o_30,hj_31,hc_15⟩:=bind_some hc_15
   obtain ⟨hn_24,hj_31⟩:=aZ hj_31
   refine aC (β:=((List Int))×Nm) (fun p=>(fun (s_25:(List Int)) (n_27:Nm)=>([(0,(vL Alert.enc l_1)),(4,(.ref n_4 0 0)),(5,(.ref n_5 0 0)),(7,(vV n_27 1 s_25)),(22,(vL Alert.enc l_1)),(23,(vI (l_1.length:Int))),(24,(vI (k_7:Int)))]:List (Nat×V))) p.1 p.2) (fun p=>(fun (s_25:(List Int)) (n_27:Nm)=>([(n_4,some (.cells 3 [(vS p_2.Player),(vI p_2.X),(vI p_2.Y)])),(n_5,some (.cells 2 [(vI wv_3.From),(vI wv_3.To)])),(n_27,some (bV 1 eI s_25)),(n_19,some (.cells 9 [(vS x_9.Id),(vS x_9.Sender),(vI x_9.Kind),(vL eS x_9.Refs),(vI x_9.At),(vI x_9.Until),(vI x_9.Weight),(vL Rect.enc x_9.Areas),(vS x_9.Text)]))]:Hp)) p.1 p.2) (fun p=>o_30 = .go p.1) ?_ ?_
   ·refine aA (aV (β:=Nat×(List Int)×((List Int))×Nm) (fun p=>(fun (k_20:Nat) (l_21:List Int) (s_25:(List Int)) (n_27:Nm)=>([(0,(vL Alert.enc l_1)),(4,(.ref n_4 0 0)),(5,(.ref n_5 0 0)),(7,(vV n_27 1 s_25)),(22,(vL Alert.enc l_1)),(23,(vI (l_1.length:Int))),(24,(vI (k_7:Int))),(32,(vL eI ([x_9.At,x_9.Until]:List Int))),(33,(vI (([x_9.At,x_9.Until]:List Int).length:Int))),(34,(vI (k_20:Int)))]:List (Nat×V))) p.1 p.2.1 p.2.2.1 p.2.2.2) (fun p=>(fun (k_20:Nat) (l_21:List Int) (s_25:(List Int)) (n_27:Nm)=>([(n_4,some (.cells 3 [(vS p_2.Player),(vI p_2.X),(vI p_2.Y)])),(n_5,some (.cells 2 [(vI wv_3.From),(vI wv_3.To)])),(n_27,some (bV 1 eI s_25)),(n_19,some (.cells 9 [(vS x_9.Id),(vS x_9.Sender),(vI x_9.Kind),(vL eS x_9.Refs),(vI x_9.At),(vI x_9.Until),(vI x_9.Weight),(vL Rect.enc x_9.Areas),(vS x_9.Text)]))]:Hp)) p.1 p.2.1 p.2.2.1 p.2.2.2) (fun p=>forR (fun k x s=>gU wv_3 k x s) p.2.1 p.1 p.2.2.1=some o_30∧(([x_9.At,x_9.Until]:List Int)).drop p.1=p.2.1) (fun p=>p.2.1.length) (0,([x_9.At,x_9.Until]:List Int),s_12,n_14) ⟨hj_31,rfl⟩ rfl (aJ rfl) ?_)
    rintro ⟨k_20,l_21,s_25,n_27⟩ ⟨hL_29,hD_23⟩
    dsimp only at hL_29 hD_23
    cases l_21 with
    | nil =>
     obtain rfl:=ah hL_29
     refine af (aa (ae (vB (decide ((k_20:Int) < (([x_9.At,x_9.Until]:List Int).length:Int)))) wz rfl (ai ?_)))
     refine af (ax rfl (drop_nil hD_23) (aX ?_))
     exact aU (s_25,n_27) rfl rfl (aJ rfl)
    | cons x_22 l_21 =>
     obtain ⟨c_,hc_28,hL_29⟩:=bind_some hL_29
     refine af (aa (ae (vB (decide ((k_20:Int) < (([x_9.At,x_9.Until]:List Int).length:Int)))) wz rfl (ai ?_)))
     refine af (aB rfl (bv hD_23) (av ?_))
     unfold gU at hc_28
     refine af (aA (af (aa (gL iW rfl rfl (bN hD_23) rfl wz (dn sz3 ag3 rfl (vI x_22) rfl wz (ae (vI x_22) wz rfl (ai (af ?_))))))))
     obtain ⟨v_32,h_33,hc_28⟩:=bind_some hc_28
     refine aC (β:=Unit) (fun _=>([(0,(vL Alert.enc l_1)),(4,(.ref n_4 0 0)),(5,(.ref n_5 0 0)),(7,(vV n_27 1 s_25)),(11,(vI x_22)),(22,(vL Alert.enc l_1)),(23,(vI (l_1.length:Int))),(24,(vI (k_7:Int))),(32,(vL eI ([x_9.At,x_9.Until]:List Int))),(33,(vI (([x_9.At,x_9.Until]:List Int).length:Int))),(34,(vI (k_20:Int))),(47,(vB v_32))]:List (Nat×V))) (fun _=>([(n_4,some (.cells 3 [(vS p_2.Player),(vI p_2.X),(vI p_2.Y)])),(n_5,some (.cells 2 [(vI wv_3.From),(vI wv_3.To)])),(n_27,some (bV 1 eI s_25)),(n_19,some (.cells 9 [(vS x_9.Id),(vS x_9.Sender),(vI x_9.Kind),(vL eS x_9.Refs),(vI x_9.At),(vI x_9.Until),(vI x_9.Weight),(vL Rect.enc x_9.Areas),(vS x_9.Text)]))]:Hp)) (fun _=>True) ?_ ?_
     ·refine aa (aG xn rfl 0 rfl wz (aF 0 1 il ft sz3 ag3 rfl rfl (vI wv_3.From) rfl wz (ae (vI x_22) wz rfl (ae (vB (decide (wv_3.From < x_22))) wz rfl ?_))))
      rcases ak h_33 with⟨hc_34,h_33⟩ | ⟨hc_34,h_33⟩
      ·refine aD rfl hc_34 wz (ae (vI x_22) wa rfl (aG pV rfl 1 rfl wa (aF 0 1 il ft sz3 ag3 rfl rfl (vI wv_3.To) rfl wa (ae (vB (decide (x_22 < wv_3.To))) wa rfl (ae (vB (decide (x_22 < wv_3.To))) wz rfl (ai ?_))))))
       obtain rfl:=ah h_33
       exact cu
      ·refine aD rfl hc_34 wz (aj wa (aj wa (aj wa (aj wa (ae (vB false) wz rfl (ai ?_))))))
       obtain rfl:=ah h_33
       exact cu
     ·rintro ⟨⟩ _ sl_ H_ hp_ hq_
      refine aL _ hp_ hq_ ?_
      obtain ⟨v_35,h_36,hc_28⟩:=bind_some hc_28
      refine aC (β:=Nm) (fun (n_37:Nm)=>([(0,(vL Alert.enc l_1)),(4,(.ref n_4 0 0)),(5,(.ref n_5 0 0)),(7,(vV n_37 1 v_35)),(22,(vL Alert.enc l_1)),(23,(vI (l_1.length:Int))),(24,(vI (k_7:Int))),(32,(vL eI ([x_9.At,x_9.Until]:List Int))),(33,(vI (([x_9.At,x_9.Until]:List Int).length:Int))),(34,(vI (k_20:Int)))]:List (Nat×V))) (fun (n_37:Nm)=>([(n_4,some (.cells 3 [(vS p_2.Player),(vI p_2.X),(vI p_2.Y)])),(n_5,some (.cells 2 [(vI wv_3.From),(vI wv_3.To)])),(n_37,some (bV 1 eI v_35)),(n_19,some (.cells 9 [(vS x_9.Id),(vS x_9.Sender),(vI x_9.Kind),(vL eS x_9.Refs),(vI x_9.At),(vI x_9.Until),(vI x_9.Weight),(vL Rect.enc x_9.Areas),(vS x_9.Text)]))]:Hp)) (fun _=>True) ?_ ?_
      ·rcases ak h_36 with⟨hc_38,h_36⟩ | ⟨hc_38,h_36⟩
       ·refine aB rfl hc_38 (aa (ae (vV n_27 1 s_25) wz rfl (ae (vI x_22) wz rfl (dY (([x_22]:List Int).map eI) iW si rfl rfl rfl rfl rfl wz ?_))))
        obtain ⟨a_39,hz_40,h_36⟩:=bind_some h_36
        refine Jq 0 il ft (i:=2) Gs Gs sz3 z3 rfl (by decide) by3 (by decide) (fun _=>rfl) rfl rfl rfl hz_40 wz (fun n_41=>ae (vV n_41 1 a_39) wz rfl (ai ?_))
        obtain rfl:=ah h_36
        exact aU n_41 trivial rfl (aJ rfl)
       ·refine ax rfl hc_38 (av ?_)
        obtain rfl:=ah h_36
        exact aU n_27 trivial rfl (aJ rfl)
      ·rintro n_37 _ sl_ H_ hp_ hq_
       refine aL _ hp_ hq_ (aa (gQ (bJ hD_23 hn_24) wz rfl (ae (vI ((k_20 + 1:Nat):Int)) wz rfl (ai ?_))))
       obtain rfl:=ah hc_28
       exact aY (k_20 + 1,l_21,v_35,n_37) ⟨hL_29,aR hD_23⟩ (Nat.lt_succ_self _) rfl (aJ rfl)
   ·rintro ⟨s_25,n_27⟩ ho_ sl_ H_ hp_ hq_
    subst ho_
    refine aL _ hp_ hq_ (aa (gQ (bJ hD_10 hn_11) wz rfl (ae (vI ((k_7 + 1:Nat):Int)) wz rfl (ai ?_))))
    obtain rfl:=ah hc_15
    exact aY (k_7 + 1,l_8,s_25,n_27) ⟨hL_16,aR hD_10⟩ (Nat.lt_succ_self _) rfl (aJ rfl)
 ·rintro ⟨s_12,n_14⟩ ho_ sl_ H_ hp_ hq_
  subst ho_
  refine aL _ hp_ hq_ (af (aa (ae (vV n_14 1 s_12) wz rfl ?_)))
  obtain ⟨_,hn_42,hF⟩:=bind_some hF
  replace hn_42:=Gf hn_42
  refine D7 2 rfl (Cu hn_42).symm (bC (v':=(gV n_14 1 s_12)) 54 rfl (Hl hn_42) (bC (v':=(gV n_14 1 s_12)) 7 rfl (Hl hn_42) ?_))
  obtain ⟨r_43,hr_44,hF⟩:=bind_some hF
  obtain ⟨_,hs_45,hF⟩:=bind_some hF
  replace hs_45:=kE hs_45
  refine kX 0 [] 2 0 il ft (ll hr_44) rfl hb90 rfl rfl rfl (by kernel_rfl) rfl (.inl rfl) rfl (by kernel_rfl) (by kernel_rfl) (by kernel_rfl) (by kernel_rfl) rfl (by decide) (by kernel_rfl) kF (tK hs_45) wz ([(n_4,some (.cells 3 [(vS p_2.Player),(vI p_2.X),(vI p_2.Y)])),(n_5,some (.cells 2 [(vI wv_3.From),(vI wv_3.To)])),(n_14,gB 1 eI r_43)]:Hp) (by kernel_rfl) (bC (v':=(gV n_14 1 r_43)) 54 rfl (bI hs_45.symm) (bC (v':=(gV n_14 1 r_43)) 7 rfl (bI hs_45.symm) (ai (af (aa (ae (gV n_14 1 r_43) wz rfl ?_))))))
  obtain ⟨r_46,hr_47,hF⟩:=bind_some hF
  refine kX 0 [] 2 0 il ft (jS hr_47) rfl hb91 rfl rfl rfl (by kernel_rfl) rfl (.inl rfl) rfl (by kernel_rfl) (by kernel_rfl) (by kernel_rfl) (by kernel_rfl) rfl (by decide) (by kernel_rfl) wX (fun _=>rfl) wz ([(n_4,some (.cells 3 [(vS p_2.Player),(vI p_2.X),(vI p_2.Y)])),(n_5,some (.cells 2 [(vI wv_3.From),(vI wv_3.To)])),(n_14,none)]:Hp) (by kernel_rfl) (ae (vL eI r_46) wz rfl (ai (af (aa (ae .nil wz rfl (ai (af (af (aa (ae (vI 1) wz rfl (ai (oG (fun n_54 => ?_)))))))))))))
  obtain ⟨o_59,hj_60,hF⟩:=bind_some hF
  obtain ⟨nq_85,hj_60⟩:=eu hj_60
  refine aC (β:=((List Slot_)×Int)×Nm) (fun p=>(fun (s_53:(List Slot_)×Int) (n_56:Nm)=>([(12,(gV n_56 3 s_53.1))]:List (Nat×V))) p.1 p.2) (fun p=>(fun (s_53:(List Slot_)×Int) (n_56:Nm)=>([(n_4,some (.cells 3 [(vS p_2.Player),(vI p_2.X),(vI p_2.Y)])),(n_5,some (.cells 2 [(vI wv_3.From),(vI wv_3.To)])),(n_14,none),(n_56,gB 3 Slot_.enc s_53.1)]:Hp)) p.1 p.2) (fun p=>o_59 = .go p.1) ?_ ?_
  ·refine aA (aV (β:=Nat×((List Slot_)×Int)×Nm) (fun p=>(fun (k_48:Nat) (s_53:(List Slot_)×Int) (n_56:Nm)=>([(0,(vL Alert.enc l_1)),(4,(.ref n_4 0 0)),(7,(vL eI r_46)),(12,(gV n_56 3 s_53.1)),(13,(vI s_53.2))]:List (Nat×V))) p.1 p.2.1 p.2.2) (fun p=>(fun (k_48:Nat) (s_53:(List Slot_)×Int) (n_56:Nm)=>([(n_4,some (.cells 3 [(vS p_2.Player),(vI p_2.X),(vI p_2.Y)])),(n_5,some (.cells 2 [(vI wv_3.From),(vI wv_3.To)])),(n_14,none),(n_56,gB 3 Slot_.enc s_53.1)]:Hp)) p.1 p.2.1 p.2.2) (fun p=>iterN (fun s=>fD r_46 l_1 p_2 s) p.1 p.2.1=some o_59) (fun p=>p.1) (nq_85,(([]:List Slot_),1),n_54) hj_60 rfl (aJ rfl) ?_)
   rintro ⟨k_48,s_53,n_56⟩ hL_58
   dsimp only at hL_58
   cases k_48 with
   | zero=>cases hL_58
   | succ k_48 =>
    obtain ⟨c_,hc_57,hL_58⟩:=bind_some hL_58
    unfold fD at hc_57
    refine af (af (aa (ae (vI s_53.2) wz rfl (ae (vL eI r_46) wz rfl (bZ rZ rfl wz (ae (vB (decide (s_53.2 < (r_46.length:Int)))) wz rfl (ai ?_)))))))
    rcases ak hc_57 with⟨hc_61,hc_57⟩ | ⟨hc_61,hc_57⟩
    ·refine aB rfl hc_61 (av (af (aA (af (cK (ae (vL Alert.enc l_1) wz rfl (aF 1 0 (.inr (by kernel_rfl)) (fun _ _ ag=>trivial) qP vX rfl rfl (.d (.agg (Post.enc p_2))) rfl wz (ae (vL eI r_46) wz rfl (ae (vI s_53.2) wz rfl (ae (vI (w64 (s_53.2 - 1))) wz rfl ?_))))))))))
     obtain ⟨y_62,hy_63,hc_57⟩:=bind_some hc_57
     refine gL iW rfl rfl hy_63 rfl wz (dn sz3 ag3 rfl (vI y_62) rfl wz ?_)
     obtain ⟨r_64,hr_65,hc_57⟩:=bind_some hc_57
     refine aH (ww hr_65) rfl hb92 rfl rfl rfl rfl wz (ae (.tup [(vS r_64.1),(vB r_64.2)]) wz rfl (ae (vS r_64.1) wz rfl (ae (vB r_64.2) wz rfl (ae (vS r_64.1) wz rfl (ae (vB r_64.2) wz rfl (ai (af (af (aa (ae (gV n_56 3 s_53.1) wz rfl (tH J4 rfl wz (ae (vI (w64 ((s_53.1.length:Int) - 1))) wz rfl (ae (vI (w64 ((s_53.1.length:Int) - 1))) wz rfl (ai (af ?_)))))))))))))))
     obtain ⟨v_66,h_67,hc_57⟩:=bind_some hc_57
     refine aC (β:=Unit) (fun _=>([(0,(vL Alert.enc l_1)),(4,(.ref n_4 0 0)),(7,(vL eI r_46)),(12,(gV n_56 3 s_53.1)),(13,(vI s_53.2)),(14,(vS r_64.1)),(16,(vI (w64 ((s_53.1.length:Int) - 1)))),(88,(vB v_66))]:List (Nat×V))) (fun _=>([(n_4,some (.cells 3 [(vS p_2.Player),(vI p_2.X),(vI p_2.Y)])),(n_5,some (.cells 2 [(vI wv_3.From),(vI wv_3.To)])),(n_14,none),(n_56,gB 3 Slot_.enc s_53.1)]:Hp)) (fun _=>True) ?_ ?_
     ·refine aa (ae (vI (w64 ((s_53.1.length:Int) - 1))) wz rfl (ae (vB (decide ((w64 ((s_53.1.length:Int) - 1))≥0))) wz rfl ?_))
      rcases ak h_67 with⟨hc_68,h_67⟩ | ⟨hc_68,h_67⟩
      ·refine aD rfl hc_68 wz (ae (gV n_56 3 s_53.1) wa rfl (ae (vI (w64 ((s_53.1.length:Int) - 1))) wa rfl ?_))
       obtain ⟨_,hi_69,h_67⟩:=bind_some h_67
       refine tJ D9 rfl rfl (iP hi_69) (fO hi_69) wa (aG Kq rfl 2 rfl wa ?_)
       obtain ⟨e_70,hy_71,h_67⟩:=bind_some h_67
       refine jh 0 3 il ft sz9 ag9 rfl rfl hy_71 (vS e_70.Entry) rfl wa (ae (vS r_64.1) wa rfl (ae (vB (sEq e_70.Entry r_64.1)) wa rfl (ae (vB (sEq e_70.Entry r_64.1)) wz rfl (ai ?_))))
       obtain rfl:=ah h_67
       exact cu
      ·refine aD rfl hc_68 wz (aj wa (aj wa (aj wa (aj wa (aj wa (aj wa (aj wa (ae (vB false) wz rfl (ai ?_)))))))))
       obtain rfl:=ah h_67
       exact cu
     ·rintro ⟨⟩ _ sl_ H_ hp_ hq_
      refine aL _ hp_ hq_ ?_
      rcases ak hc_57 with⟨hc_72,hc_57⟩ | ⟨hc_72,hc_57⟩
      ·refine aB rfl hc_72 (af (aa (ae (gV n_56 3 s_53.1) wz rfl (ae (vI (w64 ((s_53.1.length:Int) - 1))) wz rfl (ae (vL eI r_46) wz rfl (ae (vI s_53.2) wz rfl ?_))))))
       obtain ⟨y_73,hy_74,hc_57⟩:=bind_some hc_57
       refine gL iW rfl rfl hy_74 rfl wz (dn sz3 ag3 rfl (vI y_73) rfl wz ?_)
       obtain ⟨_,hi_75,hc_57⟩:=bind_some hc_57
       refine tJ D9 rfl rfl (iP hi_75) (fO hi_75) wz (aG Jr rfl 0 rfl wz (aG pV rfl 1 rfl wz ?_))
       obtain ⟨e_76,hy_77,hc_57⟩:=bind_some hc_57
       refine jl 0 il ft 3 sz3 rfl rfl hy_77 (⟨(⟨e_76.Time.From,y_73⟩:Window),e_76.Entry⟩:Slot_) rfl wz (bC (v':=(gV n_56 3 (s_53.1.set (0 + ((w64 ((s_53.1.length:Int) - 1))).toNat) (⟨(⟨e_76.Time.From,y_73⟩:Window),e_76.Entry⟩:Slot_)))) 12 rfl (bI (by simp)) (bC (v':=(gV n_56 3 (s_53.1.set (0 + ((w64 ((s_53.1.length:Int) - 1))).toNat) (⟨(⟨e_76.Time.From,y_73⟩:Window),e_76.Entry⟩:Slot_)))) 89 rfl (bI (by simp)) (ai (aX (aa (ae (vI s_53.2) wz rfl (ae (vI (w64 (s_53.2 + 1))) wz rfl (ae (vI (w64 (s_53.2 + 1))) wz rfl (ai ?_)))))))))
       obtain rfl:=ah hc_57
       exact aY (k_48,((s_53.1.set (0 + ((w64 ((s_53.1.length:Int) - 1))).toNat) (⟨(⟨e_76.Time.From,y_73⟩:Window),e_76.Entry⟩:Slot_)),(w64 (s_53.2 + 1))),n_56) hL_58 (Nat.lt_succ_self _) rfl (aJ rfl)
      ·refine ax rfl hc_72 (av (cK (ae (gV n_56 3 s_53.1) wz rfl (ae (vL eI r_46) wz rfl (ae (vI s_53.2) wz rfl (ae (vI (w64 (s_53.2 - 1))) wz rfl ?_))))))
       obtain ⟨y_78,hy_79,hc_57⟩:=bind_some hc_57
       refine gL iW rfl rfl hy_79 rfl wz (dn sz3 ag3 rfl (vI y_78) rfl wz (ae (vL eI r_46) wz rfl (ae (vI s_53.2) wz rfl ?_)))
       obtain ⟨y_80,hy_81,hc_57⟩:=bind_some hc_57
       refine gL iW rfl rfl hy_81 rfl wz (dn sz3 ag3 rfl (vI y_80) rfl wz (ae (.d (.agg (Window.enc (⟨y_78,y_80⟩:Window)))) wz (by kernel_rfl) (ae (vS r_64.1) wz rfl (ae (.d (.agg (Slot_.enc (⟨(⟨y_78,y_80⟩:Window),r_64.1⟩:Slot_)))) wz (by kernel_rfl) (dY (([(⟨(⟨y_78,y_80⟩:Window),r_64.1⟩:Slot_)]:List Slot_).map Slot_.enc) D9 ez67 rfl rfl rfl rfl rfl wz ?_)))))
       obtain ⟨a_82,hz_83,hc_57⟩:=bind_some hc_57
       refine oL 14 (.inr (by kernel_rfl)) (fun _ _ ag=>trivial) (i:=3) el67 el67 sz76 z76 rfl (by decide) by76 (by decide) (fun _=>rfl) rfl rfl rfl hz_83 wz (fun n_84=>ae (gV n_84 3 a_82) wz rfl (ai (aa (ae (vI s_53.2) wz rfl (ae (vI (w64 (s_53.2 + 1))) wz rfl (ae (vI (w64 (s_53.2 + 1))) wz rfl (ai ?_)))))))
       obtain rfl:=ah hc_57
       exact aY (k_48,(a_82,(w64 (s_53.2 + 1))),n_84) hL_58 (Nat.lt_succ_self _) rfl (aJ rfl)
    ·refine ax rfl hc_61 (aX ?_)
     obtain rfl:=ah hc_57
     obtain rfl:=ah hL_58
     exact aU ((s_53.1,s_53.2),n_56) rfl rfl (aJ rfl)
  ·rintro ⟨s_53,n_56⟩ ho_ sl_ H_ hp_ hq_
   subst ho_
   refine aL _ hp_ hq_ (af (aa (ae (gV n_56 3 s_53.1) wz rfl (ae (gV n_56 3 s_53.1) wz rfl (ai (jq 3 rfl (fQ 6 3 rfl rfl (fQ 12 3 rfl rfl (fQ 113 3 rfl rfl ?_)))))))))
   obtain rfl:=ah hF
   exact ay (aO (.inr rfl) [(vL Slot_.enc s_53.1)] ⟨rfl,trivial⟩ rfl rfl rfl)
theorem ma {s1_1:(List Slot_)} {s2_2:(List Slot_)} {r:Bool} (hF:dh s1_1 s2_2=some r) :
  FnM Tryz.prog 29 [(vL Slot_.enc s1_1),(vL Slot_.enc s2_2)] [] (vB r) []:=by
 refine FnM.of_wH ⟨Tryz.prog,26,[],[]⟩ rfl Tryz.func29 rfl rfl (Nat.le_of_ble_eq_true rfl) (by kernel_rfl) ?_
 unfold dh at hF
 refine af (aa (ae (vB false) wz rfl (ai (af (af (aa (ae (vL Slot_.enc s1_1) wz rfl (bZ J4 rfl wz (ae (vL Slot_.enc s2_2) wz rfl (bZ J4 rfl wz (ae (vB ((s1_1.length:Int) != (s2_2.length:Int))) wz rfl (ai ?_))))))))))))
 rcases ak hF with⟨hc_3,hF⟩ | ⟨hc_3,hF⟩
 ·refine aB rfl hc_3 (af (aa (ae (vB false) wz rfl (ai ?_))))
  obtain rfl:=ah hF
  exact ay (aO (.inr rfl) [(vB false)] ⟨rfl,trivial⟩ rfl rfl rfl)
 ·refine ax rfl hc_3 (av (af (af (aa (ae (vL Slot_.enc s1_1) wz rfl (bZ J4 rfl wz (ae (vI 0) wz rfl (ai ?_))))))))
  obtain ⟨o_12,hj_13,hF⟩:=bind_some hF
  obtain ⟨hn_8,hj_13⟩:=aZ hj_13
  refine aC (β:=(Unit)) (fun (s_9:Unit)=>([]:List (Nat×V))) (fun (s_9:Unit)=>([]:Hp)) (fun p=>o_12 = .go p) ?_ ?_
  ·refine aA (aV (β:=Nat×(List Slot_)×(Unit)) (fun p=>(fun (k_4:Nat) (l_5:List Slot_) (s_9:Unit)=>([(0,(vL Slot_.enc s1_1)),(1,(vL Slot_.enc s2_2)),(12,(vI (s1_1.length:Int))),(13,(vI (k_4:Int)))]:List (Nat×V))) p.1 p.2.1 p.2.2) (fun p=>(fun (k_4:Nat) (l_5:List Slot_) (s_9:Unit)=>([]:Hp)) p.1 p.2.1 p.2.2) (fun p=>forR (fun k x s=>bD s2_2 k x s) p.2.1 p.1 p.2.2=some o_12∧(s1_1).drop p.1=p.2.1) (fun p=>p.2.1.length) (0,s1_1,()) ⟨hj_13,rfl⟩ rfl (aJ rfl) ?_)
   rintro ⟨k_4,l_5,s_9⟩ ⟨hL_11,hD_7⟩
   dsimp only at hL_11 hD_7
   cases l_5 with
   | nil =>
    obtain rfl:=ah hL_11
    refine af (aa (ae (vB (decide ((k_4:Int) < (s1_1.length:Int)))) wz rfl (ai ?_)))
    refine af (ax rfl (drop_nil hD_7) (aX ?_))
    exact aU (s_9) rfl rfl (aJ rfl)
   | cons x_6 l_5 =>
    obtain ⟨c_,hc_10,hL_11⟩:=bind_some hL_11
    refine af (aa (ae (vB (decide ((k_4:Int) < (s1_1.length:Int)))) wz rfl (ai ?_)))
    refine af (aB rfl (bv hD_7) (av ?_))
    unfold bD at hc_10
    refine af (aA (af (aa (ae (vI (k_4:Int)) wz rfl (ae (vI (k_4:Int)) wz rfl (ai (af (cK (ae (vL Slot_.enc s1_1) wz rfl (ae (vI (k_4:Int)) wz rfl (gL D9 rfl rfl (bN hD_7) rfl wz (dn sz76 ag76 rfl (.d (.agg (Slot_.enc x_6))) rfl wz (ae (vL Slot_.enc s2_2) wz rfl (ae (vI (k_4:Int)) wz rfl ?_))))))))))))))
    obtain ⟨y_14,hy_15,hc_10⟩:=bind_some hc_10
    refine gL D9 rfl rfl hy_15 rfl wz (dn sz76 ag76 rfl (.d (.agg (Slot_.enc y_14))) rfl wz (ae (vB (!(((x_6.Time.From == y_14.Time.From) && ((x_6.Time.To == y_14.Time.To) && true)) && ((x_6.Entry.toList == y_14.Entry.toList) && true)))) wz (by kernel_rfl) (ai ?_)))
    rcases ak hc_10 with⟨hc_16,hc_10⟩ | ⟨hc_16,hc_10⟩
    ·refine aB rfl hc_16 (af (aa (ae (vB false) wz rfl (ai ?_))))
     obtain rfl:=ah hc_10
     obtain rfl:=ah hL_11
     obtain rfl:=ah hF
     exact ay (aO (.inr rfl) [(vB false)] ⟨rfl,trivial⟩ rfl rfl rfl)
    ·refine ax rfl hc_16 (av (aa (gQ (bJ hD_7 hn_8) wz rfl (ae (vI ((k_4 + 1:Nat):Int)) wz rfl (ai ?_)))))
     obtain rfl:=ah hc_10
     exact aY (k_4 + 1,l_5,()) ⟨hL_11,aR hD_7⟩ (Nat.lt_succ_self _) rfl (aJ rfl)
  ·rintro s_9 ho_ sl_ H_ hp_ hq_
   subst ho_
   refine aL _ hp_ hq_ (af (aa (ae (vB true) wz rfl (ai ?_))))
   obtain rfl:=ah hF
   exact ay (aO (.inr rfl) [(vB true)] ⟨rfl,trivial⟩ rfl rfl rfl)
theorem xq {a_1:Alert} {p_2:Post} {r:Bool×Int} (hF:lF a_1 p_2=some r) :
  FnM Tryz.prog 45 [(.d (.agg (Alert.enc a_1))),(.d (.agg (Post.enc p_2)))] [] (.tup [(vB r.1),(vI r.2)]) []:=by
 refine FnM.of_wH ⟨Tryz.prog,18,[],[]⟩ rfl Tryz.func45 rfl rfl (Nat.le_of_ble_eq_true rfl) (by kernel_rfl) ?_
 unfold lF at hF
 refine af (aa (eD 0 (.inl rfl) [(vS a_1.Id),(vS a_1.Sender),(vI a_1.Kind),(vL eS a_1.Refs),(vI a_1.At),(vI a_1.Until),(vI a_1.Weight),(vL Rect.enc a_1.Areas),(vS a_1.Text)] rfl rfl wz (fun n_3=>eD 0 (.inl rfl) [(vS p_2.Player),(vI p_2.X),(vI p_2.Y)] rfl rfl wz (fun n_4=>ae (vB false) wz rfl (ae (vI 0) wz rfl (ai (af (af (aa (aF 0 0 il ft bB dS rfl rfl (.d (.agg (Alert.enc a_1))) rfl wz (dY (([a_1]:List Alert).map Alert.enc) jD ez56 rfl rfl rfl rfl rfl wz (aF 0 1 il ft qP vX rfl rfl (.d (.agg (Post.enc p_2))) rfl wz (dY (([p_2]:List Post).map Post.enc) CF ez63 rfl rfl rfl rfl rfl wz ?_)))))))))))))
 obtain ⟨r_5,hr_6,hF⟩:=bind_some hF
 refine aH (pq hr_6) rfl hb83 rfl rfl rfl rfl wz (ae (vI r_5) wz rfl (ai (af (aa (ae (vI r_5) wz rfl (ae (vB (r_5 != 0)) wz rfl (ai ?_)))))))
 rcases ak hF with⟨hc_7,hF⟩ | ⟨hc_7,hF⟩
 ·refine aB rfl hc_7 (af (aa (ae (vI r_5) wz rfl (ae (vB false) wz rfl (ae (vI r_5) wz rfl (ai ?_))))))
  obtain rfl:=ah hF
  exact ay (aO (.inr rfl) [(vB false),(vI r_5)] ⟨rfl,⟨rfl,trivial⟩⟩ rfl rfl rfl)
 ·refine ax rfl hc_7 (av (af (aa (aF 0 0 il ft bB dS rfl rfl (.d (.agg (Alert.enc a_1))) rfl wz (aF 0 1 il ft qP vX rfl rfl (.d (.agg (Post.enc p_2))) rfl wz ?_)))))
  obtain ⟨r_8,hr_9,hF⟩:=bind_some hF
  refine aH (qC hr_9) rfl hb109 rfl rfl rfl rfl wz (ae (vB r_8) wz rfl (ae (vI 0) wz rfl (ai ?_)))
  obtain rfl:=ah hF
  exact ay (aO (.inr rfl) [(vB r_8),(vI 0)] ⟨rfl,⟨rfl,trivial⟩⟩ rfl rfl rfl)
theorem Bc {r:Bool} (hF:lV  = some r) :
  FnM Tryz.prog 30 [] [] (vB r) []:=by
 refine FnM.of_wH ⟨Tryz.prog,18,[],[]⟩ rfl Tryz.func30 rfl rfl (Nat.le_of_ble_eq_true rfl) (by kernel_rfl) ?_
 unfold lV at hF
 refine af (aa (ae (vB false) wz rfl (ai (af (aa (ae (.d (.agg (Rect.enc (⟨0,0,2,2⟩:Rect)))) wz (by kernel_rfl) (dY (([(⟨0,0,2,2⟩:Rect)]:List Rect).map Rect.enc) Jd ez98 rfl rfl rfl rfl rfl wz (ae (.agg [(vS (⟨#[97]⟩:ByteArray)),(vS (⟨#[115]⟩:ByteArray)),(vI 1),.nil,(vI 0),(vI 5),(vI 1),(vL Rect.enc ([(⟨0,0,2,2⟩:Rect)]:List Rect)),(vS (⟨#[120]⟩:ByteArray))]) wz (by kernel_rfl) (fH 0 (.inl rfl) sQ rfl wz (fun n_1=>gu 0 il ft 0 bB rfl rfl [(vS (⟨#[97]⟩:ByteArray)),(vS (⟨#[115]⟩:ByteArray)),(vI 1),.nil,(vI 0),(vI 5),(vI 1),(vL Rect.enc ([(⟨0,0,2,2⟩:Rect)]:List Rect)),(vS (⟨#[120]⟩:ByteArray))] rfl wz (ai (af (aa (aF 0 0 il ft bB dS rfl rfl (.agg [(vS (⟨#[97]⟩:ByteArray)),(vS (⟨#[115]⟩:ByteArray)),(vI 1),.nil,(vI 0),(vI 5),(vI 1),(vL Rect.enc ([(⟨0,0,2,2⟩:Rect)]:List Rect)),(vS (⟨#[120]⟩:ByteArray))]) rfl wz (ae (.d (.agg (Post.enc (⟨(⟨#[112]⟩:ByteArray),1,1⟩:Post)))) wz (by kernel_rfl) ?_)))))))))))))))
 obtain ⟨r_2,hr_3,hF⟩:=bind_some hF
 refine aH (xq hr_3) rfl hb45 rfl rfl rfl rfl wz (ae (.tup [(vB r_2.1),(vI r_2.2)]) wz rfl (ae (vB r_2.1) wz rfl (ae (vI r_2.2) wz rfl (ae (vB r_2.1) wz rfl (ae (vI r_2.2) wz rfl (ai (af ?_)))))))
 obtain ⟨v_4,h_5,hF⟩:=bind_some hF
 refine aC (β:=Unit) (fun _=>([(0,(vB v_4))]:List (Nat×V))) (fun _=>([(n_1,some (.cells 9 [(vS (⟨#[97]⟩:ByteArray)),(vS (⟨#[115]⟩:ByteArray)),(vI 1),.nil,(vI 0),(vI 5),(vI 1),(vL Rect.enc ([(⟨0,0,2,2⟩:Rect)]:List Rect)),(vS (⟨#[120]⟩:ByteArray))]))]:Hp)) (fun _=>True) ?_ ?_
 ·refine aa (ae (vI r_2.2) wz rfl (ae (vB (r_2.2 == 0)) wz rfl ?_))
  rcases ak h_5 with⟨hc_6,h_5⟩ | ⟨hc_6,h_5⟩
  ·refine aD rfl hc_6 wz (ae (vB r_2.1) wa rfl (ae (vB r_2.1) wz rfl (ae (vB r_2.1) wz rfl (ai ?_))))
   obtain rfl:=ah h_5
   exact cu
  ·refine aD rfl hc_6 wz (aj wa (ae (vB false) wz rfl (ae (vB false) wz rfl (ai ?_))))
   obtain rfl:=ah h_5
   exact cu
 ·rintro ⟨⟩ _ sl_ H_ hp_ hq_
  refine aL _ hp_ hq_ ?_
  obtain rfl:=ah hF
  exact ay (aO (.inr rfl) [(vB v_4)] ⟨rfl,trivial⟩ rfl rfl rfl)
theorem sK {l_1:(List Int)} {r:Bool} (hF:kr l_1=some r) :
  FnM Tryz.prog 4 [(vL eI l_1)] [] (vB r) []:=by
 refine FnM.of_wH ⟨Tryz.prog,71,[],[]⟩ rfl Tryz.func4 rfl rfl (Nat.le_of_ble_eq_true rfl) (by kernel_rfl) ?_
 unfold kr at hF
 refine af (aa (ae (vB false) wz rfl (ai (af (aa (ae (vL eI l_1) wz rfl (ae (.d (.agg (Stream.enc (⟨l_1,0⟩:Stream)))) wz (by kernel_rfl) (eD 0 (.inl rfl) [(vL eI l_1),(vI 0)] rfl rfl wz (fun n_2=>ae (.ref n_2 0 0) wz rfl (ai (af (aa (ae (.ref n_2 0 0) wz rfl ?_)))))))))))))
 obtain ⟨r_3,hr_4,hF⟩:=bind_some hF
 refine aM 0 [0] il ft (uH hr_4) rfl hb18 rfl (by kernel_rfl) (by kernel_rfl) (by kernel_rfl) (by kernel_rfl) (by kernel_rfl) (by kernel_rfl) (by kernel_rfl) (by decide) (by kernel_rfl) wz (vL Alert.enc r_3.1) (by kernel_rfl) ([(n_2,some (.cells 2 [(vL eI r_3.2.L),(vI r_3.2.f_at)]))]:Hp) (by kernel_rfl) (ae (.ref n_2 0 0) wz rfl (dY (([0,3,10,20]:List Int).map eI) iW si rfl rfl rfl rfl rfl wz ?_))
 obtain ⟨r_6,hr_7,hF⟩:=bind_some hF
 refine aM 0 [0] il ft (eX hr_7) rfl DI rfl (by kernel_rfl) (by kernel_rfl) (by kernel_rfl) (by kernel_rfl) (by kernel_rfl) (by kernel_rfl) (by kernel_rfl) (by decide) (by kernel_rfl) wz (vI r_6.1) (by kernel_rfl) ([(n_2,some (.cells 2 [(vL eI r_6.2.L),(vI r_6.2.f_at)]))]:Hp) (by kernel_rfl) (ae (.ref n_2 0 0) wz rfl (dY (([10,30,100]:List Int).map eI) iW si rfl rfl rfl rfl rfl wz ?_))
 obtain ⟨r_9,hr_10,hF⟩:=bind_some hF
 refine aM 0 [0] il ft (eX hr_10) rfl DI rfl (by kernel_rfl) (by kernel_rfl) (by kernel_rfl) (by kernel_rfl) (by kernel_rfl) (by kernel_rfl) (by kernel_rfl) (by decide) (by kernel_rfl) wz (vI r_9.1) (by kernel_rfl) ([(n_2,some (.cells 2 [(vL eI r_9.2.L),(vI r_9.2.f_at)]))]:Hp) (by kernel_rfl) (ae (.d (.agg (Window.enc (⟨r_6.1,r_9.1⟩:Window)))) wz (by kernel_rfl) (fH 0 (.inl rfl) z60 rfl wz (fun n_12=>ae (vL Alert.enc r_3.1) wz rfl (gu 0 il ft 1 Jh rfl rfl [(vI r_6.1),(vI r_9.1)] rfl wz (ai (af (af (aa (ae (.ref n_2 0 0) wz rfl ?_)))))))))
 obtain ⟨r_13,hr_14,hF⟩:=bind_some hF
 refine aM 0 [0] il ft (eY hr_14) rfl ES rfl (by kernel_rfl) (by kernel_rfl) (by kernel_rfl) (by kernel_rfl) (by kernel_rfl) (by kernel_rfl) (by kernel_rfl) (by decide) (by kernel_rfl) wz (vB r_13.1) (by kernel_rfl) ([(n_2,some (.cells 2 [(vL eI r_13.2.L),(vI r_13.2.f_at)])),(n_12,some (.cells 2 [(vI r_6.1),(vI r_9.1)]))]:Hp) (by kernel_rfl) (ai ?_)
 obtain ⟨v_16,h_17,hF⟩:=bind_some hF
 refine aC (β:=Unit) (fun _=>([(3,(.ref n_2 0 0)),(4,(vL Alert.enc r_3.1)),(5,(.ref n_12 0 0))]:List (Nat×V))) (fun _=>([(n_2,some (.cells 2 [(vL eI v_16.1),(vI v_16.2.1)])),(n_12,some (.cells 2 [(vI v_16.2.2.1),(vI v_16.2.2.2)]))]:Hp)) (fun _=>True) ?_ ?_
 ·rcases ak h_17 with⟨hc_18,h_17⟩ | ⟨hc_18,h_17⟩
  ·refine aB rfl hc_18 (aa (ae (.ref n_2 0 0) wz rfl ?_))
   obtain ⟨r_19,hr_20,h_17⟩:=bind_some h_17
   refine aM 0 [0] il ft (dL hr_20) rfl Bd rfl (by kernel_rfl) (by kernel_rfl) (by kernel_rfl) (by kernel_rfl) (by kernel_rfl) (by kernel_rfl) (by kernel_rfl) (by decide) (by kernel_rfl) wz (vI r_19.1) (by kernel_rfl) ([(n_2,some (.cells 2 [(vL eI r_19.2.L),(vI r_19.2.f_at)])),(n_12,some (.cells 2 [(vI r_6.1),(vI r_9.1)]))]:Hp) (by kernel_rfl) (ae (.ref n_2 0 0) wz rfl ?_)
   obtain ⟨r_22,hr_23,h_17⟩:=bind_some h_17
   refine aM 0 [0] il ft (dL hr_23) rfl Bd rfl (by kernel_rfl) (by kernel_rfl) (by kernel_rfl) (by kernel_rfl) (by kernel_rfl) (by kernel_rfl) (by kernel_rfl) (by decide) (by kernel_rfl) wz (vI r_22.1) (by kernel_rfl) ([(n_2,some (.cells 2 [(vL eI r_22.2.L),(vI r_22.2.f_at)])),(n_12,some (.cells 2 [(vI r_6.1),(vI r_9.1)]))]:Hp) (by kernel_rfl) (ae (.d (.agg (Window.enc (⟨r_19.1,r_22.1⟩:Window)))) wz (by kernel_rfl) (gu 0 il ft 1 Jh rfl rfl [(vI r_19.1),(vI r_22.1)] rfl wz (ai ?_)))
   obtain rfl:=ah h_17
   exact cu
  ·refine ax rfl hc_18 (av ?_)
   obtain rfl:=ah h_17
   exact cu
 ·rintro ⟨⟩ _ sl_ H_ hp_ hq_
  refine aL _ hp_ hq_ (af (af (aa (ae (.ref n_2 0 0) wz rfl ?_))))
  obtain ⟨r_25,hr_26,hF⟩:=bind_some hF
  refine aM 0 [0] il ft (vU hr_26) rfl hb22 rfl (by kernel_rfl) (by kernel_rfl) (by kernel_rfl) (by kernel_rfl) (by kernel_rfl) (by kernel_rfl) (by kernel_rfl) (by decide) (by kernel_rfl) wz (vL Post.enc r_25.1) (by kernel_rfl) ([(n_2,some (.cells 2 [(vL eI r_25.2.L),(vI r_25.2.f_at)])),(n_12,some (.cells 2 [(vI v_16.2.2.1),(vI v_16.2.2.2)]))]:Hp) (by kernel_rfl) (bZ FJ rfl wz (ae (vI 0) wz rfl (ai ?_)))
  obtain ⟨o_36,hj_37,hF⟩:=bind_some hF
  obtain ⟨hn_32,hj_37⟩:=aZ hj_37
  refine aC (β:=(Unit)) (fun (s_33:Unit)=>([]:List (Nat×V))) (fun (s_33:Unit)=>([(n_2,some (.cells 2 [(vL eI r_25.2.L),(vI r_25.2.f_at)])),(n_12,some (.cells 2 [(vI v_16.2.2.1),(vI v_16.2.2.2)]))]:Hp)) (fun p=>o_36 = .go p) ?_ ?_
  ·refine aA (aV (β:=Nat×(List Post)×(Unit)) (fun p=>(fun (k_28:Nat) (l_29:List Post) (s_33:Unit)=>([(4,(vL Alert.enc r_3.1)),(5,(.ref n_12 0 0)),(32,(vL Post.enc r_25.1)),(33,(vI (r_25.1.length:Int))),(34,(vI (k_28:Int)))]:List (Nat×V))) p.1 p.2.1 p.2.2) (fun p=>(fun (k_28:Nat) (l_29:List Post) (s_33:Unit)=>([(n_2,some (.cells 2 [(vL eI r_25.2.L),(vI r_25.2.f_at)])),(n_12,some (.cells 2 [(vI v_16.2.2.1),(vI v_16.2.2.2)]))]:Hp)) p.1 p.2.1 p.2.2) (fun p=>forR (fun k x s=>d9 r_3 v_16 k x s) p.2.1 p.1 p.2.2=some o_36∧(r_25.1).drop p.1=p.2.1) (fun p=>p.2.1.length) (0,r_25.1,()) ⟨hj_37,rfl⟩ rfl (aJ rfl) ?_)
   rintro ⟨k_28,l_29,s_33⟩ ⟨hL_35,hD_31⟩
   dsimp only at hL_35 hD_31
   cases l_29 with
   | nil =>
    obtain rfl:=ah hL_35
    refine af (aa (ae (vB (decide ((k_28:Int) < (r_25.1.length:Int)))) wz rfl (ai ?_)))
    refine af (ax rfl (drop_nil hD_31) (aX ?_))
    exact aU (s_33) rfl rfl (aJ rfl)
   | cons x_30 l_29 =>
    obtain ⟨c_,hc_34,hL_35⟩:=bind_some hL_35
    refine af (aa (ae (vB (decide ((k_28:Int) < (r_25.1.length:Int)))) wz rfl (ai ?_)))
    refine af (aB rfl (bv hD_31) (av ?_))
    unfold d9 at hc_34
    refine af (aA (af (aa (gL CF rfl rfl (bN hD_31) rfl wz (dn qP vX rfl (.d (.agg (Post.enc x_30))) rfl wz (fH 0 (.inl rfl) z66 rfl wz (fun n_38=>gu 0 il ft 2 qP rfl rfl [(vS x_30.Player),(vI x_30.X),(vI x_30.Y)] rfl wz (ai (af (aa (ae (vL Alert.enc r_3.1) wz rfl (aF 0 2 il ft qP vX rfl rfl (.d (.agg (Post.enc x_30))) rfl wz (aF 0 1 il ft Jh ag60 rfl rfl (.d (.agg (Window.enc (⟨v_16.2.2.1,v_16.2.2.2⟩:Window)))) rfl wz ?_)))))))))))))
    obtain ⟨r_39,hr_40,hc_34⟩:=bind_some hc_34
    refine aH (xY hr_40) rfl hb23 rfl rfl rfl rfl wz (ae (.tup [(vL Slot_.enc r_39.1),(vI r_39.2)]) wz rfl (ae (vL Slot_.enc r_39.1) wz rfl (ae (vI r_39.2) wz rfl (ae (vL Slot_.enc r_39.1) wz rfl (ae (vI r_39.2) wz rfl (ai (af (cK (ae (vL Alert.enc r_3.1) wz rfl ?_)))))))))
    obtain ⟨r_41,hr_42,hc_34⟩:=bind_some hc_34
    refine aH (uV hr_42) rfl hb25 rfl rfl rfl rfl wz (aF 2 2 (.inr (by kernel_rfl)) (fun _ _ ag=>trivial) qP vX rfl rfl (.d (.agg (Post.enc x_30))) rfl wz (dY (([x_30]:List Post).map Post.enc) CF ez63 rfl rfl rfl rfl rfl wz ?_))
    obtain ⟨r_43,hr_44,hc_34⟩:=bind_some hc_34
    refine aH (wF hr_44) rfl hb26 rfl rfl rfl rfl wz (aF 5 1 (.inr (by kernel_rfl)) (fun _ _ ag=>⟨.inl ⟨rfl,rfl⟩,trivial⟩) Jh ag60 rfl rfl (.d (.agg (Window.enc (⟨v_16.2.2.1,v_16.2.2.2⟩:Window)))) rfl wz ?_)
    obtain ⟨r_45,hr_46,hc_34⟩:=bind_some hc_34
    refine aH (vg hr_46) rfl hb27 rfl rfl rfl rfl wz (dY (([r_41,r_43,r_45]:List Int).map eI) es140 ez140 rfl rfl rfl rfl rfl wz ?_)
    obtain ⟨r_47,hr_48,hc_34⟩:=bind_some hc_34
    refine aH (Eu hr_48) rfl hb24 rfl rfl rfl rfl wz (ae (vI r_47) wz rfl (ai (af (aa (ae .nil wz rfl (ai (af (af (aa (ae (vI r_47) wz rfl (ae (vB (r_47 == 0)) wz rfl (ai (wH_nilL Slot_.enc 11 rfl ?_)))))))))))))
    obtain ⟨v_51,h_52,hc_34⟩:=bind_some hc_34
    refine aC (β:=Unit) (fun _=>([(4,(vL Alert.enc r_3.1)),(5,(.ref n_12 0 0)),(8,(vL Slot_.enc r_39.1)),(9,(vI r_39.2)),(10,(vI r_47)),(11,(vL Slot_.enc v_51)),(32,(vL Post.enc r_25.1)),(33,(vI (r_25.1.length:Int))),(34,(vI (k_28:Int)))]:List (Nat×V))) (fun _=>([(n_2,some (.cells 2 [(vL eI r_25.2.L),(vI r_25.2.f_at)])),(n_12,some (.cells 2 [(vI v_16.2.2.1),(vI v_16.2.2.2)])),(n_38,some (.cells 3 [(vS x_30.Player),(vI x_30.X),(vI x_30.Y)]))]:Hp)) (fun _=>True) ?_ ?_
    ·rcases ak h_52 with⟨hc_53,h_52⟩ | ⟨hc_53,h_52⟩
     ·refine aB rfl hc_53 (aa (ae (vL Alert.enc r_3.1) wz rfl (aF 0 2 il ft qP vX rfl rfl (.d (.agg (Post.enc x_30))) rfl wz (aF 0 1 il ft Jh ag60 rfl rfl (.d (.agg (Window.enc (⟨v_16.2.2.1,v_16.2.2.2⟩:Window)))) rfl wz ?_))))
      obtain ⟨r_54,hr_55,h_52⟩:=bind_some h_52
      refine aH (tq hr_55) rfl hb28 rfl rfl rfl rfl wz (ae (vL Slot_.enc r_54) wz rfl (ai ?_))
      obtain rfl:=ah h_52
      exact cu
     ·refine ax rfl hc_53 (av ?_)
      obtain rfl:=ah h_52
      exact cu
    ·rintro ⟨⟩ _ sl_ H_ hp_ hq_
     refine aL _ hp_ hq_ (af ?_)
     obtain ⟨v_56,h_57,hc_34⟩:=bind_some hc_34
     refine aC (β:=Unit) (fun _=>([(4,(vL Alert.enc r_3.1)),(5,(.ref n_12 0 0)),(32,(vL Post.enc r_25.1)),(33,(vI (r_25.1.length:Int))),(34,(vI (k_28:Int))),(68,(vB v_56))]:List (Nat×V))) (fun _=>([(n_2,some (.cells 2 [(vL eI r_25.2.L),(vI r_25.2.f_at)])),(n_12,some (.cells 2 [(vI v_16.2.2.1),(vI v_16.2.2.2)])),(n_38,some (.cells 3 [(vS x_30.Player),(vI x_30.X),(vI x_30.Y)]))]:Hp)) (fun _=>True) ?_ ?_
     ·refine aa (ae (vI r_39.2) wz rfl (ae (vI r_47) wz rfl (ae (vB (r_39.2 != r_47)) wz rfl ?_)))
      rcases ak h_57 with⟨hc_58,h_57⟩ | ⟨hc_58,h_57⟩
      ·refine aD rfl hc_58 wz (aj wa (aj wa (aj wa (aj wa (ae (vB true) wz rfl (ai ?_))))))
       obtain rfl:=ah h_57
       exact cu
      ·refine aD rfl hc_58 wz (ae (vL Slot_.enc r_39.1) wa rfl (ae (vL Slot_.enc v_51) wa rfl ?_))
       obtain ⟨r_59,hr_60,h_57⟩:=bind_some h_57
       refine aH (ma hr_60) rfl hb29 rfl rfl rfl rfl wa (ae (vB (!r_59)) wa rfl (ae (vB (!r_59)) wz rfl (ai ?_)))
       obtain rfl:=ah h_57
       exact cu
     ·rintro ⟨⟩ _ sl_ H_ hp_ hq_
      refine aL _ hp_ hq_ ?_
      rcases ak hc_34 with⟨hc_61,hc_34⟩ | ⟨hc_61,hc_34⟩
      ·refine aB rfl hc_61 (af (aa (ae (vB false) wz rfl (ai ?_))))
       obtain rfl:=ah hc_34
       obtain rfl:=ah hL_35
       obtain rfl:=ah hF
       exact ay (aO (.inr rfl) [(vB false)] ⟨rfl,trivial⟩ rfl rfl rfl)
      ·refine ax rfl hc_61 (av (aa (gQ (bJ hD_31 hn_32) wz rfl (ae (vI ((k_28 + 1:Nat):Int)) wz rfl (ai ?_)))))
       obtain rfl:=ah hc_34
       exact aY (k_28 + 1,l_29,()) ⟨hL_35,aR hD_31⟩ (Nat.lt_succ_self _) rfl (aJ rfl)
  ·rintro s_33 ho_ sl_ H_ hp_ hq_
   subst ho_
   refine aL _ hp_ hq_ (af (aa ?_))
   obtain ⟨r_62,hr_63,hF⟩:=bind_some hF
   refine aH (Bc hr_63) rfl hb30 rfl rfl rfl rfl wz (ae (vB r_62) wz rfl (ai ?_))
   obtain rfl:=ah hF
   exact ay (aO (.inr rfl) [(vB r_62)] ⟨rfl,trivial⟩ rfl rfl rfl)
end Go.Proofs.YtjhcehhmdmbleaaGreatDoor.Law

