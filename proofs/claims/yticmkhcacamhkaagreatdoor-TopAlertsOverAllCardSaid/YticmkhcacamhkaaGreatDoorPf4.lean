/-
 The machine computes these plain functions (written by a program of ours).
-/
import Derived.Test.YticmkhcacamhkaaGreatDoorFacts
import Derived.Test.YticmkhcacamhkaaGreatDoorDefs
import Derived.Test.YticmkhcacamhkaaGreatDoorPf3
open Go Go.Eng Go.Proofs
namespace Go.Proofs.YticmkhcacamhkaaGreatDoor.Law
set_option maxRecDepth 100000
set_option linter.unusedVariables false
set_option maxHeartbeats 1000000
theorem Cj {l_1:(List Alert)} {p_2:Post} {wv_3:Window} {r:(List Slot_)} (hF:ol l_1 p_2 wv_3=some r) :
  FnM Tryz.prog 20 [(vL Alert.enc l_1),(.d (.agg (Post.enc p_2))),(.d (.agg (Window.enc wv_3)))] [] (vL Slot_.enc r) []:=by
 refine FnM.of_wH ⟨Tryz.prog,124,[24],[]⟩ rfl Tryz.func20 rfl rfl (lb_ rfl) (by kernel_rfl) ?_
 unfold ol at hF
 refine af (aa (dL 0 (.inl rfl) [(vS p_2.Player),(vI p_2.X),(vI p_2.Y)] rfl rfl wz (λn_4=>dL 0 (.inl rfl) [(vI wv_3.From),(vI wv_3.To)] rfl rfl wz (λn_5=>ae .nil wz rfl (aj (af (aa (ae (vL Alert.enc l_1) wz rfl ?_))))))))
 obtain ⟨r_6,hr_7,hF⟩:=bind_some hF
 refine aI (FY hr_7) rfl hb32 rfl rfl rfl rfl wz (ae (vL eI r_6) wz rfl (aj (af (aa (aH ib rfl 0 rfl wz (aA 0 1 il ft sz3 ag3 rfl rfl (vI wv_3.From) rfl wz (aH iq rfl 1 rfl wz (aA 0 1 il ft sz3 ag3 rfl rfl (vI wv_3.To) rfl wz (Px 0 (.inl rfl) (([wv_3.From,wv_3.To]:List Int).map eI) jf uh rfl rfl rfl rfl rfl wz (λn_8=>ae (vV n_8 1 ([wv_3.From,wv_3.To]:List Int)) wz rfl (aj (af (af (aa (ae (vL Alert.enc l_1) wz rfl (bW FP rfl wz (ae (vI 0) wz rfl (aj ?_))))))))))))))))))
 obtain ⟨o_19,hj_20,hF⟩:=bind_some hF
 obtain ⟨hn_13,hj_20⟩:=aV hj_20
 refine aD (β:=((List Int))×Nm) (λp=>(λ(s_14:List Int) (n_16:Nm)=>([(0,(vL Alert.enc l_1)),(4,(.ref n_4 0 0)),(7,(vL eI r_6)),(8,(vV n_16 1 s_14))]:SL_)) p.1 p.2) (λp=>(λ(s_14:List Int) (n_16:Nm)=>([(n_4,some (.cells 3 [(vS p_2.Player),(vI p_2.X),(vI p_2.Y)])),(n_5,some (.cells 2 [(vI wv_3.From),(vI wv_3.To)])),(n_16,some (bV 1 eI s_14))]:Hp)) p.1 p.2) (λp=>o_19 = .go p.1) ?_ ?_
 ·refine ay (aS (β:=Nat×(List Alert)×((List Int))×Nm) (λp=>(λ(k_9:Nat) (l_10:List Alert) (s_14:List Int) (n_16:Nm)=>([(0,(vL Alert.enc l_1)),(4,(.ref n_4 0 0)),(5,(.ref n_5 0 0)),(7,(vL eI r_6)),(8,(vV n_16 1 s_14)),(25,(vL Alert.enc l_1)),(26,(vI (l_1.length:Int))),(27,(vI (k_9:Int)))]:SL_)) p.1 p.2.1 p.2.2.1 p.2.2.2) (λp=>(λ(k_9:Nat) (l_10:List Alert) (s_14:List Int) (n_16:Nm)=>([(n_4,some (.cells 3 [(vS p_2.Player),(vI p_2.X),(vI p_2.Y)])),(n_5,some (.cells 2 [(vI wv_3.From),(vI wv_3.To)])),(n_16,some (bV 1 eI s_14))]:Hp)) p.1 p.2.1 p.2.2.1 p.2.2.2) (λp=>forR (λk x s=>jJ r_6 wv_3 k x s) p.2.1 p.1 p.2.2.1=some o_19/\(l_1).drop p.1=p.2.1) (λp=>p.2.1.length) (0,l_1,([wv_3.From,wv_3.To]:List Int),n_8) ⟨hj_20,rfl⟩ rfl (aJ rfl) ?_)
  rintro ⟨k_9,l_10,s_14,n_16⟩ ⟨hL_18,hD_12⟩
  dsimp only at hL_18 hD_12
  cases l_10 with
  | nil =>
   obtain rfl:=ah hL_18
   refine af (aa (ae (vB (decide ((k_9:Int)<(l_1.length:Int)))) wz rfl (aj ?_)))
   refine af (aB rfl (drop_nil hD_12) (aP ?_))
   exact aN (s_14,n_16) rfl rfl (aJ rfl)
  | cons x_11 l_10 =>
   obtain ⟨c_,hc_17,hL_18⟩:=bind_some hL_18
   refine af (aa (ae (vB (decide ((k_9:Int)<(l_1.length:Int)))) wz rfl (aj ?_)))
   refine af (aC rfl (bf hD_12) (ax ?_))
   unfold jJ at hc_17
   refine af (ay (af (aa (ae (vI (k_9:Int)) wz rfl (dK uo rfl rfl (bG hD_12) rfl wz (bB lL qZ rfl (.d (.agg (Alert.enc x_11))) rfl wz (cK 0 (.inl rfl) z52 rfl wz (λn_21=>ae (vI (k_9:Int)) wz rfl (eD 0 il ft 3 lL rfl rfl [(vS x_11.Id),(vS x_11.Sender),(vI x_11.Kind),(vL eS x_11.Refs),(vI x_11.At),(vI x_11.Until),(vI x_11.Weight),(vL Rect.enc x_11.Areas),(vS x_11.Text)] rfl wz (aj (af (aW (aH oL rfl 4 rfl wz (aA 1 3 (.inr (by kernel_rfl)) (λ_ _ ag=>trivial) sz3 ag3 rfl rfl (vI x_11.At) rfl wz (ae (vL eI r_6) wz rfl (ae (vI (k_9:Int)) wz rfl ?_))))))))))))))))
   obtain ⟨y_22,hy_23,hc_17⟩:=bind_some hc_17
   refine dK jf rfl rfl hy_23 rfl wz (bB sz3 ag3 rfl (vI y_22) rfl wz (ae (.d (.agg [.int .i64 x_11.At,.int .i64 y_22])) wz (by kernel_rfl) (ae (vI 0) wz rfl (aj ?_))))
   obtain ⟨o_34,hj_35,hc_17⟩:=bind_some hc_17
   obtain ⟨hn_28,hj_35⟩:=aV hj_35
   refine aD (β:=((List Int))×Nm) (λp=>(λ(s_29:List Int) (n_31:Nm)=>([(0,(vL Alert.enc l_1)),(4,(.ref n_4 0 0)),(5,(.ref n_5 0 0)),(7,(vL eI r_6)),(8,(vV n_31 1 s_29)),(25,(vL Alert.enc l_1)),(26,(vI (l_1.length:Int))),(27,(vI (k_9:Int)))]:SL_)) p.1 p.2) (λp=>(λ(s_29:List Int) (n_31:Nm)=>([(n_4,some (.cells 3 [(vS p_2.Player),(vI p_2.X),(vI p_2.Y)])),(n_5,some (.cells 2 [(vI wv_3.From),(vI wv_3.To)])),(n_31,some (bV 1 eI s_29)),(n_21,some (.cells 9 [(vS x_11.Id),(vS x_11.Sender),(vI x_11.Kind),(vL eS x_11.Refs),(vI x_11.At),(vI x_11.Until),(vI x_11.Weight),(vL Rect.enc x_11.Areas),(vS x_11.Text)]))]:Hp)) p.1 p.2) (λp=>o_34 = .go p.1) ?_ ?_
   ·refine ay (aS (β:=Nat×(List Nat)×((List Int))×Nm) (λp=>(λ(k_24:Nat) (l_25:List Nat) (s_29:List Int) (n_31:Nm)=>([(0,(vL Alert.enc l_1)),(4,(.ref n_4 0 0)),(5,(.ref n_5 0 0)),(7,(vL eI r_6)),(8,(vV n_31 1 s_29)),(25,(vL Alert.enc l_1)),(26,(vI (l_1.length:Int))),(27,(vI (k_9:Int))),(38,(.d (.agg [.int .i64 x_11.At,.int .i64 y_22]))),(39,(vI (k_24:Int)))]:SL_)) p.1 p.2.1 p.2.2.1 p.2.2.2) (λp=>(λ(k_24:Nat) (l_25:List Nat) (s_29:List Int) (n_31:Nm)=>([(n_4,some (.cells 3 [(vS p_2.Player),(vI p_2.X),(vI p_2.Y)])),(n_5,some (.cells 2 [(vI wv_3.From),(vI wv_3.To)])),(n_31,some (bV 1 eI s_29)),(n_21,some (.cells 9 [(vS x_11.Id),(vS x_11.Sender),(vI x_11.Kind),(vL eS x_11.Refs),(vI x_11.At),(vI x_11.Until),(vI x_11.Weight),(vL Rect.enc x_11.Areas),(vS x_11.Text)]))]:Hp)) p.1 p.2.1 p.2.2.1 p.2.2.2) (λp=>forR (λk x s=>kY x_11 y_22 wv_3 k x s) p.2.1 p.1 p.2.2.1=some o_34/\((List.range (2:Int).toNat)).drop p.1=p.2.1) (λp=>p.2.1.length) (0,(List.range (2:Int).toNat),s_14,n_16) ⟨hj_35,rfl⟩ rfl (aJ rfl) ?_)
    rintro ⟨k_24,l_25,s_29,n_31⟩ ⟨hL_33,hD_27⟩
    dsimp only at hL_33 hD_27
    cases l_25 with
    | nil =>
     obtain rfl:=ah hL_33
     refine af (aa (ae (vB (decide ((k_24:Int)<2))) wz rfl (aj ?_)))
     refine af (aB rfl (yM hD_27) (aP ?_))
     exact aN (s_29,n_31) rfl rfl (aJ rfl)
    | cons x_26 l_25 =>
     obtain ⟨c_,hc_32,hL_33⟩:=bind_some hL_33
     refine af (aa (ae (vB (decide ((k_24:Int)<2))) wz rfl (aj ?_)))
     refine af (aC rfl (vT hD_27) (ax ?_))
     unfold kY at hc_32
     refine af (ay (af (aa ?_)))
     obtain ⟨y_36,hy_37,hc_32⟩:=bind_some hc_32
     refine h_idxa (enc:=eI) (xs:=([x_11.At,y_22]:List Int)) un87 sz3 ag3 rfl rfl rfl rfl hy_37 (λ_=>rfl) (.inr rfl) (vI y_36) rfl wz (ae (vI y_36) wz rfl (aj (af ?_)))
     obtain ⟨v_38,h_39,hc_32⟩:=bind_some hc_32
     refine aD (β:=Unit) (λ_=>([(0,(vL Alert.enc l_1)),(4,(.ref n_4 0 0)),(5,(.ref n_5 0 0)),(7,(vL eI r_6)),(8,(vV n_31 1 s_29)),(12,(vI y_36)),(25,(vL Alert.enc l_1)),(26,(vI (l_1.length:Int))),(27,(vI (k_9:Int))),(38,(.d (.agg [.int .i64 x_11.At,.int .i64 y_22]))),(39,(vI (k_24:Int))),(51,(vB v_38))]:SL_)) (λ_=>([(n_4,some (.cells 3 [(vS p_2.Player),(vI p_2.X),(vI p_2.Y)])),(n_5,some (.cells 2 [(vI wv_3.From),(vI wv_3.To)])),(n_31,some (bV 1 eI s_29)),(n_21,some (.cells 9 [(vS x_11.Id),(vS x_11.Sender),(vI x_11.Kind),(vL eS x_11.Refs),(vI x_11.At),(vI x_11.Until),(vI x_11.Weight),(vL Rect.enc x_11.Areas),(vS x_11.Text)]))]:Hp)) (λ_=>True) ?_ ?_
     ·refine aa (aH ib rfl 0 rfl wz (aA 0 1 il ft sz3 ag3 rfl rfl (vI wv_3.From) rfl wz (ae (vI y_36) wz rfl (ae (vB (decide (wv_3.From<y_36))) wz rfl ?_))))
      rcases au h_39 with⟨hc_40,h_39⟩|⟨hc_40,h_39⟩
      ·refine aF rfl hc_40 wz (ae (vI y_36) wa rfl (aH iq rfl 1 rfl wa (aA 0 1 il ft sz3 ag3 rfl rfl (vI wv_3.To) rfl wa (ae (vB (decide (y_36<wv_3.To))) wa rfl (ae (vB (decide (y_36<wv_3.To))) wz rfl (aj ?_))))))
       obtain rfl:=ah h_39
       exact cu
      ·refine aF rfl hc_40 wz (ak wa (ak wa (ak wa (ak wa (ae (vB false) wz rfl (aj ?_))))))
       obtain rfl:=ah h_39
       exact cu
     ·rintro ⟨⟩ _ sl_ H_ hp_ hq_
      refine aL _ hp_ hq_ ?_
      obtain ⟨v_41,h_42,hc_32⟩:=bind_some hc_32
      refine aD (β:=Nm) (λ(n_43:Nm)=>([(0,(vL Alert.enc l_1)),(4,(.ref n_4 0 0)),(5,(.ref n_5 0 0)),(7,(vL eI r_6)),(8,(vV n_43 1 v_41)),(25,(vL Alert.enc l_1)),(26,(vI (l_1.length:Int))),(27,(vI (k_9:Int))),(38,(.d (.agg [.int .i64 x_11.At,.int .i64 y_22]))),(39,(vI (k_24:Int)))]:SL_)) (λ(n_43:Nm)=>([(n_4,some (.cells 3 [(vS p_2.Player),(vI p_2.X),(vI p_2.Y)])),(n_5,some (.cells 2 [(vI wv_3.From),(vI wv_3.To)])),(n_43,some (bV 1 eI v_41)),(n_21,some (.cells 9 [(vS x_11.Id),(vS x_11.Sender),(vI x_11.Kind),(vL eS x_11.Refs),(vI x_11.At),(vI x_11.Until),(vI x_11.Weight),(vL Rect.enc x_11.Areas),(vS x_11.Text)]))]:Hp)) (λ_=>True) ?_ ?_
      ·rcases au h_42 with⟨hc_44,h_42⟩|⟨hc_44,h_42⟩
       ·refine aC rfl hc_44 (aa (ae (vV n_31 1 s_29) wz rfl (ae (vI y_36) wz rfl (dW (([y_36]:List Int).map eI) jf uh rfl rfl rfl rfl rfl wz ?_))))
        obtain ⟨a_45,hz_46,h_42⟩:=bind_some h_42
        refine K6 0 il ft (i:=2) DY DY sz3 z3 rfl (by decide) by3 (by decide) (λ_=>rfl) rfl rfl rfl hz_46 wz (λn_47=>ae (vV n_47 1 a_45) wz rfl (aj ?_))
        obtain rfl:=ah h_42
        exact aN n_47 trivial rfl (aJ rfl)
       ·refine aB rfl hc_44 (ax ?_)
        obtain rfl:=ah h_42
        exact aN n_31 trivial rfl (aJ rfl)
      ·rintro n_43 _ sl_ H_ hp_ hq_
       refine aL _ hp_ hq_ (aa (fu (yH hD_27 hn_28) wz rfl (ae (vI ((k_24+1:Nat):Int)) wz rfl (aj ?_))))
       obtain rfl:=ah hc_32
       exact aO (k_24+1,l_25,v_41,n_43) ⟨hL_33,aR hD_27⟩ (ls_ _) rfl (aJ rfl)
   ·rintro ⟨s_29,n_31⟩ ho_ sl_ H_ hp_ hq_
    subst ho_
    refine aL _ hp_ hq_ (aa (fu (bA hD_12 hn_13) wz rfl (ae (vI ((k_9+1:Nat):Int)) wz rfl (aj ?_))))
    obtain rfl:=ah hc_17
    exact aO (k_9+1,l_10,s_29,n_31) ⟨hL_18,aR hD_12⟩ (ls_ _) rfl (aJ rfl)
 ·rintro ⟨s_14,n_16⟩ ho_ sl_ H_ hp_ hq_
  subst ho_
  refine aL _ hp_ hq_ (af (aa (ae (vV n_16 1 s_14) wz rfl ?_)))
  obtain ⟨_,hn_48,hF⟩:=bind_some hF
  replace hn_48:=IY hn_48
  refine GY 2 rfl (Bp hn_48).symm (dn (v':=(gV n_16 1 s_14)) 58 rfl (Mm hn_48) (dn (v':=(gV n_16 1 s_14)) 8 rfl (Mm hn_48) ?_))
  obtain ⟨r_49,hr_50,hF⟩:=bind_some hF
  obtain ⟨_,hs_51,hF⟩:=bind_some hF
  replace hs_51:=lm hs_51
  refine kw 0 [] 2 0 il ft (jZ hr_50) rfl hb33 rfl rfl rfl (by kernel_rfl) rfl (.inl rfl) rfl (by kernel_rfl) (by kernel_rfl) (by kernel_rfl) (by kernel_rfl) rfl (by decide) (by kernel_rfl) kX (uC hs_51) wz ([(n_4,some (.cells 3 [(vS p_2.Player),(vI p_2.X),(vI p_2.Y)])),(n_5,some (.cells 2 [(vI wv_3.From),(vI wv_3.To)])),(n_16,gB 1 eI r_49)]:Hp) (by kernel_rfl) (dn (v':=(gV n_16 1 r_49)) 58 rfl (iK hs_51.symm) (dn (v':=(gV n_16 1 r_49)) 8 rfl (iK hs_51.symm) (aj (af (aa (ae (gV n_16 1 r_49) wz rfl ?_))))))
  obtain ⟨r_52,hr_53,hF⟩:=bind_some hF
  refine kw 0 [] 2 0 il ft (jl hr_53) rfl hb34 rfl rfl rfl (by kernel_rfl) rfl (.inl rfl) rfl (by kernel_rfl) (by kernel_rfl) (by kernel_rfl) (by kernel_rfl) rfl (by decide) (by kernel_rfl) yV (λ_=>rfl) wz ([(n_4,some (.cells 3 [(vS p_2.Player),(vI p_2.X),(vI p_2.Y)])),(n_5,some (.cells 2 [(vI wv_3.From),(vI wv_3.To)])),(n_16,none)]:Hp) (by kernel_rfl) (ae (vL eI r_52) wz rfl (aj (af (aa (ae .nil wz rfl (aj (af (af (aa (ae (vI 0) wz rfl (aj (kg (λn_60 => ?_)))))))))))))
  obtain ⟨o_65,hj_66,hF⟩:=bind_some hF
  obtain ⟨nq_99,hj_66⟩:=bR hj_66
  refine aD (β:=((List Slot_)×Int)×Nm) (λp=>(λ(s_59:(List Slot_)×Int) (n_62:Nm)=>([(13,(gV n_62 3 s_59.1))]:SL_)) p.1 p.2) (λp=>(λ(s_59:(List Slot_)×Int) (n_62:Nm)=>([(n_4,some (.cells 3 [(vS p_2.Player),(vI p_2.X),(vI p_2.Y)])),(n_5,some (.cells 2 [(vI wv_3.From),(vI wv_3.To)])),(n_16,none),(n_62,gB 3 Slot_.enc s_59.1)]:Hp)) p.1 p.2) (λp=>o_65 = .go p.1) ?_ ?_
  ·refine ay (aS (β:=Nat×((List Slot_)×Int)×Nm) (λp=>(λ(k_54:Nat) (s_59:(List Slot_)×Int) (n_62:Nm)=>([(0,(vL Alert.enc l_1)),(4,(.ref n_4 0 0)),(7,(vL eI r_6)),(8,(vL eI r_52)),(13,(gV n_62 3 s_59.1)),(14,(vI s_59.2))]:SL_)) p.1 p.2.1 p.2.2) (λp=>(λ(k_54:Nat) (s_59:(List Slot_)×Int) (n_62:Nm)=>([(n_4,some (.cells 3 [(vS p_2.Player),(vI p_2.X),(vI p_2.Y)])),(n_5,some (.cells 2 [(vI wv_3.From),(vI wv_3.To)])),(n_16,none),(n_62,gB 3 Slot_.enc s_59.1)]:Hp)) p.1 p.2.1 p.2.2) (λp=>iterN (λs=>jL r_52 l_1 r_6 p_2 s) p.1 p.2.1=some o_65) (λp=>p.1) (nq_99,(([]:List Slot_),0),n_60) hj_66 rfl (aJ rfl) ?_)
   rintro ⟨k_54,s_59,n_62⟩ hL_64
   dsimp only at hL_64
   cases k_54 with
   | zero=>cases hL_64
   | succ k_54 =>
    obtain ⟨c_,hc_63,hL_64⟩:=bind_some hL_64
    unfold jL at hc_63
    refine af (af (aa (ae (vI s_59.2) wz rfl (ae (vI (w64 (s_59.2+1))) wz rfl (ae (vL eI r_52) wz rfl (bW wO rfl wz (ae (vB (decide ((w64 (s_59.2+1))<(r_52.length:Int)))) wz rfl (aj ?_))))))))
    rcases au hc_63 with⟨hc_67,hc_63⟩|⟨hc_67,hc_63⟩
    ·refine aC rfl hc_67 (ax (af (ay (af (aa (ae (vS (⟨#[]⟩:ByteArray)) wz rfl (aj (af (af (aW (ae (vL Alert.enc l_1) wz rfl (ae (vL eI r_6) wz rfl (aA 2 0 (.inr (by kernel_rfl)) (λ_ _ ag=>trivial) Kb Nu rfl rfl (.d (.agg (Post.enc p_2))) rfl wz (ae (vL eI r_52) wz rfl (ae (vI s_59.2) wz rfl ?_)))))))))))))))
     obtain ⟨y_68,hy_69,hc_63⟩:=bind_some hc_63
     refine dK jf rfl rfl hy_69 rfl wz (bB sz3 ag3 rfl (vI y_68) rfl wz ?_)
     obtain ⟨r_70,hr_71,hc_63⟩:=bind_some hc_63
     refine aI (De hr_71) rfl hb35 rfl rfl rfl rfl wz (ae (vL Alert.enc r_70) wz rfl (aj (af (aa (ae (vL Alert.enc r_70) wz rfl (bW FP rfl wz (ae (vB (decide ((r_70.length:Int)>0))) wz rfl (aj ?_))))))))
     obtain ⟨v_72,h_73,hc_63⟩:=bind_some hc_63
     refine aD (β:=Unit) (λ_=>([(0,(vL Alert.enc l_1)),(4,(.ref n_4 0 0)),(7,(vL eI r_6)),(8,(vL eI r_52)),(13,(gV n_62 3 s_59.1)),(14,(vI s_59.2)),(15,(vS v_72))]:SL_)) (λ_=>([(n_4,some (.cells 3 [(vS p_2.Player),(vI p_2.X),(vI p_2.Y)])),(n_5,some (.cells 2 [(vI wv_3.From),(vI wv_3.To)])),(n_16,none),(n_62,gB 3 Slot_.enc s_59.1)]:Hp)) (λ_=>True) ?_ ?_
     ·rcases au h_73 with⟨hc_74,h_73⟩|⟨hc_74,h_73⟩
      ·refine aC rfl hc_74 (aa (ae (vL Alert.enc r_70) wz rfl ?_))
       obtain ⟨y_75,hy_76,h_73⟩:=bind_some h_73
       refine dK uo rfl rfl hy_76 rfl wz (og rO rfl (Alert.enc y_75) rfl rfl wz (bB sz9 ag9 rfl (vS y_75.Id) rfl wz (ae (vS y_75.Id) wz rfl (aj ?_))))
       obtain rfl:=ah h_73
       exact cu
      ·refine aB rfl hc_74 (ax ?_)
       obtain rfl:=ah h_73
       exact cu
     ·rintro ⟨⟩ _ sl_ H_ hp_ hq_
      refine aL _ hp_ hq_ (af (aa (ae (gV n_62 3 s_59.1) wz rfl (ym un35 rfl wz (ae (vI (w64 ((s_59.1.length:Int)-1))) wz rfl (ae (vI (w64 ((s_59.1.length:Int)-1))) wz rfl (aj (af ?_))))))))
      obtain ⟨v_77,h_78,hc_63⟩:=bind_some hc_63
      refine aD (β:=Unit) (λ_=>([(0,(vL Alert.enc l_1)),(4,(.ref n_4 0 0)),(7,(vL eI r_6)),(8,(vL eI r_52)),(13,(gV n_62 3 s_59.1)),(14,(vI s_59.2)),(15,(vS v_72)),(17,(vI (w64 ((s_59.1.length:Int)-1)))),(97,(vB v_77))]:SL_)) (λ_=>([(n_4,some (.cells 3 [(vS p_2.Player),(vI p_2.X),(vI p_2.Y)])),(n_5,some (.cells 2 [(vI wv_3.From),(vI wv_3.To)])),(n_16,none),(n_62,gB 3 Slot_.enc s_59.1)]:Hp)) (λ_=>True) ?_ ?_
      ·refine aa (ae (vI (w64 ((s_59.1.length:Int)-1))) wz rfl (ae (vB (decide ((w64 ((s_59.1.length:Int)-1))>=0))) wz rfl ?_))
       rcases au h_78 with⟨hc_79,h_78⟩|⟨hc_79,h_78⟩
       ·refine aF rfl hc_79 wz (ae (gV n_62 3 s_59.1) wa rfl (ae (vI (w64 ((s_59.1.length:Int)-1))) wa rfl ?_))
        obtain ⟨_,hi_80,h_78⟩:=bind_some h_78
        refine qH Jo rfl rfl (ig hi_80) (eX hi_80) wa (aH PM rfl 2 rfl wa ?_)
        obtain ⟨e_81,hy_82,h_78⟩:=bind_some h_78
        refine jr 0 3 il ft sz9 ag9 rfl rfl hy_82 (vS e_81.Entry) rfl wa (ae (vS v_72) wa rfl (ae (vB (sEq e_81.Entry v_72)) wa rfl (ae (vB (sEq e_81.Entry v_72)) wz rfl (aj ?_))))
        obtain rfl:=ah h_78
        exact cu
       ·refine aF rfl hc_79 wz (ak wa (ak wa (ak wa (ak wa (ak wa (ak wa (ak wa (ae (vB false) wz rfl (aj ?_)))))))))
        obtain rfl:=ah h_78
        exact cu
      ·rintro ⟨⟩ _ sl_ H_ hp_ hq_
       refine aL _ hp_ hq_ ?_
       obtain ⟨v_83,h_84,hc_63⟩:=bind_some hc_63
       refine aD (β:=Nm) (λ(n_85:Nm)=>([(0,(vL Alert.enc l_1)),(4,(.ref n_4 0 0)),(7,(vL eI r_6)),(8,(vL eI r_52)),(13,(gV n_85 3 v_83)),(14,(vI s_59.2))]:SL_)) (λ(n_85:Nm)=>([(n_4,some (.cells 3 [(vS p_2.Player),(vI p_2.X),(vI p_2.Y)])),(n_5,some (.cells 2 [(vI wv_3.From),(vI wv_3.To)])),(n_16,none),(n_85,gB 3 Slot_.enc v_83)]:Hp)) (λ_=>True) ?_ ?_
       ·rcases au h_84 with⟨hc_86,h_84⟩|⟨hc_86,h_84⟩
        ·refine aC rfl hc_86 (aa (ae (gV n_62 3 s_59.1) wz rfl (ae (vI (w64 ((s_59.1.length:Int)-1))) wz rfl (ae (vL eI r_52) wz rfl (ae (vI s_59.2) wz rfl (ae (vI (w64 (s_59.2+1))) wz rfl ?_))))))
         obtain ⟨y_87,hy_88,h_84⟩:=bind_some h_84
         refine dK jf rfl rfl hy_88 rfl wz (bB sz3 ag3 rfl (vI y_87) rfl wz ?_)
         obtain ⟨_,hi_89,h_84⟩:=bind_some h_84
         refine qH Jo rfl rfl (ig hi_89) (eX hi_89) wz (aH Ca rfl 0 rfl wz (aH iq rfl 1 rfl wz ?_))
         obtain ⟨e_90,hy_91,h_84⟩:=bind_some h_84
         refine sU 0 il ft 3 sz3 rfl rfl hy_91 (⟨(⟨e_90.Time.From,y_87⟩:Window),e_90.Entry⟩:Slot_) rfl wz (dn (v':=(gV n_62 3 (s_59.1.set (0+((w64 ((s_59.1.length:Int)-1))).toNat) (⟨(⟨e_90.Time.From,y_87⟩:Window),e_90.Entry⟩:Slot_)))) 13 rfl (iK (by simp)) (dn (v':=(gV n_62 3 (s_59.1.set (0+((w64 ((s_59.1.length:Int)-1))).toNat) (⟨(⟨e_90.Time.From,y_87⟩:Window),e_90.Entry⟩:Slot_)))) 98 rfl (iK (by simp)) (aj ?_)))
         obtain rfl:=ah h_84
         exact aN n_62 trivial rfl (aJ rfl)
        ·refine aB rfl hc_86 (aW (ae (gV n_62 3 s_59.1) wz rfl (ae (vL eI r_52) wz rfl (ae (vI s_59.2) wz rfl ?_))))
         obtain ⟨y_92,hy_93,h_84⟩:=bind_some h_84
         refine dK jf rfl rfl hy_93 rfl wz (bB sz3 ag3 rfl (vI y_92) rfl wz (ae (vL eI r_52) wz rfl (ae (vI s_59.2) wz rfl (ae (vI (w64 (s_59.2+1))) wz rfl ?_))))
         obtain ⟨y_94,hy_95,h_84⟩:=bind_some h_84
         refine dK jf rfl rfl hy_95 rfl wz (bB sz3 ag3 rfl (vI y_94) rfl wz (ae (.d (.agg (Window.enc (⟨y_92,y_94⟩:Window)))) wz (by kernel_rfl) (ae (vS v_72) wz rfl (ae (.d (.agg (Slot_.enc (⟨(⟨y_92,y_94⟩:Window),v_72⟩:Slot_)))) wz (by kernel_rfl) (dW (([(⟨(⟨y_92,y_94⟩:Window),v_72⟩:Slot_)]:List Slot_).map Slot_.enc) Jo ez35 rfl rfl rfl rfl rfl wz ?_)))))
         obtain ⟨a_96,hz_97,h_84⟩:=bind_some h_84
         refine jS 14 (.inr (by kernel_rfl)) (λ_ _ ag=>trivial) (i:=3) el35 el35 Nt z45 rfl (by decide) by45 (by decide) (λ_=>rfl) rfl rfl rfl hz_97 wz (λn_98=>ae (gV n_98 3 a_96) wz rfl (aj ?_))
         obtain rfl:=ah h_84
         exact aN n_98 trivial rfl (aJ rfl)
       ·rintro n_85 _ sl_ H_ hp_ hq_
        refine aL _ hp_ hq_ (aa (ae (vI s_59.2) wz rfl (ae (vI (w64 (s_59.2+1))) wz rfl (ae (vI (w64 (s_59.2+1))) wz rfl (aj ?_)))))
        obtain rfl:=ah hc_63
        exact aO (k_54,(v_83,(w64 (s_59.2+1))),n_85) hL_64 (ls_ _) rfl (aJ rfl)
    ·refine aB rfl hc_67 (aP ?_)
     obtain rfl:=ah hc_63
     obtain rfl:=ah hL_64
     exact aN ((s_59.1,s_59.2),n_62) rfl rfl (aJ rfl)
  ·rintro ⟨s_59,n_62⟩ ho_ sl_ H_ hp_ hq_
   subst ho_
   refine aL _ hp_ hq_ (af (aa (ae (gV n_62 3 s_59.1) wz rfl (ae (gV n_62 3 s_59.1) wz rfl (aj (gJ 3 rfl (dJ 6 3 rfl rfl (dJ 13 3 rfl rfl (dJ 123 3 rfl rfl ?_)))))))))
   obtain rfl:=ah hF
   exact aG (aU (.inr rfl) [(vL Slot_.enc s_59.1)] ⟨rfl,trivial⟩ rfl rfl rfl)
theorem BF {l_1:(List Alert)} {p_2:Post} {wv_3:Window} {r:(List Slot_)×Int} (hF:oq l_1 p_2 wv_3=some r) :
  FnM Tryz.prog 7 [(vL Alert.enc l_1),(.d (.agg (Post.enc p_2))),(.d (.agg (Window.enc wv_3)))] [] (.tup [(vL Slot_.enc r.1),(vI r.2)]) []:=by
 refine FnM.of_wH ⟨Tryz.prog,30,[],[]⟩ rfl Tryz.func7 rfl rfl (lb_ rfl) (by kernel_rfl) ?_
 unfold oq at hF
 refine af (aa (dL 0 (.inl rfl) [(vS p_2.Player),(vI p_2.X),(vI p_2.Y)] rfl rfl wz (λn_4=>dL 0 (.inl rfl) [(vI wv_3.From),(vI wv_3.To)] rfl rfl wz (λn_5=>ae .nil wz rfl (ae (vI 0) wz rfl (aj (af (af (aa (ae (vL Alert.enc l_1) wz rfl (aA 0 0 il ft Kb Nu rfl rfl (.d (.agg (Post.enc p_2))) rfl wz (dW (([p_2]:List Post).map Post.enc) es63 ez63 rfl rfl rfl rfl rfl wz ?_))))))))))))
 obtain ⟨r_6,hr_7,hF⟩:=bind_some hF
 refine aI (Ad hr_7) rfl hb18 rfl rfl rfl rfl wz (ae (vI r_6) wz rfl (aj (af (aa (ae (vI r_6) wz rfl (ae (vB (r_6 != 0)) wz rfl (aj ?_)))))))
 rcases au hF with⟨hc_8,hF⟩|⟨hc_8,hF⟩
 ·refine aC rfl hc_8 (af (aa (ae (vI r_6) wz rfl (ae .nil wz rfl (ae (vI r_6) wz rfl (aj ?_))))))
  obtain rfl:=ah hF
  exact aG (aU (.inr rfl) [.nil,(vI r_6)] ⟨rfl,⟨rfl,trivial⟩⟩ rfl rfl rfl)
 ·refine aB rfl hc_8 (ax (af (af ?_)))
  obtain ⟨v_9,h_10,hF⟩:=bind_some hF
  refine aD (β:=Unit) (λ_=>([(0,(vL Alert.enc l_1)),(4,(.ref n_4 0 0)),(5,(.ref n_5 0 0)),(25,(vB v_9))]:SL_)) (λ_=>([(n_4,some (.cells 3 [(vS p_2.Player),(vI p_2.X),(vI p_2.Y)])),(n_5,some (.cells 2 [(vI wv_3.From),(vI wv_3.To)]))]:Hp)) (λ_=>True) ?_ ?_
  ·refine aa (aH ib rfl 0 rfl wz (aA 0 1 il ft sz3 ag3 rfl rfl (vI wv_3.From) rfl wz (aH iq rfl 1 rfl wz (aA 0 1 il ft sz3 ag3 rfl rfl (vI wv_3.To) rfl wz ?_))))
   obtain ⟨r_11,hr_12,h_10⟩:=bind_some h_10
   refine aI (bg hr_12) rfl rA rfl rfl rfl rfl wz ?_
   rcases au h_10 with⟨hc_13,h_10⟩|⟨hc_13,h_10⟩
   ·refine aF rfl hc_13 wz (ak wa (ak wa (ak wa (ae (vB true) wz rfl (aj ?_)))))
    obtain rfl:=ah h_10
    exact cu
   ·refine aF rfl hc_13 wz (aH iq rfl 1 rfl wa (aA 0 1 il ft sz3 ag3 rfl rfl (vI wv_3.To) rfl wa (ae (vB (decide (wv_3.To>345686400000))) wa rfl (ae (vB (decide (wv_3.To>345686400000))) wz rfl (aj ?_)))))
    obtain rfl:=ah h_10
    exact cu
  ·rintro ⟨⟩ _ sl_ H_ hp_ hq_
   refine aL _ hp_ hq_ ?_
   rcases au hF with⟨hc_14,hF⟩|⟨hc_14,hF⟩
   ·refine aC rfl hc_14 (af (aa (ae .nil wz rfl (ae (vI 1) wz rfl (aj ?_)))))
    obtain rfl:=ah hF
    exact aG (aU (.inr rfl) [.nil,(vI 1)] ⟨rfl,⟨rfl,trivial⟩⟩ rfl rfl rfl)
   ·refine aB rfl hc_14 (ax (af (aa (ae (vL Alert.enc l_1) wz rfl (aA 0 0 il ft Kb Nu rfl rfl (.d (.agg (Post.enc p_2))) rfl wz (aA 0 1 il ft lT qI rfl rfl (.d (.agg (Window.enc wv_3))) rfl wz ?_))))))
    obtain ⟨r_15,hr_16,hF⟩:=bind_some hF
    refine aI (Cj hr_16) rfl hb20 rfl rfl rfl rfl wz (ae (vL Slot_.enc r_15) wz rfl (ae (vI 0) wz rfl (aj ?_)))
    obtain rfl:=ah hF
    exact aG (aU (.inr rfl) [(vL Slot_.enc r_15),(vI 0)] ⟨rfl,⟨rfl,trivial⟩⟩ rfl rfl rfl)
theorem uN {s_1:Stream} {r:Player×Stream} (hF:iP s_1=some r) :
  FnM Tryz.prog 9 [(.ref (av 0) 0 0)] [(.cells 2 [(vL eI s_1.L),(vI s_1.f_at)])] (.d (.agg (Player.enc r.1))) [some (.cells 2 [(vL eI r.2.L),(vI r.2.f_at)])]:=by
 refine FnM.of_wH ⟨Tryz.prog,14,[],[]⟩ rfl Tryz.func9 rfl rfl (lb_ rfl) (by kernel_rfl) ?_
 unfold iP at hF
 refine af (aa (cK 0 (.inl rfl) z42 rfl wz (λn_2=>aj (af (aa (ae (.ref (av 0) 0 0) wz rfl (dW (([0,0,60,(-90),1440]:List Int).map eI) jf uh rfl rfl rfl rfl rfl wz ?_)))))))
 obtain ⟨r_3,hr_4,hF⟩:=bind_some hF
 refine bS 0 [0] il ft (dU hr_4) rfl El rfl (by kernel_rfl) (by kernel_rfl) (by kernel_rfl) (by kernel_rfl) (by kernel_rfl) (by kernel_rfl) (by kernel_rfl) (by decide) (by kernel_rfl) wz (vI r_3.1) (by kernel_rfl) ([((av 0),some (.cells 2 [(vL eI r_3.2.L),(vI r_3.2.f_at)])),(n_2,some (.cells 4 [(vS (⟨#[]⟩:ByteArray)),(vS (⟨#[]⟩:ByteArray)),(vI 0),.nil]))]:Hp) (by kernel_rfl) (dW (([(⟨#[99,105,116,121]⟩:ByteArray)]:List ByteArray).map eS) qy Cc rfl rfl rfl rfl rfl wz (dW (([(⟨#[99,105,116,121]⟩:ByteArray),(⟨#[109,97,108,108]⟩:ByteArray)]:List ByteArray).map eS) qy Cc rfl rfl rfl rfl rfl wz (dW (([([]:List ByteArray),([(⟨#[99,105,116,121]⟩:ByteArray)]:List ByteArray),([(⟨#[99,105,116,121]⟩:ByteArray),(⟨#[109,97,108,108]⟩:ByteArray)]:List ByteArray)]:List (List ByteArray)).map (eL eS)) es68 ez68 rfl rfl rfl rfl rfl wz (ae (.ref (av 0) 0 0) wz rfl ?_))))
 obtain ⟨r_6,hr_7,hF⟩:=bind_some hF
 refine bS 0 [0] il ft (kC hr_7) rfl OQ rfl (by kernel_rfl) (by kernel_rfl) (by kernel_rfl) (by kernel_rfl) (by kernel_rfl) (by kernel_rfl) (by kernel_rfl) (by decide) (by kernel_rfl) wz (vI r_6.1) (by kernel_rfl) ([((av 0),some (.cells 2 [(vL eI r_6.2.L),(vI r_6.2.f_at)])),(n_2,some (.cells 4 [(vS (⟨#[]⟩:ByteArray)),(vS (⟨#[]⟩:ByteArray)),(vI 0),.nil]))]:Hp) (by kernel_rfl) ?_
 obtain ⟨y_9,hy_10,hF⟩:=bind_some hF
 refine dK es68 rfl rfl hy_10 rfl wz (bB xU A8 rfl (vL eS y_9) rfl wz (ae (.d (.agg (Player.enc (⟨(⟨#[112]⟩:ByteArray),(⟨#[115,97]⟩:ByteArray),r_3.1,y_9⟩:Player)))) wz (by kernel_rfl) (eD 0 il ft 1 F4 rfl rfl [(vS (⟨#[112]⟩:ByteArray)),(vS (⟨#[115,97]⟩:ByteArray)),(vI r_3.1),(vL eS y_9)] rfl wz (aj ?_))))
 obtain rfl:=ah hF
 exact aG (wE (.inr rfl) [(.d (.agg (Player.enc (⟨(⟨#[112]⟩:ByteArray),(⟨#[115,97]⟩:ByteArray),r_3.1,y_9⟩:Player))))] _ [0] [av 0] ⟨⟨1,_,_,_,_,_,_,_,rfl,rfl,F4,IE,rfl⟩,trivial⟩ (.cons (jF rfl rfl) (.nil)) (by kernel_rfl) ⟨(by kernel_rfl),trivial⟩ (by decide) (by kernel_rfl))
theorem Ir {n_1:Int} {r:Bool} (hF:vz n_1=some r) :
  FnM Tryz.prog 140 [(vI n_1)] [] (vB r) []:=by
 refine FnM.of_wH ⟨Tryz.prog,9,[],[]⟩ rfl Tryz.func140 rfl rfl (lb_ rfl) (by kernel_rfl) ?_
 unfold vz at hF
 refine af (aa (ae (vB false) wz rfl (aj (af ?_))))
 obtain ⟨v_2,h_3,hF⟩:=bind_some hF
 refine aD (β:=Unit) (λ_=>([(2,(vB v_2))]:SL_)) (λ_=>([]:Hp)) (λ_=>True) ?_ ?_
 ·refine aa (ae (vI n_1) wz rfl (ae (vB (decide (n_1>=0))) wz rfl ?_))
  rcases au h_3 with⟨hc_4,h_3⟩|⟨hc_4,h_3⟩
  ·refine aF rfl hc_4 wz (ae (vI n_1) wa rfl (ae (vB (decide (n_1<=4000))) wa rfl (ae (vB (decide (n_1<=4000))) wz rfl (ae (vB (decide (n_1<=4000))) wz rfl (aj ?_)))))
   obtain rfl:=ah h_3
   exact cu
  ·refine aF rfl hc_4 wz (ak wa (ak wa (ae (vB false) wz rfl (ae (vB false) wz rfl (aj ?_)))))
   obtain rfl:=ah h_3
   exact cu
 ·rintro ⟨⟩ _ sl_ H_ hp_ hq_
  refine aL _ hp_ hq_ ?_
  obtain rfl:=ah hF
  exact aG (aU (.inr rfl) [(vB v_2)] ⟨rfl,trivial⟩ rfl rfl rfl)
theorem vR {l_1:(List Int)} {r:Int} (hF:gW l_1=some r) :
  FnM Tryz.prog 115 [(vL eI l_1)] [] (vI r) []:=by
 refine FnM.of_wH ⟨Tryz.prog,30,[],[]⟩ rfl Tryz.func115 rfl rfl (lb_ rfl) (by kernel_rfl) ?_
 unfold gW at hF
 refine af (aa (ae (vI 0) wz rfl (aj (af (af (aa (ae (vL eI l_1) wz rfl (bW wO rfl wz (ae (vB (decide ((l_1.length:Int)>100))) wz rfl (aj ?_))))))))))
 rcases au hF with⟨hc_2,hF⟩|⟨hc_2,hF⟩
 ·refine aC rfl hc_2 (af (aa (ae (vI 2) wz rfl (aj ?_))))
  obtain rfl:=ah hF
  exact aG (aU (.inr rfl) [(vI 2)] ⟨rfl,trivial⟩ rfl rfl rfl)
 ·refine aB rfl hc_2 (ax (af (af (aa (ae (vL eI l_1) wz rfl (bW wO rfl wz (ae (vI 0) wz rfl (aj ?_))))))))
  obtain ⟨o_11,hj_12,hF⟩:=bind_some hF
  obtain ⟨hn_7,hj_12⟩:=aV hj_12
  refine aD (β:=(Unit)) (λ(s_8:Unit)=>([]:SL_)) (λ(s_8:Unit)=>([]:Hp)) (λp=>o_11 = .go p) ?_ ?_
  ·refine ay (aS (β:=Nat×(List Int)×(Unit)) (λp=>(λ(k_3:Nat) (l_4:List Int) (s_8:Unit)=>([(0,(vL eI l_1)),(8,(vL eI l_1)),(9,(vI (l_1.length:Int))),(10,(vI (k_3:Int)))]:SL_)) p.1 p.2.1 p.2.2) (λp=>(λ(k_3:Nat) (l_4:List Int) (s_8:Unit)=>([]:Hp)) p.1 p.2.1 p.2.2) (λp=>forR (λk x s=>jg l_1 k x s) p.2.1 p.1 p.2.2=some o_11/\(l_1).drop p.1=p.2.1) (λp=>p.2.1.length) (0,l_1,()) ⟨hj_12,rfl⟩ rfl (aJ rfl) ?_)
   rintro ⟨k_3,l_4,s_8⟩ ⟨hL_10,hD_6⟩
   dsimp only at hL_10 hD_6
   cases l_4 with
   | nil =>
    obtain rfl:=ah hL_10
    refine af (aa (ae (vB (decide ((k_3:Int)<(l_1.length:Int)))) wz rfl (aj ?_)))
    refine af (aB rfl (drop_nil hD_6) (aP ?_))
    exact aN (s_8) rfl rfl (aJ rfl)
   | cons x_5 l_4 =>
    obtain ⟨c_,hc_9,hL_10⟩:=bind_some hL_10
    refine af (aa (ae (vB (decide ((k_3:Int)<(l_1.length:Int)))) wz rfl (aj ?_)))
    refine af (aC rfl (bf hD_6) (ax ?_))
    unfold jg at hc_9
    refine af (ay (af (aa (ae (vI (k_3:Int)) wz rfl (dK jf rfl rfl (bG hD_6) rfl wz (bB sz3 ag3 rfl (vI x_5) rfl wz (ae (vI (k_3:Int)) wz rfl (ae (vI x_5) wz rfl (aj (af (af (aa (ae (vI x_5) wz rfl ?_)))))))))))))
    obtain ⟨r_13,hr_14,hc_9⟩:=bind_some hc_9
    refine aI (Ir hr_14) rfl hb140 rfl rfl rfl rfl wz (ae (vB (!r_13)) wz rfl (aj ?_))
    rcases au hc_9 with⟨hc_15,hc_9⟩|⟨hc_15,hc_9⟩
    ·refine aC rfl hc_15 (af (aa (ae (vI 1) wz rfl (aj ?_))))
     obtain rfl:=ah hc_9
     obtain rfl:=ah hL_10
     obtain rfl:=ah hF
     exact aG (aU (.inr rfl) [(vI 1)] ⟨rfl,trivial⟩ rfl rfl rfl)
    ·refine aB rfl hc_15 (ax (af ?_))
     obtain ⟨v_16,h_17,hc_9⟩:=bind_some hc_9
     refine aD (β:=Unit) (λ_=>([(0,(vL eI l_1)),(8,(vL eI l_1)),(9,(vI (l_1.length:Int))),(10,(vI (k_3:Int))),(28,(vB v_16))]:SL_)) (λ_=>([]:Hp)) (λ_=>True) ?_ ?_
     ·refine aa (ae (vI (k_3:Int)) wz rfl (ae (vB (decide ((k_3:Int)>0))) wz rfl ?_))
      rcases au h_17 with⟨hc_18,h_17⟩|⟨hc_18,h_17⟩
      ·refine aF rfl hc_18 wz (ae (vI x_5) wa rfl (ae (vL eI l_1) wa rfl (ae (vI (k_3:Int)) wa rfl (ae (vI (w64 ((k_3:Int)-1))) wa rfl ?_))))
       obtain ⟨y_19,hy_20,h_17⟩:=bind_some h_17
       refine dK jf rfl rfl hy_20 rfl wa (bB sz3 ag3 rfl (vI y_19) rfl wa (ae (vB (decide (x_5<=y_19))) wa rfl (ae (vB (decide (x_5<=y_19))) wz rfl (aj ?_))))
       obtain rfl:=ah h_17
       exact cu
      ·refine aF rfl hc_18 wz (ak wa (ak wa (ak wa (ak wa (ak wa (ak wa (ak wa (ae (vB false) wz rfl (aj ?_)))))))))
       obtain rfl:=ah h_17
       exact cu
     ·rintro ⟨⟩ _ sl_ H_ hp_ hq_
      refine aL _ hp_ hq_ ?_
      rcases au hc_9 with⟨hc_21,hc_9⟩|⟨hc_21,hc_9⟩
      ·refine aC rfl hc_21 (af (aa (ae (vI 7) wz rfl (aj ?_))))
       obtain rfl:=ah hc_9
       obtain rfl:=ah hL_10
       obtain rfl:=ah hF
       exact aG (aU (.inr rfl) [(vI 7)] ⟨rfl,trivial⟩ rfl rfl rfl)
      ·refine aB rfl hc_21 (ax (aa (fu (bA hD_6 hn_7) wz rfl (ae (vI ((k_3+1:Nat):Int)) wz rfl (aj ?_)))))
       obtain rfl:=ah hc_9
       exact aO (k_3+1,l_4,()) ⟨hL_10,aR hD_6⟩ (ls_ _) rfl (aJ rfl)
  ·rintro s_8 ho_ sl_ H_ hp_ hq_
   subst ho_
   refine aL _ hp_ hq_ (af (aa (ae (vI 0) wz rfl (aj ?_))))
   obtain rfl:=ah hF
   exact aG (aU (.inr rfl) [(vI 0)] ⟨rfl,trivial⟩ rfl rfl rfl)
theorem tQ {l_1:(List ByteArray)} {r:Int} (hF:jq l_1=some r) :
  FnM Tryz.prog 116 [(vL eS l_1)] [] (vI r) []:=by
 refine FnM.of_wH ⟨Tryz.prog,27,[],[]⟩ rfl Tryz.func116 rfl rfl (lb_ rfl) (by kernel_rfl) ?_
 unfold jq at hF
 refine af (aa (ae (vI 0) wz rfl (aj (af (af (aa (ae (vL eS l_1) wz rfl (bW yY rfl wz (ae (vI 0) wz rfl (aj ?_))))))))))
 obtain ⟨o_10,hj_11,hF⟩:=bind_some hF
 obtain ⟨hn_6,hj_11⟩:=aV hj_11
 refine aD (β:=(Unit)) (λ(s_7:Unit)=>([]:SL_)) (λ(s_7:Unit)=>([]:Hp)) (λp=>o_10 = .go p) ?_ ?_
 ·refine ay (aS (β:=Nat×(List ByteArray)×(Unit)) (λp=>(λ(k_2:Nat) (l_3:List ByteArray) (s_7:Unit)=>([(0,(vL eS l_1)),(5,(vL eS l_1)),(6,(vI (l_1.length:Int))),(7,(vI (k_2:Int)))]:SL_)) p.1 p.2.1 p.2.2) (λp=>(λ(k_2:Nat) (l_3:List ByteArray) (s_7:Unit)=>([]:Hp)) p.1 p.2.1 p.2.2) (λp=>forR (λk x s=>iX l_1 k x s) p.2.1 p.1 p.2.2=some o_10/\(l_1).drop p.1=p.2.1) (λp=>p.2.1.length) (0,l_1,()) ⟨hj_11,rfl⟩ rfl (aJ rfl) ?_)
  rintro ⟨k_2,l_3,s_7⟩ ⟨hL_9,hD_5⟩
  dsimp only at hL_9 hD_5
  cases l_3 with
  | nil =>
   obtain rfl:=ah hL_9
   refine af (aa (ae (vB (decide ((k_2:Int)<(l_1.length:Int)))) wz rfl (aj ?_)))
   refine af (aB rfl (drop_nil hD_5) (aP ?_))
   exact aN (s_7) rfl rfl (aJ rfl)
  | cons x_4 l_3 =>
   obtain ⟨c_,hc_8,hL_9⟩:=bind_some hL_9
   refine af (aa (ae (vB (decide ((k_2:Int)<(l_1.length:Int)))) wz rfl (aj ?_)))
   refine af (aC rfl (bf hD_5) (ax ?_))
   unfold iX at hc_8
   refine af (ay (af (aa (ae (vI (k_2:Int)) wz rfl (dK qy rfl rfl (bG hD_5) rfl wz (bB sz9 ag9 rfl (vS x_4) rfl wz (ae (vI (k_2:Int)) wz rfl (ae (vS x_4) wz rfl (aj (af (af (aa (ae (vS x_4) wz rfl ?_)))))))))))))
   obtain ⟨r_12,hr_13,hc_8⟩:=bind_some hc_8
   refine aI (fT hr_13) rfl BJ rfl rfl rfl rfl wz (ae (vB (!r_12)) wz rfl (aj ?_))
   rcases au hc_8 with⟨hc_14,hc_8⟩|⟨hc_14,hc_8⟩
   ·refine aC rfl hc_14 (af (aa (ae (vI 5) wz rfl (aj ?_))))
    obtain rfl:=ah hc_8
    obtain rfl:=ah hL_9
    obtain rfl:=ah hF
    exact aG (aU (.inr rfl) [(vI 5)] ⟨rfl,trivial⟩ rfl rfl rfl)
   ·refine aB rfl hc_14 (ax (af ?_))
    obtain ⟨v_15,h_16,hc_8⟩:=bind_some hc_8
    refine aD (β:=Unit) (λ_=>([(0,(vL eS l_1)),(5,(vL eS l_1)),(6,(vI (l_1.length:Int))),(7,(vI (k_2:Int))),(25,(vB v_15))]:SL_)) (λ_=>([]:Hp)) (λ_=>True) ?_ ?_
    ·refine aa (ae (vI (k_2:Int)) wz rfl (ae (vB (decide ((k_2:Int)>0))) wz rfl ?_))
     rcases au h_16 with⟨hc_17,h_16⟩|⟨hc_17,h_16⟩
     ·refine aF rfl hc_17 wz (ae (vS x_4) wa rfl (ae (vL eS l_1) wa rfl (ae (vI (k_2:Int)) wa rfl (ae (vI (w64 ((k_2:Int)-1))) wa rfl ?_))))
      obtain ⟨y_18,hy_19,h_16⟩:=bind_some h_16
      refine dK qy rfl rfl hy_19 rfl wa (bB sz9 ag9 rfl (vS y_18) rfl wa (ae (vB (sLe x_4 y_18)) wa rfl (ae (vB (sLe x_4 y_18)) wz rfl (aj ?_))))
      obtain rfl:=ah h_16
      exact cu
     ·refine aF rfl hc_17 wz (ak wa (ak wa (ak wa (ak wa (ak wa (ak wa (ak wa (ae (vB false) wz rfl (aj ?_)))))))))
      obtain rfl:=ah h_16
      exact cu
    ·rintro ⟨⟩ _ sl_ H_ hp_ hq_
     refine aL _ hp_ hq_ ?_
     rcases au hc_8 with⟨hc_20,hc_8⟩|⟨hc_20,hc_8⟩
     ·refine aC rfl hc_20 (af (aa (ae (vI 7) wz rfl (aj ?_))))
      obtain rfl:=ah hc_8
      obtain rfl:=ah hL_9
      obtain rfl:=ah hF
      exact aG (aU (.inr rfl) [(vI 7)] ⟨rfl,trivial⟩ rfl rfl rfl)
     ·refine aB rfl hc_20 (ax (aa (fu (bA hD_5 hn_6) wz rfl (ae (vI ((k_2+1:Nat):Int)) wz rfl (aj ?_)))))
      obtain rfl:=ah hc_8
      exact aO (k_2+1,l_3,()) ⟨hL_9,aR hD_5⟩ (ls_ _) rfl (aJ rfl)
 ·rintro s_7 ho_ sl_ H_ hp_ hq_
  subst ho_
  refine aL _ hp_ hq_ (af (aa (ae (vI 0) wz rfl (aj ?_))))
  obtain rfl:=ah hF
  exact aG (aU (.inr rfl) [(vI 0)] ⟨rfl,trivial⟩ rfl rfl rfl)
theorem ql {l_1:(List ByteArray)} {r:Int} (hF:fM l_1=some r) :
  FnM Tryz.prog 76 [(vL eS l_1)] [] (vI r) []:=by
 refine FnM.of_wH ⟨Tryz.prog,8,[],[]⟩ rfl Tryz.func76 rfl rfl (lb_ rfl) (by kernel_rfl) ?_
 unfold fM at hF
 refine af (aa (ae (vI 0) wz rfl (aj (af (af (aa (ae (vL eS l_1) wz rfl (bW yY rfl wz (ae (vB (decide ((l_1.length:Int)>20))) wz rfl (aj ?_))))))))))
 rcases au hF with⟨hc_2,hF⟩|⟨hc_2,hF⟩
 ·refine aC rfl hc_2 (af (aa (ae (vI 2) wz rfl (aj ?_))))
  obtain rfl:=ah hF
  exact aG (aU (.inr rfl) [(vI 2)] ⟨rfl,trivial⟩ rfl rfl rfl)
 ·refine aB rfl hc_2 (ax (af (aa (ae (vL eS l_1) wz rfl ?_))))
  obtain ⟨r_3,hr_4,hF⟩:=bind_some hF
  refine aI (tQ hr_4) rfl hb116 rfl rfl rfl rfl wz (ae (vI r_3) wz rfl (aj ?_))
  obtain rfl:=ah hF
  exact aG (aU (.inr rfl) [(vI r_3)] ⟨rfl,trivial⟩ rfl rfl rfl)
theorem wP {e_1:Entry} {r:Int} (hF:fZ e_1=some r) :
  FnM Tryz.prog 75 [(.d (.agg (Entry.enc e_1)))] [] (vI r) []:=by
 refine FnM.of_wH ⟨Tryz.prog,61,[],[]⟩ rfl Tryz.func75 rfl rfl (lb_ rfl) (by kernel_rfl) ?_
 unfold fZ at hF
 refine af (aa (dL 0 (.inl rfl) [(vS e_1.Key),(vS e_1.Item),(vI e_1.Version),(vI e_1.First),(vI e_1.Last),(vI e_1.Every),(vI e_1.Days),(vL eI e_1.Except),(vI e_1.From),(vI e_1.To),(vI e_1.Prio),(vL eS e_1.Tags),(vB e_1.Gone)] rfl rfl wz (λn_2=>ae (vI 0) wz rfl (aj (af (af ?_))))))
 obtain ⟨v_3,h_4,hF⟩:=bind_some hF
 refine aD (β:=Unit) (λ_=>([(1,(.ref n_2 0 0)),(13,(vB v_3))]:SL_)) (λ_=>([(n_2,some (.cells 13 [(vS e_1.Key),(vS e_1.Item),(vI e_1.Version),(vI e_1.First),(vI e_1.Last),(vI e_1.Every),(vI e_1.Days),(vL eI e_1.Except),(vI e_1.From),(vI e_1.To),(vI e_1.Prio),(vL eS e_1.Tags),(vB e_1.Gone)]))]:Hp)) (λ_=>True) ?_ ?_
 ·refine aa (aH BX rfl 0 rfl wz (aA 0 0 il ft sz9 ag9 rfl rfl (vS e_1.Key) rfl wz ?_))
  obtain ⟨r_5,hr_6,h_4⟩:=bind_some h_4
  refine aI (fT hr_6) rfl BJ rfl rfl rfl rfl wz (ae (vB (!r_5)) wz rfl ?_)
  rcases au h_4 with⟨hc_7,h_4⟩|⟨hc_7,h_4⟩
  ·refine aF rfl hc_7 wz (ak wa (ak wa (ak wa (ak wa (ae (vB true) wz rfl (aj ?_))))))
   obtain rfl:=ah h_4
   exact cu
  ·refine aF rfl hc_7 wz (aH pl61_1 rfl 1 rfl wa (aA 0 0 il ft sz9 ag9 rfl rfl (vS e_1.Item) rfl wa ?_))
   obtain ⟨r_8,hr_9,h_4⟩:=bind_some h_4
   refine aI (fT hr_9) rfl BJ rfl rfl rfl rfl wa (ae (vB (!r_8)) wa rfl (ae (vB (!r_8)) wz rfl (aj ?_)))
   obtain rfl:=ah h_4
   exact cu
 ·rintro ⟨⟩ _ sl_ H_ hp_ hq_
  refine aL _ hp_ hq_ ?_
  rcases au hF with⟨hc_10,hF⟩|⟨hc_10,hF⟩
  ·refine aC rfl hc_10 (af (aa (ae (vI 5) wz rfl (aj ?_))))
   obtain rfl:=ah hF
   exact aG (aU (.inr rfl) [(vI 5)] ⟨rfl,trivial⟩ rfl rfl rfl)
  ·refine aB rfl hc_10 (ax (af (af ?_)))
   obtain ⟨v_11,h_12,hF⟩:=bind_some hF
   refine aD (β:=Unit) (λ_=>([(1,(.ref n_2 0 0)),(38,(vB v_11))]:SL_)) (λ_=>([(n_2,some (.cells 13 [(vS e_1.Key),(vS e_1.Item),(vI e_1.Version),(vI e_1.First),(vI e_1.Last),(vI e_1.Every),(vI e_1.Days),(vL eI e_1.Except),(vI e_1.From),(vI e_1.To),(vI e_1.Prio),(vL eS e_1.Tags),(vB e_1.Gone)]))]:Hp)) (λ_=>True) ?_ ?_
   ·refine aa (aH pl61_2 rfl 2 rfl wz (aA 0 0 il ft sz3 ag3 rfl rfl (vI e_1.Version) rfl wz ?_))
    obtain ⟨r_13,hr_14,h_12⟩:=bind_some h_12
    refine aI (bg hr_14) rfl rA rfl rfl rfl rfl wz ?_
    rcases au h_12 with⟨hc_15,h_12⟩|⟨hc_15,h_12⟩
    ·refine aF rfl hc_15 wz (ak wa (ak wa (ak wa (ak wa (ak wa (ae (vB true) wz rfl (ae (vB true) wz rfl (ak wa (ak wa (ak wa (ae (vB true) wz rfl (ae (vB true) wz rfl (ak wa (ak wa (ak wa (ae (vB true) wz rfl (ae (vB true) wz rfl (ak wa (ak wa (ak wa (ae (vB true) wz rfl (aj ?_))))))))))))))))))))))
     obtain rfl:=ah h_12
     exact cu
    ·refine aF rfl hc_15 wz (aH BG rfl 3 rfl wa (aA 0 0 il ft sz3 ag3 rfl rfl (vI e_1.First) rfl wa (aH Cx rfl 4 rfl wa (aA 0 0 il ft sz3 ag3 rfl rfl (vI e_1.Last) rfl wa ?_))))
     obtain ⟨r_16,hr_17,h_12⟩:=bind_some h_12
     refine aI (bg hr_17) rfl rA rfl rfl rfl rfl wa (ae (vB r_16) wz rfl ?_)
     rcases au h_12 with⟨hc_18,h_12⟩|⟨hc_18,h_12⟩
     ·refine aF rfl hc_18 wz (ak wa (ak wa (ak wa (ae (vB true) wz rfl (ae (vB true) wz rfl (ak wa (ak wa (ak wa (ae (vB true) wz rfl (ae (vB true) wz rfl (ak wa (ak wa (ak wa (ae (vB true) wz rfl (aj ?_)))))))))))))))
      obtain rfl:=ah h_12
      exact cu
     ·refine aF rfl hc_18 wz (aH Cx rfl 4 rfl wa (aA 0 0 il ft sz3 ag3 rfl rfl (vI e_1.Last) rfl wa (ae (vB (decide (e_1.Last>4000))) wa rfl (ae (vB (decide (e_1.Last>4000))) wz rfl ?_))))
      rcases au h_12 with⟨hc_19,h_12⟩|⟨hc_19,h_12⟩
      ·refine aF rfl hc_19 wz (ak wa (ak wa (ak wa (ae (vB true) wz rfl (ae (vB true) wz rfl (ak wa (ak wa (ak wa (ae (vB true) wz rfl (aj ?_))))))))))
       obtain rfl:=ah h_12
       exact cu
      ·refine aF rfl hc_19 wz (aH O4 rfl 5 rfl wa (aA 0 0 il ft sz3 ag3 rfl rfl (vI e_1.Every) rfl wa ?_))
       obtain ⟨r_20,hr_21,h_12⟩:=bind_some h_12
       refine aI (bg hr_21) rfl rA rfl rfl rfl rfl wa (ae (vB r_20) wz rfl ?_)
       rcases au h_12 with⟨hc_22,h_12⟩|⟨hc_22,h_12⟩
       ·refine aF rfl hc_22 wz (ak wa (ak wa (ak wa (ae (vB true) wz rfl (aj ?_)))))
        obtain rfl:=ah h_12
        exact cu
       ·refine aF rfl hc_22 wz (aH Pb rfl 6 rfl wa (aA 0 0 il ft sz3 ag3 rfl rfl (vI e_1.Days) rfl wa ?_))
        obtain ⟨r_23,hr_24,h_12⟩:=bind_some h_12
        refine aI (bg hr_24) rfl rA rfl rfl rfl rfl wa (ae (vB r_23) wz rfl (aj ?_))
        obtain rfl:=ah h_12
        exact cu
   ·rintro ⟨⟩ _ sl_ H_ hp_ hq_
    refine aL _ hp_ hq_ ?_
    rcases au hF with⟨hc_25,hF⟩|⟨hc_25,hF⟩
    ·refine aC rfl hc_25 (af (aa (ae (vI 1) wz rfl (aj ?_))))
     obtain rfl:=ah hF
     exact aG (aU (.inr rfl) [(vI 1)] ⟨rfl,trivial⟩ rfl rfl rfl)
    ·refine aB rfl hc_25 (ax (af (af (aa (aH H8 rfl 7 rfl wz (aA 0 0 il ft zK BI rfl rfl (vL eI e_1.Except) rfl wz ?_))))))
     obtain ⟨r_26,hr_27,hF⟩:=bind_some hF
     refine aI (vR hr_27) rfl hb115 rfl rfl rfl rfl wz (ae (vI r_26) wz rfl (aj (af (aa (ae (vI r_26) wz rfl (ae (vB (r_26 != 0)) wz rfl (aj ?_)))))))
     rcases au hF with⟨hc_28,hF⟩|⟨hc_28,hF⟩
     ·refine aC rfl hc_28 (af (aa (ae (vI r_26) wz rfl (ae (vI r_26) wz rfl (aj ?_)))))
      obtain rfl:=ah hF
      exact aG (aU (.inr rfl) [(vI r_26)] ⟨rfl,trivial⟩ rfl rfl rfl)
     ·refine aB rfl hc_28 (ax (af (af ?_)))
      obtain ⟨v_29,h_30,hF⟩:=bind_some hF
      refine aD (β:=Unit) (λ_=>([(1,(.ref n_2 0 0)),(57,(vB v_29))]:SL_)) (λ_=>([(n_2,some (.cells 13 [(vS e_1.Key),(vS e_1.Item),(vI e_1.Version),(vI e_1.First),(vI e_1.Last),(vI e_1.Every),(vI e_1.Days),(vL eI e_1.Except),(vI e_1.From),(vI e_1.To),(vI e_1.Prio),(vL eS e_1.Tags),(vB e_1.Gone)]))]:Hp)) (λ_=>True) ?_ ?_
      ·refine aa (aH Kw rfl 8 rfl wz (aA 0 0 il ft sz3 ag3 rfl rfl (vI e_1.From) rfl wz ?_))
       obtain ⟨r_31,hr_32,h_30⟩:=bind_some h_30
       refine aI (bg hr_32) rfl rA rfl rfl rfl rfl wz ?_
       rcases au h_30 with⟨hc_33,h_30⟩|⟨hc_33,h_30⟩
       ·refine aF rfl hc_33 wz (ak wa (ak wa (ak wa (ae (vB true) wz rfl (ae (vB true) wz rfl (ak wa (ak wa (ak wa (ae (vB true) wz rfl (aj ?_))))))))))
        obtain rfl:=ah h_30
        exact cu
       ·refine aF rfl hc_33 wz (aH P8 rfl 9 rfl wa (aA 0 0 il ft sz3 ag3 rfl rfl (vI e_1.To) rfl wa ?_))
        obtain ⟨r_34,hr_35,h_30⟩:=bind_some h_30
        refine aI (bg hr_35) rfl rA rfl rfl rfl rfl wa (ae (vB r_34) wz rfl ?_)
        rcases au h_30 with⟨hc_36,h_30⟩|⟨hc_36,h_30⟩
        ·refine aF rfl hc_36 wz (ak wa (ak wa (ak wa (ae (vB true) wz rfl (aj ?_)))))
         obtain rfl:=ah h_30
         exact cu
        ·refine aF rfl hc_36 wz (aH IW rfl 10 rfl wa (aA 0 0 il ft sz3 ag3 rfl rfl (vI e_1.Prio) rfl wa ?_))
         obtain ⟨r_37,hr_38,h_30⟩:=bind_some h_30
         refine aI (bg hr_38) rfl rA rfl rfl rfl rfl wa (ae (vB r_37) wz rfl (aj ?_))
         obtain rfl:=ah h_30
         exact cu
      ·rintro ⟨⟩ _ sl_ H_ hp_ hq_
       refine aL _ hp_ hq_ ?_
       rcases au hF with⟨hc_39,hF⟩|⟨hc_39,hF⟩
       ·refine aC rfl hc_39 (af (aa (ae (vI 1) wz rfl (aj ?_))))
        obtain rfl:=ah hF
        exact aG (aU (.inr rfl) [(vI 1)] ⟨rfl,trivial⟩ rfl rfl rfl)
       ·refine aB rfl hc_39 (ax (af (aa (aH DI rfl 11 rfl wz (aA 0 0 il ft xU A8 rfl rfl (vL eS e_1.Tags) rfl wz ?_)))))
        obtain ⟨r_40,hr_41,hF⟩:=bind_some hF
        refine aI (ql hr_41) rfl hb76 rfl rfl rfl rfl wz (ae (vI r_40) wz rfl (aj ?_))
        obtain rfl:=ah hF
        exact aG (aU (.inr rfl) [(vI r_40)] ⟨rfl,trivial⟩ rfl rfl rfl)
theorem oh {l_1:(List Entry)} {r:Int} (hF:eF l_1=some r) :
  FnM Tryz.prog 36 [(vL Entry.enc l_1)] [] (vI r) []:=by
 refine FnM.of_wH ⟨Tryz.prog,35,[],[]⟩ rfl Tryz.func36 rfl rfl (lb_ rfl) (by kernel_rfl) ?_
 unfold eF at hF
 refine af (aa (ae (vI 0) wz rfl (aj (af (af (aa (ae (vL Entry.enc l_1) wz rfl (bW un31 rfl wz (ae (vB (decide ((l_1.length:Int)>200))) wz rfl (aj ?_))))))))))
 rcases au hF with⟨hc_2,hF⟩|⟨hc_2,hF⟩
 ·refine aC rfl hc_2 (af (aa (ae (vI 2) wz rfl (aj ?_))))
  obtain rfl:=ah hF
  exact aG (aU (.inr rfl) [(vI 2)] ⟨rfl,trivial⟩ rfl rfl rfl)
 ·refine aB rfl hc_2 (ax (af (af (aa (ae (vL Entry.enc l_1) wz rfl (bW un31 rfl wz (ae (vI 0) wz rfl (aj ?_))))))))
  obtain ⟨o_11,hj_12,hF⟩:=bind_some hF
  obtain ⟨hn_7,hj_12⟩:=aV hj_12
  refine aD (β:=(Unit)) (λ(s_8:Unit)=>([]:SL_)) (λ(s_8:Unit)=>([]:Hp)) (λp=>o_11 = .go p) ?_ ?_
  ·refine ay (aS (β:=Nat×(List Entry)×(Unit)) (λp=>(λ(k_3:Nat) (l_4:List Entry) (s_8:Unit)=>([(0,(vL Entry.enc l_1)),(9,(vL Entry.enc l_1)),(10,(vI (l_1.length:Int))),(11,(vI (k_3:Int)))]:SL_)) p.1 p.2.1 p.2.2) (λp=>(λ(k_3:Nat) (l_4:List Entry) (s_8:Unit)=>([]:Hp)) p.1 p.2.1 p.2.2) (λp=>forR (λk x s=>fB l_1 k x s) p.2.1 p.1 p.2.2=some o_11/\(l_1).drop p.1=p.2.1) (λp=>p.2.1.length) (0,l_1,()) ⟨hj_12,rfl⟩ rfl (aJ rfl) ?_)
   rintro ⟨k_3,l_4,s_8⟩ ⟨hL_10,hD_6⟩
   dsimp only at hL_10 hD_6
   cases l_4 with
   | nil =>
    obtain rfl:=ah hL_10
    refine af (aa (ae (vB (decide ((k_3:Int)<(l_1.length:Int)))) wz rfl (aj ?_)))
    refine af (aB rfl (drop_nil hD_6) (aP ?_))
    exact aN (s_8) rfl rfl (aJ rfl)
   | cons x_5 l_4 =>
    obtain ⟨c_,hc_9,hL_10⟩:=bind_some hL_10
    refine af (aa (ae (vB (decide ((k_3:Int)<(l_1.length:Int)))) wz rfl (aj ?_)))
    refine af (aC rfl (bf hD_6) (ax ?_))
    unfold fB at hc_9
    refine af (ay (af (aa (ae (vI (k_3:Int)) wz rfl (dK F3 rfl rfl (bG hD_6) rfl wz (bB zi BD rfl (.d (.agg (Entry.enc x_5))) rfl wz (cK 0 (.inl rfl) z61 rfl wz (λn_13=>ae (vI (k_3:Int)) wz rfl (eD 0 il ft 0 zi rfl rfl [(vS x_5.Key),(vS x_5.Item),(vI x_5.Version),(vI x_5.First),(vI x_5.Last),(vI x_5.Every),(vI x_5.Days),(vL eI x_5.Except),(vI x_5.From),(vI x_5.To),(vI x_5.Prio),(vL eS x_5.Tags),(vB x_5.Gone)] rfl wz (aj (af (af (aa (aA 0 0 il ft zi BD rfl rfl (.d (.agg (Entry.enc x_5))) rfl wz ?_))))))))))))))
    obtain ⟨r_14,hr_15,hc_9⟩:=bind_some hc_9
    refine aI (wP hr_15) rfl hb75 rfl rfl rfl rfl wz (ae (vI r_14) wz rfl (aj (af (aa (ae (vI r_14) wz rfl (ae (vB (r_14 != 0)) wz rfl (aj ?_)))))))
    rcases au hc_9 with⟨hc_16,hc_9⟩|⟨hc_16,hc_9⟩
    ·refine aC rfl hc_16 (af (aa (ae (vI r_14) wz rfl (ae (vI r_14) wz rfl (aj ?_)))))
     obtain rfl:=ah hc_9
     obtain rfl:=ah hL_10
     obtain rfl:=ah hF
     exact aG (aU (.inr rfl) [(vI r_14)] ⟨rfl,trivial⟩ rfl rfl rfl)
    ·refine aB rfl hc_16 (ax (af ?_))
     obtain ⟨v_17,h_18,hc_9⟩:=bind_some hc_9
     refine aD (β:=Unit) (λ_=>([(0,(vL Entry.enc l_1)),(9,(vL Entry.enc l_1)),(10,(vI (l_1.length:Int))),(11,(vI (k_3:Int))),(33,(vB v_17))]:SL_)) (λ_=>([(n_13,some (.cells 13 [(vS x_5.Key),(vS x_5.Item),(vI x_5.Version),(vI x_5.First),(vI x_5.Last),(vI x_5.Every),(vI x_5.Days),(vL eI x_5.Except),(vI x_5.From),(vI x_5.To),(vI x_5.Prio),(vL eS x_5.Tags),(vB x_5.Gone)]))]:Hp)) (λ_=>True) ?_ ?_
     ·refine aW (ae (vI (k_3:Int)) wz rfl (ae (vB (decide ((k_3:Int)>0))) wz rfl ?_))
      rcases au h_18 with⟨hc_19,h_18⟩|⟨hc_19,h_18⟩
      ·refine aF rfl hc_19 wz (aH BX rfl 0 rfl wa (aA 4 0 (.inr (by kernel_rfl)) (λ_ _ ag=>trivial) sz9 ag9 rfl rfl (vS x_5.Key) rfl wa (ae (vL Entry.enc l_1) wa rfl (ae (vI (k_3:Int)) wa rfl (ae (vI (w64 ((k_3:Int)-1))) wa rfl ?_)))))
       obtain ⟨y_20,hy_21,h_18⟩:=bind_some h_18
       refine dK F3 rfl rfl hy_21 rfl wa (og BX rfl (Entry.enc y_20) rfl rfl wa (bB sz9 ag9 rfl (vS y_20.Key) rfl wa (ae (vB (sLe x_5.Key y_20.Key)) wa rfl (ae (vB (sLe x_5.Key y_20.Key)) wz rfl (aj ?_)))))
       obtain rfl:=ah h_18
       exact cu
      ·refine aF rfl hc_19 wz (ak wa (ak wa (ak wa (ak wa (ak wa (ak wa (ak wa (ak wa (ak wa (ae (vB false) wz rfl (aj ?_)))))))))))
       obtain rfl:=ah h_18
       exact cu
     ·rintro ⟨⟩ _ sl_ H_ hp_ hq_
      refine aL _ hp_ hq_ ?_
      rcases au hc_9 with⟨hc_22,hc_9⟩|⟨hc_22,hc_9⟩
      ·refine aC rfl hc_22 (af (aa (ae (vI 7) wz rfl (aj ?_))))
       obtain rfl:=ah hc_9
       obtain rfl:=ah hL_10
       obtain rfl:=ah hF
       exact aG (aU (.inr rfl) [(vI 7)] ⟨rfl,trivial⟩ rfl rfl rfl)
      ·refine aB rfl hc_22 (ax (aa (fu (bA hD_6 hn_7) wz rfl (ae (vI ((k_3+1:Nat):Int)) wz rfl (aj ?_)))))
       obtain rfl:=ah hc_9
       exact aO (k_3+1,l_4,()) ⟨hL_10,aR hD_6⟩ (ls_ _) rfl (aJ rfl)
  ·rintro s_8 ho_ sl_ H_ hp_ hq_
   subst ho_
   refine aL _ hp_ hq_ (af (aa (ae (vI 0) wz rfl (aj ?_))))
   obtain rfl:=ah hF
   exact aG (aU (.inr rfl) [(vI 0)] ⟨rfl,trivial⟩ rfl rfl rfl)
theorem uZ {p_1:Player} {r:Int} (hF:jb p_1=some r) :
  FnM Tryz.prog 37 [(.d (.agg (Player.enc p_1)))] [] (vI r) []:=by
 refine FnM.of_wH ⟨Tryz.prog,19,[],[]⟩ rfl Tryz.func37 rfl rfl (lb_ rfl) (by kernel_rfl) ?_
 unfold jb at hF
 refine af (aa (dL 0 (.inl rfl) [(vS p_1.Key),(vS p_1.Screen),(vI p_1.Zone),(vL eS p_1.Tags)] rfl rfl wz (λn_2=>ae (vI 0) wz rfl (aj (af (af ?_))))))
 obtain ⟨v_3,h_4,hF⟩:=bind_some hF
 refine aD (β:=Unit) (λ_=>([(1,(.ref n_2 0 0)),(12,(vB v_3))]:SL_)) (λ_=>([(n_2,some (.cells 4 [(vS p_1.Key),(vS p_1.Screen),(vI p_1.Zone),(vL eS p_1.Tags)]))]:Hp)) (λ_=>True) ?_ ?_
 ·refine aa (aH pl42_0 rfl 0 rfl wz (aA 0 0 il ft sz9 ag9 rfl rfl (vS p_1.Key) rfl wz ?_))
  obtain ⟨r_5,hr_6,h_4⟩:=bind_some h_4
  refine aI (fT hr_6) rfl BJ rfl rfl rfl rfl wz (ae (vB (!r_5)) wz rfl ?_)
  rcases au h_4 with⟨hc_7,h_4⟩|⟨hc_7,h_4⟩
  ·refine aF rfl hc_7 wz (ak wa (ak wa (ak wa (ak wa (ae (vB true) wz rfl (aj ?_))))))
   obtain rfl:=ah h_4
   exact cu
  ·refine aF rfl hc_7 wz (aH pl42_1 rfl 1 rfl wa (aA 0 0 il ft sz9 ag9 rfl rfl (vS p_1.Screen) rfl wa ?_))
   obtain ⟨r_8,hr_9,h_4⟩:=bind_some h_4
   refine aI (fT hr_9) rfl BJ rfl rfl rfl rfl wa (ae (vB (!r_8)) wa rfl (ae (vB (!r_8)) wz rfl (aj ?_)))
   obtain rfl:=ah h_4
   exact cu
 ·rintro ⟨⟩ _ sl_ H_ hp_ hq_
  refine aL _ hp_ hq_ ?_
  rcases au hF with⟨hc_10,hF⟩|⟨hc_10,hF⟩
  ·refine aC rfl hc_10 (af (aa (ae (vI 5) wz rfl (aj ?_))))
   obtain rfl:=ah hF
   exact aG (aU (.inr rfl) [(vI 5)] ⟨rfl,trivial⟩ rfl rfl rfl)
  ·refine aB rfl hc_10 (ax (af (af (aa (aH Ls rfl 2 rfl wz (aA 0 0 il ft sz3 ag3 rfl rfl (vI p_1.Zone) rfl wz ?_))))))
   obtain ⟨r_11,hr_12,hF⟩:=bind_some hF
   refine aI (bg hr_12) rfl rA rfl rfl rfl rfl wz (aj ?_)
   rcases au hF with⟨hc_13,hF⟩|⟨hc_13,hF⟩
   ·refine aC rfl hc_13 (af (aa (ae (vI 1) wz rfl (aj ?_))))
    obtain rfl:=ah hF
    exact aG (aU (.inr rfl) [(vI 1)] ⟨rfl,trivial⟩ rfl rfl rfl)
   ·refine aB rfl hc_13 (ax (af (aa (aH O6 rfl 3 rfl wz (aA 0 0 il ft xU A8 rfl rfl (vL eS p_1.Tags) rfl wz ?_)))))
    obtain ⟨r_14,hr_15,hF⟩:=bind_some hF
    refine aI (ql hr_15) rfl hb76 rfl rfl rfl rfl wz (ae (vI r_14) wz rfl (aj ?_))
    obtain rfl:=ah hF
    exact aG (aU (.inr rfl) [(vI r_14)] ⟨rfl,trivial⟩ rfl rfl rfl)
theorem oZ {wv_1:Window} {r:Int} (hF:fJ wv_1=some r) :
  FnM Tryz.prog 38 [(.d (.agg (Window.enc wv_1)))] [] (vI r) []:=by
 refine FnM.of_wH ⟨Tryz.prog,19,[],[]⟩ rfl Tryz.func38 rfl rfl (lb_ rfl) (by kernel_rfl) ?_
 unfold fJ at hF
 refine af (aa (dL 0 (.inl rfl) [(vI wv_1.From),(vI wv_1.To)] rfl rfl wz (λn_2=>ae (vI 0) wz rfl (aj (af (af ?_))))))
 obtain ⟨v_3,h_4,hF⟩:=bind_some hF
 refine aD (β:=Unit) (λ_=>([(1,(.ref n_2 0 0)),(12,(vB v_3))]:SL_)) (λ_=>([(n_2,some (.cells 2 [(vI wv_1.From),(vI wv_1.To)]))]:Hp)) (λ_=>True) ?_ ?_
 ·refine aa (aH ib rfl 0 rfl wz (aA 0 0 il ft sz3 ag3 rfl rfl (vI wv_1.From) rfl wz (aH iq rfl 1 rfl wz (aA 0 0 il ft sz3 ag3 rfl rfl (vI wv_1.To) rfl wz ?_))))
  obtain ⟨r_5,hr_6,h_4⟩:=bind_some h_4
  refine aI (bg hr_6) rfl rA rfl rfl rfl rfl wz ?_
  rcases au h_4 with⟨hc_7,h_4⟩|⟨hc_7,h_4⟩
  ·refine aF rfl hc_7 wz (ak wa (ak wa (ak wa (ae (vB true) wz rfl (aj ?_)))))
   obtain rfl:=ah h_4
   exact cu
  ·refine aF rfl hc_7 wz (aH iq rfl 1 rfl wa (aA 0 0 il ft sz3 ag3 rfl rfl (vI wv_1.To) rfl wa (ae (vB (decide (wv_1.To>345686400000))) wa rfl (ae (vB (decide (wv_1.To>345686400000))) wz rfl (aj ?_)))))
   obtain rfl:=ah h_4
   exact cu
 ·rintro ⟨⟩ _ sl_ H_ hp_ hq_
  refine aL _ hp_ hq_ ?_
  rcases au hF with⟨hc_8,hF⟩|⟨hc_8,hF⟩
  ·refine aC rfl hc_8 (af (aa (ae (vI 1) wz rfl (aj ?_))))
   obtain rfl:=ah hF
   exact aG (aU (.inr rfl) [(vI 1)] ⟨rfl,trivial⟩ rfl rfl rfl)
  ·refine aB rfl hc_8 (ax (af (af (aa (aH iq rfl 1 rfl wz (aA 0 0 il ft sz3 ag3 rfl rfl (vI wv_1.To) rfl wz (aH ib rfl 0 rfl wz (aA 0 0 il ft sz3 ag3 rfl rfl (vI wv_1.From) rfl wz (ae (vI (w64 (wv_1.To-wv_1.From))) wz rfl (ae (vB (decide ((w64 (wv_1.To-wv_1.From))>34560000000))) wz rfl (aj ?_)))))))))))
   rcases au hF with⟨hc_9,hF⟩|⟨hc_9,hF⟩
   ·refine aC rfl hc_9 (af (aa (ae (vI 2) wz rfl (aj ?_))))
    obtain rfl:=ah hF
    exact aG (aU (.inr rfl) [(vI 2)] ⟨rfl,trivial⟩ rfl rfl rfl)
   ·refine aB rfl hc_9 (ax (af (aa (ae (vI 0) wz rfl (aj ?_)))))
    obtain rfl:=ah hF
    exact aG (aU (.inr rfl) [(vI 0)] ⟨rfl,trivial⟩ rfl rfl rfl)
theorem xB {l_1:(List Entry)} {p_2:Player} {wv_3:Window} {r:Int} (hF:lN l_1 p_2 wv_3=some r) :
  FnM Tryz.prog 21 [(vL Entry.enc l_1),(.d (.agg (Player.enc p_2))),(.d (.agg (Window.enc wv_3)))] [] (vI r) []:=by
 refine FnM.of_wH ⟨Tryz.prog,21,[],[]⟩ rfl Tryz.func21 rfl rfl (lb_ rfl) (by kernel_rfl) ?_
 unfold lN at hF
 refine af (aa (dL 0 (.inl rfl) [(vS p_2.Key),(vS p_2.Screen),(vI p_2.Zone),(vL eS p_2.Tags)] rfl rfl wz (λn_4=>dL 0 (.inl rfl) [(vI wv_3.From),(vI wv_3.To)] rfl rfl wz (λn_5=>ae (vI 0) wz rfl (aj (af (af (aa (ae (vL Entry.enc l_1) wz rfl ?_)))))))))
 obtain ⟨r_6,hr_7,hF⟩:=bind_some hF
 refine aI (oh hr_7) rfl hb36 rfl rfl rfl rfl wz (ae (vI r_6) wz rfl (aj (af (aa (ae (vI r_6) wz rfl (ae (vB (r_6 != 0)) wz rfl (aj ?_)))))))
 rcases au hF with⟨hc_8,hF⟩|⟨hc_8,hF⟩
 ·refine aC rfl hc_8 (af (aa (ae (vI r_6) wz rfl (ae (vI r_6) wz rfl (aj ?_)))))
  obtain rfl:=ah hF
  exact aG (aU (.inr rfl) [(vI r_6)] ⟨rfl,trivial⟩ rfl rfl rfl)
 ·refine aB rfl hc_8 (ax (af (af (aa (aA 0 0 il ft F4 IE rfl rfl (.d (.agg (Player.enc p_2))) rfl wz ?_)))))
  obtain ⟨r_9,hr_10,hF⟩:=bind_some hF
  refine aI (uZ hr_10) rfl hb37 rfl rfl rfl rfl wz (ae (vI r_9) wz rfl (aj (af (aa (ae (vI r_9) wz rfl (ae (vB (r_9 != 0)) wz rfl (aj ?_)))))))
  rcases au hF with⟨hc_11,hF⟩|⟨hc_11,hF⟩
  ·refine aC rfl hc_11 (af (aa (ae (vI r_9) wz rfl (ae (vI r_9) wz rfl (aj ?_)))))
   obtain rfl:=ah hF
   exact aG (aU (.inr rfl) [(vI r_9)] ⟨rfl,trivial⟩ rfl rfl rfl)
  ·refine aB rfl hc_11 (ax (af (aa (aA 0 1 il ft lT qI rfl rfl (.d (.agg (Window.enc wv_3))) rfl wz ?_))))
   obtain ⟨r_12,hr_13,hF⟩:=bind_some hF
   refine aI (oZ hr_13) rfl hb38 rfl rfl rfl rfl wz (ae (vI r_12) wz rfl (aj ?_))
   obtain rfl:=ah hF
   exact aG (aU (.inr rfl) [(vI r_12)] ⟨rfl,trivial⟩ rfl rfl rfl)
theorem rV {x_1:ByteArray} {r:Bool} (hF:cmp_isNaN_string x_1=some r) :
  FnM Tryz.prog 159 [(vS x_1)] [] (vB r) []:=by
 refine FnM.of_wH ⟨Tryz.prog,6,[],[]⟩ rfl Tryz.func159 rfl rfl (lb_ rfl) (by kernel_rfl) ?_
 unfold cmp_isNaN_string at hF
 refine af (aa (ae (vB false) wz rfl (aj (af (aa (ae (vS x_1) wz rfl (ae (vS x_1) wz rfl (ae (vB (sNe x_1 x_1)) wz rfl (ae (vB (sNe x_1 x_1)) wz rfl (aj ?_))))))))))
 obtain rfl:=ah hF
 exact aG (aU (.inr rfl) [(vB (sNe x_1 x_1))] ⟨rfl,trivial⟩ rfl rfl rfl)
theorem zY {x_1:ByteArray} {y_2:ByteArray} {r:Bool} (hF:cmp_Less_string x_1 y_2=some r) :
  FnM Tryz.prog 141 [(vS x_1),(vS y_2)] [] (vB r) []:=by
 refine FnM.of_wH ⟨Tryz.prog,17,[],[]⟩ rfl Tryz.func141 rfl rfl (lb_ rfl) (by kernel_rfl) ?_
 unfold cmp_Less_string at hF
 refine af (aa (ae (vB false) wz rfl (aj (af ?_))))
 obtain ⟨v_3,h_4,hF⟩:=bind_some hF
 refine aD (β:=Unit) (λ_=>([(4,(vB v_3))]:SL_)) (λ_=>([]:Hp)) (λ_=>True) ?_ ?_
 ·refine aa (ae (vS x_1) wz rfl ?_)
  obtain ⟨r_5,hr_6,h_4⟩:=bind_some h_4
  refine aI (rV hr_6) rfl hb159 rfl rfl rfl rfl wz ?_
  rcases au h_4 with⟨hc_7,h_4⟩|⟨hc_7,h_4⟩
  ·refine aF rfl hc_7 wz (ae (vS y_2) wa rfl ?_)
   obtain ⟨r_8,hr_9,h_4⟩:=bind_some h_4
   refine aI (rV hr_9) rfl hb159 rfl rfl rfl rfl wa (ae (vB (!r_8)) wa rfl (ae (vB (!r_8)) wz rfl ?_))
   rcases au h_4 with⟨hc_10,h_4⟩|⟨hc_10,h_4⟩
   ·refine aF rfl hc_10 wz (ak wa (ak wa (ak wa (ae (vB true) wz rfl (ae (vB true) wz rfl (aj ?_))))))
    obtain rfl:=ah h_4
    exact cu
   ·refine aF rfl hc_10 wz (ae (vS x_1) wa rfl (ae (vS y_2) wa rfl (ae (vB (sLt x_1 y_2)) wa rfl (ae (vB (sLt x_1 y_2)) wz rfl (ae (vB (sLt x_1 y_2)) wz rfl (aj ?_))))))
    obtain rfl:=ah h_4
    exact cu
  ·refine aF rfl hc_7 wz (ak wa (ak wa (ak wa (ae (vB false) wz rfl (ae (vB false) wz rfl (ae (vS x_1) wa rfl (ae (vS y_2) wa rfl (ae (vB (sLt x_1 y_2)) wa rfl (ae (vB (sLt x_1 y_2)) wz rfl (ae (vB (sLt x_1 y_2)) wz rfl (aj ?_)))))))))))
   obtain rfl:=ah h_4
   exact cu
 ·rintro ⟨⟩ _ sl_ H_ hp_ hq_
  refine aL _ hp_ hq_ ?_
  obtain rfl:=ah hF
  exact aG (aU (.inr rfl) [(vB v_3)] ⟨rfl,trivial⟩ rfl rfl rfl)
theorem pO {x_1:ByteArray} {r:Bool} (hF:slices_isNaN_string x_1=some r) :
  FnM Tryz.prog 142 [(vS x_1)] [] (vB r) []:=by
 refine FnM.of_wH ⟨Tryz.prog,6,[],[]⟩ rfl Tryz.func142 rfl rfl (lb_ rfl) (by kernel_rfl) ?_
 unfold slices_isNaN_string at hF
 refine af (aa (ae (vB false) wz rfl (aj (af (aa (ae (vS x_1) wz rfl (ae (vS x_1) wz rfl (ae (vB (sNe x_1 x_1)) wz rfl (ae (vB (sNe x_1 x_1)) wz rfl (aj ?_))))))))))
 obtain rfl:=ah hF
 exact aG (aU (.inr rfl) [(vB (sNe x_1 x_1))] ⟨rfl,trivial⟩ rfl rfl rfl)
theorem nX {x_1:(List ByteArray)} {target_2:ByteArray} {r:Int×Bool} (hF:dM x_1 target_2=some r) :
  FnM Tryz.prog 117 [(vL eS x_1),(vS target_2)] [] (.tup [(vI r.1),(vB r.2)]) []:=by
 refine FnM.of_wH ⟨Tryz.prog,54,[],[]⟩ rfl Tryz.func117 rfl rfl (lb_ rfl) (by kernel_rfl) ?_
 unfold dM at hF
 refine af (aa (ae (vI 0) wz rfl (ae (vB false) wz rfl (aj (af (aa (ae (vL eS x_1) wz rfl (bW yY rfl wz (ae (vI (x_1.length:Int)) wz rfl (aj (af (aa (ae (vI (x_1.length:Int)) wz rfl (ae (vI 0) wz rfl (ae (vI (x_1.length:Int)) wz rfl (aj (af ?_)))))))))))))))))
 obtain ⟨o_11,hj_12,hF⟩:=bind_some hF
 obtain ⟨nq_34,hj_12⟩:=bR hj_12
 refine aD (β:=(Int×Int)) (λ(s_8:Int×Int)=>([(0,(vL eS x_1)),(1,(vS target_2)),(6,(vI (x_1.length:Int))),(7,(vI s_8.1))]:SL_)) (λ(s_8:Int×Int)=>([]:Hp)) (λp=>o_11 = .go p) ?_ ?_
 ·refine ay (aS (β:=Nat×(Int×Int)) (λp=>(λ(k_3:Nat) (s_8:Int×Int)=>([(0,(vL eS x_1)),(1,(vS target_2)),(6,(vI (x_1.length:Int))),(7,(vI s_8.1)),(8,(vI s_8.2))]:SL_)) p.1 p.2) (λp=>(λ(k_3:Nat) (s_8:Int×Int)=>([]:Hp)) p.1 p.2) (λp=>iterN (λs=>aX x_1 target_2 s) p.1 p.2=some o_11) (λp=>p.1) (nq_34,(0,(x_1.length:Int))) hj_12 rfl (aJ rfl) ?_)
  rintro ⟨k_3,s_8⟩ hL_10
  dsimp only at hL_10
  cases k_3 with
  | zero=>cases hL_10
  | succ k_3 =>
   obtain ⟨c_,hc_9,hL_10⟩:=bind_some hL_10
   unfold aX at hc_9
   refine af (af (aa (ae (vI s_8.1) wz rfl (ae (vI s_8.2) wz rfl (ae (vB (decide (s_8.1<s_8.2))) wz rfl (aj ?_))))))
   rcases au hc_9 with⟨hc_13,hc_9⟩|⟨hc_13,hc_9⟩
   ·refine aC rfl hc_13 (ax (ay (af (aa (ae (vI s_8.1) wz rfl (ae (vI s_8.2) wz rfl (ae (vI (w64 (s_8.1+s_8.2))) wz rfl (nD un3 K8 rfl wz ?_))))))))
    obtain ⟨q_14,hz_15,hc_9⟩:=bind_some hc_9
    refine Jj rfl rfl hz_15 wz (nD K8 un3 rfl wz (ae (vI (w64 q_14)) wz rfl (aj (af (aa (ae (vL eS x_1) wz rfl (ae (vI (w64 q_14)) wz rfl ?_)))))))
    obtain ⟨y_16,hy_17,hc_9⟩:=bind_some hc_9
    refine dK qy rfl rfl hy_17 rfl wz (bB sz9 ag9 rfl (vS y_16) rfl wz (ae (vS target_2) wz rfl ?_))
    obtain ⟨r_18,hr_19,hc_9⟩:=bind_some hc_9
    refine aI (zY hr_19) rfl hb141 rfl rfl rfl rfl wz (aj ?_)
    rcases au hc_9 with⟨hc_20,hc_9⟩|⟨hc_20,hc_9⟩
    ·refine aC rfl hc_20 (aa (ae (vI (w64 q_14)) wz rfl (ae (vI (w64 ((w64 q_14)+1))) wz rfl (ae (vI (w64 ((w64 q_14)+1))) wz rfl (aj ?_)))))
     obtain rfl:=ah hc_9
     exact aO (k_3,((w64 ((w64 q_14)+1)),s_8.2)) hL_10 (ls_ _) rfl (aJ rfl)
    ·refine aB rfl hc_20 (aa (ae (vI (w64 q_14)) wz rfl (ae (vI (w64 q_14)) wz rfl (aj ?_))))
     obtain rfl:=ah hc_9
     exact aO (k_3,(s_8.1,(w64 q_14))) hL_10 (ls_ _) rfl (aJ rfl)
   ·refine aB rfl hc_13 (aP ?_)
    obtain rfl:=ah hc_9
    obtain rfl:=ah hL_10
    exact aN ((s_8.1,s_8.2)) rfl rfl (aJ rfl)
 ·rintro s_8 ho_ sl_ H_ hp_ hq_
  subst ho_
  refine aL _ hp_ hq_ (af ?_)
  obtain ⟨v_21,h_22,hF⟩:=bind_some hF
  refine aD (β:=Unit) (λ_=>([(4,(vI s_8.1)),(5,(vB v_21))]:SL_)) (λ_=>([]:Hp)) (λ_=>True) ?_ ?_
  ·refine aa (ae (vI s_8.1) wz rfl (ae (vI s_8.1) wz rfl (ae (vI (x_1.length:Int)) wz rfl (ae (vB (decide (s_8.1<(x_1.length:Int)))) wz rfl ?_))))
   rcases au h_22 with⟨hc_23,h_22⟩|⟨hc_23,h_22⟩
   ·refine aF rfl hc_23 wz (ae (vL eS x_1) wa rfl (ae (vI s_8.1) wa rfl ?_))
    obtain ⟨y_24,hy_25,h_22⟩:=bind_some h_22
    refine dK qy rfl rfl hy_25 rfl wa (bB sz9 ag9 rfl (vS y_24) rfl wa (ae (vS target_2) wa rfl (ae (vB (sEq y_24 target_2)) wa rfl ?_)))
    rcases au h_22 with⟨hc_26,h_22⟩|⟨hc_26,h_22⟩
    ·refine aF rfl hc_26 wa (ak wa (ak wa (ak wa (ak wa (ak wa (ak wa (ak (wn rfl rfl) (ak (wn rfl rfl) (ak wa (ae (vB true) wa rfl (ae (vB true) wz rfl (ae (vI s_8.1) wz rfl (ae (vB true) wz rfl (aj ?_))))))))))))))
     obtain rfl:=ah h_22
     exact cu
    ·refine aF rfl hc_26 wa (ae (vL eS x_1) wa rfl (ae (vI s_8.1) wa rfl ?_))
     obtain ⟨y_27,hy_28,h_22⟩:=bind_some h_22
     refine dK qy rfl rfl hy_28 rfl wa (bB sz9 ag9 rfl (vS y_27) rfl wa ?_)
     obtain ⟨r_29,hr_30,h_22⟩:=bind_some h_22
     refine aI (pO hr_30) rfl hb142 rfl rfl rfl rfl wa ?_
     rcases au h_22 with⟨hc_31,h_22⟩|⟨hc_31,h_22⟩
     ·refine aF rfl hc_31 wa (ae (vS target_2) wa rfl ?_)
      obtain ⟨r_32,hr_33,h_22⟩:=bind_some h_22
      refine aI (pO hr_33) rfl hb142 rfl rfl rfl rfl wa (ae (vB r_32) wa rfl (ae (vB r_32) wa rfl (ae (vB r_32) wz rfl (ae (vI s_8.1) wz rfl (ae (vB r_32) wz rfl (aj ?_))))))
      obtain rfl:=ah h_22
      exact cu
     ·refine aF rfl hc_31 wa (ak wa (ak wa (ae (vB false) wa rfl (ae (vB false) wa rfl (ae (vB false) wz rfl (ae (vI s_8.1) wz rfl (ae (vB false) wz rfl (aj ?_))))))))
      obtain rfl:=ah h_22
      exact cu
   ·refine aF rfl hc_23 wz (ak wa (ak wa (ak wa (ak wa (ak wa (ak wa (ak wa (ak (wn rfl rfl) (ak (wn rfl rfl) (ak (wn rfl rfl) (ak (wn rfl rfl) (ak (wn rfl rfl) (ak (wn rfl rfl) (ak (wn rfl rfl) (ak (wn rfl rfl) (ak (wn rfl rfl) (ak wa (ae (vB false) wz rfl (ae (vI s_8.1) wz rfl (ae (vB false) wz rfl (aj ?_)))))))))))))))))))))
    obtain rfl:=ah h_22
    exact cu
  ·rintro ⟨⟩ _ sl_ H_ hp_ hq_
   refine aL _ hp_ hq_ ?_
   obtain rfl:=ah hF
   exact aG (aU (.inr rfl) [(vI s_8.1),(vB v_21)] ⟨rfl,⟨rfl,trivial⟩⟩ rfl rfl rfl)
theorem vN {e_1:Entry} {p_2:Player} {r:Bool} (hF:nZ e_1 p_2=some r) :
  FnM Tryz.prog 77 [(.d (.agg (Entry.enc e_1))),(.d (.agg (Player.enc p_2)))] [] (vB r) []:=by
 refine FnM.of_wH ⟨Tryz.prog,26,[],[]⟩ rfl Tryz.func77 rfl rfl (lb_ rfl) (by kernel_rfl) ?_
 unfold nZ at hF
 refine af (aa (dL 0 (.inl rfl) [(vS e_1.Key),(vS e_1.Item),(vI e_1.Version),(vI e_1.First),(vI e_1.Last),(vI e_1.Every),(vI e_1.Days),(vL eI e_1.Except),(vI e_1.From),(vI e_1.To),(vI e_1.Prio),(vL eS e_1.Tags),(vB e_1.Gone)] rfl rfl wz (λn_3=>dL 0 (.inl rfl) [(vS p_2.Key),(vS p_2.Screen),(vI p_2.Zone),(vL eS p_2.Tags)] rfl rfl wz (λn_4=>ae (vB false) wz rfl (aj (af (af (aa (aH DI rfl 11 rfl wz (aA 0 0 il ft xU A8 rfl rfl (vL eS e_1.Tags) rfl wz (bW yY rfl wz (ae (vI 0) wz rfl (aj ?_)))))))))))))
 obtain ⟨o_13,hj_14,hF⟩:=bind_some hF
 obtain ⟨hn_9,hj_14⟩:=aV hj_14
 refine aD (β:=(Unit)) (λ(s_10:Unit)=>([]:SL_)) (λ(s_10:Unit)=>([(n_3,some (.cells 13 [(vS e_1.Key),(vS e_1.Item),(vI e_1.Version),(vI e_1.First),(vI e_1.Last),(vI e_1.Every),(vI e_1.Days),(vL eI e_1.Except),(vI e_1.From),(vI e_1.To),(vI e_1.Prio),(vL eS e_1.Tags),(vB e_1.Gone)])),(n_4,some (.cells 4 [(vS p_2.Key),(vS p_2.Screen),(vI p_2.Zone),(vL eS p_2.Tags)]))]:Hp)) (λp=>o_13 = .go p) ?_ ?_
 ·refine ay (aS (β:=Nat×(List ByteArray)×(Unit)) (λp=>(λ(k_5:Nat) (l_6:List ByteArray) (s_10:Unit)=>([(3,(.ref n_4 0 0)),(10,(vL eS e_1.Tags)),(11,(vI (e_1.Tags.length:Int))),(12,(vI (k_5:Int)))]:SL_)) p.1 p.2.1 p.2.2) (λp=>(λ(k_5:Nat) (l_6:List ByteArray) (s_10:Unit)=>([(n_3,some (.cells 13 [(vS e_1.Key),(vS e_1.Item),(vI e_1.Version),(vI e_1.First),(vI e_1.Last),(vI e_1.Every),(vI e_1.Days),(vL eI e_1.Except),(vI e_1.From),(vI e_1.To),(vI e_1.Prio),(vL eS e_1.Tags),(vB e_1.Gone)])),(n_4,some (.cells 4 [(vS p_2.Key),(vS p_2.Screen),(vI p_2.Zone),(vL eS p_2.Tags)]))]:Hp)) p.1 p.2.1 p.2.2) (λp=>forR (λk x s=>jK p_2 k x s) p.2.1 p.1 p.2.2=some o_13/\(e_1.Tags).drop p.1=p.2.1) (λp=>p.2.1.length) (0,e_1.Tags,()) ⟨hj_14,rfl⟩ rfl (aJ rfl) ?_)
  rintro ⟨k_5,l_6,s_10⟩ ⟨hL_12,hD_8⟩
  dsimp only at hL_12 hD_8
  cases l_6 with
  | nil =>
   obtain rfl:=ah hL_12
   refine af (aa (ae (vB (decide ((k_5:Int)<(e_1.Tags.length:Int)))) wz rfl (aj ?_)))
   refine af (aB rfl (drop_nil hD_8) (aP ?_))
   exact aN (s_10) rfl rfl (aJ rfl)
  | cons x_7 l_6 =>
   obtain ⟨c_,hc_11,hL_12⟩:=bind_some hL_12
   refine af (aa (ae (vB (decide ((k_5:Int)<(e_1.Tags.length:Int)))) wz rfl (aj ?_)))
   refine af (aC rfl (bf hD_8) (ax ?_))
   unfold jK at hc_11
   refine af (ay (af (aa (dK qy rfl rfl (bG hD_8) rfl wz (bB sz9 ag9 rfl (vS x_7) rfl wz (ae (vS x_7) wz rfl (aj (af (aa (aH O6 rfl 3 rfl wz (aA 0 1 il ft xU A8 rfl rfl (vL eS p_2.Tags) rfl wz (ae (vS x_7) wz rfl ?_))))))))))))
   obtain ⟨r_15,hr_16,hc_11⟩:=bind_some hc_11
   refine aI (nX hr_16) rfl hb117 rfl rfl rfl rfl wz (ae (.tup [(vI r_15.1),(vB r_15.2)]) wz rfl (ae (vI r_15.1) wz rfl (ae (vB r_15.2) wz rfl (ae (vI r_15.1) wz rfl (ae (vB r_15.2) wz rfl (aj (af (aa (ae (vB r_15.2) wz rfl (ae (vB (!r_15.2)) wz rfl (aj ?_)))))))))))
   rcases au hc_11 with⟨hc_17,hc_11⟩|⟨hc_17,hc_11⟩
   ·refine aC rfl hc_17 (af (aa (ae (vB false) wz rfl (aj ?_))))
    obtain rfl:=ah hc_11
    obtain rfl:=ah hL_12
    obtain rfl:=ah hF
    exact aG (aU (.inr rfl) [(vB false)] ⟨rfl,trivial⟩ rfl rfl rfl)
   ·refine aB rfl hc_17 (ax (aa (fu (bA hD_8 hn_9) wz rfl (ae (vI ((k_5+1:Nat):Int)) wz rfl (aj ?_)))))
    obtain rfl:=ah hc_11
    exact aO (k_5+1,l_6,()) ⟨hL_12,aR hD_8⟩ (ls_ _) rfl (aJ rfl)
 ·rintro s_10 ho_ sl_ H_ hp_ hq_
  subst ho_
  refine aL _ hp_ hq_ (af (aa (ae (vB true) wz rfl (aj ?_))))
  obtain rfl:=ah hF
  exact aG (aU (.inr rfl) [(vB true)] ⟨rfl,trivial⟩ rfl rfl rfl)
theorem Dh {x_1:Int} {y_2:Int} {r:Bool} (hF:cmp_Less_int x_1 y_2=some r) :
  FnM Tryz.prog 110 [(vI x_1),(vI y_2)] [] (vB r) []:=by
 refine FnM.of_wH ⟨Tryz.prog,17,[],[]⟩ rfl Tryz.func110 rfl rfl (lb_ rfl) (by kernel_rfl) ?_
 unfold cmp_Less_int at hF
 refine af (aa (ae (vB false) wz rfl (aj (af ?_))))
 obtain ⟨v_3,h_4,hF⟩:=bind_some hF
 refine aD (β:=Unit) (λ_=>([(4,(vB v_3))]:SL_)) (λ_=>([]:Hp)) (λ_=>True) ?_ ?_
 ·refine aa (ae (vI x_1) wz rfl ?_)
  obtain ⟨r_5,hr_6,h_4⟩:=bind_some h_4
  refine aI (nL hr_6) rfl hb79 rfl rfl rfl rfl wz ?_
  rcases au h_4 with⟨hc_7,h_4⟩|⟨hc_7,h_4⟩
  ·refine aF rfl hc_7 wz (ae (vI y_2) wa rfl ?_)
   obtain ⟨r_8,hr_9,h_4⟩:=bind_some h_4
   refine aI (nL hr_9) rfl hb79 rfl rfl rfl rfl wa (ae (vB (!r_8)) wa rfl (ae (vB (!r_8)) wz rfl ?_))
   rcases au h_4 with⟨hc_10,h_4⟩|⟨hc_10,h_4⟩
   ·refine aF rfl hc_10 wz (ak wa (ak wa (ak wa (ae (vB true) wz rfl (ae (vB true) wz rfl (aj ?_))))))
    obtain rfl:=ah h_4
    exact cu
   ·refine aF rfl hc_10 wz (ae (vI x_1) wa rfl (ae (vI y_2) wa rfl (ae (vB (decide (x_1<y_2))) wa rfl (ae (vB (decide (x_1<y_2))) wz rfl (ae (vB (decide (x_1<y_2))) wz rfl (aj ?_))))))
    obtain rfl:=ah h_4
    exact cu
  ·refine aF rfl hc_7 wz (ak wa (ak wa (ak wa (ae (vB false) wz rfl (ae (vB false) wz rfl (ae (vI x_1) wa rfl (ae (vI y_2) wa rfl (ae (vB (decide (x_1<y_2))) wa rfl (ae (vB (decide (x_1<y_2))) wz rfl (ae (vB (decide (x_1<y_2))) wz rfl (aj ?_)))))))))))
   obtain rfl:=ah h_4
   exact cu
 ·rintro ⟨⟩ _ sl_ H_ hp_ hq_
  refine aL _ hp_ hq_ ?_
  obtain rfl:=ah hF
  exact aG (aU (.inr rfl) [(vB v_3)] ⟨rfl,trivial⟩ rfl rfl rfl)
theorem rU {x_1:Int} {r:Bool} (hF:gX x_1=some r) :
  FnM Tryz.prog 148 [(vI x_1)] [] (vB r) []:=by
 refine FnM.of_wH ⟨Tryz.prog,6,[],[]⟩ rfl Tryz.func148 rfl rfl (lb_ rfl) (by kernel_rfl) ?_
 unfold gX at hF
 refine af (aa (ae (vB false) wz rfl (aj (af (aa (ae (vI x_1) wz rfl (ae (vI x_1) wz rfl (ae (vB (x_1 != x_1)) wz rfl (ae (vB (x_1 != x_1)) wz rfl (aj ?_))))))))))
 obtain rfl:=ah hF
 exact aG (aU (.inr rfl) [(vB (x_1 != x_1))] ⟨rfl,trivial⟩ rfl rfl rfl)
theorem qA {x_1:(List Int)} {target_2:Int} {r:Int×Bool} (hF:dA x_1 target_2=some r) :
  FnM Tryz.prog 131 [(vL eI x_1),(vI target_2)] [] (.tup [(vI r.1),(vB r.2)]) []:=by
 refine FnM.of_wH ⟨Tryz.prog,54,[],[]⟩ rfl Tryz.func131 rfl rfl (lb_ rfl) (by kernel_rfl) ?_
 unfold dA at hF
 refine af (aa (ae (vI 0) wz rfl (ae (vB false) wz rfl (aj (af (aa (ae (vL eI x_1) wz rfl (bW wO rfl wz (ae (vI (x_1.length:Int)) wz rfl (aj (af (aa (ae (vI (x_1.length:Int)) wz rfl (ae (vI 0) wz rfl (ae (vI (x_1.length:Int)) wz rfl (aj (af ?_)))))))))))))))))
 obtain ⟨o_11,hj_12,hF⟩:=bind_some hF
 obtain ⟨nq_34,hj_12⟩:=bR hj_12
 refine aD (β:=(Int×Int)) (λ(s_8:Int×Int)=>([(0,(vL eI x_1)),(1,(vI target_2)),(6,(vI (x_1.length:Int))),(7,(vI s_8.1))]:SL_)) (λ(s_8:Int×Int)=>([]:Hp)) (λp=>o_11 = .go p) ?_ ?_
 ·refine ay (aS (β:=Nat×(Int×Int)) (λp=>(λ(k_3:Nat) (s_8:Int×Int)=>([(0,(vL eI x_1)),(1,(vI target_2)),(6,(vI (x_1.length:Int))),(7,(vI s_8.1)),(8,(vI s_8.2))]:SL_)) p.1 p.2) (λp=>(λ(k_3:Nat) (s_8:Int×Int)=>([]:Hp)) p.1 p.2) (λp=>iterN (λs=>bu x_1 target_2 s) p.1 p.2=some o_11) (λp=>p.1) (nq_34,(0,(x_1.length:Int))) hj_12 rfl (aJ rfl) ?_)
  rintro ⟨k_3,s_8⟩ hL_10
  dsimp only at hL_10
  cases k_3 with
  | zero=>cases hL_10
  | succ k_3 =>
   obtain ⟨c_,hc_9,hL_10⟩:=bind_some hL_10
   unfold bu at hc_9
   refine af (af (aa (ae (vI s_8.1) wz rfl (ae (vI s_8.2) wz rfl (ae (vB (decide (s_8.1<s_8.2))) wz rfl (aj ?_))))))
   rcases au hc_9 with⟨hc_13,hc_9⟩|⟨hc_13,hc_9⟩
   ·refine aC rfl hc_13 (ax (ay (af (aa (ae (vI s_8.1) wz rfl (ae (vI s_8.2) wz rfl (ae (vI (w64 (s_8.1+s_8.2))) wz rfl (nD un3 K8 rfl wz ?_))))))))
    obtain ⟨q_14,hz_15,hc_9⟩:=bind_some hc_9
    refine Jj rfl rfl hz_15 wz (nD K8 un3 rfl wz (ae (vI (w64 q_14)) wz rfl (aj (af (aa (ae (vL eI x_1) wz rfl (ae (vI (w64 q_14)) wz rfl ?_)))))))
    obtain ⟨y_16,hy_17,hc_9⟩:=bind_some hc_9
    refine dK jf rfl rfl hy_17 rfl wz (bB sz3 ag3 rfl (vI y_16) rfl wz (ae (vI target_2) wz rfl ?_))
    obtain ⟨r_18,hr_19,hc_9⟩:=bind_some hc_9
    refine aI (Dh hr_19) rfl hb110 rfl rfl rfl rfl wz (aj ?_)
    rcases au hc_9 with⟨hc_20,hc_9⟩|⟨hc_20,hc_9⟩
    ·refine aC rfl hc_20 (aa (ae (vI (w64 q_14)) wz rfl (ae (vI (w64 ((w64 q_14)+1))) wz rfl (ae (vI (w64 ((w64 q_14)+1))) wz rfl (aj ?_)))))
     obtain rfl:=ah hc_9
     exact aO (k_3,((w64 ((w64 q_14)+1)),s_8.2)) hL_10 (ls_ _) rfl (aJ rfl)
    ·refine aB rfl hc_20 (aa (ae (vI (w64 q_14)) wz rfl (ae (vI (w64 q_14)) wz rfl (aj ?_))))
     obtain rfl:=ah hc_9
     exact aO (k_3,(s_8.1,(w64 q_14))) hL_10 (ls_ _) rfl (aJ rfl)
   ·refine aB rfl hc_13 (aP ?_)
    obtain rfl:=ah hc_9
    obtain rfl:=ah hL_10
    exact aN ((s_8.1,s_8.2)) rfl rfl (aJ rfl)
 ·rintro s_8 ho_ sl_ H_ hp_ hq_
  subst ho_
  refine aL _ hp_ hq_ (af ?_)
  obtain ⟨v_21,h_22,hF⟩:=bind_some hF
  refine aD (β:=Unit) (λ_=>([(4,(vI s_8.1)),(5,(vB v_21))]:SL_)) (λ_=>([]:Hp)) (λ_=>True) ?_ ?_
  ·refine aa (ae (vI s_8.1) wz rfl (ae (vI s_8.1) wz rfl (ae (vI (x_1.length:Int)) wz rfl (ae (vB (decide (s_8.1<(x_1.length:Int)))) wz rfl ?_))))
   rcases au h_22 with⟨hc_23,h_22⟩|⟨hc_23,h_22⟩
   ·refine aF rfl hc_23 wz (ae (vL eI x_1) wa rfl (ae (vI s_8.1) wa rfl ?_))
    obtain ⟨y_24,hy_25,h_22⟩:=bind_some h_22
    refine dK jf rfl rfl hy_25 rfl wa (bB sz3 ag3 rfl (vI y_24) rfl wa (ae (vI target_2) wa rfl (ae (vB (y_24==target_2)) wa rfl ?_)))
    rcases au h_22 with⟨hc_26,h_22⟩|⟨hc_26,h_22⟩
    ·refine aF rfl hc_26 wa (ak wa (ak wa (ak wa (ak wa (ak wa (ak wa (ak (wn rfl rfl) (ak (wn rfl rfl) (ak wa (ae (vB true) wa rfl (ae (vB true) wz rfl (ae (vI s_8.1) wz rfl (ae (vB true) wz rfl (aj ?_))))))))))))))
     obtain rfl:=ah h_22
     exact cu
    ·refine aF rfl hc_26 wa (ae (vL eI x_1) wa rfl (ae (vI s_8.1) wa rfl ?_))
     obtain ⟨y_27,hy_28,h_22⟩:=bind_some h_22
     refine dK jf rfl rfl hy_28 rfl wa (bB sz3 ag3 rfl (vI y_27) rfl wa ?_)
     obtain ⟨r_29,hr_30,h_22⟩:=bind_some h_22
     refine aI (rU hr_30) rfl hb148 rfl rfl rfl rfl wa ?_
     rcases au h_22 with⟨hc_31,h_22⟩|⟨hc_31,h_22⟩
     ·refine aF rfl hc_31 wa (ae (vI target_2) wa rfl ?_)
      obtain ⟨r_32,hr_33,h_22⟩:=bind_some h_22
      refine aI (rU hr_33) rfl hb148 rfl rfl rfl rfl wa (ae (vB r_32) wa rfl (ae (vB r_32) wa rfl (ae (vB r_32) wz rfl (ae (vI s_8.1) wz rfl (ae (vB r_32) wz rfl (aj ?_))))))
      obtain rfl:=ah h_22
      exact cu
     ·refine aF rfl hc_31 wa (ak wa (ak wa (ae (vB false) wa rfl (ae (vB false) wa rfl (ae (vB false) wz rfl (ae (vI s_8.1) wz rfl (ae (vB false) wz rfl (aj ?_))))))))
      obtain rfl:=ah h_22
      exact cu
   ·refine aF rfl hc_23 wz (ak wa (ak wa (ak wa (ak wa (ak wa (ak wa (ak wa (ak (wn rfl rfl) (ak (wn rfl rfl) (ak (wn rfl rfl) (ak (wn rfl rfl) (ak (wn rfl rfl) (ak (wn rfl rfl) (ak (wn rfl rfl) (ak (wn rfl rfl) (ak (wn rfl rfl) (ak wa (ae (vB false) wz rfl (ae (vI s_8.1) wz rfl (ae (vB false) wz rfl (aj ?_)))))))))))))))))))))
    obtain rfl:=ah h_22
    exact cu
  ·rintro ⟨⟩ _ sl_ H_ hp_ hq_
   refine aL _ hp_ hq_ ?_
   obtain rfl:=ah hF
   exact aG (aU (.inr rfl) [(vI s_8.1),(vB v_21)] ⟨rfl,⟨rfl,trivial⟩⟩ rfl rfl rfl)
theorem uE {e_1:Entry} {d_2:Int} {r:Bool} (hF:jT e_1 d_2=some r) :
  FnM Tryz.prog 93 [(.d (.agg (Entry.enc e_1))),(vI d_2)] [] (vB r) []:=by
 refine FnM.of_wH ⟨Tryz.prog,41,[],[]⟩ rfl Tryz.func93 rfl rfl (lb_ rfl) (by kernel_rfl) ?_
 unfold jT at hF
 refine af (aa (dL 0 (.inl rfl) [(vS e_1.Key),(vS e_1.Item),(vI e_1.Version),(vI e_1.First),(vI e_1.Last),(vI e_1.Every),(vI e_1.Days),(vL eI e_1.Except),(vI e_1.From),(vI e_1.To),(vI e_1.Prio),(vL eS e_1.Tags),(vB e_1.Gone)] rfl rfl wz (λn_3=>ae (vB false) wz rfl (aj (af (af ?_))))))
 obtain ⟨v_4,h_5,hF⟩:=bind_some hF
 refine aD (β:=Unit) (λ_=>([(1,(vI d_2)),(2,(.ref n_3 0 0)),(31,(vB v_4))]:SL_)) (λ_=>([(n_3,some (.cells 13 [(vS e_1.Key),(vS e_1.Item),(vI e_1.Version),(vI e_1.First),(vI e_1.Last),(vI e_1.Every),(vI e_1.Days),(vL eI e_1.Except),(vI e_1.From),(vI e_1.To),(vI e_1.Prio),(vL eS e_1.Tags),(vB e_1.Gone)]))]:Hp)) (λ_=>True) ?_ ?_
 ·refine aW (ae (vI d_2) wz rfl (aH BG rfl 3 rfl wz (aA 2 0 (.inr (by kernel_rfl)) (λ_ _ ag=>trivial) sz3 ag3 rfl rfl (vI e_1.First) rfl wz (aH Cx rfl 4 rfl wz (aA 4 0 (.inr (by kernel_rfl)) (λ_ _ ag=>⟨.inl ⟨rfl,rfl⟩,trivial⟩) sz3 ag3 rfl rfl (vI e_1.Last) rfl wz ?_)))))
  obtain ⟨r_6,hr_7,h_5⟩:=bind_some h_5
  refine aI (bg hr_7) rfl rA rfl rfl rfl rfl wz ?_
  rcases au h_5 with⟨hc_8,h_5⟩|⟨hc_8,h_5⟩
  ·refine aF rfl hc_8 wz (ak wa (ak wa (ak wa (ak wa (ak wa (ak wa (ak wa (ak wa (ae (vB true) wz rfl (ae (vB true) wz rfl (ak wa (ak wa (ak wa (ak wa (ak wa (ak wa (ak wa (ae (vB true) wz rfl (aj ?_)))))))))))))))))))
   obtain rfl:=ah h_5
   exact cu
  ·refine aF rfl hc_8 wz (ae (vI d_2) wa rfl (aH BG rfl 3 rfl wa (aA 9 0 (.inr (by kernel_rfl)) (λ_ _ ag=>⟨.inl ⟨rfl,rfl⟩,⟨.inl ⟨rfl,rfl⟩,trivial⟩⟩) sz3 ag3 rfl rfl (vI e_1.First) rfl wa (ae (vI (w64 (d_2-e_1.First))) wa rfl (aH O4 rfl 5 rfl wa (aA 12 0 (.inr (by kernel_rfl)) (λ_ _ ag=>⟨.inl ⟨rfl,rfl⟩,⟨.inl ⟨rfl,rfl⟩,⟨.inl ⟨rfl,rfl⟩,trivial⟩⟩⟩) sz3 ag3 rfl rfl (vI e_1.Every) rfl wa ?_))))))
   obtain ⟨q_9,hz_10,h_5⟩:=bind_some h_5
   refine Ox rfl rfl hz_10 wa (ae (vB (q_9 != 0)) wa rfl (ae (vB (q_9 != 0)) wz rfl ?_))
   rcases au h_5 with⟨hc_11,h_5⟩|⟨hc_11,h_5⟩
   ·refine aF rfl hc_11 wz (ak wa (ak wa (ak wa (ak wa (ak wa (ak wa (ak wa (ae (vB true) wz rfl (aj ?_)))))))))
    obtain rfl:=ah h_5
    exact cu
   ·refine aF rfl hc_11 wz (aH Pb rfl 6 rfl wa (aA 18 0 (.inr (by kernel_rfl)) (λ_ _ ag=>⟨.inl ⟨rfl,rfl⟩,⟨.inl ⟨rfl,rfl⟩,⟨.inl ⟨rfl,rfl⟩,⟨.inl ⟨rfl,rfl⟩,trivial⟩⟩⟩⟩) sz3 ag3 rfl rfl (vI e_1.Days) rfl wa (ae (vI d_2) wa rfl (ae (vI (d_2.tmod 7)) wa rfl ?_))))
    obtain ⟨q_12,hz_13,h_5⟩:=bind_some h_5
    refine C9 rfl rfl hz_13 wa (ae (vI (ru .i64 e_1.Days q_12)) wa rfl (ae (vB ((ru .i64 e_1.Days q_12)==0)) wa rfl (ae (vB ((ru .i64 e_1.Days q_12)==0)) wz rfl (aj ?_))))
    obtain rfl:=ah h_5
    exact cu
 ·rintro ⟨⟩ _ sl_ H_ hp_ hq_
  refine aL _ hp_ hq_ ?_
  rcases au hF with⟨hc_14,hF⟩|⟨hc_14,hF⟩
  ·refine aC rfl hc_14 (af (aa (ae (vB false) wz rfl (aj ?_))))
   obtain rfl:=ah hF
   exact aG (aU (.inr rfl) [(vB false)] ⟨rfl,trivial⟩ rfl rfl rfl)
  ·refine aB rfl hc_14 (ax (af (aa (aH H8 rfl 7 rfl wz (aA 0 0 il ft zK BI rfl rfl (vL eI e_1.Except) rfl wz (ae (vI d_2) wz rfl ?_))))))
   obtain ⟨r_15,hr_16,hF⟩:=bind_some hF
   refine aI (qA hr_16) rfl hb131 rfl rfl rfl rfl wz (ae (.tup [(vI r_15.1),(vB r_15.2)]) wz rfl (ae (vI r_15.1) wz rfl (ae (vB r_15.2) wz rfl (ae (vI r_15.1) wz rfl (ae (vB r_15.2) wz rfl (aj (af (aa (ae (vB r_15.2) wz rfl (ae (vB (!r_15.2)) wz rfl (ae (vB (!r_15.2)) wz rfl (aj ?_))))))))))))
   obtain rfl:=ah hF
   exact aG (aU (.inr rfl) [(vB (!r_15.2))] ⟨rfl,trivial⟩ rfl rfl rfl)
end Go.Proofs.YticmkhcacamhkaaGreatDoor.Law

