/-
 The machine computes these plain functions (written by a program of ours).
-/
import Derived.Test.YticmkhcacamhkaaGreatDoorFacts
import Derived.Test.YticmkhcacamhkaaGreatDoorDefs
import Derived.Test.YticmkhcacamhkaaGreatDoorPf5
open Go Go.Eng Go.Proofs
namespace Go.Proofs.YticmkhcacamhkaaGreatDoor.Law
set_option maxRecDepth 100000
set_option linter.unusedVariables false
set_option maxHeartbeats 1000000
theorem yZ {l_1:(List Entry)} {p_2:Player} {wv_3:Window} {r:(List Slot_)} (hF:kT l_1 p_2 wv_3=some r) :
  FnM Tryz.prog 22 [(vL Entry.enc l_1),(.d (.agg (Player.enc p_2))),(.d (.agg (Window.enc wv_3)))] [] (vL Slot_.enc r) []:=by
 refine FnM.of_wH ⟨Tryz.prog,111,[],[]⟩ rfl Tryz.func22 rfl rfl (lb_ rfl) (by kernel_rfl) ?_
 unfold kT at hF
 refine af (aa (dL 0 (.inl rfl) [(vS p_2.Key),(vS p_2.Screen),(vI p_2.Zone),(vL eS p_2.Tags)] rfl rfl wz (λn_4=>dL 0 (.inl rfl) [(vI wv_3.From),(vI wv_3.To)] rfl rfl wz (λn_5=>ae .nil wz rfl (aj (af (aa (ae (vL Entry.enc l_1) wz rfl (aA 0 0 il ft F4 IE rfl rfl (.d (.agg (Player.enc p_2))) rfl wz (aA 0 1 il ft lT qI rfl rfl (.d (.agg (Window.enc wv_3))) rfl wz ?_))))))))))
 obtain ⟨r_6,hr_7,hF⟩:=bind_some hF
 refine MM [] (Ak hr_7) rfl hb39 rfl (by kernel_rfl) (by kernel_rfl) (by kernel_rfl) (by kernel_rfl) (by kernel_rfl) rfl (by decide) (by kernel_rfl) wz ([(n_4,some (.cells 4 [(vS p_2.Key),(vS p_2.Screen),(vI p_2.Zone),(vL eS p_2.Tags)])),(n_5,some (.cells 2 [(vI wv_3.From),(vI wv_3.To)]))]:Hp) (λ_=>by kernel_rfl) (λn_9=>ae (gV n_9 3 r_6) wz rfl (aj (af (aa (ae (gV n_9 3 r_6) wz rfl ?_)))))
 obtain ⟨r_10,hr_11,hF⟩:=bind_some hF
 obtain ⟨_,hs_12,hF⟩:=bind_some hF
 replace hs_12:=lm hs_12
 refine kw 0 [] 2 0 il ft (nV hr_11) rfl hb40 rfl rfl rfl (by kernel_rfl) rfl (.inl rfl) rfl (by kernel_rfl) (by kernel_rfl) (by kernel_rfl) (by kernel_rfl) rfl (by decide) (by kernel_rfl) kX (uC hs_12) wz ([(n_4,some (.cells 4 [(vS p_2.Key),(vS p_2.Screen),(vI p_2.Zone),(vL eS p_2.Tags)])),(n_5,some (.cells 2 [(vI wv_3.From),(vI wv_3.To)])),(n_9,gB 3 Span.enc r_10)]:Hp) (by kernel_rfl) (dn (v':=(gV n_9 3 r_10)) 18 rfl (iK hs_12.symm) (dn (v':=(gV n_9 3 r_10)) 19 rfl (iK hs_12.symm) (dn (v':=(gV n_9 3 r_10)) 7 rfl (iK hs_12.symm) (aj (af (aa (ae (vL Entry.enc l_1) wz rfl (aA 0 0 il ft F4 IE rfl rfl (.d (.agg (Player.enc p_2))) rfl wz (aA 0 1 il ft lT qI rfl rfl (.d (.agg (Window.enc wv_3))) rfl wz ?_)))))))))
 obtain ⟨r_13,hr_14,hF⟩:=bind_some hF
 refine aI (Bc hr_14) rfl hb43 rfl rfl rfl rfl wz (cK 0 (.inl rfl) z22 rfl wz (λn_15=>eD 0 il ft 3 zK rfl rfl [(vL eI r_13)] rfl wz (aj (af (aa (ae .nil wz rfl (aj (af (aa (ae .nil wz rfl (aj (af (aa (ae (vI 0) wz rfl (aj (af (af (aa (cK 0 (.inl rfl) z3 rfl wz (λn_16=>eD 0 il ft 4 sz3 rfl rfl [(vI 0)] rfl wz (aj (kg (λn_23=>kg (λn_24 => ?_))))))))))))))))))))))))
 obtain ⟨o_35,hj_36,hF⟩:=bind_some hF
 obtain ⟨nq_101,hj_36⟩:=bR hj_36
 refine aD (β:=((List Slot_)×(List Span)×Int×Int)×Nm×Nm×Nm×Bool) (λp=>(λ(s_22:(List Slot_)×(List Span)×Int×Int) (n_29:Nm) (n_30:Nm) (n_31:Nm) (gb_32:Bool)=>([(9,(gV n_30 3 s_22.1))]:SL_)) p.1 p.2.1 p.2.2.1 p.2.2.2.1 p.2.2.2.2) (λp=>(λ(s_22:(List Slot_)×(List Span)×Int×Int) (n_29:Nm) (n_30:Nm) (n_31:Nm) (gb_32:Bool)=>([(n_4,some (.cells 4 [(vS p_2.Key),(vS p_2.Screen),(vI p_2.Zone),(vL eS p_2.Tags)])),(n_5,some (.cells 2 [(vI wv_3.From),(vI wv_3.To)])),(n_9,gB 3 Span.enc r_10),(n_15,some (.cells 1 [(vL eI r_13)])),(n_29,some (.cells 1 [(vI s_22.2.2.2)])),(n_30,gB 3 Slot_.enc s_22.1),(n_31,kB gb_32 3 Span.enc s_22.2.1)]:Hp)) p.1 p.2.1 p.2.2.1 p.2.2.2.1 p.2.2.2.2) (λp=>o_35 = .go p.1) ?_ ?_
 ·refine ay (aS (β:=Nat×((List Slot_)×(List Span)×Int×Int)×Nm×Nm×Nm×Bool) (λp=>(λ(k_17:Nat) (s_22:(List Slot_)×(List Span)×Int×Int) (n_29:Nm) (n_30:Nm) (n_31:Nm) (gb_32:Bool)=>([(7,(gV n_9 3 r_10)),(8,(.ref n_15 0 0)),(9,(gV n_30 3 s_22.1)),(10,(kV gb_32 n_31 3 s_22.2.1)),(11,(vI s_22.2.2.1)),(12,(.ref n_29 0 0))]:SL_)) p.1 p.2.1 p.2.2.1 p.2.2.2.1 p.2.2.2.2.1 p.2.2.2.2.2) (λp=>(λ(k_17:Nat) (s_22:(List Slot_)×(List Span)×Int×Int) (n_29:Nm) (n_30:Nm) (n_31:Nm) (gb_32:Bool)=>([(n_4,some (.cells 4 [(vS p_2.Key),(vS p_2.Screen),(vI p_2.Zone),(vL eS p_2.Tags)])),(n_5,some (.cells 2 [(vI wv_3.From),(vI wv_3.To)])),(n_9,gB 3 Span.enc r_10),(n_15,some (.cells 1 [(vL eI r_13)])),(n_29,some (.cells 1 [(vI s_22.2.2.2)])),(n_30,gB 3 Slot_.enc s_22.1),(n_31,kB gb_32 3 Span.enc s_22.2.1)]:Hp)) p.1 p.2.1 p.2.2.1 p.2.2.2.1 p.2.2.2.2.1 p.2.2.2.2.2) (λp=>iterN (λs=>gq r_13 r_10 s) p.1 p.2.1=some o_35) (λp=>p.1) (nq_101,(([]:List Slot_),([]:List Span),0,0),n_16,n_23,n_24,false) hj_36 rfl (aJ rfl) ?_)
  rintro ⟨k_17,s_22,n_29,n_30,n_31,gb_32⟩ hL_34
  dsimp only at hL_34
  cases k_17 with
  | zero=>cases hL_34
  | succ k_17 =>
   obtain ⟨c_,hc_33,hL_34⟩:=bind_some hL_34
   unfold gq at hc_33
   refine af (af (aa (aA 0 4 il ft sz3 ag3 rfl rfl (vI s_22.2.2.2) rfl wz (ae (vI (w64 (s_22.2.2.2+1))) wz rfl (aA 0 3 il ft zK BI rfl rfl (vL eI r_13) rfl wz (bW wO rfl wz (ae (vB (decide ((w64 (s_22.2.2.2+1))<(r_13.length:Int)))) wz rfl (aj ?_))))))))
   rcases au hc_33 with⟨hc_37,hc_33⟩|⟨hc_37,hc_33⟩
   ·refine aC rfl hc_37 (ax (af (ay (af ?_))))
    obtain ⟨o_48,hj_49,hc_33⟩:=bind_some hc_33
    obtain ⟨nq_100,hj_49⟩:=bR hj_49
    refine aD (β:=((List Span)×Int)×Nm) (λp=>(λ(s_43:(List Span)×Int) (n_45:Nm)=>([(7,(gV n_9 3 r_10)),(8,(.ref n_15 0 0)),(9,(gV n_30 3 s_22.1)),(10,(kV gb_32 n_45 3 s_43.1)),(11,(vI s_43.2)),(12,(.ref n_29 0 0))]:SL_)) p.1 p.2) (λp=>(λ(s_43:(List Span)×Int) (n_45:Nm)=>([(n_4,some (.cells 4 [(vS p_2.Key),(vS p_2.Screen),(vI p_2.Zone),(vL eS p_2.Tags)])),(n_5,some (.cells 2 [(vI wv_3.From),(vI wv_3.To)])),(n_9,gB 3 Span.enc r_10),(n_15,some (.cells 1 [(vL eI r_13)])),(n_29,some (.cells 1 [(vI s_22.2.2.2)])),(n_30,gB 3 Slot_.enc s_22.1),(n_45,kB gb_32 3 Span.enc s_43.1)]:Hp)) p.1 p.2) (λp=>o_48 = .go p.1) ?_ ?_
    ·refine ay (aS (β:=Nat×((List Span)×Int)×Nm) (λp=>(λ(k_38:Nat) (s_43:(List Span)×Int) (n_45:Nm)=>([(7,(gV n_9 3 r_10)),(8,(.ref n_15 0 0)),(9,(gV n_30 3 s_22.1)),(10,(kV gb_32 n_45 3 s_43.1)),(11,(vI s_43.2)),(12,(.ref n_29 0 0))]:SL_)) p.1 p.2.1 p.2.2) (λp=>(λ(k_38:Nat) (s_43:(List Span)×Int) (n_45:Nm)=>([(n_4,some (.cells 4 [(vS p_2.Key),(vS p_2.Screen),(vI p_2.Zone),(vL eS p_2.Tags)])),(n_5,some (.cells 2 [(vI wv_3.From),(vI wv_3.To)])),(n_9,gB 3 Span.enc r_10),(n_15,some (.cells 1 [(vL eI r_13)])),(n_29,some (.cells 1 [(vI s_22.2.2.2)])),(n_30,gB 3 Slot_.enc s_22.1),(n_45,kB gb_32 3 Span.enc s_43.1)]:Hp)) p.1 p.2.1 p.2.2) (λp=>iterN (λs=>gm r_10 r_13 s_22 s) p.1 p.2.1=some o_48) (λp=>p.1) (nq_100,(s_22.2.1,s_22.2.2.1),n_31) hj_49 rfl (aJ rfl) ?_)
     rintro ⟨k_38,s_43,n_45⟩ hL_47
     dsimp only at hL_47
     cases k_38 with
     | zero=>cases hL_47
     | succ k_38 =>
      obtain ⟨c_,hc_46,hL_47⟩:=bind_some hL_47
      unfold gm at hc_46
      refine af (af ?_)
      obtain ⟨v_50,h_51,hc_46⟩:=bind_some hc_46
      refine aD (β:=Unit) (λ_=>([(7,(gV n_9 3 r_10)),(8,(.ref n_15 0 0)),(9,(gV n_30 3 s_22.1)),(10,(kV gb_32 n_45 3 s_43.1)),(11,(vI s_43.2)),(12,(.ref n_29 0 0)),(48,(vB v_50))]:SL_)) (λ_=>([(n_4,some (.cells 4 [(vS p_2.Key),(vS p_2.Screen),(vI p_2.Zone),(vL eS p_2.Tags)])),(n_5,some (.cells 2 [(vI wv_3.From),(vI wv_3.To)])),(n_9,gB 3 Span.enc r_10),(n_15,some (.cells 1 [(vL eI r_13)])),(n_29,some (.cells 1 [(vI s_22.2.2.2)])),(n_30,gB 3 Slot_.enc s_22.1),(n_45,kB gb_32 3 Span.enc s_43.1)]:Hp)) (λ_=>True) ?_ ?_
      ·refine aW (ae (vI s_43.2) wz rfl (ae (gV n_9 3 r_10) wz rfl (ym Ee rfl wz (ae (vB (decide (s_43.2<(r_10.length:Int)))) wz rfl ?_))))
       rcases au h_51 with⟨hc_52,h_51⟩|⟨hc_52,h_51⟩
       ·refine aF rfl hc_52 wz (ae (gV n_9 3 r_10) wa rfl (ae (vI s_43.2) wa rfl ?_))
        obtain ⟨_,hi_53,h_51⟩:=bind_some h_51
        refine qH BL rfl rfl (ig hi_53) (eX hi_53) wa (aH Ai rfl 1 rfl wa (aH ib rfl 1 rfl wa ?_))
        obtain ⟨e_54,hy_55,h_51⟩:=bind_some h_51
        refine jr 10 2 (.inr (by kernel_rfl)) (λ_ _ ag=>trivial) sz3 ag3 rfl rfl hy_55 (vI e_54.f_time.From) rfl wa (aA 11 3 (.inr (by kernel_rfl)) (λ_ _ ag=>⟨.inl ⟨rfl,rfl⟩,trivial⟩) zK BI rfl rfl (vL eI r_13) rfl wa (aA 12 4 (.inr (by kernel_rfl)) (λ_ _ ag=>⟨.inl ⟨rfl,rfl⟩,⟨.inl ⟨rfl,rfl⟩,trivial⟩⟩) sz3 ag3 rfl rfl (vI s_22.2.2.2) rfl wa ?_))
        obtain ⟨y_56,hy_57,h_51⟩:=bind_some h_51
        refine dK jf rfl rfl hy_57 rfl wa (bB sz3 ag3 rfl (vI y_56) rfl wa (ae (vB (decide (e_54.f_time.From<=y_56))) wa rfl (ae (vB (decide (e_54.f_time.From<=y_56))) wz rfl (aj ?_))))
        obtain rfl:=ah h_51
        exact cu
       ·refine aF rfl hc_52 wz (ak wa (ak wa (ak wa (ak wa (ak wa (ak wa (ak wa (ak wa (ak wa (ak wa (ak wa (ae (vB false) wz rfl (aj ?_)))))))))))))
        obtain rfl:=ah h_51
        exact cu
      ·rintro ⟨⟩ _ sl_ H_ hp_ hq_
       refine aL _ hp_ hq_ ?_
       rcases au hc_46 with⟨hc_58,hc_46⟩|⟨hc_58,hc_46⟩
       ·refine aC rfl hc_58 (ax (af (ay (aa (ae (kV gb_32 n_45 3 s_43.1) wz rfl (ae (gV n_9 3 r_10) wz rfl (ae (vI s_43.2) wz rfl ?_)))))))
        obtain ⟨_,hi_59,hc_46⟩:=bind_some hc_46
        refine qH BL rfl rfl (ig hi_59) (eX hi_59) wz ?_
        obtain ⟨e_60,hy_61,hc_46⟩:=bind_some hc_46
        refine jr 0 2 il ft rP Ck rfl rfl hy_61 (.d (.agg (Span.enc e_60))) rfl wz (dW (([e_60]:List Span).map Span.enc) BL ez94 rfl (PZ rfl rfl (cZ (oH _ _) (cZ rfl (cZ rfl rfl))) rfl) rfl rfl rfl wz ?_)
        obtain ⟨a_62,hz_63,hc_46⟩:=bind_some hc_46
        refine P5 0 il ft (i:=6) KL KL rP z99 rfl (by decide) by99 (by decide) (λ_=>rfl) rfl rfl rfl hz_63 wz (λn_64=>ae (kV gb_32 n_64 3 a_62) wz rfl (aj (aa (ae (vI s_43.2) wz rfl (ae (vI (w64 (s_43.2+1))) wz rfl (ae (vI (w64 (s_43.2+1))) wz rfl (aj ?_)))))))
        obtain rfl:=ah hc_46
        exact aO (k_38,(a_62,(w64 (s_43.2+1))),n_64) hL_47 (ls_ _) rfl (aJ rfl)
       ·refine aB rfl hc_58 (aP ?_)
        obtain rfl:=ah hc_46
        obtain rfl:=ah hL_47
        exact aN ((s_43.1,s_43.2),n_45) rfl rfl (aJ rfl)
    ·rintro ⟨s_43,n_45⟩ ho_ sl_ H_ hp_ hq_
     subst ho_
     refine aL _ hp_ hq_ (af (aa (ae (kV gb_32 n_45 3 s_43.1) wz rfl (ae (.fn 45 [(.ref n_15 0 0),(.ref n_29 0 0)]) wz rfl ?_))))
     obtain ⟨r_65,hr_66,hc_33⟩:=bind_some hc_33
     obtain ⟨_,hl_68,hc_33⟩:=bind_some hc_33
     obtain ⟨_,hr_67,hc_33⟩:=bind_some hc_33
     replace hl_68:=leL_le hl_68
     refine NC [3,4] 6 0 (jI hr_66) (jH hr_67) hl_68 rfl hb44 rfl rfl rfl (by kernel_rfl) rfl rfl (by kernel_rfl) (by kernel_rfl) (by kernel_rfl) (by kernel_rfl) rfl (by decide) wz ([(n_4,some (.cells 4 [(vS p_2.Key),(vS p_2.Screen),(vI p_2.Zone),(vL eS p_2.Tags)])),(n_5,some (.cells 2 [(vI wv_3.From),(vI wv_3.To)])),(n_9,gB 3 Span.enc r_10),(n_15,some (.cells 1 [(vL eI r_13)])),(n_29,some (.cells 1 [(vI s_22.2.2.2)])),(n_30,gB 3 Slot_.enc s_22.1),(n_45,kB (gb_32 || !s_43.1.isEmpty) 3 Span.enc r_65)]:Hp) (by kernel_rfl) (ae (kV (gb_32 || !s_43.1.isEmpty) n_45 3 r_65) wz rfl (aj (af (aa (ae (vS (⟨#[]⟩:ByteArray)) wz rfl (aj (af (af (aa (ae (kV (gb_32 || !s_43.1.isEmpty) n_45 3 r_65) wz rfl (h_lenk Ee rfl wz (ae (vB (decide ((r_65.length:Int)>0))) wz rfl (aj ?_)))))))))))))
     obtain ⟨v_69,h_70,hc_33⟩:=bind_some hc_33
     refine aD (β:=Unit) (λ_=>([(7,(gV n_9 3 r_10)),(8,(.ref n_15 0 0)),(9,(gV n_30 3 s_22.1)),(10,(kV (gb_32 || !s_43.1.isEmpty) n_45 3 r_65)),(11,(vI s_43.2)),(12,(.ref n_29 0 0)),(13,(vS v_69))]:SL_)) (λ_=>([(n_4,some (.cells 4 [(vS p_2.Key),(vS p_2.Screen),(vI p_2.Zone),(vL eS p_2.Tags)])),(n_5,some (.cells 2 [(vI wv_3.From),(vI wv_3.To)])),(n_9,gB 3 Span.enc r_10),(n_15,some (.cells 1 [(vL eI r_13)])),(n_29,some (.cells 1 [(vI s_22.2.2.2)])),(n_30,gB 3 Slot_.enc s_22.1),(n_45,kB (gb_32 || !s_43.1.isEmpty) 3 Span.enc r_65)]:Hp)) (λ_=>True) ?_ ?_
     ·rcases au h_70 with⟨hc_71,h_70⟩|⟨hc_71,h_70⟩
      ·refine aC rfl hc_71 (aa (ae (kV (gb_32 || !s_43.1.isEmpty) n_45 3 r_65) wz rfl ?_))
       obtain ⟨_,hn_72,h_70⟩:=bind_some h_70
       replace hn_72:=IY hn_72
       refine dn (v':=(gV n_45 3 r_65)) 10 rfl (Da hn_72) (dn (v':=(gV n_45 3 r_65)) 60 rfl (Da hn_72) (dn (v':=(gV n_45 3 r_65)) 61 rfl (Da hn_72) (dn (v':=(gV n_45 3 r_65)) 64 rfl (Da hn_72) (GY 6 rfl (kB_gB hn_72) ?_))))
       obtain ⟨r_73,hr_74,h_70⟩:=bind_some h_70
       refine kw 0 [] 6 0 il ft (jX hr_74) rfl hb46 rfl rfl rfl (by kernel_rfl) rfl (.inl rfl) rfl (by kernel_rfl) (by kernel_rfl) (by kernel_rfl) (by kernel_rfl) rfl (by decide) (by kernel_rfl) kX (uC rfl) wz ([(n_4,some (.cells 4 [(vS p_2.Key),(vS p_2.Screen),(vI p_2.Zone),(vL eS p_2.Tags)])),(n_5,some (.cells 2 [(vI wv_3.From),(vI wv_3.To)])),(n_9,gB 3 Span.enc r_10),(n_15,some (.cells 1 [(vL eI r_13)])),(n_29,some (.cells 1 [(vI s_22.2.2.2)])),(n_30,gB 3 Slot_.enc s_22.1),(n_45,gB 3 Span.enc r_65)]:Hp) (by kernel_rfl) (dn (v':=(kV (gb_32 || !s_43.1.isEmpty) n_45 3 r_65)) 10 rfl (Da hn_72).symm (dn (v':=(kV (gb_32 || !s_43.1.isEmpty) n_45 3 r_65)) 60 rfl (Da hn_72).symm (dn (v':=(kV (gb_32 || !s_43.1.isEmpty) n_45 3 r_65)) 61 rfl (Da hn_72).symm (dn (v':=(kV (gb_32 || !s_43.1.isEmpty) n_45 3 r_65)) 64 rfl (Da hn_72).symm (GY (b':=kB (gb_32 || !s_43.1.isEmpty) 3 Span.enc r_65) 6 rfl (kB_gB hn_72).symm (h_field fr99_0 rfl (.d (dP Entry.enc r_73.f_e)) rfl wz ?_))))))
       obtain ⟨y_75,hy_76,h_70⟩:=bind_some h_70
       refine dn (v':=(.d (.ptr (Entry.enc y_75)))) 66 rfl (AY (enc:=Entry.enc) (y:=y_75) hy_76) (ae (.d (.ptr (Entry.enc y_75))) wz rfl (og BX rfl (Entry.enc y_75) rfl rfl wz (bB sz9 ag9 rfl (vS y_75.Key) rfl wz (ae (vS y_75.Key) wz rfl (aj ?_)))))
       obtain rfl:=ah h_70
       exact cu
      ·refine aB rfl hc_71 (ax ?_)
       obtain rfl:=ah h_70
       exact cu
     ·rintro ⟨⟩ _ sl_ H_ hp_ hq_
      refine aL _ hp_ hq_ (af (aa (ae (gV n_30 3 s_22.1) wz rfl (ym un35 rfl wz (ae (vI (w64 ((s_22.1.length:Int)-1))) wz rfl (ae (vI (w64 ((s_22.1.length:Int)-1))) wz rfl (aj (af ?_))))))))
      obtain ⟨v_77,h_78,hc_33⟩:=bind_some hc_33
      refine aD (β:=Unit) (λ_=>([(7,(gV n_9 3 r_10)),(8,(.ref n_15 0 0)),(9,(gV n_30 3 s_22.1)),(10,(kV (gb_32 || !s_43.1.isEmpty) n_45 3 r_65)),(11,(vI s_43.2)),(12,(.ref n_29 0 0)),(13,(vS v_69)),(14,(vI (w64 ((s_22.1.length:Int)-1)))),(83,(vB v_77))]:SL_)) (λ_=>([(n_4,some (.cells 4 [(vS p_2.Key),(vS p_2.Screen),(vI p_2.Zone),(vL eS p_2.Tags)])),(n_5,some (.cells 2 [(vI wv_3.From),(vI wv_3.To)])),(n_9,gB 3 Span.enc r_10),(n_15,some (.cells 1 [(vL eI r_13)])),(n_29,some (.cells 1 [(vI s_22.2.2.2)])),(n_30,gB 3 Slot_.enc s_22.1),(n_45,kB (gb_32 || !s_43.1.isEmpty) 3 Span.enc r_65)]:Hp)) (λ_=>True) ?_ ?_
      ·refine aa (ae (vI (w64 ((s_22.1.length:Int)-1))) wz rfl (ae (vB (decide ((w64 ((s_22.1.length:Int)-1))>=0))) wz rfl ?_))
       rcases au h_78 with⟨hc_79,h_78⟩|⟨hc_79,h_78⟩
       ·refine aF rfl hc_79 wz (ae (gV n_30 3 s_22.1) wa rfl (ae (vI (w64 ((s_22.1.length:Int)-1))) wa rfl ?_))
        obtain ⟨_,hi_80,h_78⟩:=bind_some h_78
        refine qH Jo rfl rfl (ig hi_80) (eX hi_80) wa (aH PM rfl 2 rfl wa ?_)
        obtain ⟨e_81,hy_82,h_78⟩:=bind_some h_78
        refine jr 0 5 il ft sz9 ag9 rfl rfl hy_82 (vS e_81.Entry) rfl wa (ae (vS v_69) wa rfl (ae (vB (sEq e_81.Entry v_69)) wa rfl (ae (vB (sEq e_81.Entry v_69)) wz rfl (aj ?_))))
        obtain rfl:=ah h_78
        exact cu
       ·refine aF rfl hc_79 wz (ak wa (ak wa (ak wa (ak wa (ak wa (ak wa (ak wa (ae (vB false) wz rfl (aj ?_)))))))))
        obtain rfl:=ah h_78
        exact cu
      ·rintro ⟨⟩ _ sl_ H_ hp_ hq_
       refine aL _ hp_ hq_ ?_
       obtain ⟨v_83,h_84,hc_33⟩:=bind_some hc_33
       refine aD (β:=Nm) (λ(n_85:Nm)=>([(7,(gV n_9 3 r_10)),(8,(.ref n_15 0 0)),(9,(gV n_85 3 v_83)),(10,(kV (gb_32 || !s_43.1.isEmpty) n_45 3 r_65)),(11,(vI s_43.2)),(12,(.ref n_29 0 0))]:SL_)) (λ(n_85:Nm)=>([(n_4,some (.cells 4 [(vS p_2.Key),(vS p_2.Screen),(vI p_2.Zone),(vL eS p_2.Tags)])),(n_5,some (.cells 2 [(vI wv_3.From),(vI wv_3.To)])),(n_9,gB 3 Span.enc r_10),(n_15,some (.cells 1 [(vL eI r_13)])),(n_29,some (.cells 1 [(vI s_22.2.2.2)])),(n_85,gB 3 Slot_.enc v_83),(n_45,kB (gb_32 || !s_43.1.isEmpty) 3 Span.enc r_65)]:Hp)) (λ_=>True) ?_ ?_
       ·rcases au h_84 with⟨hc_86,h_84⟩|⟨hc_86,h_84⟩
        ·refine aC rfl hc_86 (aa (ae (gV n_30 3 s_22.1) wz rfl (ae (vI (w64 ((s_22.1.length:Int)-1))) wz rfl (aA 0 3 il ft zK BI rfl rfl (vL eI r_13) rfl wz (aA 0 4 il ft sz3 ag3 rfl rfl (vI s_22.2.2.2) rfl wz (ae (vI (w64 (s_22.2.2.2+1))) wz rfl ?_))))))
         obtain ⟨y_87,hy_88,h_84⟩:=bind_some h_84
         refine dK jf rfl rfl hy_88 rfl wz (bB sz3 ag3 rfl (vI y_87) rfl wz ?_)
         obtain ⟨_,hi_89,h_84⟩:=bind_some h_84
         refine qH Jo rfl rfl (ig hi_89) (eX hi_89) wz (aH Ca rfl 0 rfl wz (aH iq rfl 1 rfl wz ?_))
         obtain ⟨e_90,hy_91,h_84⟩:=bind_some h_84
         refine sU 0 il ft 5 sz3 rfl rfl hy_91 (⟨(⟨e_90.Time.From,y_87⟩:Window),e_90.Entry⟩:Slot_) rfl wz (dn (v':=(gV n_30 3 (s_22.1.set (0+((w64 ((s_22.1.length:Int)-1))).toNat) (⟨(⟨e_90.Time.From,y_87⟩:Window),e_90.Entry⟩:Slot_)))) 9 rfl (iK (by simp)) (dn (v':=(gV n_30 3 (s_22.1.set (0+((w64 ((s_22.1.length:Int)-1))).toNat) (⟨(⟨e_90.Time.From,y_87⟩:Window),e_90.Entry⟩:Slot_)))) 84 rfl (iK (by simp)) (aj ?_)))
         obtain rfl:=ah h_84
         exact aN n_30 trivial rfl (aJ rfl)
        ·refine aB rfl hc_86 (aW (ae (gV n_30 3 s_22.1) wz rfl (aA 1 3 (.inr (by kernel_rfl)) (λ_ _ ag=>trivial) zK BI rfl rfl (vL eI r_13) rfl wz (aA 2 4 (.inr (by kernel_rfl)) (λ_ _ ag=>⟨.inl ⟨rfl,rfl⟩,trivial⟩) sz3 ag3 rfl rfl (vI s_22.2.2.2) rfl wz ?_))))
         obtain ⟨y_92,hy_93,h_84⟩:=bind_some h_84
         refine dK jf rfl rfl hy_93 rfl wz (bB sz3 ag3 rfl (vI y_92) rfl wz (aA 5 3 (.inr (by kernel_rfl)) (λ_ _ ag=>⟨.inl ⟨rfl,rfl⟩,⟨.inl ⟨rfl,rfl⟩,trivial⟩⟩) zK BI rfl rfl (vL eI r_13) rfl wz (aA 6 4 (.inr (by kernel_rfl)) (λ_ _ ag=>⟨.inl ⟨rfl,rfl⟩,⟨.inl ⟨rfl,rfl⟩,⟨.inl ⟨rfl,rfl⟩,trivial⟩⟩⟩) sz3 ag3 rfl rfl (vI s_22.2.2.2) rfl wz (ae (vI (w64 (s_22.2.2.2+1))) wz rfl ?_))))
         obtain ⟨y_94,hy_95,h_84⟩:=bind_some h_84
         refine dK jf rfl rfl hy_95 rfl wz (bB sz3 ag3 rfl (vI y_94) rfl wz (ae (.d (.agg (Window.enc (⟨y_92,y_94⟩:Window)))) wz (by kernel_rfl) (ae (vS v_69) wz rfl (ae (.d (.agg (Slot_.enc (⟨(⟨y_92,y_94⟩:Window),v_69⟩:Slot_)))) wz (by kernel_rfl) (dW (([(⟨(⟨y_92,y_94⟩:Window),v_69⟩:Slot_)]:List Slot_).map Slot_.enc) Jo ez35 rfl rfl rfl rfl rfl wz ?_)))))
         obtain ⟨a_96,hz_97,h_84⟩:=bind_some h_84
         refine jS 14 (.inr (by kernel_rfl)) (λ_ _ ag=>⟨.inr (.inl (Kj (CJ ag (i:=5) (j:=3) rfl rfl (by decide)))),⟨.inr (.inl (Kj (CJ ag (i:=5) (j:=4) rfl rfl (by decide)))),⟨.inr (.inl (Kj (CJ ag (i:=5) (j:=3) rfl rfl (by decide)))),⟨.inr (.inl (Kj (CJ ag (i:=5) (j:=4) rfl rfl (by decide)))),trivial⟩⟩⟩⟩) (i:=5) el35 el35 Nt z45 rfl (by decide) by45 (by decide) (λ_=>rfl) rfl rfl rfl hz_97 wz (λn_98=>ae (gV n_98 3 a_96) wz rfl (aj ?_))
         obtain rfl:=ah h_84
         exact aN n_98 trivial rfl (aJ rfl)
       ·rintro n_85 _ sl_ H_ hp_ hq_
        refine aL _ hp_ hq_ (af (af (aa (aA 0 4 il ft sz3 ag3 rfl rfl (vI s_22.2.2.2) rfl wz (aj (aa (cK 0 (.inl rfl) z3 rfl wz (λn_99=>eD 0 il ft 7 sz3 rfl rfl [(vI s_22.2.2.2)] rfl wz (aj (aa (aA 0 7 il ft sz3 ag3 rfl rfl (vI s_22.2.2.2) rfl wz (ae (vI (w64 (s_22.2.2.2+1))) wz rfl (eD 0 il ft 7 sz3 rfl rfl [(vI (w64 (s_22.2.2.2+1)))] rfl wz (aj ?_))))))))))))))
        obtain rfl:=ah hc_33
        exact aO (k_17,(v_83,r_65,s_43.2,(w64 (s_22.2.2.2+1))),n_99,n_85,n_45,(gb_32 || !s_43.1.isEmpty)) hL_34 (ls_ _) rfl (pre_is [0,1,2,3,7,5,6] (by decide) rfl)
   ·refine aB rfl hc_37 (aP ?_)
    obtain rfl:=ah hc_33
    obtain rfl:=ah hL_34
    exact aN ((s_22.1,s_22.2.1,s_22.2.2.1,s_22.2.2.2),n_29,n_30,n_31,gb_32) rfl rfl (aJ rfl)
 ·rintro ⟨s_22,n_29,n_30,n_31,gb_32⟩ ho_ sl_ H_ hp_ hq_
  subst ho_
  refine aL _ hp_ hq_ (af (aa (ae (gV n_30 3 s_22.1) wz rfl (ae (gV n_30 3 s_22.1) wz rfl (aj (gJ 5 rfl (dJ 6 5 rfl rfl (dJ 9 5 rfl rfl (dJ 110 5 rfl rfl ?_)))))))))
  obtain rfl:=ah hF
  exact aG (aU (.inr rfl) [(vL Slot_.enc s_22.1)] ⟨rfl,trivial⟩ rfl rfl rfl)
theorem zl {l_1:(List Entry)} {p_2:Player} {wv_3:Window} {r:(List Slot_)×Int} (hF:kP l_1 p_2 wv_3=some r) :
  FnM Tryz.prog 8 [(vL Entry.enc l_1),(.d (.agg (Player.enc p_2))),(.d (.agg (Window.enc wv_3)))] [] (.tup [(vL Slot_.enc r.1),(vI r.2)]) []:=by
 refine FnM.of_wH ⟨Tryz.prog,20,[],[]⟩ rfl Tryz.func8 rfl rfl (lb_ rfl) (by kernel_rfl) ?_
 unfold kP at hF
 refine af (aa (dL 0 (.inl rfl) [(vS p_2.Key),(vS p_2.Screen),(vI p_2.Zone),(vL eS p_2.Tags)] rfl rfl wz (λn_4=>dL 0 (.inl rfl) [(vI wv_3.From),(vI wv_3.To)] rfl rfl wz (λn_5=>ae .nil wz rfl (ae (vI 0) wz rfl (aj (af (af (aa (ae (vL Entry.enc l_1) wz rfl (aA 0 0 il ft F4 IE rfl rfl (.d (.agg (Player.enc p_2))) rfl wz (aA 0 1 il ft lT qI rfl rfl (.d (.agg (Window.enc wv_3))) rfl wz ?_))))))))))))
 obtain ⟨r_6,hr_7,hF⟩:=bind_some hF
 refine aI (xB hr_7) rfl hb21 rfl rfl rfl rfl wz (ae (vI r_6) wz rfl (aj (af (aa (ae (vI r_6) wz rfl (ae (vB (r_6 != 0)) wz rfl (aj ?_)))))))
 rcases au hF with⟨hc_8,hF⟩|⟨hc_8,hF⟩
 ·refine aC rfl hc_8 (af (aa (ae (vI r_6) wz rfl (ae .nil wz rfl (ae (vI r_6) wz rfl (aj ?_))))))
  obtain rfl:=ah hF
  exact aG (aU (.inr rfl) [.nil,(vI r_6)] ⟨rfl,⟨rfl,trivial⟩⟩ rfl rfl rfl)
 ·refine aB rfl hc_8 (ax (af (aa (ae (vL Entry.enc l_1) wz rfl (aA 0 0 il ft F4 IE rfl rfl (.d (.agg (Player.enc p_2))) rfl wz (aA 0 1 il ft lT qI rfl rfl (.d (.agg (Window.enc wv_3))) rfl wz ?_))))))
  obtain ⟨r_9,hr_10,hF⟩:=bind_some hF
  refine aI (yZ hr_10) rfl hb22 rfl rfl rfl rfl wz (ae (vL Slot_.enc r_9) wz rfl (ae (vI 0) wz rfl (aj ?_)))
  obtain rfl:=ah hF
  exact aG (aU (.inr rfl) [(vL Slot_.enc r_9),(vI 0)] ⟨rfl,⟨rfl,trivial⟩⟩ rfl rfl rfl)
theorem xI {l_1:(List Rect)} {r:Int} (hF:mJ l_1=some r) :
  FnM Tryz.prog 48 [(vL Rect.enc l_1)] [] (vI r) []:=by
 refine FnM.of_wH ⟨Tryz.prog,21,[],[]⟩ rfl Tryz.func48 rfl rfl (lb_ rfl) (by kernel_rfl) ?_
 unfold mJ at hF
 refine af (aa (ae (vI 0) wz rfl (aj (af (af (aa (ae (vL Rect.enc l_1) wz rfl (bW BB rfl wz (ae (vB (decide ((l_1.length:Int)>2000))) wz rfl (aj ?_))))))))))
 rcases au hF with⟨hc_2,hF⟩|⟨hc_2,hF⟩
 ·refine aC rfl hc_2 (af (aa (ae (vI 2) wz rfl (aj ?_))))
  obtain rfl:=ah hF
  exact aG (aU (.inr rfl) [(vI 2)] ⟨rfl,trivial⟩ rfl rfl rfl)
 ·refine aB rfl hc_2 (ax (af (af (aa (ae (vL Rect.enc l_1) wz rfl (bW BB rfl wz (ae (vI 0) wz rfl (aj ?_))))))))
  obtain ⟨o_11,hj_12,hF⟩:=bind_some hF
  obtain ⟨hn_7,hj_12⟩:=aV hj_12
  refine aD (β:=(Unit)) (λ(s_8:Unit)=>([]:SL_)) (λ(s_8:Unit)=>([]:Hp)) (λp=>o_11 = .go p) ?_ ?_
  ·refine ay (aS (β:=Nat×(List Rect)×(Unit)) (λp=>(λ(k_3:Nat) (l_4:List Rect) (s_8:Unit)=>([(9,(vL Rect.enc l_1)),(10,(vI (l_1.length:Int))),(11,(vI (k_3:Int)))]:SL_)) p.1 p.2.1 p.2.2) (λp=>(λ(k_3:Nat) (l_4:List Rect) (s_8:Unit)=>([]:Hp)) p.1 p.2.1 p.2.2) (λp=>forR (λk x s=>mY k x s) p.2.1 p.1 p.2.2=some o_11/\(l_1).drop p.1=p.2.1) (λp=>p.2.1.length) (0,l_1,()) ⟨hj_12,rfl⟩ rfl (aJ rfl) ?_)
   rintro ⟨k_3,l_4,s_8⟩ ⟨hL_10,hD_6⟩
   dsimp only at hL_10 hD_6
   cases l_4 with
   | nil =>
    obtain rfl:=ah hL_10
    refine af (aa (ae (vB (decide ((k_3:Int)<(l_1.length:Int)))) wz rfl (aj ?_)))
    refine af (aB rfl (drop_nil hD_6) (aP ?_))
    exact aN (s_8) rfl rfl (aJ rfl)
   | cons x_5 l_4 =>
    obtain ⟨c_,hc_9,hL_10⟩:=bind_some hL_10
    refine af (aa (ae (vB (decide ((k_3:Int)<(l_1.length:Int)))) wz rfl (aj ?_)))
    refine af (aC rfl (bf hD_6) (ax ?_))
    unfold mY at hc_9
    refine af (ay (af (aa (dK Iu rfl rfl (bG hD_6) rfl wz (bB vH Io rfl (.d (.agg (Rect.enc x_5))) rfl wz (cK 0 (.inl rfl) z55 rfl wz (λn_13=>eD 0 il ft 0 vH rfl rfl [(vI x_5.X),(vI x_5.Y),(vI x_5.W),(vI x_5.H)] rfl wz (aj (af (aa (aA 0 0 il ft vH Io rfl rfl (.d (.agg (Rect.enc x_5))) rfl wz ?_)))))))))))
    obtain ⟨r_14,hr_15,hc_9⟩:=bind_some hc_9
    refine aI (rX hr_15) rfl hb83 rfl rfl rfl rfl wz (ae (vI r_14) wz rfl (aj (af (aa (ae (vI r_14) wz rfl (ae (vB (r_14 != 0)) wz rfl (aj ?_)))))))
    rcases au hc_9 with⟨hc_16,hc_9⟩|⟨hc_16,hc_9⟩
    ·refine aC rfl hc_16 (af (aa (ae (vI r_14) wz rfl (ae (vI r_14) wz rfl (aj ?_)))))
     obtain rfl:=ah hc_9
     obtain rfl:=ah hL_10
     obtain rfl:=ah hF
     exact aG (aU (.inr rfl) [(vI r_14)] ⟨rfl,trivial⟩ rfl rfl rfl)
    ·refine aB rfl hc_16 (ax (aa (fu (bA hD_6 hn_7) wz rfl (ae (vI ((k_3+1:Nat):Int)) wz rfl (aj ?_)))))
     obtain rfl:=ah hc_9
     exact aO (k_3+1,l_4,()) ⟨hL_10,aR hD_6⟩ (ls_ _) rfl (aJ rfl)
  ·rintro s_8 ho_ sl_ H_ hp_ hq_
   subst ho_
   refine aL _ hp_ hq_ (af (aa (ae (vI 0) wz rfl (aj ?_))))
   obtain rfl:=ah hF
   exact aG (aU (.inr rfl) [(vI 0)] ⟨rfl,trivial⟩ rfl rfl rfl)
theorem oO {n_1:Int} {r:Bool} (hF:iL n_1=some r) :
  FnM Tryz.prog 127 [.nil,(vI n_1)] [] (kV r (av 0) 4 ([]:List Rect)) (kO r 4):=by
 refine FnM.of_wH ⟨Tryz.prog,27,[],[]⟩ rfl Tryz.func127 rfl rfl (lb_ rfl) (by kernel_rfl) ?_
 unfold iL at hF
 refine af (aa (ae .nil wz rfl (aj (af (af (aa (ae (vI n_1) wz rfl (ae (vB (decide (n_1<0))) wz rfl (aj ?_)))))))))
 rcases au hF with⟨hc_2,hF⟩|⟨hc_2,hF⟩
 ·refine aC rfl hc_2 (aa ?_)
  cases hF
 ·refine aB rfl hc_2 (ax (af (af (aa (ae (vI n_1) wz rfl (ae .nil wz rfl (Pq IP rfl wz (ae .nil wz rfl (K5 BB rfl wz (ae (vI (w64 (0-0))) wz rfl (ae (vI (w64 (n_1-(w64 (0-0))))) wz rfl (ae (vI (w64 (n_1-(w64 (0-0))))) wz rfl (aj (af (aa (ae (vI (w64 (n_1-(w64 (0-0))))) wz rfl (ae (vB (decide ((w64 (n_1-(w64 (0-0))))>0))) wz rfl (aj ?_))))))))))))))))))
  rcases au hF with⟨hc_3,hF⟩|⟨hc_3,hF⟩
  ·refine aC rfl hc_3 (aa (ae .nil wz rfl (ae .nil wz rfl (Pq IP rfl wz (ae .nil wz (by kernel_rfl) (ae (vI (w64 (n_1-(w64 (0-0))))) wz rfl ?_))))))
   obtain ⟨_,hz_5,hF⟩:=bind_some hF
   refine h_appz (enc:=Rect.enc) 0 (.inl rfl) IP (by kernel_rfl) vH z55 rfl (by decide) by55 rfl rfl hz_5 wz (λn_4=>ae .nil wz rfl (K5 BB rfl wz (h_cutm (m:=0) BB vH rfl rfl rfl (Nat.zero_le _) wz (ae (.vs n_4 4 0 0) wz rfl (aj (af (aa (ae (.vs n_4 4 0 0) wz rfl (ae (.vs n_4 4 0 0) wz rfl (aj ?_))))))))))
   obtain rfl:=ah hF
   exact aG (finK (.inr rfl) 0 rfl rfl)
  ·refine aB rfl hc_3 (ax (af (aa (ae .nil wz rfl (ae .nil wz rfl (aj ?_))))))
   obtain rfl:=ah hF
   exact aG (finK0 (.inr rfl) rfl)
theorem oK {slices_1:(List (List Rect))} {r:(List Rect)} (hF:fI slices_1=some r) :
  FnM Tryz.prog 84 [(vL (eL Rect.enc) slices_1)] [] (vL Rect.enc r) []:=by
 refine FnM.of_wH ⟨Tryz.prog,36,[],[]⟩ rfl Tryz.func84 rfl rfl (lb_ rfl) (by kernel_rfl) ?_
 unfold fI at hF
 refine af (aa (ae .nil wz rfl (aj (af (aa (ae (vI 0) wz rfl (aj (af (af (aa (ae (vL (eL Rect.enc) slices_1) wz rfl (bW un177 rfl wz (ae (vI 0) wz rfl (aj ?_))))))))))))))
 obtain ⟨o_10,hj_11,hF⟩:=bind_some hF
 obtain ⟨hn_6,hj_11⟩:=aV hj_11
 refine aD (β:=(Int)) (λ(s_7:Int)=>([(0,(vL (eL Rect.enc) slices_1)),(3,(vI s_7))]:SL_)) (λ(s_7:Int)=>([]:Hp)) (λp=>o_10 = .go p) ?_ ?_
 ·refine ay (aS (β:=Nat×(List (List Rect))×(Int)) (λp=>(λ(k_2:Nat) (l_3:List (List Rect)) (s_7:Int)=>([(0,(vL (eL Rect.enc) slices_1)),(3,(vI s_7)),(9,(vL (eL Rect.enc) slices_1)),(10,(vI (slices_1.length:Int))),(11,(vI (k_2:Int)))]:SL_)) p.1 p.2.1 p.2.2) (λp=>(λ(k_2:Nat) (l_3:List (List Rect)) (s_7:Int)=>([]:Hp)) p.1 p.2.1 p.2.2) (λp=>forR (λk x s=>gP k x s) p.2.1 p.1 p.2.2=some o_10/\(slices_1).drop p.1=p.2.1) (λp=>p.2.1.length) (0,slices_1,0) ⟨hj_11,rfl⟩ rfl (aJ rfl) ?_)
  rintro ⟨k_2,l_3,s_7⟩ ⟨hL_9,hD_5⟩
  dsimp only at hL_9 hD_5
  cases l_3 with
  | nil =>
   obtain rfl:=ah hL_9
   refine af (aa (ae (vB (decide ((k_2:Int)<(slices_1.length:Int)))) wz rfl (aj ?_)))
   refine af (aB rfl (drop_nil hD_5) (aP ?_))
   exact aN (s_7) rfl rfl (aJ rfl)
  | cons x_4 l_3 =>
   obtain ⟨c_,hc_8,hL_9⟩:=bind_some hL_9
   refine af (aa (ae (vB (decide ((k_2:Int)<(slices_1.length:Int)))) wz rfl (aj ?_)))
   refine af (aC rfl (bf hD_5) (ax ?_))
   unfold gP at hc_8
   refine af (ay (af (aa (dK Pg rfl rfl (bG hD_5) rfl wz (bB JZ KE rfl (vL Rect.enc x_4) rfl wz (ae (vL Rect.enc x_4) wz rfl (aj (af (aa (ae (vI s_7) wz rfl (ae (vL Rect.enc x_4) wz rfl (bW BB rfl wz (ae (vI (w64 (s_7+(x_4.length:Int)))) wz rfl (ae (vI (w64 (s_7+(x_4.length:Int)))) wz rfl (aj (af (aa (ae (vI (w64 (s_7+(x_4.length:Int)))) wz rfl (ae (vB (decide ((w64 (s_7+(x_4.length:Int)))<0))) wz rfl (aj ?_))))))))))))))))))))
   obtain ⟨v_12,h_13,hc_8⟩:=bind_some hc_8
   refine aD (β:=Unit) (λ_=>([(0,(vL (eL Rect.enc) slices_1)),(3,(vI (w64 (s_7+(x_4.length:Int))))),(9,(vL (eL Rect.enc) slices_1)),(10,(vI (slices_1.length:Int))),(11,(vI (k_2:Int)))]:SL_)) (λ_=>([]:Hp)) (λ_=>True) ?_ ?_
   ·rcases au h_13 with⟨hc_14,h_13⟩|⟨hc_14,h_13⟩
    ·refine aC rfl hc_14 (aa ?_)
     cases h_13
    ·refine aB rfl hc_14 (ax ?_)
     obtain rfl:=ah h_13
     exact cu
   ·rintro ⟨⟩ _ sl_ H_ hp_ hq_
    refine aL _ hp_ hq_ (aa (fu (bA hD_5 hn_6) wz rfl (ae (vI ((k_2+1:Nat):Int)) wz rfl (aj ?_))))
    obtain rfl:=ah hc_8
    exact aO (k_2+1,l_3,(w64 (s_7+(x_4.length:Int)))) ⟨hL_9,aR hD_5⟩ (ls_ _) rfl (aJ rfl)
 ·rintro s_7 ho_ sl_ H_ hp_ hq_
  subst ho_
  refine aL _ hp_ hq_ (af (aa (ae (vI s_7) wz rfl ?_)))
  obtain ⟨b_15,hr_16,hF⟩:=bind_some hF
  refine h_callk (enc:=Rect.enc) (oO hr_16) rfl hb127 (by kernel_rfl) rfl (by kernel_rfl) wz (λn_17=>ae (kV b_15 n_17 4 ([]:List Rect)) wz rfl (aj (af (af (aa (ae (vL (eL Rect.enc) slices_1) wz rfl (bW un177 rfl wz (ae (vI 0) wz rfl (aj ?_)))))))))
  obtain ⟨o_28,hj_29,hF⟩:=bind_some hF
  obtain ⟨hn_22,hj_29⟩:=aV hj_29
  refine aD (β:=((List Rect))×Nm) (λp=>(λ(s_23:List Rect) (n_25:Nm)=>([(6,(kV b_15 n_25 4 s_23))]:SL_)) p.1 p.2) (λp=>(λ(s_23:List Rect) (n_25:Nm)=>([(n_25,kB b_15 4 Rect.enc s_23)]:Hp)) p.1 p.2) (λp=>o_28 = .go p.1) ?_ ?_
  ·refine ay (aS (β:=Nat×(List (List Rect))×((List Rect))×Nm) (λp=>(λ(k_18:Nat) (l_19:List (List Rect)) (s_23:List Rect) (n_25:Nm)=>([(6,(kV b_15 n_25 4 s_23)),(25,(vL (eL Rect.enc) slices_1)),(26,(vI (slices_1.length:Int))),(27,(vI (k_18:Int)))]:SL_)) p.1 p.2.1 p.2.2.1 p.2.2.2) (λp=>(λ(k_18:Nat) (l_19:List (List Rect)) (s_23:List Rect) (n_25:Nm)=>([(n_25,kB b_15 4 Rect.enc s_23)]:Hp)) p.1 p.2.1 p.2.2.1 p.2.2.2) (λp=>forR (λk x s=>gL k x s) p.2.1 p.1 p.2.2.1=some o_28/\(slices_1).drop p.1=p.2.1) (λp=>p.2.1.length) (0,slices_1,([]:List Rect),n_17) ⟨hj_29,rfl⟩ rfl (aJ rfl) ?_)
   rintro ⟨k_18,l_19,s_23,n_25⟩ ⟨hL_27,hD_21⟩
   dsimp only at hL_27 hD_21
   cases l_19 with
   | nil =>
    obtain rfl:=ah hL_27
    refine af (aa (ae (vB (decide ((k_18:Int)<(slices_1.length:Int)))) wz rfl (aj ?_)))
    refine af (aB rfl (drop_nil hD_21) (aP ?_))
    exact aN (s_23,n_25) rfl rfl (aJ rfl)
   | cons x_20 l_19 =>
    obtain ⟨c_,hc_26,hL_27⟩:=bind_some hL_27
    refine af (aa (ae (vB (decide ((k_18:Int)<(slices_1.length:Int)))) wz rfl (aj ?_)))
    refine af (aC rfl (bf hD_21) (ax ?_))
    unfold gL at hc_26
    refine af (ay (af (aa (dK Pg rfl rfl (bG hD_21) rfl wz (bB JZ KE rfl (vL Rect.enc x_20) rfl wz (ae (vL Rect.enc x_20) wz rfl (aj (aa (ae (kV b_15 n_25 4 s_23) wz rfl (ae (vL Rect.enc x_20) wz rfl ?_))))))))))
    obtain ⟨a_30,hz_31,hc_26⟩:=bind_some hc_26
    refine P5 0 il ft (i:=0) IP IP vH z55 rfl (by decide) by55 (by decide) (λ_=>rfl) rfl rfl rfl hz_31 wz (λn_32=>ae (kV b_15 n_32 4 a_30) wz rfl (aj (aa (fu (bA hD_21 hn_22) wz rfl (ae (vI ((k_18+1:Nat):Int)) wz rfl (aj ?_))))))
    obtain rfl:=ah hc_26
    exact aO (k_18+1,l_19,a_30,n_32) ⟨hL_27,aR hD_21⟩ (ls_ _) rfl (aJ rfl)
  ·rintro ⟨s_23,n_25⟩ ho_ sl_ H_ hp_ hq_
   subst ho_
   refine aL _ hp_ hq_ (af (aa (ae (kV b_15 n_25 4 s_23) wz rfl (ae (kV b_15 n_25 4 s_23) wz rfl (aj (N9 0 rfl (LK 2 0 rfl rfl (LK 6 0 rfl rfl (LK 35 0 rfl rfl ?_)))))))))
   obtain rfl:=ah hF
   exact aG (aU (.inr rfl) [(vL Rect.enc s_23)] ⟨rfl,trivial⟩ rfl rfl rfl)
theorem Br {a_1:Run} {b_2:Run} {r:Int} (hF:uU a_1 b_2=some r) :
  FnM Tryz.prog 129 [(.d (.agg (Run.enc a_1))),(.d (.agg (Run.enc b_2)))] [] (vI r) []:=by
 refine FnM.of_wH ⟨Tryz.prog,10,[],[]⟩ rfl Tryz.func129 rfl rfl (lb_ rfl) (by kernel_rfl) ?_
 unfold uU at hF
 refine af (aa (dL 0 (.inl rfl) [(vI a_1.f_from),(vI a_1.f_to)] rfl rfl wz (λn_3=>dL 0 (.inl rfl) [(vI b_2.f_from),(vI b_2.f_to)] rfl rfl wz (λn_4=>ae (vI 0) wz rfl (aj (af (aa (aH mM rfl 0 rfl wz (aA 0 0 il ft sz3 ag3 rfl rfl (vI a_1.f_from) rfl wz (aH mM rfl 0 rfl wz (aA 0 1 il ft sz3 ag3 rfl rfl (vI b_2.f_from) rfl wz (ae (vI (w64 (a_1.f_from-b_2.f_from))) wz rfl (ae (vI (w64 (a_1.f_from-b_2.f_from))) wz rfl (aj ?_))))))))))))))
 obtain rfl:=ah hF
 exact aG (aU (.inr rfl) [(vI (w64 (a_1.f_from-b_2.f_from)))] ⟨rfl,trivial⟩ rfl rfl rfl)
theorem lc {data_1:(List Run)} {a_2:Int} {b_3:Int} {r:(List Run)} (hF:bX data_1 a_2 b_3=some r) :
  FnM Tryz.prog 161 [(dV (av 0) 2 data_1),(vI a_2),(vI b_3),(.fn 129 [])] (([]:List Box)++gI 2 Run.enc data_1) (.tup []) (([]:List Box).map some++gT data_1 (gB 2 Run.enc r)):=by
 refine FnM.of_wHv ⟨Tryz.prog,53,[],[]⟩ rfl Tryz.func161 rfl rfl (lb_ rfl) (by kernel_rfl) ?_
 unfold bX at hF
 refine af (aa (ae (vI a_2) wz rfl (ae (vI (w64 (a_2+1))) wz rfl (ae (vI (w64 (a_2+1))) wz rfl (aj ?_)))))
 obtain ⟨o_13,hj_14,hF⟩:=bind_some hF
 obtain ⟨nq_51,hj_14⟩:=bR hj_14
 refine aD (β:=((List Run)×Int)) (λ(s_10:(List Run)×Int)=>([]:SL_)) (λ(s_10:(List Run)×Int)=>([((av 0),gB 2 Run.enc s_10.1)]:Hp)) (λp=>o_13 = .go p) ?_ ?_
 ·refine ay (aS (β:=Nat×((List Run)×Int)) (λp=>(λ(k_5:Nat) (s_10:(List Run)×Int)=>([(0,(dV (av 0) 2 s_10.1)),(1,(vI a_2)),(2,(vI b_3)),(3,(.fn 129 [])),(8,(vI s_10.2))]:SL_)) p.1 p.2) (λp=>(λ(k_5:Nat) (s_10:(List Run)×Int)=>([((av 0),gB 2 Run.enc s_10.1)]:Hp)) p.1 p.2) (λp=>iterN (λs=>bQ b_3 a_2 s) p.1 p.2=some o_13) (λp=>p.1) (nq_51,(data_1,(w64 (a_2+1)))) hj_14 rfl (aJ rfl) ?_)
  rintro ⟨k_5,s_10⟩ hL_12
  dsimp only at hL_12
  cases k_5 with
  | zero=>cases hL_12
  | succ k_5 =>
   obtain ⟨c_,hc_11,hL_12⟩:=bind_some hL_12
   unfold bQ at hc_11
   refine af (af (aa (ae (vI s_10.2) wz rfl (ae (vI b_3) wz rfl (ae (vB (decide (s_10.2<b_3))) wz rfl (aj ?_))))))
   rcases au hc_11 with⟨hc_15,hc_11⟩|⟨hc_15,hc_11⟩
   ·refine aC rfl hc_15 (ax (af (ay (af (aa (ae (vI s_10.2) wz rfl (ae (vI s_10.2) wz rfl (aj ?_))))))))
    obtain ⟨o_24,hj_25,hc_11⟩:=bind_some hc_11
    obtain ⟨nq_50,hj_25⟩:=bR hj_25
    refine aD (β:=((List Run)×Int)) (λ(s_21:(List Run)×Int)=>([(0,(dV (av 0) 2 s_21.1)),(1,(vI a_2)),(2,(vI b_3)),(3,(.fn 129 [])),(8,(vI s_10.2))]:SL_)) (λ(s_21:(List Run)×Int)=>([((av 0),gB 2 Run.enc s_21.1)]:Hp)) (λp=>o_24 = .go p) ?_ ?_
    ·refine ay (aS (β:=Nat×((List Run)×Int)) (λp=>(λ(k_16:Nat) (s_21:(List Run)×Int)=>([(0,(dV (av 0) 2 s_21.1)),(1,(vI a_2)),(2,(vI b_3)),(3,(.fn 129 [])),(8,(vI s_10.2)),(9,(vI s_21.2))]:SL_)) p.1 p.2) (λp=>(λ(k_16:Nat) (s_21:(List Run)×Int)=>([((av 0),gB 2 Run.enc s_21.1)]:Hp)) p.1 p.2) (λp=>iterN (λs=>dw a_2 s) p.1 p.2=some o_24) (λp=>p.1) (nq_50,(s_10.1,s_10.2)) hj_25 rfl (aJ rfl) ?_)
     rintro ⟨k_16,s_21⟩ hL_23
     dsimp only at hL_23
     cases k_16 with
     | zero=>cases hL_23
     | succ k_16 =>
      obtain ⟨c_,hc_22,hL_23⟩:=bind_some hL_23
      unfold dw at hc_22
      refine af (af ?_)
      obtain ⟨v_26,h_27,hc_22⟩:=bind_some hc_22
      refine aD (β:=Unit) (λ_=>([(0,(dV (av 0) 2 s_21.1)),(1,(vI a_2)),(2,(vI b_3)),(3,(.fn 129 [])),(8,(vI s_10.2)),(9,(vI s_21.2)),(34,(vB v_26))]:SL_)) (λ_=>([((av 0),gB 2 Run.enc s_21.1)]:Hp)) (λ_=>True) ?_ ?_
      ·refine aW (ae (vI s_21.2) wz rfl (ae (vI a_2) wz rfl (ae (vB (decide (s_21.2>a_2))) wz rfl ?_)))
       rcases au h_27 with⟨hc_28,h_27⟩|⟨hc_28,h_27⟩
       ·refine aF rfl hc_28 wz (ae (.fn 129 []) wa rfl (ae (dV (av 0) 2 s_21.1) wa rfl (ae (vI s_21.2) wa rfl ?_)))
        obtain ⟨_,hi_29,h_27⟩:=bind_some h_27
        refine jQ mV rfl rfl (ig hi_29) (eX hi_29) wa ?_
        obtain ⟨e_30,hy_31,h_27⟩:=bind_some h_27
        refine jr 8 0 (.inr (by kernel_rfl)) (λ_ _ ag=>trivial) oQ yh rfl rfl hy_31 (.d (.agg (Run.enc e_30))) rfl wa (ae (dV (av 0) 2 s_21.1) wa rfl (ae (vI s_21.2) wa rfl (ae (vI (w64 (s_21.2-1))) wa rfl ?_)))
        obtain ⟨_,hi_32,h_27⟩:=bind_some h_27
        refine jQ mV rfl rfl (ig hi_32) (eX hi_32) wa ?_
        obtain ⟨e_33,hy_34,h_27⟩:=bind_some h_27
        refine jr 13 0 (.inr (by kernel_rfl)) (λ_ _ ag=>⟨.inl ⟨rfl,rfl⟩,trivial⟩) oQ yh rfl rfl hy_34 (.d (.agg (Run.enc e_33))) rfl wa ?_
        obtain ⟨r_35,hr_36,h_27⟩:=bind_some h_27
        refine aI (Br hr_36) rfl hb129 rfl rfl rfl rfl wa (ae (vB (decide (r_35<0))) wa rfl (ae (vB (decide (r_35<0))) wz rfl (aj ?_)))
        obtain rfl:=ah h_27
        exact cu
       ·refine aF rfl hc_28 wz (ak wa (ak wa (ak wa (ak wa (ak wa (ak wa (ak wa (ak wa (ak wa (ak wa (ak wa (ak wa (ae (vB false) wz rfl (aj ?_))))))))))))))
        obtain rfl:=ah h_27
        exact cu
      ·rintro ⟨⟩ _ sl_ H_ hp_ hq_
       refine aL _ hp_ hq_ ?_
       rcases au hc_22 with⟨hc_37,hc_22⟩|⟨hc_37,hc_22⟩
       ·refine aC rfl hc_37 (ax (af (ay (aW (ae (dV (av 0) 2 s_21.1) wz rfl (ae (vI s_21.2) wz rfl (ae (dV (av 0) 2 s_21.1) wz rfl (ae (vI s_21.2) wz rfl (ae (vI (w64 (s_21.2-1))) wz rfl (ae (dV (av 0) 2 s_21.1) wz rfl (ae (vI s_21.2) wz rfl (ae (vI (w64 (s_21.2-1))) wz rfl ?_))))))))))))
        obtain ⟨_,hi_38,hc_22⟩:=bind_some hc_22
        refine jQ mV rfl rfl (ig hi_38) (eX hi_38) wz ?_
        obtain ⟨e_39,hy_40,hc_22⟩:=bind_some hc_22
        refine jr 9 0 (.inr (by kernel_rfl)) (λ_ _ ag=>trivial) oQ yh rfl rfl hy_40 (.d (.agg (Run.enc e_39))) rfl wz (ae (dV (av 0) 2 s_21.1) wz rfl (ae (vI s_21.2) wz rfl ?_))
        obtain ⟨_,hi_41,hc_22⟩:=bind_some hc_22
        refine jQ mV rfl rfl (ig hi_41) (eX hi_41) wz ?_
        obtain ⟨e_42,hy_43,hc_22⟩:=bind_some hc_22
        refine jr 13 0 (.inr (by kernel_rfl)) (λ_ _ ag=>⟨.inl ⟨rfl,rfl⟩,trivial⟩) oQ yh rfl rfl hy_43 (.d (.agg (Run.enc e_42))) rfl wz ?_
        obtain ⟨_,hi_44,hc_22⟩:=bind_some hc_22
        refine jQ mV rfl rfl (ig hi_44) (eX hi_44) wz ?_
        obtain ⟨e_45,hy_46,hc_22⟩:=bind_some hc_22
        refine sU 15 (.inr (by kernel_rfl)) (λ_ _ ag=>⟨.inr (.inr (by kernel_rfl)),⟨.inr (.inr (by kernel_rfl)),trivial⟩⟩) 0 oQ rfl rfl hy_46 e_39 rfl wz (dn (v':=(dV (av 0) 2 (s_21.1.set (0+(s_21.2).toNat) e_39))) 0 rfl (dQ (by simp)) (dn (v':=(dV (av 0) 2 (s_21.1.set (0+(s_21.2).toNat) e_39))) 37 rfl (dQ (by simp)) (dn (v':=(dV (av 0) 2 (s_21.1.set (0+(s_21.2).toNat) e_39))) 39 rfl (dQ (by simp)) (dn (v':=(dV (av 0) 2 (s_21.1.set (0+(s_21.2).toNat) e_39))) 42 rfl (dQ (by simp)) (dn (v':=(dV (av 0) 2 (s_21.1.set (0+(s_21.2).toNat) e_39))) 47 rfl (dQ (by simp)) ?_)))))
        obtain ⟨_,hi_47,hc_22⟩:=bind_some hc_22
        refine jQ mV rfl rfl (ig hi_47) (eX hi_47) wz ?_
        obtain ⟨e_48,hy_49,hc_22⟩:=bind_some hc_22
        refine sU 17 (.inr (by kernel_rfl)) (λ_ _ ag=>⟨.inr (.inr (by kernel_rfl)),⟨.inr (.inr (by kernel_rfl)),⟨.inr (.inr (by kernel_rfl)),trivial⟩⟩⟩) 0 oQ rfl rfl hy_49 e_42 rfl wz (dn (v':=(dV (av 0) 2 ((s_21.1.set (0+(s_21.2).toNat) e_39).set (0+((w64 (s_21.2-1))).toNat) e_42))) 0 rfl (dQ (by simp)) (dn (v':=(dV (av 0) 2 ((s_21.1.set (0+(s_21.2).toNat) e_39).set (0+((w64 (s_21.2-1))).toNat) e_42))) 37 rfl (dQ (by simp)) (dn (v':=(dV (av 0) 2 ((s_21.1.set (0+(s_21.2).toNat) e_39).set (0+((w64 (s_21.2-1))).toNat) e_42))) 39 rfl (dQ (by simp)) (dn (v':=(dV (av 0) 2 ((s_21.1.set (0+(s_21.2).toNat) e_39).set (0+((w64 (s_21.2-1))).toNat) e_42))) 42 rfl (dQ (by simp)) (dn (v':=(dV (av 0) 2 ((s_21.1.set (0+(s_21.2).toNat) e_39).set (0+((w64 (s_21.2-1))).toNat) e_42))) 47 rfl (dQ (by simp)) (aj (aa (ae (vI s_21.2) wz rfl (ae (vI (w64 (s_21.2-1))) wz rfl (ae (vI (w64 (s_21.2-1))) wz rfl (aj ?_)))))))))))
        obtain rfl:=ah hc_22
        exact aO (k_16,(((s_21.1.set (0+(s_21.2).toNat) e_39).set (0+((w64 (s_21.2-1))).toNat) e_42),(w64 (s_21.2-1)))) hL_23 (ls_ _) rfl (aJ rfl)
       ·refine aB rfl hc_37 (aP ?_)
        obtain rfl:=ah hc_22
        obtain rfl:=ah hL_23
        exact aN ((s_21.1,s_21.2)) rfl rfl (aJ rfl)
    ·rintro s_21 ho_ sl_ H_ hp_ hq_
     subst ho_
     refine aL _ hp_ hq_ (aa (ae (vI s_10.2) wz rfl (ae (vI (w64 (s_10.2+1))) wz rfl (ae (vI (w64 (s_10.2+1))) wz rfl (aj ?_)))))
     obtain rfl:=ah hc_11
     exact aO (k_5,(s_21.1,(w64 (s_10.2+1)))) hL_12 (ls_ _) rfl (aJ rfl)
   ·refine aB rfl hc_15 (aP ?_)
    obtain rfl:=ah hc_11
    obtain rfl:=ah hL_12
    exact aN ((s_10.1,s_10.2)) rfl rfl (aJ rfl)
 ·rintro s_10 ho_ sl_ H_ hp_ hq_
  subst ho_
  show uO _ _ _ _ _ _ _ _
  obtain rfl:=ah hF
  exact yO (H0:=([((av 0),gB 2 Run.enc s_10.1)]:Hp)) (sl':=envS []) hq_ (y9 (bs:=([]:List Box)) (os:=([]:List Box)) (xs:=data_1) (o:=gB 2 Run.enc s_10.1) (.inl rfl) [] trivial rfl rfl rfl rfl rfl (by kernel_rfl) kX rfl)
theorem nC {data_1:(List Run)} {a_2:Int} {b_3:Int} {limit_4:Int} {r:(List Run)} (hF:dD data_1 a_2 b_3 limit_4=some r) :
  FnM Tryz.prog 147 [(dV (av 0) 2 data_1),(vI a_2),(vI b_3),(vI limit_4),(.fn 129 [])] (([]:List Box)++gI 2 Run.enc data_1) (.tup []) (([]:List Box).map some++gT data_1 (gB 2 Run.enc r)):=by
 refine FnM.of_wHv ⟨Tryz.prog,148,[],[]⟩ rfl Tryz.func147 rfl rfl (lb_ rfl) (by kernel_rfl) ?_
 unfold dD at hF
 refine af (aa (ae (vB true) wz rfl (aj (af (aa (ae (vB true) wz rfl (aj ?_)))))))
 obtain ⟨o_14,hj_15,hF⟩:=bind_some hF
 obtain ⟨nq_21,hj_15⟩:=bR hj_15
 refine aD (β:=(Unit)) (λ(s_11:Unit)=>([]:SL_)) (λ(s_11:Unit)=>([((av 0),gB 2 Run.enc data_1)]:Hp)) (λp=>o_14 = .go p) ?_ ?_
 ·refine ay (aS (β:=Nat×(Unit)) (λp=>(λ(k_6:Nat) (s_11:Unit)=>([(0,(dV (av 0) 2 data_1)),(1,(vI a_2)),(2,(vI b_3)),(3,(vI limit_4)),(4,(.fn 129 [])),(10,(vB true)),(11,(vB true))]:SL_)) p.1 p.2) (λp=>(λ(k_6:Nat) (s_11:Unit)=>([((av 0),gB 2 Run.enc data_1)]:Hp)) p.1 p.2) (λp=>iterN (λs=>dh b_3 a_2 data_1 limit_4 s) p.1 p.2=some o_14) (λp=>p.1) (nq_21,()) hj_15 rfl (aJ rfl) ?_)
  rintro ⟨k_6,s_11⟩ hL_13
  dsimp only at hL_13
  cases k_6 with
  | zero=>cases hL_13
  | succ k_6 =>
   obtain ⟨c_,hc_12,hL_13⟩:=bind_some hL_13
   unfold dh at hc_12
   refine ay (af (aa (ae (vI b_3) wz rfl (ae (vI a_2) wz rfl (ae (vI (w64 (b_3-a_2))) wz rfl (ae (vI (w64 (b_3-a_2))) wz rfl (aj (af (af (aa (ae (vI (w64 (b_3-a_2))) wz rfl (ae (vB (decide ((w64 (b_3-a_2))<=12))) wz rfl (aj ?_)))))))))))))
   rcases au hc_12 with⟨hc_16,hc_12⟩|⟨hc_16,hc_12⟩
   ·refine aC rfl hc_16 (af (aa (ae (dV (av 0) 2 data_1) wz rfl (ae (vI a_2) wz rfl (ae (vI b_3) wz rfl (ae (.fn 129 []) wz rfl ?_))))))
    obtain ⟨r_17,hr_18,hc_12⟩:=bind_some hc_12
    obtain ⟨_,hs_19,hc_12⟩:=bind_some hc_12
    replace hs_19:=lm hs_19
    refine kw 0 [] 0 0 il ft (lc hr_18) rfl hb161 rfl rfl rfl (by kernel_rfl) rfl (.inr (.inl rfl)) rfl (by kernel_rfl) (by kernel_rfl) (by kernel_rfl) (by kernel_rfl) rfl (by decide) (by kernel_rfl) kX (uC hs_19) wz ([((av 0),gB 2 Run.enc r_17)]:Hp) (by kernel_rfl) (dn (v':=(dV (av 0) 2 r_17)) 0 rfl (dQ hs_19.symm) (dn (v':=(dV (av 0) 2 r_17)) 26 rfl (dQ hs_19.symm) (aj ?_)))
    obtain rfl:=ah hc_12
    obtain rfl:=ah hL_13
    obtain rfl:=ah hF
    exact aG (y9 (bs:=([]:List Box)) (os:=([]:List Box)) (xs:=data_1) (o:=gB 2 Run.enc r_17) (.inr rfl) [] trivial rfl rfl rfl rfl rfl (by kernel_rfl) kX rfl)
   ·refine aB rfl hc_16 (ax (af (af (aa (ae (vI limit_4) wz rfl (ae (vB (limit_4==0)) wz rfl (aj ?_)))))))
    rcases au hc_12 with⟨hc_20,hc_12⟩|⟨hc_20,hc_12⟩
    ·refine aC rfl hc_20 (af (aa (ae (dV (av 0) 2 data_1) wz rfl (ae (vI a_2) wz rfl (ae (vI b_3) wz rfl (ae (.fn 129 []) wz rfl ?_))))))
     cases hc_12
    ·refine aB rfl hc_20 (ax (af (af (aa (ae (vB true) wz rfl (ae (vB false) wz rfl (aj (aB rfl rfl (ax (af (aa (ae (dV (av 0) 2 data_1) wz rfl (ae (vI a_2) wz rfl (ae (vI b_3) wz rfl (ae (.fn 129 []) wz rfl ?_)))))))))))))))
     cases hc_12
 ·rintro s_11 ho_ sl_ H_ hp_ hq_
  subst ho_
  show uO _ _ _ _ _ _ _ _
  obtain rfl:=ah hF
  exact yO (H0:=([((av 0),gB 2 Run.enc data_1)]:Hp)) (sl':=envS []) hq_ (y9 (bs:=([]:List Box)) (os:=([]:List Box)) (xs:=data_1) (o:=gB 2 Run.enc data_1) (.inl rfl) [] trivial rfl rfl rfl rfl rfl (by kernel_rfl) kX rfl)
theorem lC {x_1:(List Run)} {r:(List Run)} (hF:cz x_1=some r) :
  FnM Tryz.prog 128 [(dV (av 0) 2 x_1),(.fn 129 [])] (([]:List Box)++gI 2 Run.enc x_1) (.tup []) (([]:List Box).map some++gT x_1 (gB 2 Run.enc r)):=by
 refine FnM.of_wHv ⟨Tryz.prog,14,[],[]⟩ rfl Tryz.func128 rfl rfl (lb_ rfl) (by kernel_rfl) ?_
 unfold cz at hF
 refine af (aa (ae (dV (av 0) 2 x_1) wz rfl (zQ zG rfl wz (ae (vI (x_1.length:Int)) wz rfl (aj (aa (ae (dV (av 0) 2 x_1) wz rfl (ae (vI (x_1.length:Int)) wz rfl (ae (vI (x_1.length:Int)) wz rfl (nD un3 K8 rfl wz ?_))))))))))
 obtain ⟨r_3,hr_4,hF⟩:=bind_some hF
 refine aI (qw hr_4) rfl hb28 rfl rfl rfl rfl wz (ae (.fn 129 []) wz rfl ?_)
 obtain ⟨r_5,hr_6,hF⟩:=bind_some hF
 obtain ⟨_,hs_7,hF⟩:=bind_some hF
 replace hs_7:=lm hs_7
 refine kw 0 [] 0 0 il ft (nC hr_6) rfl hb147 rfl rfl rfl (by kernel_rfl) rfl (.inr (.inl rfl)) rfl (by kernel_rfl) (by kernel_rfl) (by kernel_rfl) (by kernel_rfl) rfl (by decide) (by kernel_rfl) kX (uC hs_7) wz ([((av 0),gB 2 Run.enc r_5)]:Hp) (by kernel_rfl) (dn (v':=(dV (av 0) 2 r_5)) 0 rfl (dQ hs_7.symm) (dn (v':=(dV (av 0) 2 r_5)) 5 rfl (dQ hs_7.symm) (dn (v':=(dV (av 0) 2 r_5)) 7 rfl (dQ hs_7.symm) (aj ?_))))
 show uO _ _ _ _ _ _ _ _
 obtain rfl:=ah hF
 exact y9 (bs:=([]:List Box)) (os:=([]:List Box)) (xs:=x_1) (o:=gB 2 Run.enc r_5) (.inl rfl) [] trivial rfl rfl rfl rfl rfl (by kernel_rfl) kX rfl
theorem xS {l_1:(List Rect)} {y_2:Int} {r:(List Run)} (hF:oU l_1 y_2=some r) :
  FnM Tryz.prog 86 [(vL Rect.enc l_1),(vI y_2)] [] (vL Run.enc r) []:=by
 refine FnM.of_wH ⟨Tryz.prog,84,[],[]⟩ rfl Tryz.func86 rfl rfl (lb_ rfl) (by kernel_rfl) ?_
 unfold oU at hF
 refine af (aa (ae .nil wz rfl (aj (af (aa (ae .nil wz rfl (aj (af (af (aa (ae (vL Rect.enc l_1) wz rfl (bW BB rfl wz (ae (vI 0) wz rfl (aj (kg (λn_9 => ?_))))))))))))))))
 obtain ⟨o_14,hj_15,hF⟩:=bind_some hF
 obtain ⟨hn_7,hj_15⟩:=aV hj_15
 refine aD (β:=((List Run))×Nm) (λp=>(λ(s_8:List Run) (n_11:Nm)=>([(5,(gV n_11 2 s_8))]:SL_)) p.1 p.2) (λp=>(λ(s_8:List Run) (n_11:Nm)=>([(n_11,gB 2 Run.enc s_8)]:Hp)) p.1 p.2) (λp=>o_14 = .go p.1) ?_ ?_
 ·refine ay (aS (β:=Nat×(List Rect)×((List Run))×Nm) (λp=>(λ(k_3:Nat) (l_4:List Rect) (s_8:List Run) (n_11:Nm)=>([(1,(vI y_2)),(5,(gV n_11 2 s_8)),(12,(vL Rect.enc l_1)),(13,(vI (l_1.length:Int))),(14,(vI (k_3:Int)))]:SL_)) p.1 p.2.1 p.2.2.1 p.2.2.2) (λp=>(λ(k_3:Nat) (l_4:List Rect) (s_8:List Run) (n_11:Nm)=>([(n_11,gB 2 Run.enc s_8)]:Hp)) p.1 p.2.1 p.2.2.1 p.2.2.2) (λp=>forR (λk x s=>o7 y_2 k x s) p.2.1 p.1 p.2.2.1=some o_14/\(l_1).drop p.1=p.2.1) (λp=>p.2.1.length) (0,l_1,([]:List Run),n_9) ⟨hj_15,rfl⟩ rfl (aJ rfl) ?_)
  rintro ⟨k_3,l_4,s_8,n_11⟩ ⟨hL_13,hD_6⟩
  dsimp only at hL_13 hD_6
  cases l_4 with
  | nil =>
   obtain rfl:=ah hL_13
   refine af (aa (ae (vB (decide ((k_3:Int)<(l_1.length:Int)))) wz rfl (aj ?_)))
   refine af (aB rfl (drop_nil hD_6) (aP ?_))
   exact aN (s_8,n_11) rfl rfl (aJ rfl)
  | cons x_5 l_4 =>
   obtain ⟨c_,hc_12,hL_13⟩:=bind_some hL_13
   refine af (aa (ae (vB (decide ((k_3:Int)<(l_1.length:Int)))) wz rfl (aj ?_)))
   refine af (aC rfl (bf hD_6) (ax ?_))
   unfold o7 at hc_12
   refine af (ay (af (aa (dK Iu rfl rfl (bG hD_6) rfl wz (bB vH Io rfl (.d (.agg (Rect.enc x_5))) rfl wz (cK 0 (.inl rfl) z55 rfl wz (λn_16=>eD 0 il ft 1 vH rfl rfl [(vI x_5.X),(vI x_5.Y),(vI x_5.W),(vI x_5.H)] rfl wz (aj (af ?_)))))))))
   obtain ⟨v_17,h_18,hc_12⟩:=bind_some hc_12
   refine aD (β:=Unit) (λ_=>([(1,(vI y_2)),(5,(gV n_11 2 s_8)),(7,(.ref n_16 0 0)),(12,(vL Rect.enc l_1)),(13,(vI (l_1.length:Int))),(14,(vI (k_3:Int))),(30,(vB v_17))]:SL_)) (λ_=>([(n_11,gB 2 Run.enc s_8),(n_16,some (.cells 4 [(vI x_5.X),(vI x_5.Y),(vI x_5.W),(vI x_5.H)]))]:Hp)) (λ_=>True) ?_ ?_
   ·refine aa (aH yl rfl 1 rfl wz (aA 0 1 il ft sz3 ag3 rfl rfl (vI x_5.Y) rfl wz (ae (vI y_2) wz rfl (ae (vB (decide (x_5.Y<=y_2))) wz rfl ?_))))
    rcases au h_18 with⟨hc_19,h_18⟩|⟨hc_19,h_18⟩
    ·refine aF rfl hc_19 wz (ae (vI y_2) wa rfl (aH yl rfl 1 rfl wa (aA 0 1 il ft sz3 ag3 rfl rfl (vI x_5.Y) rfl wa (aH Fe rfl 3 rfl wa (aA 0 1 il ft sz3 ag3 rfl rfl (vI x_5.H) rfl wa (ae (vI (w64 (x_5.Y+x_5.H))) wa rfl (ae (vB (decide (y_2<(w64 (x_5.Y+x_5.H))))) wa rfl (ae (vB (decide (y_2<(w64 (x_5.Y+x_5.H))))) wz rfl (aj ?_)))))))))
     obtain rfl:=ah h_18
     exact cu
    ·refine aF rfl hc_19 wz (ak wa (ak wa (ak wa (ak wa (ak wa (ak wa (ak wa (ae (vB false) wz rfl (aj ?_)))))))))
     obtain rfl:=ah h_18
     exact cu
   ·rintro ⟨⟩ _ sl_ H_ hp_ hq_
    refine aL _ hp_ hq_ ?_
    obtain ⟨v_20,h_21,hc_12⟩:=bind_some hc_12
    refine aD (β:=Nm) (λ(n_22:Nm)=>([(1,(vI y_2)),(5,(gV n_22 2 v_20)),(12,(vL Rect.enc l_1)),(13,(vI (l_1.length:Int))),(14,(vI (k_3:Int)))]:SL_)) (λ(n_22:Nm)=>([(n_22,gB 2 Run.enc v_20),(n_16,some (.cells 4 [(vI x_5.X),(vI x_5.Y),(vI x_5.W),(vI x_5.H)]))]:Hp)) (λ_=>True) ?_ ?_
    ·rcases au h_21 with⟨hc_23,h_21⟩|⟨hc_23,h_21⟩
     ·refine aC rfl hc_23 (aa (ae (gV n_11 2 s_8) wz rfl (aH Cg rfl 0 rfl wz (aA 0 1 il ft sz3 ag3 rfl rfl (vI x_5.X) rfl wz (aH Cg rfl 0 rfl wz (aA 0 1 il ft sz3 ag3 rfl rfl (vI x_5.X) rfl wz (aH IG rfl 2 rfl wz (aA 0 1 il ft sz3 ag3 rfl rfl (vI x_5.W) rfl wz (ae (vI (w64 (x_5.X+x_5.W))) wz rfl (ae (.d (.agg (Run.enc (⟨x_5.X,(w64 (x_5.X+x_5.W))⟩:Run)))) wz (by kernel_rfl) (dW (([(⟨x_5.X,(w64 (x_5.X+x_5.W))⟩:Run)]:List Run).map Run.enc) mV MK rfl rfl rfl rfl rfl wz ?_)))))))))))
      obtain ⟨a_24,hz_25,h_21⟩:=bind_some h_21
      refine jS 0 il ft (i:=0) CF CF oQ z146 rfl (by decide) MB (by decide) (λ_=>rfl) rfl rfl rfl hz_25 wz (λn_26=>ae (gV n_26 2 a_24) wz rfl (aj ?_))
      obtain rfl:=ah h_21
      exact aN n_26 trivial rfl (aJ rfl)
     ·refine aB rfl hc_23 (ax ?_)
      obtain rfl:=ah h_21
      exact aN n_11 trivial rfl (aJ rfl)
    ·rintro n_22 _ sl_ H_ hp_ hq_
     refine aL _ hp_ hq_ (aa (fu (bA hD_6 hn_7) wz rfl (ae (vI ((k_3+1:Nat):Int)) wz rfl (aj ?_))))
     obtain rfl:=ah hc_12
     exact aO (k_3+1,l_4,v_20,n_22) ⟨hL_13,aR hD_6⟩ (ls_ _) rfl (aJ rfl)
 ·rintro ⟨s_8,n_11⟩ ho_ sl_ H_ hp_ hq_
  subst ho_
  refine aL _ hp_ hq_ (af (aa (ae (gV n_11 2 s_8) wz rfl ?_)))
  obtain ⟨r_27,hr_28,hF⟩:=bind_some hF
  obtain ⟨_,hs_29,hF⟩:=bind_some hF
  replace hs_29:=lm hs_29
  refine kw 0 [] 0 0 il ft (lC hr_28) rfl hb128 rfl rfl rfl (by kernel_rfl) rfl (.inl rfl) rfl (by kernel_rfl) (by kernel_rfl) (by kernel_rfl) (by kernel_rfl) rfl (by decide) (by kernel_rfl) kX (uC hs_29) wz ([(n_11,gB 2 Run.enc r_27)]:Hp) (by kernel_rfl) (dn (v':=(gV n_11 2 r_27)) 43 rfl (iK hs_29.symm) (dn (v':=(gV n_11 2 r_27)) 5 rfl (iK hs_29.symm) (aj (af (aa (ae .nil wz rfl (aj (af (af (aa (ae (gV n_11 2 r_27) wz rfl (ym zG rfl wz (ae (vI 0) wz rfl (aj (gJ 0 rfl (dJ 5 0 rfl rfl (dJ 43 0 rfl rfl (dJ 45 0 rfl rfl (kg (λn_36 => ?_))))))))))))))))))))
  obtain ⟨o_41,hj_42,hF⟩:=bind_some hF
  obtain ⟨hn_34,hj_42⟩:=aV hj_42
  refine aD (β:=((List Run))×Nm) (λp=>(λ(s_35:List Run) (n_38:Nm)=>([(8,(gV n_38 2 s_35))]:SL_)) p.1 p.2) (λp=>(λ(s_35:List Run) (n_38:Nm)=>([(n_11,gF 2 Run.enc r_27),(n_38,gB 2 Run.enc s_35)]:Hp)) p.1 p.2) (λp=>o_41 = .go p.1) ?_ ?_
  ·refine ay (aS (β:=Nat×(List Run)×((List Run))×Nm) (λp=>(λ(k_30:Nat) (l_31:List Run) (s_35:List Run) (n_38:Nm)=>([(8,(gV n_38 2 s_35)),(45,(vL Run.enc r_27)),(46,(vI (r_27.length:Int))),(47,(vI (k_30:Int)))]:SL_)) p.1 p.2.1 p.2.2.1 p.2.2.2) (λp=>(λ(k_30:Nat) (l_31:List Run) (s_35:List Run) (n_38:Nm)=>([(n_11,gF 2 Run.enc r_27),(n_38,gB 2 Run.enc s_35)]:Hp)) p.1 p.2.1 p.2.2.1 p.2.2.2) (λp=>forR (λk x s=>pq k x s) p.2.1 p.1 p.2.2.1=some o_41/\(r_27).drop p.1=p.2.1) (λp=>p.2.1.length) (0,r_27,([]:List Run),n_36) ⟨hj_42,rfl⟩ rfl (aJ rfl) ?_)
   rintro ⟨k_30,l_31,s_35,n_38⟩ ⟨hL_40,hD_33⟩
   dsimp only at hL_40 hD_33
   cases l_31 with
   | nil =>
    obtain rfl:=ah hL_40
    refine af (aa (ae (vB (decide ((k_30:Int)<(r_27.length:Int)))) wz rfl (aj ?_)))
    refine af (aB rfl (drop_nil hD_33) (aP ?_))
    exact aN (s_35,n_38) rfl rfl (aJ rfl)
   | cons x_32 l_31 =>
    obtain ⟨c_,hc_39,hL_40⟩:=bind_some hL_40
    refine af (aa (ae (vB (decide ((k_30:Int)<(r_27.length:Int)))) wz rfl (aj ?_)))
    refine af (aC rfl (bf hD_33) (ax ?_))
    unfold pq at hc_39
    refine af (ay (af (aa (dK mV rfl rfl (bG hD_33) rfl wz (bB oQ yh rfl (.d (.agg (Run.enc x_32))) rfl wz (cK 0 (.inl rfl) z146 rfl wz (λn_43=>eD 0 il ft 2 oQ rfl rfl [(vI x_32.f_from),(vI x_32.f_to)] rfl wz (aj (af (aa (ae (gV n_38 2 s_35) wz rfl (ym zG rfl wz (ae (vI (w64 ((s_35.length:Int)-1))) wz rfl (ae (vI (w64 ((s_35.length:Int)-1))) wz rfl (aj (af ?_))))))))))))))))
    obtain ⟨v_44,h_45,hc_39⟩:=bind_some hc_39
    refine aD (β:=Unit) (λ_=>([(8,(gV n_38 2 s_35)),(10,(.ref n_43 0 0)),(11,(vI (w64 ((s_35.length:Int)-1)))),(45,(vL Run.enc r_27)),(46,(vI (r_27.length:Int))),(47,(vI (k_30:Int))),(65,(vB v_44))]:SL_)) (λ_=>([(n_11,gF 2 Run.enc r_27),(n_38,gB 2 Run.enc s_35),(n_43,some (.cells 2 [(vI x_32.f_from),(vI x_32.f_to)]))]:Hp)) (λ_=>True) ?_ ?_
    ·refine aW (ae (vI (w64 ((s_35.length:Int)-1))) wz rfl (ae (vB (decide ((w64 ((s_35.length:Int)-1))>=0))) wz rfl ?_))
     rcases au h_45 with⟨hc_46,h_45⟩|⟨hc_46,h_45⟩
     ·refine aF rfl hc_46 wz (aH mM rfl 0 rfl wa (aA 4 2 (.inr (by kernel_rfl)) (λ_ _ ag=>trivial) sz3 ag3 rfl rfl (vI x_32.f_from) rfl wa (ae (gV n_38 2 s_35) wa rfl (ae (vI (w64 ((s_35.length:Int)-1))) wa rfl ?_))))
      obtain ⟨_,hi_47,h_45⟩:=bind_some h_45
      refine qH mV rfl rfl (ig hi_47) (eX hi_47) wa (aH sH rfl 1 rfl wa ?_)
      obtain ⟨e_48,hy_49,h_45⟩:=bind_some h_45
      refine jr 9 1 (.inr (by kernel_rfl)) (λ_ _ ag=>⟨.inl ⟨rfl,rfl⟩,trivial⟩) sz3 ag3 rfl rfl hy_49 (vI e_48.f_to) rfl wa (ae (vB (decide (x_32.f_from<=e_48.f_to))) wa rfl (ae (vB (decide (x_32.f_from<=e_48.f_to))) wz rfl (aj ?_)))
      obtain rfl:=ah h_45
      exact cu
     ·refine aF rfl hc_46 wz (ak wa (ak wa (ak wa (ak wa (ak wa (ak wa (ak wa (ak wa (ae (vB false) wz rfl (aj ?_))))))))))
      obtain rfl:=ah h_45
      exact cu
    ·rintro ⟨⟩ _ sl_ H_ hp_ hq_
     refine aL _ hp_ hq_ ?_
     obtain ⟨v_50,h_51,hc_39⟩:=bind_some hc_39
     refine aD (β:=Nm) (λ(n_52:Nm)=>([(8,(gV n_52 2 v_50)),(45,(vL Run.enc r_27)),(46,(vI (r_27.length:Int))),(47,(vI (k_30:Int)))]:SL_)) (λ(n_52:Nm)=>([(n_11,gF 2 Run.enc r_27),(n_52,gB 2 Run.enc v_50),(n_43,some (.cells 2 [(vI x_32.f_from),(vI x_32.f_to)]))]:Hp)) (λ_=>True) ?_ ?_
     ·rcases au h_51 with⟨hc_53,h_51⟩|⟨hc_53,h_51⟩
      ·refine aC rfl hc_53 (aW (ae (gV n_38 2 s_35) wz rfl (ae (vI (w64 ((s_35.length:Int)-1))) wz rfl (ae (gV n_38 2 s_35) wz rfl (ae (vI (w64 ((s_35.length:Int)-1))) wz rfl ?_)))))
       obtain ⟨_,hi_54,h_51⟩:=bind_some h_51
       refine qH mV rfl rfl (ig hi_54) (eX hi_54) wz (aH sH rfl 1 rfl wz ?_)
       obtain ⟨e_55,hy_56,h_51⟩:=bind_some h_51
       refine jr 6 1 (.inr (by kernel_rfl)) (λ_ _ ag=>trivial) sz3 ag3 rfl rfl hy_56 (vI e_55.f_to) rfl wz (aH sH rfl 1 rfl wz (aA 8 2 (.inr (by kernel_rfl)) (λ_ _ ag=>⟨.inl ⟨rfl,rfl⟩,trivial⟩) sz3 ag3 rfl rfl (vI x_32.f_to) rfl wz (ma (vI (jE e_55.f_to x_32.f_to)) rfl (.inr rfl) wz ?_)))
       obtain ⟨_,hi_57,h_51⟩:=bind_some h_51
       refine qH mV rfl rfl (ig hi_57) (eX hi_57) wz (aH sH rfl 1 rfl wz ?_)
       obtain ⟨e_58,hy_59,h_51⟩:=bind_some h_51
       refine sU 12 (.inr (by kernel_rfl)) (λ_ _ ag=>⟨.inr (.inr (by kernel_rfl)),⟨.inr (.inr (by kernel_rfl)),trivial⟩⟩) 1 sz3 rfl rfl hy_59 (⟨e_58.f_from,(jE e_55.f_to x_32.f_to)⟩:Run) rfl wz (dn (v':=(gV n_38 2 (s_35.set (0+((w64 ((s_35.length:Int)-1))).toNat) (⟨e_58.f_from,(jE e_55.f_to x_32.f_to)⟩:Run)))) 8 rfl (iK (by simp)) (dn (v':=(gV n_38 2 (s_35.set (0+((w64 ((s_35.length:Int)-1))).toNat) (⟨e_58.f_from,(jE e_55.f_to x_32.f_to)⟩:Run)))) 66 rfl (iK (by simp)) (dn (v':=(gV n_38 2 (s_35.set (0+((w64 ((s_35.length:Int)-1))).toNat) (⟨e_58.f_from,(jE e_55.f_to x_32.f_to)⟩:Run)))) 68 rfl (iK (by simp)) (aj ?_))))
       obtain rfl:=ah h_51
       exact aN n_38 trivial rfl (aJ rfl)
      ·refine aB rfl hc_53 (aa (ae (gV n_38 2 s_35) wz rfl (aA 0 2 il ft oQ yh rfl rfl (.d (.agg (Run.enc x_32))) rfl wz (dW (([x_32]:List Run).map Run.enc) mV MK rfl rfl rfl rfl rfl wz ?_))))
       obtain ⟨a_60,hz_61,h_51⟩:=bind_some h_51
       refine jS 0 il ft (i:=1) CF CF oQ z146 rfl (by decide) MB (by decide) (λ_=>rfl) rfl rfl rfl hz_61 wz (λn_62=>ae (gV n_62 2 a_60) wz rfl (aj ?_))
       obtain rfl:=ah h_51
       exact aN n_62 trivial rfl (aJ rfl)
     ·rintro n_52 _ sl_ H_ hp_ hq_
      refine aL _ hp_ hq_ (aa (fu (bA hD_33 hn_34) wz rfl (ae (vI ((k_30+1:Nat):Int)) wz rfl (aj ?_))))
      obtain rfl:=ah hc_39
      exact aO (k_30+1,l_31,v_50,n_52) ⟨hL_40,aR hD_33⟩ (ls_ _) rfl (aJ rfl)
  ·rintro ⟨s_35,n_38⟩ ho_ sl_ H_ hp_ hq_
   subst ho_
   refine aL _ hp_ hq_ (af (aa (ae (gV n_38 2 s_35) wz rfl (ae (gV n_38 2 s_35) wz rfl (aj (gJ 1 rfl (dJ 4 1 rfl rfl (dJ 8 1 rfl rfl (dJ 83 1 rfl rfl ?_)))))))))
   obtain rfl:=ah hF
   exact aG (aU (.inr rfl) [(vL Run.enc s_35)] ⟨rfl,trivial⟩ rfl rfl rfl)
theorem EE {l_1:(List Run)} {m_2:(List Run)} {r:(List Run)} (hF:qO l_1 m_2=some r) :
  FnM Tryz.prog 85 [(vL Run.enc l_1),(vL Run.enc m_2)] [] (vL Run.enc r) []:=by
 refine FnM.of_wH ⟨Tryz.prog,88,[],[]⟩ rfl Tryz.func85 rfl rfl (lb_ rfl) (by kernel_rfl) ?_
 unfold qO at hF
 refine af (aa (ae .nil wz rfl (aj (af (aa (ae .nil wz rfl (aj (af (aa (ae (vI 0) wz rfl (aj (af (af (aa (ae (vL Run.enc l_1) wz rfl (bW zG rfl wz (ae (vI 0) wz rfl (aj (kg (λn_9 => ?_))))))))))))))))))))
 obtain ⟨o_14,hj_15,hF⟩:=bind_some hF
 obtain ⟨hn_7,hj_15⟩:=aV hj_15
 refine aD (β:=((List Run)×Int)×Nm) (λp=>(λ(s_8:(List Run)×Int) (n_11:Nm)=>([(5,(gV n_11 2 s_8.1))]:SL_)) p.1 p.2) (λp=>(λ(s_8:(List Run)×Int) (n_11:Nm)=>([(n_11,gB 2 Run.enc s_8.1)]:Hp)) p.1 p.2) (λp=>o_14 = .go p.1) ?_ ?_
 ·refine ay (aS (β:=Nat×(List Run)×((List Run)×Int)×Nm) (λp=>(λ(k_3:Nat) (l_4:List Run) (s_8:(List Run)×Int) (n_11:Nm)=>([(1,(vL Run.enc m_2)),(5,(gV n_11 2 s_8.1)),(6,(vI s_8.2)),(10,(vL Run.enc l_1)),(11,(vI (l_1.length:Int))),(12,(vI (k_3:Int)))]:SL_)) p.1 p.2.1 p.2.2.1 p.2.2.2) (λp=>(λ(k_3:Nat) (l_4:List Run) (s_8:(List Run)×Int) (n_11:Nm)=>([(n_11,gB 2 Run.enc s_8.1)]:Hp)) p.1 p.2.1 p.2.2.1 p.2.2.2) (λp=>forR (λk x s=>nu m_2 k x s) p.2.1 p.1 p.2.2.1=some o_14/\(l_1).drop p.1=p.2.1) (λp=>p.2.1.length) (0,l_1,(([]:List Run),0),n_9) ⟨hj_15,rfl⟩ rfl (aJ rfl) ?_)
  rintro ⟨k_3,l_4,s_8,n_11⟩ ⟨hL_13,hD_6⟩
  dsimp only at hL_13 hD_6
  cases l_4 with
  | nil =>
   obtain rfl:=ah hL_13
   refine af (aa (ae (vB (decide ((k_3:Int)<(l_1.length:Int)))) wz rfl (aj ?_)))
   refine af (aB rfl (drop_nil hD_6) (aP ?_))
   exact aN (s_8,n_11) rfl rfl (aJ rfl)
  | cons x_5 l_4 =>
   obtain ⟨c_,hc_12,hL_13⟩:=bind_some hL_13
   refine af (aa (ae (vB (decide ((k_3:Int)<(l_1.length:Int)))) wz rfl (aj ?_)))
   refine af (aC rfl (bf hD_6) (ax ?_))
   unfold nu at hc_12
   refine af (ay (af (aa (dK mV rfl rfl (bG hD_6) rfl wz (bB oQ yh rfl (.d (.agg (Run.enc x_5))) rfl wz (cK 0 (.inl rfl) z146 rfl wz (λn_16=>eD 0 il ft 1 oQ rfl rfl [(vI x_5.f_from),(vI x_5.f_to)] rfl wz (aj (af ?_)))))))))
   obtain ⟨o_25,hj_26,hc_12⟩:=bind_some hc_12
   obtain ⟨nq_72,hj_26⟩:=bR hj_26
   refine aD (β:=(Int)) (λ(s_22:Int)=>([(1,(vL Run.enc m_2)),(5,(gV n_11 2 s_8.1)),(6,(vI s_22)),(8,(.ref n_16 0 0)),(10,(vL Run.enc l_1)),(11,(vI (l_1.length:Int))),(12,(vI (k_3:Int)))]:SL_)) (λ(s_22:Int)=>([(n_11,gB 2 Run.enc s_8.1),(n_16,some (.cells 2 [(vI x_5.f_from),(vI x_5.f_to)]))]:Hp)) (λp=>o_25 = .go p) ?_ ?_
   ·refine ay (aS (β:=Nat×(Int)) (λp=>(λ(k_17:Nat) (s_22:Int)=>([(1,(vL Run.enc m_2)),(5,(gV n_11 2 s_8.1)),(6,(vI s_22)),(8,(.ref n_16 0 0)),(10,(vL Run.enc l_1)),(11,(vI (l_1.length:Int))),(12,(vI (k_3:Int)))]:SL_)) p.1 p.2) (λp=>(λ(k_17:Nat) (s_22:Int)=>([(n_11,gB 2 Run.enc s_8.1),(n_16,some (.cells 2 [(vI x_5.f_from),(vI x_5.f_to)]))]:Hp)) p.1 p.2) (λp=>iterN (λs=>pz m_2 x_5 s) p.1 p.2=some o_25) (λp=>p.1) (nq_72,s_8.2) hj_26 rfl (aJ rfl) ?_)
    rintro ⟨k_17,s_22⟩ hL_24
    dsimp only at hL_24
    cases k_17 with
    | zero=>cases hL_24
    | succ k_17 =>
     obtain ⟨c_,hc_23,hL_24⟩:=bind_some hL_24
     unfold pz at hc_23
     refine af (af ?_)
     obtain ⟨v_27,h_28,hc_23⟩:=bind_some hc_23
     refine aD (β:=Unit) (λ_=>([(1,(vL Run.enc m_2)),(5,(gV n_11 2 s_8.1)),(6,(vI s_22)),(8,(.ref n_16 0 0)),(10,(vL Run.enc l_1)),(11,(vI (l_1.length:Int))),(12,(vI (k_3:Int))),(29,(vB v_27))]:SL_)) (λ_=>([(n_11,gB 2 Run.enc s_8.1),(n_16,some (.cells 2 [(vI x_5.f_from),(vI x_5.f_to)]))]:Hp)) (λ_=>True) ?_ ?_
     ·refine aW (ae (vI s_22) wz rfl (ae (vL Run.enc m_2) wz rfl (bW zG rfl wz (ae (vB (decide (s_22<(m_2.length:Int)))) wz rfl ?_))))
      rcases au h_28 with⟨hc_29,h_28⟩|⟨hc_29,h_28⟩
      ·refine aF rfl hc_29 wz (ae (vL Run.enc m_2) wa rfl (ae (vI s_22) wa rfl ?_))
       obtain ⟨y_30,hy_31,h_28⟩:=bind_some h_28
       refine dK mV rfl rfl hy_31 rfl wa (og sH rfl [.int .i64 y_30.f_to] rfl rfl wa (bB sz3 ag3 rfl (vI y_30.f_to) rfl wa (aH mM rfl 0 rfl wa (aA 11 1 (.inr (by kernel_rfl)) (λ_ _ ag=>trivial) sz3 ag3 rfl rfl (vI x_5.f_from) rfl wa (ae (vB (decide (y_30.f_to<=x_5.f_from))) wa rfl (ae (vB (decide (y_30.f_to<=x_5.f_from))) wz rfl (aj ?_)))))))
       obtain rfl:=ah h_28
       exact cu
      ·refine aF rfl hc_29 wz (ak wa (ak wa (ak wa (ak wa (ak wa (ak wa (ak wa (ak wa (ae (vB false) wz rfl (aj ?_))))))))))
       obtain rfl:=ah h_28
       exact cu
     ·rintro ⟨⟩ _ sl_ H_ hp_ hq_
      refine aL _ hp_ hq_ ?_
      rcases au hc_23 with⟨hc_32,hc_23⟩|⟨hc_32,hc_23⟩
      ·refine aC rfl hc_32 (ax (ay (aa (ae (vI s_22) wz rfl (ae (vI (w64 (s_22+1))) wz rfl (ae (vI (w64 (s_22+1))) wz rfl (aj ?_)))))))
       obtain rfl:=ah hc_23
       exact aO (k_17,(w64 (s_22+1))) hL_24 (ls_ _) rfl (aJ rfl)
      ·refine aB rfl hc_32 (aP ?_)
       obtain rfl:=ah hc_23
       obtain rfl:=ah hL_24
       exact aN (s_22) rfl rfl (aJ rfl)
   ·rintro s_22 ho_ sl_ H_ hp_ hq_
    subst ho_
    refine aL _ hp_ hq_ (af (af (aa (ae (vI s_22) wz rfl (ae (vI s_22) wz rfl (aj ?_))))))
    obtain ⟨o_43,hj_44,hc_12⟩:=bind_some hc_12
    obtain ⟨nq_71,hj_44⟩:=bR hj_44
    refine aD (β:=((List Run)×Int×Int)×Nm) (λp=>(λ(s_38:(List Run)×Int×Int) (n_40:Nm)=>([(1,(vL Run.enc m_2)),(5,(gV n_40 2 s_38.1)),(6,(vI s_22)),(8,(.ref n_16 0 0)),(10,(vL Run.enc l_1)),(11,(vI (l_1.length:Int))),(12,(vI (k_3:Int)))]:SL_)) p.1 p.2) (λp=>(λ(s_38:(List Run)×Int×Int) (n_40:Nm)=>([(n_40,gB 2 Run.enc s_38.1),(n_16,some (.cells 2 [(vI s_38.2.2),(vI x_5.f_to)]))]:Hp)) p.1 p.2) (λp=>o_43 = .go p.1) ?_ ?_
    ·refine ay (aS (β:=Nat×((List Run)×Int×Int)×Nm) (λp=>(λ(k_33:Nat) (s_38:(List Run)×Int×Int) (n_40:Nm)=>([(1,(vL Run.enc m_2)),(5,(gV n_40 2 s_38.1)),(6,(vI s_22)),(8,(.ref n_16 0 0)),(9,(vI s_38.2.1)),(10,(vL Run.enc l_1)),(11,(vI (l_1.length:Int))),(12,(vI (k_3:Int)))]:SL_)) p.1 p.2.1 p.2.2) (λp=>(λ(k_33:Nat) (s_38:(List Run)×Int×Int) (n_40:Nm)=>([(n_40,gB 2 Run.enc s_38.1),(n_16,some (.cells 2 [(vI s_38.2.2),(vI x_5.f_to)]))]:Hp)) p.1 p.2.1 p.2.2) (λp=>iterN (λs=>pJ m_2 x_5 s) p.1 p.2.1=some o_43) (λp=>p.1) (nq_71,(s_8.1,s_22,x_5.f_from),n_11) hj_44 rfl (aJ rfl) ?_)
     rintro ⟨k_33,s_38,n_40⟩ hL_42
     dsimp only at hL_42
     cases k_33 with
     | zero=>cases hL_42
     | succ k_33 =>
      obtain ⟨c_,hc_41,hL_42⟩:=bind_some hL_42
      unfold pJ at hc_41
      refine af (af ?_)
      obtain ⟨v_45,h_46,hc_41⟩:=bind_some hc_41
      refine aD (β:=Unit) (λ_=>([(1,(vL Run.enc m_2)),(5,(gV n_40 2 s_38.1)),(6,(vI s_22)),(8,(.ref n_16 0 0)),(9,(vI s_38.2.1)),(10,(vL Run.enc l_1)),(11,(vI (l_1.length:Int))),(12,(vI (k_3:Int))),(46,(vB v_45))]:SL_)) (λ_=>([(n_40,gB 2 Run.enc s_38.1),(n_16,some (.cells 2 [(vI s_38.2.2),(vI x_5.f_to)]))]:Hp)) (λ_=>True) ?_ ?_
      ·refine aW (ae (vI s_38.2.1) wz rfl (ae (vL Run.enc m_2) wz rfl (bW zG rfl wz (ae (vB (decide (s_38.2.1<(m_2.length:Int)))) wz rfl ?_))))
       rcases au h_46 with⟨hc_47,h_46⟩|⟨hc_47,h_46⟩
       ·refine aF rfl hc_47 wz (ae (vL Run.enc m_2) wa rfl (ae (vI s_38.2.1) wa rfl ?_))
        obtain ⟨y_48,hy_49,h_46⟩:=bind_some h_46
        refine dK mV rfl rfl hy_49 rfl wa (og mM rfl [.int .i64 y_48.f_from,.int .i64 y_48.f_to] rfl rfl wa (bB sz3 ag3 rfl (vI y_48.f_from) rfl wa (aH sH rfl 1 rfl wa (aA 11 1 (.inr (by kernel_rfl)) (λ_ _ ag=>trivial) sz3 ag3 rfl rfl (vI x_5.f_to) rfl wa (ae (vB (decide (y_48.f_from<x_5.f_to))) wa rfl (ae (vB (decide (y_48.f_from<x_5.f_to))) wz rfl (aj ?_)))))))
        obtain rfl:=ah h_46
        exact cu
       ·refine aF rfl hc_47 wz (ak wa (ak wa (ak wa (ak wa (ak wa (ak wa (ak wa (ak wa (ae (vB false) wz rfl (aj ?_))))))))))
        obtain rfl:=ah h_46
        exact cu
      ·rintro ⟨⟩ _ sl_ H_ hp_ hq_
       refine aL _ hp_ hq_ ?_
       rcases au hc_41 with⟨hc_50,hc_41⟩|⟨hc_50,hc_41⟩
       ·refine aC rfl hc_50 (ax (af (ay (af (af (aW (ae (vL Run.enc m_2) wz rfl (ae (vI s_38.2.1) wz rfl ?_))))))))
        obtain ⟨y_51,hy_52,hc_41⟩:=bind_some hc_41
        refine dK mV rfl rfl hy_52 rfl wz (og mM rfl [.int .i64 y_51.f_from,.int .i64 y_51.f_to] rfl rfl wz (bB sz3 ag3 rfl (vI y_51.f_from) rfl wz (aH mM rfl 0 rfl wz (aA 6 1 (.inr (by kernel_rfl)) (λ_ _ ag=>trivial) sz3 ag3 rfl rfl (vI s_38.2.2) rfl wz (ae (vB (decide (y_51.f_from>s_38.2.2))) wz rfl (aj ?_))))))
        obtain ⟨v_53,h_54,hc_41⟩:=bind_some hc_41
        refine aD (β:=Nm) (λ(n_55:Nm)=>([(1,(vL Run.enc m_2)),(5,(gV n_55 2 v_53)),(6,(vI s_22)),(8,(.ref n_16 0 0)),(9,(vI s_38.2.1)),(10,(vL Run.enc l_1)),(11,(vI (l_1.length:Int))),(12,(vI (k_3:Int)))]:SL_)) (λ(n_55:Nm)=>([(n_55,gB 2 Run.enc v_53),(n_16,some (.cells 2 [(vI s_38.2.2),(vI x_5.f_to)]))]:Hp)) (λ_=>True) ?_ ?_
        ·rcases au h_54 with⟨hc_56,h_54⟩|⟨hc_56,h_54⟩
         ·refine aC rfl hc_56 (aW (ae (gV n_40 2 s_38.1) wz rfl (aH mM rfl 0 rfl wz (aA 2 1 (.inr (by kernel_rfl)) (λ_ _ ag=>trivial) sz3 ag3 rfl rfl (vI s_38.2.2) rfl wz (ae (vL Run.enc m_2) wz rfl (ae (vI s_38.2.1) wz rfl ?_))))))
          obtain ⟨y_57,hy_58,h_54⟩:=bind_some h_54
          refine dK mV rfl rfl hy_58 rfl wz (og mM rfl [.int .i64 y_57.f_from,.int .i64 y_57.f_to] rfl rfl wz (bB sz3 ag3 rfl (vI y_57.f_from) rfl wz (ae (.d (.agg (Run.enc (⟨s_38.2.2,y_57.f_from⟩:Run)))) wz (by kernel_rfl) (dW (([(⟨s_38.2.2,y_57.f_from⟩:Run)]:List Run).map Run.enc) mV MK rfl rfl rfl rfl rfl wz ?_))))
          obtain ⟨a_59,hz_60,h_54⟩:=bind_some h_54
          refine jS 10 (.inr (by kernel_rfl)) (λ_ _ ag=>⟨.inr (.inr (by kernel_rfl)),trivial⟩) (i:=0) CF CF oQ z146 rfl (by decide) MB (by decide) (λ_=>rfl) rfl rfl rfl hz_60 wz (λn_61=>ae (gV n_61 2 a_59) wz rfl (aj ?_))
          obtain rfl:=ah h_54
          exact aN n_61 trivial rfl (aJ rfl)
         ·refine aB rfl hc_56 (ax ?_)
          obtain rfl:=ah h_54
          exact aN n_40 trivial rfl (aJ rfl)
        ·rintro n_55 _ sl_ H_ hp_ hq_
         refine aL _ hp_ hq_ (aW (aH mM rfl 0 rfl wz (aA 1 1 (.inr (by kernel_rfl)) (λ_ _ ag=>trivial) sz3 ag3 rfl rfl (vI s_38.2.2) rfl wz (ae (vL Run.enc m_2) wz rfl (ae (vI s_38.2.1) wz rfl ?_)))))
         obtain ⟨y_62,hy_63,hc_41⟩:=bind_some hc_41
         refine dK mV rfl rfl hy_63 rfl wz (og sH rfl [.int .i64 y_62.f_to] rfl rfl wz (bB sz3 ag3 rfl (vI y_62.f_to) rfl wz (ma (vI (jE s_38.2.2 y_62.f_to)) rfl (.inr rfl) wz (aH mM rfl 0 rfl wz (eD 9 (.inr (by kernel_rfl)) (λ_ _ ag=>⟨.inr (.inr (by kernel_rfl)),trivial⟩) 1 sz3 rfl rfl [(vI (jE s_38.2.2 y_62.f_to)),(vI x_5.f_to)] rfl wz (aj (aa (ae (vI s_38.2.1) wz rfl (ae (vI (w64 (s_38.2.1+1))) wz rfl (ae (vI (w64 (s_38.2.1+1))) wz rfl (aj ?_)))))))))))
         obtain rfl:=ah hc_41
         exact aO (k_33,(v_53,(w64 (s_38.2.1+1)),(jE s_38.2.2 y_62.f_to)),n_55) hL_42 (ls_ _) rfl (aJ rfl)
       ·refine aB rfl hc_50 (aP ?_)
        obtain rfl:=ah hc_41
        obtain rfl:=ah hL_42
        exact aN ((s_38.1,s_38.2.1,s_38.2.2),n_40) rfl rfl (aJ rfl)
    ·rintro ⟨s_38,n_40⟩ ho_ sl_ H_ hp_ hq_
     subst ho_
     refine aL _ hp_ hq_ (af (aa (aH mM rfl 0 rfl wz (aA 0 1 il ft sz3 ag3 rfl rfl (vI s_38.2.2) rfl wz (aH sH rfl 1 rfl wz (aA 0 1 il ft sz3 ag3 rfl rfl (vI x_5.f_to) rfl wz (ae (vB (decide (s_38.2.2<x_5.f_to))) wz rfl (aj ?_))))))))
     obtain ⟨v_64,h_65,hc_12⟩:=bind_some hc_12
     refine aD (β:=Nm) (λ(n_66:Nm)=>([(1,(vL Run.enc m_2)),(5,(gV n_66 2 v_64)),(6,(vI s_22)),(10,(vL Run.enc l_1)),(11,(vI (l_1.length:Int))),(12,(vI (k_3:Int)))]:SL_)) (λ(n_66:Nm)=>([(n_66,gB 2 Run.enc v_64),(n_16,some (.cells 2 [(vI s_38.2.2),(vI x_5.f_to)]))]:Hp)) (λ_=>True) ?_ ?_
     ·rcases au h_65 with⟨hc_67,h_65⟩|⟨hc_67,h_65⟩
      ·refine aC rfl hc_67 (aa (ae (gV n_40 2 s_38.1) wz rfl (aA 0 1 il ft oQ yh rfl rfl (.d (.agg (Run.enc (⟨s_38.2.2,x_5.f_to⟩:Run)))) rfl wz (dW (([(⟨s_38.2.2,x_5.f_to⟩:Run)]:List Run).map Run.enc) mV MK rfl rfl rfl rfl rfl wz ?_))))
       obtain ⟨a_68,hz_69,h_65⟩:=bind_some h_65
       refine jS 0 il ft (i:=0) CF CF oQ z146 rfl (by decide) MB (by decide) (λ_=>rfl) rfl rfl rfl hz_69 wz (λn_70=>ae (gV n_70 2 a_68) wz rfl (aj ?_))
       obtain rfl:=ah h_65
       exact aN n_70 trivial rfl (aJ rfl)
      ·refine aB rfl hc_67 (ax ?_)
       obtain rfl:=ah h_65
       exact aN n_40 trivial rfl (aJ rfl)
     ·rintro n_66 _ sl_ H_ hp_ hq_
      refine aL _ hp_ hq_ (aa (fu (bA hD_6 hn_7) wz rfl (ae (vI ((k_3+1:Nat):Int)) wz rfl (aj ?_))))
      obtain rfl:=ah hc_12
      exact aO (k_3+1,l_4,(v_64,s_22),n_66) ⟨hL_13,aR hD_6⟩ (ls_ _) rfl (aJ rfl)
 ·rintro ⟨s_8,n_11⟩ ho_ sl_ H_ hp_ hq_
  subst ho_
  refine aL _ hp_ hq_ (af (aa (ae (gV n_11 2 s_8.1) wz rfl (ae (gV n_11 2 s_8.1) wz rfl (aj (gJ 0 rfl (dJ 4 0 rfl rfl (dJ 5 0 rfl rfl (dJ 87 0 rfl rfl ?_)))))))))
  obtain rfl:=ah hF
  exact aG (aU (.inr rfl) [(vL Run.enc s_8.1)] ⟨rfl,trivial⟩ rfl rfl rfl)
theorem nG {s1_1:(List Run)} {s2_2:(List Run)} {r:Bool} (hF:eZ s1_1 s2_2=some r) :
  FnM Tryz.prog 87 [(vL Run.enc s1_1),(vL Run.enc s2_2)] [] (vB r) []:=by
 refine FnM.of_wH ⟨Tryz.prog,26,[],[]⟩ rfl Tryz.func87 rfl rfl (lb_ rfl) (by kernel_rfl) ?_
 unfold eZ at hF
 refine af (aa (ae (vB false) wz rfl (aj (af (af (aa (ae (vL Run.enc s1_1) wz rfl (bW zG rfl wz (ae (vL Run.enc s2_2) wz rfl (bW zG rfl wz (ae (vB ((s1_1.length:Int) != (s2_2.length:Int))) wz rfl (aj ?_))))))))))))
 rcases au hF with⟨hc_3,hF⟩|⟨hc_3,hF⟩
 ·refine aC rfl hc_3 (af (aa (ae (vB false) wz rfl (aj ?_))))
  obtain rfl:=ah hF
  exact aG (aU (.inr rfl) [(vB false)] ⟨rfl,trivial⟩ rfl rfl rfl)
 ·refine aB rfl hc_3 (ax (af (af (aa (ae (vL Run.enc s1_1) wz rfl (bW zG rfl wz (ae (vI 0) wz rfl (aj ?_))))))))
  obtain ⟨o_12,hj_13,hF⟩:=bind_some hF
  obtain ⟨hn_8,hj_13⟩:=aV hj_13
  refine aD (β:=(Unit)) (λ(s_9:Unit)=>([]:SL_)) (λ(s_9:Unit)=>([]:Hp)) (λp=>o_12 = .go p) ?_ ?_
  ·refine ay (aS (β:=Nat×(List Run)×(Unit)) (λp=>(λ(k_4:Nat) (l_5:List Run) (s_9:Unit)=>([(0,(vL Run.enc s1_1)),(1,(vL Run.enc s2_2)),(12,(vI (s1_1.length:Int))),(13,(vI (k_4:Int)))]:SL_)) p.1 p.2.1 p.2.2) (λp=>(λ(k_4:Nat) (l_5:List Run) (s_9:Unit)=>([]:Hp)) p.1 p.2.1 p.2.2) (λp=>forR (λk x s=>fP s2_2 k x s) p.2.1 p.1 p.2.2=some o_12/\(s1_1).drop p.1=p.2.1) (λp=>p.2.1.length) (0,s1_1,()) ⟨hj_13,rfl⟩ rfl (aJ rfl) ?_)
   rintro ⟨k_4,l_5,s_9⟩ ⟨hL_11,hD_7⟩
   dsimp only at hL_11 hD_7
   cases l_5 with
   | nil =>
    obtain rfl:=ah hL_11
    refine af (aa (ae (vB (decide ((k_4:Int)<(s1_1.length:Int)))) wz rfl (aj ?_)))
    refine af (aB rfl (drop_nil hD_7) (aP ?_))
    exact aN (s_9) rfl rfl (aJ rfl)
   | cons x_6 l_5 =>
    obtain ⟨c_,hc_10,hL_11⟩:=bind_some hL_11
    refine af (aa (ae (vB (decide ((k_4:Int)<(s1_1.length:Int)))) wz rfl (aj ?_)))
    refine af (aC rfl (bf hD_7) (ax ?_))
    unfold fP at hc_10
    refine af (ay (af (aa (ae (vI (k_4:Int)) wz rfl (ae (vI (k_4:Int)) wz rfl (aj (af (aW (ae (vL Run.enc s1_1) wz rfl (ae (vI (k_4:Int)) wz rfl (dK mV rfl rfl (bG hD_7) rfl wz (bB oQ yh rfl (.d (.agg (Run.enc x_6))) rfl wz (ae (vL Run.enc s2_2) wz rfl (ae (vI (k_4:Int)) wz rfl ?_))))))))))))))
    obtain ⟨y_14,hy_15,hc_10⟩:=bind_some hc_10
    refine dK mV rfl rfl hy_15 rfl wz (bB oQ yh rfl (.d (.agg (Run.enc y_14))) rfl wz (ae (vB (!((x_6.f_from==y_14.f_from)&&((x_6.f_to==y_14.f_to)&&true)))) wz (by kernel_rfl) (aj ?_)))
    rcases au hc_10 with⟨hc_16,hc_10⟩|⟨hc_16,hc_10⟩
    ·refine aC rfl hc_16 (af (aa (ae (vB false) wz rfl (aj ?_))))
     obtain rfl:=ah hc_10
     obtain rfl:=ah hL_11
     obtain rfl:=ah hF
     exact aG (aU (.inr rfl) [(vB false)] ⟨rfl,trivial⟩ rfl rfl rfl)
    ·refine aB rfl hc_16 (ax (aa (fu (bA hD_7 hn_8) wz rfl (ae (vI ((k_4+1:Nat):Int)) wz rfl (aj ?_)))))
     obtain rfl:=ah hc_10
     exact aO (k_4+1,l_5,()) ⟨hL_11,aR hD_7⟩ (ls_ _) rfl (aJ rfl)
  ·rintro s_9 ho_ sl_ H_ hp_ hq_
   subst ho_
   refine aL _ hp_ hq_ (af (aa (ae (vB true) wz rfl (aj ?_))))
   obtain rfl:=ah hF
   exact aG (aU (.inr rfl) [(vB true)] ⟨rfl,trivial⟩ rfl rfl rfl)
end Go.Proofs.YticmkhcacamhkaaGreatDoor.Law

