/-
 The machine computes these plain functions (written by a program of ours).
-/
import Derived.Test.YtmkljmjhcegapaaGreatDoorFacts
import Derived.Test.YtmkljmjhcegapaaGreatDoorDefs
import Derived.Test.YtmkljmjhcegapaaGreatDoorPf2
import Derived.Test.YtmkljmjhcegapaaGreatDoorShelf
open Go Go.Eng Go.Proofs
namespace Go.Proofs.YtmkljmjhcegapaaGreatDoor.Law
set_option maxRecDepth 100000
set_option linter.unusedVariables false
set_option maxHeartbeats 1000000
theorem rF {l_1:(List Entry)} {p_2:Player} {wv_3:Window} {r:(List Slot_)} (hF:jO l_1 p_2 wv_3=some r) :
  FnM Tryz.prog 20 [(vL Entry.enc l_1),(.d (.agg (Player.enc p_2))),(.d (.agg (Window.enc wv_3)))] [] (vL Slot_.enc r) []:=by
 refine FnM.of_wH ⟨Tryz.prog,111,[],[]⟩ rfl Tryz.func20 rfl rfl (lb_ rfl) (by kernel_rfl) ?_
 unfold jO at hF
 refine aj (d9 0 (.inl rfl) (Player.v p_2) rfl rfl wz (λn_4=>d9 0 (.inl rfl) [(vI wv_3.From),(vI wv_3.To)] rfl rfl wz (λn_5=>aa .nil (af (aj (aa (vL Entry.enc l_1) (aB 0 0 il ft uR xL rfl rfl (.d (.agg (Player.enc p_2))) rfl wz (aB 0 1 il ft jZ nX rfl rfl (.d (.agg (Window.enc wv_3))) rfl wz ?_))))))))
 obtain ⟨r_6,hr_7,hF⟩:=bind_some hF
 refine DX [] (rZ hr_7) rfl hb43 rfl (by kernel_rfl) (by kernel_rfl) (by kernel_rfl) (by kernel_rfl) (by kernel_rfl) rfl (by decide) (by kernel_rfl) wz ([(n_4,some (.cells 4 (Player.v p_2))),(n_5,some (.cells 2 [(vI wv_3.From),(vI wv_3.To)]))]:Hp) (λ_=>by kernel_rfl) (λn_9=>aa (gV n_9 3 r_6) (af (aj (aa (gV n_9 3 r_6) ?_))))
 obtain ⟨r_10,hr_11,hF⟩:=bind_some hF
 obtain ⟨_,hs_12,hF⟩:=bind_some hF
 replace hs_12:=lQ hs_12
 refine lL 0 [] 2 0 il ft (nO hr_11) rfl hb44 rfl rfl rfl (by kernel_rfl) rfl (.inl rfl) rfl (by kernel_rfl) (by kernel_rfl) (by kernel_rfl) (by kernel_rfl) rfl (by decide) (by kernel_rfl) nU (vD hs_12) wz ([(n_4,some (.cells 4 (Player.v p_2))),(n_5,some (.cells 2 [(vI wv_3.From),(vI wv_3.To)])),(n_9,gB 3 Span.enc r_10)]:Hp) (by kernel_rfl) (dU (v':=(gV n_9 3 r_10)) 18 rfl (jm hs_12.symm) (dU (v':=(gV n_9 3 r_10)) 19 rfl (jm hs_12.symm) (dU (v':=(gV n_9 3 r_10)) 7 rfl (jm hs_12.symm) (af (aj (aa (vL Entry.enc l_1) (aB 0 0 il ft uR xL rfl rfl (.d (.agg (Player.enc p_2))) rfl wz (aB 0 1 il ft jZ nX rfl rfl (.d (.agg (Window.enc wv_3))) rfl wz ?_))))))))
 obtain ⟨r_13,hr_14,hF⟩:=bind_some hF
 refine aC (Bu hr_14) rfl hb47 rfl rfl rfl rfl wz (dC 0 (.inl rfl) z22 rfl wz (λn_15=>fA 0 il ft 3 Aa rfl rfl [(vL eI r_13)] rfl wz (af (aj (aa .nil (af (aj (aa .nil (af (aj (aa (vI 0) (af (au (aj (dC 0 (.inl rfl) z3 rfl wz (λn_16=>fA 0 il ft 4 sz3 rfl rfl [(vI 0)] rfl wz (af (jH (λn_23=>jH (λn_24 => ?_))))))))))))))))))))
 obtain ⟨o_35,hj_36,hF⟩:=bind_some hF
 obtain ⟨nq_101,hj_36⟩:=cK hj_36
 refine sV (σ:=(List Slot_)×(List Span)×Int×Int) (N:=Nm×Nm×Nm×Bool) (λp=>(λ(s_22:(List Slot_)×(List Span)×Int×Int) (n_29:Nm) (n_30:Nm) (n_31:Nm) (gb_32:Bool)=>([(9,(gV n_30 3 s_22.1))]:SL_)) p.1 p.2.1 p.2.2.1 p.2.2.2.1 p.2.2.2.2) (λp=>(λ(s_22:(List Slot_)×(List Span)×Int×Int) (n_29:Nm) (n_30:Nm) (n_31:Nm) (gb_32:Bool)=>([(n_4,some (.cells 4 (Player.v p_2))),(n_5,some (.cells 2 [(vI wv_3.From),(vI wv_3.To)])),(n_9,gB 3 Span.enc r_10),(n_15,some (.cells 1 [(vL eI r_13)])),(n_29,some (.cells 1 [(vI s_22.2.2.2)])),(n_30,gB 3 Slot_.enc s_22.1),(n_31,kB gb_32 3 Span.enc s_22.2.1)]:Hp)) p.1 p.2.1 p.2.2.1 p.2.2.2.1 p.2.2.2.2) (λ(k_17:Nat)=>(λp=>(λ(s_22:(List Slot_)×(List Span)×Int×Int) (n_29:Nm) (n_30:Nm) (n_31:Nm) (gb_32:Bool)=>([(7,(gV n_9 3 r_10)),(8,(.ref n_15 0 0)),(9,(gV n_30 3 s_22.1)),(10,(kV gb_32 n_31 3 s_22.2.1)),(11,(vI s_22.2.2.1)),(12,(.ref n_29 0 0))]:SL_)) p.1 p.2.1 p.2.2.1 p.2.2.2.1 p.2.2.2.2)) (λs=>gq r_13 r_10 s) o_35 nq_101 ((([]:List Slot_),([]:List Span),0,0),n_16,n_23,n_24,false) hj_36 rfl (aK rfl) ?_ ?_
 ·rintro ⟨k_17,s_22,n_29,n_30,n_31,gb_32⟩ hL_34
  dsimp only at hL_34
  cases k_17 with
  | zero=>cases hL_34
  | succ k_17 =>
   obtain ⟨c_,hc_33,hL_34⟩:=bind_some hL_34
   unfold gq at hc_33
   refine au (aj (aB 0 4 il ft sz3 ag3 rfl rfl (vI s_22.2.2.2) rfl wz (aa (vI (w64 (s_22.2.2.2+1))) (aB 0 3 il ft Aa CK rfl rfl (vL eI r_13) rfl wz (dx w9 rfl wz (aa (vB (decide ((w64 (s_22.2.2.2+1))<(r_13.length:Int)))) (af ?_)))))))
   rcases ak hc_33 with⟨hc_37,hc_33⟩|⟨hc_37,hc_33⟩
   ·refine aA rfl hc_37 (ax (au (aQ (au ?_))))
    obtain ⟨o_48,hj_49,hc_33⟩:=bind_some hc_33
    obtain ⟨nq_100,hj_49⟩:=cK hj_49
    refine sV (σ:=(List Span)×Int) (N:=Nm) (λp=>(λ(s_43:(List Span)×Int) (n_45:Nm)=>([(7,(gV n_9 3 r_10)),(8,(.ref n_15 0 0)),(9,(gV n_30 3 s_22.1)),(10,(kV gb_32 n_45 3 s_43.1)),(11,(vI s_43.2)),(12,(.ref n_29 0 0))]:SL_)) p.1 p.2) (λp=>(λ(s_43:(List Span)×Int) (n_45:Nm)=>([(n_4,some (.cells 4 (Player.v p_2))),(n_5,some (.cells 2 [(vI wv_3.From),(vI wv_3.To)])),(n_9,gB 3 Span.enc r_10),(n_15,some (.cells 1 [(vL eI r_13)])),(n_29,some (.cells 1 [(vI s_22.2.2.2)])),(n_30,gB 3 Slot_.enc s_22.1),(n_45,kB gb_32 3 Span.enc s_43.1)]:Hp)) p.1 p.2) (λ(k_38:Nat)=>(λp=>(λ(s_43:(List Span)×Int) (n_45:Nm)=>([(7,(gV n_9 3 r_10)),(8,(.ref n_15 0 0)),(9,(gV n_30 3 s_22.1)),(10,(kV gb_32 n_45 3 s_43.1)),(11,(vI s_43.2)),(12,(.ref n_29 0 0))]:SL_)) p.1 p.2)) (λs=>gy r_10 r_13 s_22 s) o_48 nq_100 ((s_22.2.1,s_22.2.2.1),n_31) hj_49 rfl (aK rfl) ?_ ?_
    ·rintro ⟨k_38,s_43,n_45⟩ hL_47
     dsimp only at hL_47
     cases k_38 with
     | zero=>cases hL_47
     | succ k_38 =>
      obtain ⟨c_,hc_46,hL_47⟩:=bind_some hL_47
      unfold gy at hc_46
      refine au (au ?_)
      obtain ⟨v_50,h_51,hc_46⟩:=bind_some hc_46
      refine aS [(7,(gV n_9 3 r_10)),(8,(.ref n_15 0 0)),(9,(gV n_30 3 s_22.1)),(10,(kV gb_32 n_45 3 s_43.1)),(11,(vI s_43.2)),(12,(.ref n_29 0 0)),(48,(vB v_50))] [(n_4,some (.cells 4 (Player.v p_2))),(n_5,some (.cells 2 [(vI wv_3.From),(vI wv_3.To)])),(n_9,gB 3 Span.enc r_10),(n_15,some (.cells 1 [(vL eI r_13)])),(n_29,some (.cells 1 [(vI s_22.2.2.2)])),(n_30,gB 3 Slot_.enc s_22.1),(n_45,kB gb_32 3 Span.enc s_43.1)] ?_ ?_
      ·refine bE (aa (vI s_43.2) (aa (gV n_9 3 r_10) (Ar DL rfl wz (aa (vB (decide (s_43.2<(r_10.length:Int)))) ?_))))
       rcases ak h_51 with⟨hc_52,h_51⟩|⟨hc_52,h_51⟩
       ·refine aI rfl hc_52 wz (aM (gV n_9 3 r_10) wa rfl (aM (vI s_43.2) wa rfl ?_))
        obtain ⟨_,hi_53,h_51⟩:=bind_some h_51
        refine uP Bh rfl rfl (jW hi_53) (ik hi_53) wa (aJ zR rfl 1 rfl wa (aJ iI rfl 1 rfl wa ?_))
        obtain ⟨e_54,hy_55,h_51⟩:=bind_some h_51
        refine lK 10 2 (.inr (by kernel_rfl)) (λ_ _ ag=>trivial) sz3 ag3 rfl rfl hy_55 (vI e_54.f_time.From) rfl wa (aB 11 3 (.inr (by kernel_rfl)) (λ_ _ ag=>⟨.inl ⟨rfl,rfl⟩,trivial⟩) Aa CK rfl rfl (vL eI r_13) rfl wa (aB 12 4 (.inr (by kernel_rfl)) (λ_ _ ag=>⟨.inl ⟨rfl,rfl⟩,⟨.inl ⟨rfl,rfl⟩,trivial⟩⟩) sz3 ag3 rfl rfl (vI s_22.2.2.2) rfl wa ?_))
        obtain ⟨y_56,hy_57,h_51⟩:=bind_some h_51
        refine dW lC rfl rfl hy_57 rfl wa (bK sz3 ag3 rfl (vI y_56) rfl wa (aM (vB (decide (e_54.f_time.From<=y_56))) wa rfl (aa (vB (decide (e_54.f_time.From<=y_56))) (af ?_))))
        obtain rfl:=ae h_51
        exact cu
       ·refine aI rfl hc_52 wz (ah (ah (ah (ah (ah (ah (ah (ah (ah (ah (ah (aa (vB false) (af ?_)))))))))))))
        obtain rfl:=ae h_51
        exact cu
      ·rintro ⟨⟩ _ sl_ H_ hp_ hq_
       refine aO _ hp_ hq_ ?_
       rcases ak hc_46 with⟨hc_58,hc_46⟩|⟨hc_58,hc_46⟩
       ·refine aA rfl hc_58 (ax (au (aQ (av (aa (kV gb_32 n_45 3 s_43.1) (aa (gV n_9 3 r_10) (aa (vI s_43.2) ?_)))))))
        obtain ⟨_,hi_59,hc_46⟩:=bind_some hc_46
        refine uP Bh rfl rfl (jW hi_59) (ik hi_59) wz ?_
        obtain ⟨e_60,hy_61,hc_46⟩:=bind_some hc_46
        refine lK 0 2 il ft qY Co rfl rfl hy_61 (.d (.agg (Span.enc e_60))) rfl wz (eQ (([e_60]:List Span).map Span.enc) Bh ez88 rfl (Qd rfl rfl (dw (om _ _) (dw rfl (dw rfl rfl))) rfl) rfl rfl rfl wz ?_)
        obtain ⟨a_62,hz_63,hc_46⟩:=bind_some hc_46
        refine RP 0 il ft (i:=6) MU MU qY z92 rfl (by decide) by92 (by decide) (λ_=>rfl) rfl rfl rfl hz_63 wz (λn_64=>aa (kV gb_32 n_64 3 a_62) (af (av (aa (vI s_43.2) (aa (vI (w64 (s_43.2+1))) (aa (vI (w64 (s_43.2+1))) (af ?_)))))))
        obtain rfl:=ae hc_46
        exact aY (k_38,(a_62,(w64 (s_43.2+1))),n_64) hL_47 (ls_ _) rfl (aK rfl)
       ·refine ay rfl hc_58 (aX ?_)
        obtain rfl:=ae hc_46
        obtain rfl:=ae hL_47
        exact aV ((s_43.1,s_43.2),n_45) rfl rfl (aK rfl)
    ·rintro ⟨s_43,n_45⟩ ho_ sl_ H_ hp_ hq_
     subst ho_
     refine aO _ hp_ hq_ (aj (aa (kV gb_32 n_45 3 s_43.1) (aa (.fn 49 [(.ref n_15 0 0),(.ref n_29 0 0)]) ?_)))
     obtain ⟨r_65,hr_66,hc_33⟩:=bind_some hc_33
     obtain ⟨_,hl_68,hc_33⟩:=bind_some hc_33
     obtain ⟨_,hr_67,hc_33⟩:=bind_some hc_33
     replace hl_68:=leL_le hl_68
     refine Pv [3,4] 6 0 (jL hr_66) (jM hr_67) hl_68 (λ_ _=>rfl) rfl hb48 rfl rfl (by kernel_rfl) (by kernel_rfl) (by kernel_rfl) rfl rfl (by kernel_rfl) (by kernel_rfl) (by kernel_rfl) (by kernel_rfl) rfl rfl (by decide) wz ([(n_4,some (.cells 4 (Player.v p_2))),(n_5,some (.cells 2 [(vI wv_3.From),(vI wv_3.To)])),(n_9,gB 3 Span.enc r_10),(n_15,some (.cells 1 [(vL eI r_13)])),(n_29,some (.cells 1 [(vI s_22.2.2.2)])),(n_30,gB 3 Slot_.enc s_22.1),(n_45,kB (gb_32 || !s_43.1.isEmpty) 3 Span.enc r_65)]:Hp) (by kernel_rfl) (aa (kV (gb_32 || !s_43.1.isEmpty) n_45 3 r_65) (af (aj (aa (vS (⟨#[]⟩:ByteArray)) (af (au (aj (aa (kV (gb_32 || !s_43.1.isEmpty) n_45 3 r_65) (h_lenk DL rfl wz (aa (vB (decide ((r_65.length:Int)>0))) (af ?_)))))))))))
     obtain ⟨v_69,h_70,hc_33⟩:=bind_some hc_33
     refine aS [(7,(gV n_9 3 r_10)),(8,(.ref n_15 0 0)),(9,(gV n_30 3 s_22.1)),(10,(kV (gb_32 || !s_43.1.isEmpty) n_45 3 r_65)),(11,(vI s_43.2)),(12,(.ref n_29 0 0)),(13,(vS v_69))] [(n_4,some (.cells 4 (Player.v p_2))),(n_5,some (.cells 2 [(vI wv_3.From),(vI wv_3.To)])),(n_9,gB 3 Span.enc r_10),(n_15,some (.cells 1 [(vL eI r_13)])),(n_29,some (.cells 1 [(vI s_22.2.2.2)])),(n_30,gB 3 Slot_.enc s_22.1),(n_45,kB (gb_32 || !s_43.1.isEmpty) 3 Span.enc r_65)] ?_ ?_
     ·rcases ak h_70 with⟨hc_71,h_70⟩|⟨hc_71,h_70⟩
      ·refine aA rfl hc_71 (av (aa (kV (gb_32 || !s_43.1.isEmpty) n_45 3 r_65) ?_))
       obtain ⟨_,hn_72,h_70⟩:=bind_some h_70
       replace hn_72:=M6 hn_72
       refine dU (v':=(gV n_45 3 r_65)) 10 rfl (Dl hn_72) (dU (v':=(gV n_45 3 r_65)) 60 rfl (Dl hn_72) (dU (v':=(gV n_45 3 r_65)) 61 rfl (Dl hn_72) (dU (v':=(gV n_45 3 r_65)) 64 rfl (Dl hn_72) (Nn 6 rfl (kB_gB hn_72) ?_))))
       obtain ⟨r_73,hr_74,h_70⟩:=bind_some h_70
       refine lL 0 [] 6 0 il ft (j6 hr_74) rfl hb50 rfl rfl rfl (by kernel_rfl) rfl (.inl rfl) rfl (by kernel_rfl) (by kernel_rfl) (by kernel_rfl) (by kernel_rfl) rfl (by decide) (by kernel_rfl) nU (vD rfl) wz ([(n_4,some (.cells 4 (Player.v p_2))),(n_5,some (.cells 2 [(vI wv_3.From),(vI wv_3.To)])),(n_9,gB 3 Span.enc r_10),(n_15,some (.cells 1 [(vL eI r_13)])),(n_29,some (.cells 1 [(vI s_22.2.2.2)])),(n_30,gB 3 Slot_.enc s_22.1),(n_45,gB 3 Span.enc r_65)]:Hp) (by kernel_rfl) (dU (v':=(kV (gb_32 || !s_43.1.isEmpty) n_45 3 r_65)) 10 rfl (Dl hn_72).symm (dU (v':=(kV (gb_32 || !s_43.1.isEmpty) n_45 3 r_65)) 60 rfl (Dl hn_72).symm (dU (v':=(kV (gb_32 || !s_43.1.isEmpty) n_45 3 r_65)) 61 rfl (Dl hn_72).symm (dU (v':=(kV (gb_32 || !s_43.1.isEmpty) n_45 3 r_65)) 64 rfl (Dl hn_72).symm (Nn (b':=kB (gb_32 || !s_43.1.isEmpty) 3 Span.enc r_65) 6 rfl (kB_gB hn_72).symm (h_field fr92_0 rfl (.d (dP Entry.enc r_73.f_e)) rfl wz ?_))))))
       obtain ⟨y_75,hy_76,h_70⟩:=bind_some h_70
       refine dU (v':=(.d (.ptr (Entry.enc y_75)))) 66 rfl (y8 (enc:=Entry.enc) (y:=y_75) hy_76) (aa (.d (.ptr (Entry.enc y_75))) (kP Ai rfl (Entry.enc y_75) rfl rfl wz (bK sz9 ag9 rfl (vS y_75.Key) rfl wz (aa (vS y_75.Key) (af ?_)))))
       obtain rfl:=ae h_70
       exact cu
      ·refine ay rfl hc_71 (ax ?_)
       obtain rfl:=ae h_70
       exact cu
     ·rintro ⟨⟩ _ sl_ H_ hp_ hq_
      refine aO _ hp_ hq_ (aj (aa (gV n_30 3 s_22.1) (Ar un34 rfl wz (aa (vI (w64 ((s_22.1.length:Int)-1))) (aa (vI (w64 ((s_22.1.length:Int)-1))) (af (au ?_)))))))
      obtain ⟨v_77,h_78,hc_33⟩:=bind_some hc_33
      refine aS [(7,(gV n_9 3 r_10)),(8,(.ref n_15 0 0)),(9,(gV n_30 3 s_22.1)),(10,(kV (gb_32 || !s_43.1.isEmpty) n_45 3 r_65)),(11,(vI s_43.2)),(12,(.ref n_29 0 0)),(13,(vS v_69)),(14,(vI (w64 ((s_22.1.length:Int)-1)))),(83,(vB v_77))] [(n_4,some (.cells 4 (Player.v p_2))),(n_5,some (.cells 2 [(vI wv_3.From),(vI wv_3.To)])),(n_9,gB 3 Span.enc r_10),(n_15,some (.cells 1 [(vL eI r_13)])),(n_29,some (.cells 1 [(vI s_22.2.2.2)])),(n_30,gB 3 Slot_.enc s_22.1),(n_45,kB (gb_32 || !s_43.1.isEmpty) 3 Span.enc r_65)] ?_ ?_
      ·refine av (aa (vI (w64 ((s_22.1.length:Int)-1))) (aa (vB (decide ((w64 ((s_22.1.length:Int)-1))>=0))) ?_))
       rcases ak h_78 with⟨hc_79,h_78⟩|⟨hc_79,h_78⟩
       ·refine aI rfl hc_79 wz (aM (gV n_30 3 s_22.1) wa rfl (aM (vI (w64 ((s_22.1.length:Int)-1))) wa rfl ?_))
        obtain ⟨_,hi_80,h_78⟩:=bind_some h_78
        refine uP PT rfl rfl (jW hi_80) (ik hi_80) wa (aJ IC rfl 2 rfl wa ?_)
        obtain ⟨e_81,hy_82,h_78⟩:=bind_some h_78
        refine lK 0 5 il ft sz9 ag9 rfl rfl hy_82 (vS e_81.Entry) rfl wa (aM (vS v_69) wa rfl (aM (vB (sEq e_81.Entry v_69)) wa rfl (aa (vB (sEq e_81.Entry v_69)) (af ?_))))
        obtain rfl:=ae h_78
        exact cu
       ·refine aI rfl hc_79 wz (ah (ah (ah (ah (ah (ah (ah (aa (vB false) (af ?_)))))))))
        obtain rfl:=ae h_78
        exact cu
      ·rintro ⟨⟩ _ sl_ H_ hp_ hq_
       refine aO _ hp_ hq_ ?_
       obtain ⟨v_83,h_84,hc_33⟩:=bind_some hc_33
       refine jA (β:=Nm) (λ(n_85:Nm)=>([(7,(gV n_9 3 r_10)),(8,(.ref n_15 0 0)),(9,(gV n_85 3 v_83)),(10,(kV (gb_32 || !s_43.1.isEmpty) n_45 3 r_65)),(11,(vI s_43.2)),(12,(.ref n_29 0 0))]:SL_)) (λ(n_85:Nm)=>([(n_4,some (.cells 4 (Player.v p_2))),(n_5,some (.cells 2 [(vI wv_3.From),(vI wv_3.To)])),(n_9,gB 3 Span.enc r_10),(n_15,some (.cells 1 [(vL eI r_13)])),(n_29,some (.cells 1 [(vI s_22.2.2.2)])),(n_85,gB 3 Slot_.enc v_83),(n_45,kB (gb_32 || !s_43.1.isEmpty) 3 Span.enc r_65)]:Hp)) (λ_=>True) ?_ ?_
       ·rcases ak h_84 with⟨hc_86,h_84⟩|⟨hc_86,h_84⟩
        ·refine aA rfl hc_86 (av (aa (gV n_30 3 s_22.1) (aa (vI (w64 ((s_22.1.length:Int)-1))) (aB 0 3 il ft Aa CK rfl rfl (vL eI r_13) rfl wz (aB 0 4 il ft sz3 ag3 rfl rfl (vI s_22.2.2.2) rfl wz (aa (vI (w64 (s_22.2.2.2+1))) ?_))))))
         obtain ⟨y_87,hy_88,h_84⟩:=bind_some h_84
         refine dW lC rfl rfl hy_88 rfl wz (bK sz3 ag3 rfl (vI y_87) rfl wz ?_)
         obtain ⟨_,hi_89,h_84⟩:=bind_some h_84
         refine uP PT rfl rfl (jW hi_89) (ik hi_89) wz (aJ Gq rfl 0 rfl wz (aJ iK rfl 1 rfl wz ?_))
         obtain ⟨e_90,hy_91,h_84⟩:=bind_some h_84
         refine yF 0 il ft 5 sz3 rfl rfl hy_91 (⟨(⟨e_90.Time.From,y_87⟩:Window),e_90.Entry⟩:Slot_) rfl wz (dU (v':=(gV n_30 3 (s_22.1.set (0+((w64 ((s_22.1.length:Int)-1))).toNat) (⟨(⟨e_90.Time.From,y_87⟩:Window),e_90.Entry⟩:Slot_)))) 9 rfl (jm (by simp)) (dU (v':=(gV n_30 3 (s_22.1.set (0+((w64 ((s_22.1.length:Int)-1))).toNat) (⟨(⟨e_90.Time.From,y_87⟩:Window),e_90.Entry⟩:Slot_)))) 84 rfl (jm (by simp)) (af ?_)))
         obtain rfl:=ae h_84
         exact aV n_30 trivial rfl (aK rfl)
        ·refine ay rfl hc_86 (bE (aa (gV n_30 3 s_22.1) (aB 1 3 (.inr (by kernel_rfl)) (λ_ _ ag=>trivial) Aa CK rfl rfl (vL eI r_13) rfl wz (aB 2 4 (.inr (by kernel_rfl)) (λ_ _ ag=>⟨.inl ⟨rfl,rfl⟩,trivial⟩) sz3 ag3 rfl rfl (vI s_22.2.2.2) rfl wz ?_))))
         obtain ⟨y_92,hy_93,h_84⟩:=bind_some h_84
         refine dW lC rfl rfl hy_93 rfl wz (bK sz3 ag3 rfl (vI y_92) rfl wz (aB 5 3 (.inr (by kernel_rfl)) (λ_ _ ag=>⟨.inl ⟨rfl,rfl⟩,⟨.inl ⟨rfl,rfl⟩,trivial⟩⟩) Aa CK rfl rfl (vL eI r_13) rfl wz (aB 6 4 (.inr (by kernel_rfl)) (λ_ _ ag=>⟨.inl ⟨rfl,rfl⟩,⟨.inl ⟨rfl,rfl⟩,⟨.inl ⟨rfl,rfl⟩,trivial⟩⟩⟩) sz3 ag3 rfl rfl (vI s_22.2.2.2) rfl wz (aa (vI (w64 (s_22.2.2.2+1))) ?_))))
         obtain ⟨y_94,hy_95,h_84⟩:=bind_some h_84
         refine dW lC rfl rfl hy_95 rfl wz (bK sz3 ag3 rfl (vI y_94) rfl wz (aM (.d (.agg (Window.enc (⟨y_92,y_94⟩:Window)))) wz (by kernel_rfl) (aa (vS v_69) (aM (.d (.agg (Slot_.enc (⟨(⟨y_92,y_94⟩:Window),v_69⟩:Slot_)))) wz (by kernel_rfl) (eQ (([(⟨(⟨y_92,y_94⟩:Window),v_69⟩:Slot_)]:List Slot_).map Slot_.enc) PT ez34 rfl rfl rfl rfl rfl wz ?_)))))
         obtain ⟨a_96,hz_97,h_84⟩:=bind_some h_84
         refine jh 14 (.inr (by kernel_rfl)) (λ_ _ ag=>⟨.inr (.inl (Q5 (KJ ag (i:=5) (j:=3) rfl rfl (by decide)))),⟨.inr (.inl (Q5 (KJ ag (i:=5) (j:=4) rfl rfl (by decide)))),⟨.inr (.inl (Q5 (KJ ag (i:=5) (j:=3) rfl rfl (by decide)))),⟨.inr (.inl (Q5 (KJ ag (i:=5) (j:=4) rfl rfl (by decide)))),trivial⟩⟩⟩⟩) (i:=5) el34 el34 Qa z44 rfl (by decide) by44 (by decide) (λ_=>rfl) rfl rfl rfl hz_97 wz (λn_98=>aa (gV n_98 3 a_96) (af ?_))
         obtain rfl:=ae h_84
         exact aV n_98 trivial rfl (aK rfl)
       ·rintro n_85 _ sl_ H_ hp_ hq_
        refine aO _ hp_ hq_ (au (aj (aB 0 4 il ft sz3 ag3 rfl rfl (vI s_22.2.2.2) rfl wz (af (av (dC 0 (.inl rfl) z3 rfl wz (λn_99=>fA 0 il ft 7 sz3 rfl rfl [(vI s_22.2.2.2)] rfl wz (af (av (aB 0 7 il ft sz3 ag3 rfl rfl (vI s_22.2.2.2) rfl wz (aa (vI (w64 (s_22.2.2.2+1))) (fA 0 il ft 7 sz3 rfl rfl [(vI (w64 (s_22.2.2.2+1)))] rfl wz (af ?_)))))))))))))
        obtain rfl:=ae hc_33
        exact aY (k_17,(v_83,r_65,s_43.2,(w64 (s_22.2.2.2+1))),n_99,n_85,n_45,(gb_32 || !s_43.1.isEmpty)) hL_34 (ls_ _) rfl (pre_is [0,1,2,3,7,5,6] (by decide) rfl)
   ·refine ay rfl hc_37 (aX ?_)
    obtain rfl:=ae hc_33
    obtain rfl:=ae hL_34
    exact aV ((s_22.1,s_22.2.1,s_22.2.2.1,s_22.2.2.2),n_29,n_30,n_31,gb_32) rfl rfl (aK rfl)
 ·rintro ⟨s_22,n_29,n_30,n_31,gb_32⟩ ho_ sl_ H_ hp_ hq_
  subst ho_
  refine aO _ hp_ hq_ (aj (aa (gV n_30 3 s_22.1) (aa (gV n_30 3 s_22.1) (af (fB 5 rfl (bX 6 5 rfl rfl (bX 9 5 rfl rfl (bX 110 5 rfl rfl ?_))))))))
  obtain rfl:=ae hF
  exact aH (aN [(vL Slot_.enc s_22.1)] ⟨rfl,trivial⟩)
theorem ze {l_1:(List Entry)} {p_2:Player} {wv_3:Window} {r:(List Slot_)×Int} (hF:kS l_1 p_2 wv_3=some r) :
  FnM Tryz.prog 6 [(vL Entry.enc l_1),(.d (.agg (Player.enc p_2))),(.d (.agg (Window.enc wv_3)))] [] (.tup [(vL Slot_.enc r.1),(vI r.2)]) []:=by
 refine FnM.of_wH ⟨Tryz.prog,20,[],[]⟩ rfl Tryz.func6 rfl rfl (lb_ rfl) (by kernel_rfl) ?_
 unfold kS at hF
 refine aj (d9 0 (.inl rfl) (Player.v p_2) rfl rfl wz (λn_4=>d9 0 (.inl rfl) [(vI wv_3.From),(vI wv_3.To)] rfl rfl wz (λn_5=>aa .nil (aa (vI 0) (af (au (aj (aa (vL Entry.enc l_1) (aB 0 0 il ft uR xL rfl rfl (.d (.agg (Player.enc p_2))) rfl wz (aB 0 1 il ft jZ nX rfl rfl (.d (.agg (Window.enc wv_3))) rfl wz ?_))))))))))
 obtain ⟨r_6,hr_7,hF⟩:=bind_some hF
 refine aC (pM hr_7) rfl hb19 rfl rfl rfl rfl wz (aa (vI r_6) (af (aj (aa (vI r_6) (aa (vB (r_6 != 0)) (af ?_))))))
 rcases ak hF with⟨hc_8,hF⟩|⟨hc_8,hF⟩
 ·refine aA rfl hc_8 (aj (aa (vI r_6) (aa .nil (aa (vI r_6) (af ?_)))))
  obtain rfl:=ae hF
  exact aH (aN [.nil,(vI r_6)] ⟨rfl,⟨rfl,trivial⟩⟩)
 ·refine ay rfl hc_8 (ax (aj (aa (vL Entry.enc l_1) (aB 0 0 il ft uR xL rfl rfl (.d (.agg (Player.enc p_2))) rfl wz (aB 0 1 il ft jZ nX rfl rfl (.d (.agg (Window.enc wv_3))) rfl wz ?_)))))
  obtain ⟨r_9,hr_10,hF⟩:=bind_some hF
  refine aC (rF hr_10) rfl hb20 rfl rfl rfl rfl wz (aa (vL Slot_.enc r_9) (aa (vI 0) (af ?_)))
  obtain rfl:=ae hF
  exact aH (aN [(vL Slot_.enc r_9),(vI 0)] ⟨rfl,⟨rfl,trivial⟩⟩)
theorem DV {x0:ByteArray} {x1:ByteArray} {r:ByteArray} (hF:rO x0 x1=some r) :
  FnM Tryz.prog 81 [(vS x0),(vS x1)] [] (vS r) [] :=
 Qx rfl Tryz.strings_Trim_ascii  hF
theorem xq {s_1:ByteArray} {r:Bool} (hF:nE s_1=some r) :
  FnM Tryz.prog 52 [(vS s_1)] [] (vB r) []:=by
 refine FnM.of_wH ⟨Tryz.prog,11,[],[]⟩ rfl Tryz.func52 rfl rfl (lb_ rfl) (by kernel_rfl) ?_
 unfold nE at hF
 refine aj (aa (vB false) (af (au ?_)))
 obtain ⟨v_2,h_3,hF⟩:=bind_some hF
 refine aS [(2,(vB v_2))] [] ?_ ?_
 ·refine av (aa (vS s_1) (Ey un9 rfl wz (aa (vB ((s_1.size:Int)==16)) ?_)))
  rcases ak h_3 with⟨hc_4,h_3⟩|⟨hc_4,h_3⟩
  ·refine aI rfl hc_4 wz (aM (vS s_1) wa rfl ?_)
   obtain ⟨r_5,hr_6,h_3⟩:=bind_some h_3
   refine aC (DV hr_6) rfl hb81 rfl rfl rfl rfl wa (aM (vB (sEq r_5 (⟨#[]⟩:ByteArray))) wa rfl (aa (vB (sEq r_5 (⟨#[]⟩:ByteArray))) (aa (vB (sEq r_5 (⟨#[]⟩:ByteArray))) (af ?_))))
   obtain rfl:=ae h_3
   exact cu
  ·refine aI rfl hc_4 wz (ah (ah (ah (aa (vB false) (aa (vB false) (af ?_))))))
   obtain rfl:=ae h_3
   exact cu
 ·rintro ⟨⟩ _ sl_ H_ hp_ hq_
  refine aO _ hp_ hq_ ?_
  obtain rfl:=ae hF
  exact aH (aN [(vB v_2)] ⟨rfl,trivial⟩)
theorem zU {last_1:ByteArray} {r:Int} (hF:lV last_1=some r) :
  FnM Tryz.prog 21 [(vS last_1)] [] (vI r) []:=by
 refine FnM.of_wH ⟨Tryz.prog,10,[],[]⟩ rfl Tryz.func21 rfl rfl (lb_ rfl) (by kernel_rfl) ?_
 unfold lV at hF
 refine aj (aa (vI 0) (af (au (au ?_))))
 obtain ⟨v_2,h_3,hF⟩:=bind_some hF
 refine aS [(9,(vB v_2))] [] ?_ ?_
 ·refine av (aa (vS last_1) (aa (vB (sNe last_1 (⟨#[]⟩:ByteArray))) ?_))
  rcases ak h_3 with⟨hc_4,h_3⟩|⟨hc_4,h_3⟩
  ·refine aI rfl hc_4 wz (aM (vS last_1) wa rfl ?_)
   obtain ⟨r_5,hr_6,h_3⟩:=bind_some h_3
   refine aC (xq hr_6) rfl hb52 rfl rfl rfl rfl wa (aM (vB (!r_5)) wa rfl (aa (vB (!r_5)) (af ?_)))
   obtain rfl:=ae h_3
   exact cu
  ·refine aI rfl hc_4 wz (ah (ah (ah (aa (vB false) (af ?_)))))
   obtain rfl:=ae h_3
   exact cu
 ·rintro ⟨⟩ _ sl_ H_ hp_ hq_
  refine aO _ hp_ hq_ ?_
  rcases ak hF with⟨hc_7,hF⟩|⟨hc_7,hF⟩
  ·refine aA rfl hc_7 (aj (aa (vI 3) (af ?_)))
   obtain rfl:=ae hF
   exact aH (aN [(vI 3)] ⟨rfl,trivial⟩)
  ·refine ay rfl hc_7 (ax (aj (aa (vI 0) (af ?_))))
   obtain rfl:=ae hF
   exact aH (aN [(vI 0)] ⟨rfl,trivial⟩)
theorem ul {l_1:Log_} {r:Int} (hF:kT l_1=some r) :
  FnM Tryz.prog 23 [(.d (.agg (Log_.enc l_1)))] [] (vI r) []:=by
 refine FnM.of_wH ⟨Tryz.prog,26,[],[]⟩ rfl Tryz.func23 rfl rfl (lb_ rfl) (by kernel_rfl) ?_
 unfold kT at hF
 refine aj (d9 0 (.inl rfl) (Log_.v l_1) rfl rfl wz (λn_2=>aa (vI 0) (af (au (au ?_)))))
 obtain ⟨v_3,h_4,hF⟩:=bind_some hF
 refine aS [(1,(.ref n_2 0 0)),(12,(vB v_3))] [(n_2,some (.cells 6 (Log_.v l_1)))] ?_ ?_
 ·refine av (aJ uI rfl 0 rfl wz (aB 0 0 il ft sz9 ag9 rfl rfl (vS l_1.Player) rfl wz ?_))
  obtain ⟨r_5,hr_6,h_4⟩:=bind_some h_4
  refine aC (fw hr_6) rfl AZ rfl rfl rfl rfl wz (aa (vB (!r_5)) ?_)
  rcases ak h_4 with⟨hc_7,h_4⟩|⟨hc_7,h_4⟩
  ·refine aI rfl hc_7 wz (ah (ah (ah (ah (aa (vB true) (af ?_))))))
   obtain rfl:=ae h_4
   exact cu
  ·refine aI rfl hc_7 wz (aJ L8 rfl 1 rfl wa (aB 0 0 il ft sz9 ag9 rfl rfl (vS l_1.Item) rfl wa ?_))
   obtain ⟨r_8,hr_9,h_4⟩:=bind_some h_4
   refine aC (fw hr_9) rfl AZ rfl rfl rfl rfl wa (aM (vB (!r_8)) wa rfl (aa (vB (!r_8)) (af ?_)))
   obtain rfl:=ae h_4
   exact cu
 ·rintro ⟨⟩ _ sl_ H_ hp_ hq_
  refine aO _ hp_ hq_ ?_
  rcases ak hF with⟨hc_10,hF⟩|⟨hc_10,hF⟩
  ·refine aA rfl hc_10 (aj (aa (vI 5) (af ?_)))
   obtain rfl:=ae hF
   exact aH (aN [(vI 5)] ⟨rfl,trivial⟩)
  ·refine ay rfl hc_10 (ax (au (au ?_)))
   obtain ⟨v_11,h_12,hF⟩:=bind_some hF
   refine aS [(25,(vB v_11))] [(n_2,some (.cells 6 (Log_.v l_1)))] ?_ ?_
   ·refine av (aJ Ch rfl 2 rfl wz (aB 0 0 il ft sz3 ag3 rfl rfl (vI l_1.No) rfl wz ?_))
    obtain ⟨r_13,hr_14,h_12⟩:=bind_some h_12
    refine aC (bD hr_14) rfl rT rfl rfl rfl rfl wz ?_
    rcases ak h_12 with⟨hc_15,h_12⟩|⟨hc_15,h_12⟩
    ·refine aI rfl hc_15 wz (ah (ah (ah (aa (vB true) (aa (vB true) (ah (ah (ah (aa (vB true) (af ?_))))))))))
     obtain rfl:=ae h_12
     exact cu
    ·refine aI rfl hc_15 wz (aJ IY rfl 3 rfl wa (aB 0 0 il ft sz3 ag3 rfl rfl (vI l_1.Clock) rfl wa ?_))
     obtain ⟨r_16,hr_17,h_12⟩:=bind_some h_12
     refine aC (bD hr_17) rfl rT rfl rfl rfl rfl wa (aa (vB r_16) ?_)
     rcases ak h_12 with⟨hc_18,h_12⟩|⟨hc_18,h_12⟩
     ·refine aI rfl hc_18 wz (ah (ah (ah (aa (vB true) (af ?_)))))
      obtain rfl:=ae h_12
      exact cu
     ·refine aI rfl hc_18 wz (aJ LH rfl 4 rfl wa (aB 0 0 il ft sz3 ag3 rfl rfl (vI l_1.Long) rfl wa ?_))
      obtain ⟨r_19,hr_20,h_12⟩:=bind_some h_12
      refine aC (bD hr_20) rfl rT rfl rfl rfl rfl wa (aa (vB r_19) (af ?_))
      obtain rfl:=ae h_12
      exact cu
   ·rintro ⟨⟩ _ sl_ H_ hp_ hq_
    refine aO _ hp_ hq_ ?_
    rcases ak hF with⟨hc_21,hF⟩|⟨hc_21,hF⟩
    ·refine aA rfl hc_21 (aj (aa (vI 1) (af ?_)))
     obtain rfl:=ae hF
     exact aH (aN [(vI 1)] ⟨rfl,trivial⟩)
    ·refine ay rfl hc_21 (ax (aj (aa (vI 0) (af ?_))))
     obtain rfl:=ae hF
     exact aH (aN [(vI 0)] ⟨rfl,trivial⟩)
theorem qP {x0:Int} {r:ByteArray} (hF:strconv_Itoa x0=some r) :
  FnM Tryz.prog 84 [(vI x0)] [] (vS r) [] :=
 itoa_ok Tryz.strconv_Itoa Na hF
theorem Gz {l_1:Log_} {r:ByteArray} (hF:rY l_1=some r) :
  FnM Tryz.prog 54 [(.d (.agg (Log_.enc l_1)))] [] (vS r) []:=by
 refine FnM.of_wH ⟨Tryz.prog,24,[],[]⟩ rfl Tryz.func54 rfl rfl (lb_ rfl) (by kernel_rfl) ?_
 unfold rY at hF
 refine aj (d9 0 (.inl rfl) (Log_.v l_1) rfl rfl wz (λn_2=>aa (vS (⟨#[]⟩:ByteArray)) (af (au (bE (aJ uI rfl 0 rfl wz (aB 1 0 (.inr (by kernel_rfl)) (λ_ _ ag=>trivial) sz9 ag9 rfl rfl (vS l_1.Player) rfl wz ?_)))))))
 obtain ⟨s_3,hz_4,hF⟩:=bind_some hF
 refine yx rfl rfl hz_4 wz (aJ L8 rfl 1 rfl wz (aB 4 0 (.inr (by kernel_rfl)) (λ_ _ ag=>⟨.inl ⟨rfl,rfl⟩,trivial⟩) sz9 ag9 rfl rfl (vS l_1.Item) rfl wz ?_))
 obtain ⟨s_5,hz_6,hF⟩:=bind_some hF
 refine yx rfl rfl hz_6 wz ?_
 obtain ⟨s_7,hz_8,hF⟩:=bind_some hF
 refine yx rfl rfl hz_8 wz (aJ Ch rfl 2 rfl wz (aB 8 0 (.inr (by kernel_rfl)) (λ_ _ ag=>⟨.inl ⟨rfl,rfl⟩,⟨.inl ⟨rfl,rfl⟩,trivial⟩⟩) sz3 ag3 rfl rfl (vI l_1.No) rfl wz ?_))
 obtain ⟨r_9,hr_10,hF⟩:=bind_some hF
 refine aC (qP hr_10) rfl hb84 rfl rfl rfl rfl wz ?_
 obtain ⟨s_11,hz_12,hF⟩:=bind_some hF
 refine yx rfl rfl hz_12 wz ?_
 obtain ⟨s_13,hz_14,hF⟩:=bind_some hF
 refine yx rfl rfl hz_14 wz (aJ IY rfl 3 rfl wz (aB 13 0 (.inr (by kernel_rfl)) (λ_ _ ag=>⟨.inl ⟨rfl,rfl⟩,⟨.inl ⟨rfl,rfl⟩,⟨.inl ⟨rfl,rfl⟩,trivial⟩⟩⟩) sz3 ag3 rfl rfl (vI l_1.Clock) rfl wz ?_))
 obtain ⟨r_15,hr_16,hF⟩:=bind_some hF
 refine aC (qP hr_16) rfl hb84 rfl rfl rfl rfl wz ?_
 obtain ⟨s_17,hz_18,hF⟩:=bind_some hF
 refine yx rfl rfl hz_18 wz ?_
 obtain ⟨s_19,hz_20,hF⟩:=bind_some hF
 refine yx rfl rfl hz_20 wz (aJ LH rfl 4 rfl wz (aB 18 0 (.inr (by kernel_rfl)) (λ_ _ ag=>⟨.inl ⟨rfl,rfl⟩,⟨.inl ⟨rfl,rfl⟩,⟨.inl ⟨rfl,rfl⟩,⟨.inl ⟨rfl,rfl⟩,trivial⟩⟩⟩⟩) sz3 ag3 rfl rfl (vI l_1.Long) rfl wz ?_))
 obtain ⟨r_21,hr_22,hF⟩:=bind_some hF
 refine aC (qP hr_22) rfl hb84 rfl rfl rfl rfl wz ?_
 obtain ⟨s_23,hz_24,hF⟩:=bind_some hF
 refine yx rfl rfl hz_24 wz (aa (vS s_23) (af ?_))
 obtain rfl:=ae hF
 exact aH (aN [(vS s_23)] ⟨rfl,trivial⟩)
theorem pF {x_1:Int} {r:Bool} (hF:gz x_1=some r) :
  FnM Tryz.prog 176 [(vI x_1)] [] (vB r) []:=by
 refine FnM.of_wH ⟨Tryz.prog,8,[],[]⟩ rfl Tryz.func176 rfl rfl (lb_ rfl) (by kernel_rfl) ?_
 unfold gz at hF
 refine aj (aa (vB false) (af (aj (aa (vI x_1) (aa (vI x_1) (aa (vI (w64 (x_1-1))) (aa (vI (vM .i64 x_1 (w64 (x_1-1)))) (aa (vB ((vM .i64 x_1 (w64 (x_1-1)))==0)) (aa (vB ((vM .i64 x_1 (w64 (x_1-1)))==0)) (af ?_))))))))))
 obtain rfl:=ae hF
 exact aH (aN [(vB ((vM .i64 x_1 (w64 (x_1-1)))==0))] ⟨rfl,trivial⟩)
theorem sJ {x0:Int} {r:Int} (hF:kR x0=some r) :
  FnM Tryz.prog 177 [(.d (.int .u64 x0))] [] (vI r) [] :=
 tz_ok db_g Tryz.bits_TrailingZeros laid_db hF
theorem pQ {dst_1:(List Int)} {u_2:Int} {base_3:Int} {neg_4:Bool} {append_5:Bool} {r:(List Int)×ByteArray} (hF:fu dst_1 u_2 base_3 neg_4 append_5=some r) :
  FnM Tryz.prog 158 [(vL (eK .u8) dst_1),(.d (.int .u64 u_2)),(vI base_3),(vB neg_4),(vB append_5)] [] (.tup [(vL (eK .u8) r.1),(vS r.2)]) []:=by
 refine FnM.of_wH ⟨Tryz.prog,102,[],[]⟩ rfl Tryz.func158 rfl rfl (lb_ rfl) (by kernel_rfl) ?_
 unfold fu at hF
 refine aj (aa .nil (aa (vS (⟨#[]⟩:ByteArray)) (af (au (au ?_)))))
 obtain ⟨v_6,h_7,hF⟩:=bind_some hF
 refine aS [(0,(vL (eK .u8) dst_1)),(1,(.d (.int .u64 u_2))),(2,(vI base_3)),(3,(vB neg_4)),(4,(vB append_5)),(10,.nil),(11,(vS (⟨#[]⟩:ByteArray))),(28,(vB v_6))] [] ?_ ?_
 ·refine av (aa (vI base_3) (aa (vB (decide (base_3<2))) ?_))
  rcases ak h_7 with⟨hc_8,h_7⟩|⟨hc_8,h_7⟩
  ·refine aI rfl hc_8 wz (ah (ah (aa (vB true) (aa (vB true) (ah (ah (aa (vB true) (af ?_))))))))
   obtain rfl:=ae h_7
   exact cu
  ·refine aI rfl hc_8 wz (aM (vI base_3) wa rfl (aM (vB (base_3==10)) wa rfl (aa (vB (base_3==10)) ?_)))
   rcases ak h_7 with⟨hc_9,h_7⟩|⟨hc_9,h_7⟩
   ·refine aI rfl hc_9 wz (ah (ah (aa (vB true) (af ?_))))
    obtain rfl:=ae h_7
    exact cu
   ·refine aI rfl hc_9 wz (aM (vI base_3) wa rfl (aM (vB (decide (base_3>36))) wa rfl (aa (vB (decide (base_3>36))) (af ?_))))
    obtain rfl:=ae h_7
    exact cu
 ·rintro ⟨⟩ _ sl_ H_ hp_ hq_
  refine aO _ hp_ hq_ ?_
  obtain ⟨v_10,h_11,hF⟩:=bind_some hF
  refine aS [(0,(vL (eK .u8) dst_1)),(1,(.d (.int .u64 u_2))),(2,(vI base_3)),(3,(vB neg_4)),(4,(vB append_5)),(10,.nil),(11,(vS (⟨#[]⟩:ByteArray)))] [] ?_ ?_
  ·rcases ak h_11 with⟨hc_12,h_11⟩|⟨hc_12,h_11⟩
   ·refine aA rfl hc_12 (av ?_)
    cases h_11
   ·refine ay rfl hc_12 (ax ?_)
    obtain rfl:=ae h_11
    exact cu
  ·rintro ⟨⟩ _ sl_ H_ hp_ hq_
   refine aO _ hp_ hq_ (aj (K8 (List.replicate 65 (0:Int)) 0 (.inl rfl) z238 (by kernel_rfl) (by kernel_rfl) Dp wz (λn_13=>af (aj (aa (vI 65) (af (au (aj (aa (vB neg_4) (af ?_))))))))))
   obtain ⟨v_14,h_15,hF⟩:=bind_some hF
   refine aS [(0,(vL (eK .u8) dst_1)),(1,(.d (.int .u64 v_14))),(2,(vI base_3)),(3,(vB neg_4)),(4,(vB append_5)),(10,.nil),(11,(vS (⟨#[]⟩:ByteArray))),(12,(.ref n_13 0 0)),(13,(vI 65))] [(n_13,some (bV 1 (eK .u8) (List.replicate 65 (0:Int))))] ?_ ?_
   ·rcases ak h_15 with⟨hc_16,h_15⟩|⟨hc_16,h_15⟩
    ·refine aA rfl hc_16 (av (aa (.d (.int .u64 u_2)) (aa (.d (.int .u64 (IntKind.u64.wrap (0-u_2)))) (aa (.d (.int .u64 (IntKind.u64.wrap (0-u_2)))) (af ?_)))))
     obtain rfl:=ae h_15
     exact cu
    ·refine ay rfl hc_16 (ax ?_)
     obtain rfl:=ae h_15
     exact cu
   ·rintro ⟨⟩ _ sl_ H_ hp_ hq_
    refine aO _ hp_ hq_ (au (aj (aa (vI base_3) ?_)))
    obtain ⟨r_17,hr_18,hF⟩:=bind_some hF
    refine aC (pF hr_18) rfl hb176 rfl rfl rfl rfl wz (af ?_)
    obtain ⟨v_19,h_20,hF⟩:=bind_some hF
    refine aS [(0,(vL (eK .u8) dst_1)),(3,(vB neg_4)),(4,(vB append_5)),(10,.nil),(11,(vS (⟨#[]⟩:ByteArray))),(12,(.ref n_13 0 0)),(13,(vI v_19.2))] [(n_13,some (bV 1 (eK .u8) v_19.1))] ?_ ?_
    ·rcases ak h_20 with⟨hc_21,h_20⟩|⟨hc_21,h_20⟩
     ·refine aA rfl hc_21 (aj (aa (vI base_3) (oZ un3 CW rfl wz ?_)))
      obtain ⟨r_22,hr_23,h_20⟩:=bind_some h_20
      refine aC (sJ hr_23) rfl hb177 rfl rfl rfl rfl wz (oZ un3 CW rfl wz (aa (.d (.int .u64 (IntKind.u64.wrap r_22))) (af (aj (aa (vI base_3) (oZ un3 Kb rfl wz (aa (.d (.int .u64 (IntKind.u64.wrap base_3))) (af (aj (aa (vI base_3) (oZ un3 CW rfl wz (aa (.d (.int .u64 (IntKind.u64.wrap ((IntKind.u64.wrap base_3)-1)))) (aa (.d (.int .u64 (IntKind.u64.wrap ((IntKind.u64.wrap base_3)-1)))) (af (au ?_)))))))))))))))
      obtain ⟨o_32,hj_33,h_20⟩:=bind_some h_20
      obtain ⟨nq_47,hj_33⟩:=cK hj_33
      refine fo (λ(s_29:(List Int)×Int×Int)=>[(0,(vL (eK .u8) dst_1)),(1,(.d (.int .u64 s_29.2.1))),(3,(vB neg_4)),(4,(vB append_5)),(10,.nil),(11,(vS (⟨#[]⟩:ByteArray))),(12,(.ref n_13 0 0)),(13,(vI s_29.2.2))]) (λ(s_29:(List Int)×Int×Int)=>[(n_13,some (bV 1 (eK .u8) s_29.1))]) (λ(k_24:Nat)=>(λ(s_29:(List Int)×Int×Int)=>[(0,(vL (eK .u8) dst_1)),(1,(.d (.int .u64 s_29.2.1))),(3,(vB neg_4)),(4,(vB append_5)),(10,.nil),(11,(vS (⟨#[]⟩:ByteArray))),(12,(.ref n_13 0 0)),(13,(vI s_29.2.2)),(14,(.d (.int .u64 (IntKind.u64.wrap r_22)))),(15,(.d (.int .u64 (IntKind.u64.wrap base_3)))),(16,(.d (.int .u64 (IntKind.u64.wrap ((IntKind.u64.wrap base_3)-1)))))])) (λs=>bT base_3 r_22 s) o_32 nq_47 ((List.replicate 65 (0:Int)),v_14,65) hj_33 rfl (aK rfl) ?_ ?_
      ·rintro ⟨k_24,s_29⟩ hL_31
       dsimp only at hL_31
       cases k_24 with
       | zero=>cases hL_31
       | succ k_24 =>
        obtain ⟨c_,hc_30,hL_31⟩:=bind_some hL_31
        unfold bT at hc_30
        refine au (aj (aa (.d (.int .u64 s_29.2.1)) (aa (.d (.int .u64 (IntKind.u64.wrap base_3))) (aa (vB (decide (s_29.2.1>=(IntKind.u64.wrap base_3)))) (af ?_)))))
        rcases ak hc_30 with⟨hc_34,hc_30⟩|⟨hc_34,hc_30⟩
        ·refine aA rfl hc_34 (ax (aQ (aj (aa (vI s_29.2.2) (aa (vI (w64 (s_29.2.2-1))) (aa (vI (w64 (s_29.2.2-1))) (af (aj (aa (vI (w64 (s_29.2.2-1))) (aa (.d (.int .u64 s_29.2.1)) (aa (.d (.int .u64 (IntKind.u64.wrap ((IntKind.u64.wrap base_3)-1)))) (aa (.d (.int .u64 (vM .u64 s_29.2.1 (IntKind.u64.wrap ((IntKind.u64.wrap base_3)-1))))) ?_))))))))))))
         obtain ⟨b_35,hy_36,hc_30⟩:=bind_some hc_30
         refine zP un9 rfl rfl hy_36 wz ?_
         obtain ⟨_,hi_37,hc_30⟩:=bind_some hc_30
         refine JU 0 0 il ft Dp rfl rfl rfl (Da hi_37) (yw hi_37) wz ?_
         obtain ⟨e_38,hy_39,hc_30⟩:=bind_some hc_30
         refine DC 0 il ft 0 sz5 rfl rfl hy_39 (b_35.toNat:Int) rfl wz (af (av (aa (.d (.int .u64 s_29.2.1)) (aa (.d (.int .u64 (IntKind.u64.wrap r_22))) ?_))))
         obtain ⟨q_40,hz_41,hc_30⟩:=bind_some hc_30
         refine Im rfl rfl hz_41 wz (aa (.d (.int .u64 q_40)) (af ?_))
         obtain rfl:=ae hc_30
         exact aY (k_24,((s_29.1.set ((w64 (s_29.2.2-1))).toNat (b_35.toNat:Int)),q_40,(w64 (s_29.2.2-1)))) hL_31 (ls_ _) rfl (aK rfl)
        ·refine ay rfl hc_34 (aX ?_)
         obtain rfl:=ae hc_30
         obtain rfl:=ae hL_31
         exact aV ((s_29.1,s_29.2.1,s_29.2.2)) rfl rfl (aK rfl)
      ·rintro s_29 ho_ sl_ H_ hp_ hq_
       subst ho_
       refine aO _ hp_ hq_ (aj (aa (vI s_29.2.2) (aa (vI (w64 (s_29.2.2-1))) (aa (vI (w64 (s_29.2.2-1))) (af (av (aa (vI (w64 (s_29.2.2-1))) (aa (.d (.int .u64 s_29.2.1)) ?_))))))))
       obtain ⟨b_42,hy_43,h_20⟩:=bind_some h_20
       refine zP un9 rfl rfl hy_43 wz ?_
       obtain ⟨_,hi_44,h_20⟩:=bind_some h_20
       refine JU 0 0 il ft Dp rfl rfl rfl (Da hi_44) (yw hi_44) wz ?_
       obtain ⟨e_45,hy_46,h_20⟩:=bind_some h_20
       refine DC 0 il ft 0 sz5 rfl rfl hy_46 (b_42.toNat:Int) rfl wz (af ?_)
       obtain rfl:=ae h_20
       exact cu
     ·refine ay rfl hc_21 (aj (aa (vI base_3) (oZ un3 Kb rfl wz (aa (.d (.int .u64 (IntKind.u64.wrap base_3))) (af (au ?_))))))
      obtain ⟨o_56,hj_57,h_20⟩:=bind_some h_20
      obtain ⟨nq_71,hj_57⟩:=cK hj_57
      refine fo (λ(s_53:(List Int)×Int×Int)=>[(0,(vL (eK .u8) dst_1)),(1,(.d (.int .u64 s_53.2.1))),(3,(vB neg_4)),(4,(vB append_5)),(10,.nil),(11,(vS (⟨#[]⟩:ByteArray))),(12,(.ref n_13 0 0)),(13,(vI s_53.2.2))]) (λ(s_53:(List Int)×Int×Int)=>[(n_13,some (bV 1 (eK .u8) s_53.1))]) (λ(k_48:Nat)=>(λ(s_53:(List Int)×Int×Int)=>[(0,(vL (eK .u8) dst_1)),(1,(.d (.int .u64 s_53.2.1))),(3,(vB neg_4)),(4,(vB append_5)),(10,.nil),(11,(vS (⟨#[]⟩:ByteArray))),(12,(.ref n_13 0 0)),(13,(vI s_53.2.2)),(17,(.d (.int .u64 (IntKind.u64.wrap base_3))))])) (λs=>je base_3 s) o_56 nq_71 ((List.replicate 65 (0:Int)),v_14,65) hj_57 rfl (aK rfl) ?_ ?_
      ·rintro ⟨k_48,s_53⟩ hL_55
       dsimp only at hL_55
       cases k_48 with
       | zero=>cases hL_55
       | succ k_48 =>
        obtain ⟨c_,hc_54,hL_55⟩:=bind_some hL_55
        unfold je at hc_54
        refine au (aj (aa (.d (.int .u64 s_53.2.1)) (aa (.d (.int .u64 (IntKind.u64.wrap base_3))) (aa (vB (decide (s_53.2.1>=(IntKind.u64.wrap base_3)))) (af ?_)))))
        rcases ak hc_54 with⟨hc_58,hc_54⟩|⟨hc_58,hc_54⟩
        ·refine aA rfl hc_58 (ax (aQ (aj (aa (vI s_53.2.2) (aa (vI (w64 (s_53.2.2-1))) (aa (vI (w64 (s_53.2.2-1))) (af (aj (aa (.d (.int .u64 s_53.2.1)) (aa (.d (.int .u64 (IntKind.u64.wrap base_3))) ?_))))))))))
         obtain ⟨q_59,hz_60,hc_54⟩:=bind_some hc_54
         refine Nw rfl rfl hz_60 wz (aa (.d (.int .u64 q_59)) (af (aj (aa (vI (w64 (s_53.2.2-1))) (aa (.d (.int .u64 s_53.2.1)) (aa (.d (.int .u64 q_59)) (aa (.d (.int .u64 (IntKind.u64.wrap base_3))) (aa (.d (.int .u64 (IntKind.u64.wrap (q_59*(IntKind.u64.wrap base_3))))) (aa (.d (.int .u64 (IntKind.u64.wrap (s_53.2.1-(IntKind.u64.wrap (q_59*(IntKind.u64.wrap base_3))))))) ?_)))))))))
         obtain ⟨b_61,hy_62,hc_54⟩:=bind_some hc_54
         refine zP un9 rfl rfl hy_62 wz ?_
         obtain ⟨_,hi_63,hc_54⟩:=bind_some hc_54
         refine JU 0 0 il ft Dp rfl rfl rfl (Da hi_63) (yw hi_63) wz ?_
         obtain ⟨e_64,hy_65,hc_54⟩:=bind_some hc_54
         refine DC 0 il ft 0 sz5 rfl rfl hy_65 (b_61.toNat:Int) rfl wz (af (av (aa (.d (.int .u64 q_59)) (aa (.d (.int .u64 q_59)) (af ?_)))))
         obtain rfl:=ae hc_54
         exact aY (k_48,((s_53.1.set ((w64 (s_53.2.2-1))).toNat (b_61.toNat:Int)),q_59,(w64 (s_53.2.2-1)))) hL_55 (ls_ _) rfl (aK rfl)
        ·refine ay rfl hc_58 (aX ?_)
         obtain rfl:=ae hc_54
         obtain rfl:=ae hL_55
         exact aV ((s_53.1,s_53.2.1,s_53.2.2)) rfl rfl (aK rfl)
      ·rintro s_53 ho_ sl_ H_ hp_ hq_
       subst ho_
       refine aO _ hp_ hq_ (aj (aa (vI s_53.2.2) (aa (vI (w64 (s_53.2.2-1))) (aa (vI (w64 (s_53.2.2-1))) (af (av (aa (vI (w64 (s_53.2.2-1))) (aa (.d (.int .u64 s_53.2.1)) ?_))))))))
       obtain ⟨b_66,hy_67,h_20⟩:=bind_some h_20
       refine zP un9 rfl rfl hy_67 wz ?_
       obtain ⟨_,hi_68,h_20⟩:=bind_some h_20
       refine JU 0 0 il ft Dp rfl rfl rfl (Da hi_68) (yw hi_68) wz ?_
       obtain ⟨e_69,hy_70,h_20⟩:=bind_some h_20
       refine DC 0 il ft 0 sz5 rfl rfl hy_70 (b_66.toNat:Int) rfl wz (af ?_)
       obtain rfl:=ae h_20
       exact cu
    ·rintro ⟨⟩ _ sl_ H_ hp_ hq_
     refine aO _ hp_ hq_ (au (aj (aa (vB neg_4) (af ?_))))
     obtain ⟨v_72,h_73,hF⟩:=bind_some hF
     refine aS [(0,(vL (eK .u8) dst_1)),(4,(vB append_5)),(10,.nil),(11,(vS (⟨#[]⟩:ByteArray))),(12,(.ref n_13 0 0)),(13,(vI v_72.2))] [(n_13,some (bV 1 (eK .u8) v_72.1))] ?_ ?_
     ·rcases ak h_73 with⟨hc_74,h_73⟩|⟨hc_74,h_73⟩
      ·refine aA rfl hc_74 (aj (aa (vI v_19.2) (aa (vI (w64 (v_19.2-1))) (aa (vI (w64 (v_19.2-1))) (af (av (aa (vI (w64 (v_19.2-1))) ?_)))))))
       obtain ⟨_,hi_75,h_73⟩:=bind_some h_73
       refine JU 0 0 il ft Dp rfl rfl rfl (Da hi_75) (yw hi_75) wz ?_
       obtain ⟨e_76,hy_77,h_73⟩:=bind_some h_73
       refine DC 0 il ft 0 sz5 rfl rfl hy_77 45 rfl wz (af ?_)
       obtain rfl:=ae h_73
       exact cu
      ·refine ay rfl hc_74 (ax ?_)
       obtain rfl:=ae h_73
       exact cu
     ·rintro ⟨⟩ _ sl_ H_ hp_ hq_
      refine aO _ hp_ hq_ (au (aj (aa (vB append_5) (af ?_))))
      rcases ak hF with⟨hc_78,hF⟩|⟨hc_78,hF⟩
      ·refine aA rfl hc_78 (aj (aa (vL (eK .u8) dst_1) (aa (vI v_72.2) ?_)))
       obtain ⟨_,hn_79,hF⟩:=bind_some hF
       obtain ⟨_,hr_80,hF⟩:=bind_some hF
       refine KD 0 0 il ft Dp rfl rfl rfl hn_79 hr_80 wz ?_
       cases hF
      ·refine ay rfl hc_78 (ax (aj (aa (vI v_72.2) ?_)))
       obtain ⟨_,hn_81,hF⟩:=bind_some hF
       obtain ⟨_,hr_82,hF⟩:=bind_some hF
       refine KD 0 0 il ft Dp rfl rfl rfl hn_81 hr_82 wz (h_convp 0 0 il ft un191 un9 un5 rfl rfl (qh hr_82) wz (aa (vS (Go.strOfNums (DI v_72.1 ((v_72.2).toNat) (((v_72.1.length:Int)).toNat-(v_72.2).toNat)))) (af ?_)))
       obtain rfl:=ae hF
       exact aH (aN [.nil,(vS (Go.strOfNums (DI v_72.1 ((v_72.2).toNat) (((v_72.1.length:Int)).toNat-(v_72.2).toNat))))] ⟨rfl,⟨rfl,trivial⟩⟩)
theorem p9 {i_1:Int} {base_2:Int} {r:ByteArray} (hF:iG i_1 base_2=some r) :
  FnM Tryz.prog 125 [(.d (.int .u64 i_1)),(vI base_2)] [] (vS r) []:=by
 refine FnM.of_wH ⟨Tryz.prog,32,[],[]⟩ rfl Tryz.func125 rfl rfl (lb_ rfl) (by kernel_rfl) ?_
 unfold iG at hF
 refine aj (aa (vS (⟨#[]⟩:ByteArray)) (af (au (aj (aa (vI base_2) (aa (vB (base_2==10)) (af ?_)))))))
 rcases ak hF with⟨hc_3,hF⟩|⟨hc_3,hF⟩
 ·refine aA rfl hc_3 (au (aj (aa (.d (.int .u64 i_1)) (aa (vB (decide (i_1<100))) (af ?_)))))
  rcases ak hF with⟨hc_4,hF⟩|⟨hc_4,hF⟩
  ·refine aA rfl hc_4 (aj (aa (.d (.int .u64 i_1)) (oZ Kb un3 rfl wz ?_)))
   cases hF
  ·refine ay rfl hc_4 (ax (aj (K8 (List.replicate 24 (0:Int)) 0 (.inl rfl) z220 (by kernel_rfl) (by kernel_rfl) ab220 wz (λn_5=>af (aj (aa (.d (.int .u64 i_1)) ?_))))))
   cases hF
 ·refine ay rfl hc_3 (ax (aj (aa (.d (.int .u64 i_1)) (aa (vI base_2) ?_))))
  obtain ⟨r_6,hr_7,hF⟩:=bind_some hF
  refine aC (pQ hr_7) rfl hb158 rfl rfl rfl rfl wz (aa (.tup [(vL (eK .u8) r_6.1),(vS r_6.2)]) (aa (vL (eK .u8) r_6.1) (aa (vS r_6.2) (aa (vL (eK .u8) r_6.1) (aa (vS r_6.2) (af (aj (aa (vS r_6.2) (aa (vS r_6.2) (af ?_))))))))))
  obtain rfl:=ae hF
  exact aH (aN [(vS r_6.2)] ⟨rfl,trivial⟩)
theorem xG {i_1:Int} {base_2:Int} {r:ByteArray} (hF:j3 i_1 base_2=some r) :
  FnM Tryz.prog 82 [(.d (.int .u64 i_1)),(vI base_2)] [] (vS r) []:=by
 refine FnM.of_wH ⟨Tryz.prog,8,[],[]⟩ rfl Tryz.func82 rfl rfl (lb_ rfl) (by kernel_rfl) ?_
 unfold j3 at hF
 refine aj (aa (vS (⟨#[]⟩:ByteArray)) (af (aj (aa (.d (.int .u64 i_1)) (aa (vI base_2) ?_)))))
 obtain ⟨r_3,hr_4,hF⟩:=bind_some hF
 refine aC (p9 hr_4) rfl hb125 rfl rfl rfl rfl wz (aa (vS r_3) (af ?_))
 obtain rfl:=ae hF
 exact aH (aN [(vS r_3)] ⟨rfl,trivial⟩)
theorem AC {x0:ByteArray} {x1:Int} {r:ByteArray} (hF:strings_Repeat x0 x1=some r) :
  FnM Tryz.prog 83 [(vS x0),(vI x1)] [] (vS r) [] :=
 Pw rfl Tryz.strings_Repeat  hF
theorem GL {s_1:ByteArray} {r:ByteArray} (hF:pW s_1=some r) :
  FnM Tryz.prog 53 [(vS s_1)] [] (vS r) []:=by
 refine FnM.of_wH ⟨Tryz.prog,27,[],[]⟩ rfl Tryz.func53 rfl rfl (lb_ rfl) (by kernel_rfl) ?_
 unfold pW at hF
 refine aj (aa (vS (⟨#[]⟩:ByteArray)) (af (aj (aa (.d (.int .u64 14695981039346656037)) (af (au (aj (aa (vS s_1) (Ey un9 rfl wz (aa (vI 0) (af ?_)))))))))))
 obtain ⟨o_10,hj_11,hF⟩:=bind_some hF
 obtain ⟨hn_6,hj_11⟩:=bI hj_11
 refine fH (λ(s_7:Int)=>[(3,(.d (.int .u64 s_7)))]) (λ(s_7:Int)=>[]) (λ(k_2:Nat)=>(λ(s_7:Int)=>[(0,(vS s_1)),(3,(.d (.int .u64 s_7))),(7,(vI (s_1.size:Int))),(8,(vI (k_2:Int)))])) (λk x s=>nS s_1 k x s) o_10 (List.range ((s_1.size:Int)).toNat) 14695981039346656037 hj_11 rfl (aK rfl) ?_ ?_
 ·rintro ⟨k_2,l_3,s_7⟩ ⟨hL_9,hD_5⟩
  dsimp only at hL_9 hD_5
  cases l_3 with
  | nil =>
   obtain rfl:=ae hL_9
   refine aj (aa (vB (decide ((k_2:Int)<(s_1.size:Int)))) (af ?_))
   refine au (ay rfl (Cu hD_5) (aX ?_))
   exact aV (s_7) rfl rfl (aK rfl)
  | cons x_4 l_3 =>
   obtain ⟨c_,hc_8,hL_9⟩:=bind_some hL_9
   refine aj (aa (vB (decide ((k_2:Int)<(s_1.size:Int)))) (af ?_))
   refine au (aA rfl (Ad hD_5) (ax ?_))
   unfold nS at hc_8
   refine au (aQ (aj (aa (vI (k_2:Int)) (aa (vI (k_2:Int)) (af (av (aa (.d (.int .u64 s_7)) (aa (vS s_1) (aa (vI (k_2:Int)) ?_)))))))))
   obtain ⟨b_12,hy_13,hc_8⟩:=bind_some hc_8
   refine zP un9 rfl rfl hy_13 wz (oZ un5 Kb rfl wz (aa (.d (.int .u64 (Py .u64 s_7 (IntKind.u64.wrap (b_12.toNat:Int))))) (aa (.d (.int .u64 (IntKind.u64.wrap ((Py .u64 s_7 (IntKind.u64.wrap (b_12.toNat:Int)))*1099511628211)))) (aa (.d (.int .u64 (IntKind.u64.wrap ((Py .u64 s_7 (IntKind.u64.wrap (b_12.toNat:Int)))*1099511628211)))) (af (av (fQ (BX hD_5 hn_6) wz rfl (aa (vI ((k_2+1:Nat):Int)) (af ?_)))))))))
   obtain rfl:=ae hc_8
   exact aY (k_2+1,l_3,(IntKind.u64.wrap ((Py .u64 s_7 (IntKind.u64.wrap (b_12.toNat:Int)))*1099511628211))) ⟨hL_9,aW hD_5⟩ (ls_ _) rfl (aK rfl)
 ·rintro s_7 ho_ sl_ H_ hp_ hq_
  subst ho_
  refine aO _ hp_ hq_ (aj (aa (.d (.int .u64 s_7)) ?_))
  obtain ⟨r_14,hr_15,hF⟩:=bind_some hF
  refine aC (xG hr_15) rfl hb82 rfl rfl rfl rfl wz (aa (vS r_14) (af (aj (aa (vS r_14) (Ey un9 rfl wz (aa (vI (w64 (16-(r_14.size:Int)))) ?_))))))
  obtain ⟨r_16,hr_17,hF⟩:=bind_some hF
  refine aC (AC hr_17) rfl hb83 rfl rfl rfl rfl wz (aa (vS r_14) ?_)
  obtain ⟨s_18,hz_19,hF⟩:=bind_some hF
  refine yx rfl rfl hz_19 wz (aa (vS s_18) (af ?_))
  obtain rfl:=ae hF
  exact aH (aN [(vS s_18)] ⟨rfl,trivial⟩)
theorem Jz {last_1:ByteArray} {l_2:Log_} {r:ByteArray} (hF:vo last_1 l_2=some r) :
  FnM Tryz.prog 24 [(vS last_1),(.d (.agg (Log_.enc l_2)))] [] (vS r) []:=by
 refine FnM.of_wH ⟨Tryz.prog,11,[],[]⟩ rfl Tryz.func24 rfl rfl (lb_ rfl) (by kernel_rfl) ?_
 unfold vo at hF
 refine aj (d9 0 (.inl rfl) (Log_.v l_2) rfl rfl wz (λn_3=>aa (vS (⟨#[]⟩:ByteArray)) (af (aj (aa (vS last_1) ?_)))))
 obtain ⟨s_4,hz_5,hF⟩:=bind_some hF
 refine yx rfl rfl hz_5 wz (aB 0 0 il ft Ay Jl rfl rfl (.d (.agg (Log_.enc l_2))) rfl wz ?_)
 obtain ⟨r_6,hr_7,hF⟩:=bind_some hF
 refine aC (Gz hr_7) rfl hb54 rfl rfl rfl rfl wz ?_
 obtain ⟨s_8,hz_9,hF⟩:=bind_some hF
 refine yx rfl rfl hz_9 wz ?_
 obtain ⟨r_10,hr_11,hF⟩:=bind_some hF
 refine aC (GL hr_11) rfl hb53 rfl rfl rfl rfl wz (aa (vS r_10) (af ?_))
 obtain rfl:=ae hF
 exact aH (aN [(vS r_10)] ⟨rfl,trivial⟩)
theorem pq {s_1:(List Log_)} {r:(List Log_)} (hF:eX s_1=some r) :
  FnM Tryz.prog 22 [(vL Log_.enc s_1)] [] (gV (aG 0) 6 r) (([]:List Box).map some++gO 6 Log_.enc r):=by
 refine FnM.of_wH ⟨Tryz.prog,8,[],[]⟩ rfl Tryz.func22 rfl rfl (lb_ rfl) (by kernel_rfl) ?_
 unfold eX at hF
 refine aj (aa .nil (af (au (aj (aa (vL Log_.enc s_1) (h_nileq Lx rfl wz (λb_2 hb_3=>af ?_)))))))
 cases b_2 with
 | true =>
  refine aA rfl rfl ?_
  obtain rfl:=hb_3 rfl
  replace hF:=Oq hF
  refine aj (aa .nil (af (jH (λn_4 => ?_))))
  obtain rfl:=ae hF
  exact aH (Qp (outs:=([]:List Box)) (.inr rfl) 0 rfl rfl rfl (by kernel_rfl) (by kernel_rfl))
 | false =>
  refine ay rfl rfl (ax (aj (h_lit0 Bd ez42 rfl wz (aa (vL Log_.enc s_1) ?_))))
  obtain ⟨a_5,hz_6,hF⟩:=bind_some hF
  refine h_appn 0 (.inl rfl) el42 el42 Ay z46 rfl (by decide) by46 (by decide) (λ_=>rfl) rfl rfl hz_6 wz (λn_7=>aa (gV n_7 6 a_5) (af ?_))
  obtain rfl:=ae hF
  exact aH (Qp (outs:=([]:List Box)) (.inr rfl) 0 rfl rfl rfl (by kernel_rfl) (by kernel_rfl))
theorem El {last_1:ByteArray} {l_2:(List Log_)} {r:(List Log_)×Int} (hF:oJ last_1 l_2=some r) :
  FnM Tryz.prog 8 [(vS last_1),(vL Log_.enc l_2)] [] (.tup [(vL Log_.enc r.1),(vI r.2)]) []:=by
 refine FnM.of_wH ⟨Tryz.prog,68,[],[]⟩ rfl Tryz.func8 rfl rfl (lb_ rfl) (by kernel_rfl) ?_
 unfold oJ at hF
 refine aj (aa .nil (aa (vI 0) (af (au (aj (aa (vS last_1) ?_))))))
 obtain ⟨r_3,hr_4,hF⟩:=bind_some hF
 refine aC (zU hr_4) rfl hb21 rfl rfl rfl rfl wz (aa (vI r_3) (af (aj (aa (vI r_3) (aa (vB (r_3 != 0)) (af ?_))))))
 rcases ak hF with⟨hc_5,hF⟩|⟨hc_5,hF⟩
 ·refine aA rfl hc_5 (aj (aa (vI r_3) (aa .nil (aa (vI r_3) (af ?_)))))
  obtain rfl:=ae hF
  exact aH (aN [.nil,(vI r_3)] ⟨rfl,⟨rfl,trivial⟩⟩)
 ·refine ay rfl hc_5 (ax (au (aj (aa (vL Log_.enc l_2) (dx Lx rfl wz (aa (vB (decide ((l_2.length:Int)>2000))) (af ?_)))))))
  rcases ak hF with⟨hc_6,hF⟩|⟨hc_6,hF⟩
  ·refine aA rfl hc_6 (aj (aa .nil (aa (vI 2) (af ?_))))
   obtain rfl:=ae hF
   exact aH (aN [.nil,(vI 2)] ⟨rfl,⟨rfl,trivial⟩⟩)
  ·refine ay rfl hc_6 (ax (aj (aa (vL Log_.enc l_2) ?_)))
   obtain ⟨r_7,hr_8,hF⟩:=bind_some hF
   refine DX [] (pq hr_8) rfl hb22 rfl (by kernel_rfl) (by kernel_rfl) (by kernel_rfl) (by kernel_rfl) (by kernel_rfl) rfl (by decide) (by kernel_rfl) wz ([]:Hp) (λ_=>by kernel_rfl) (λn_10=>aa (gV n_10 6 r_7) (af (au (aj (aa (vL Log_.enc l_2) (dx Lx rfl wz (aa (vI 0) (af ?_))))))))
   obtain ⟨o_19,hj_20,hF⟩:=bind_some hF
   obtain ⟨hn_15,hj_20⟩:=bI hj_20
   refine fH (λ(s_16:(List Log_)×ByteArray)=>[(7,(gV n_10 6 s_16.1))]) (λ(s_16:(List Log_)×ByteArray)=>[(n_10,gB 6 Log_.enc s_16.1)]) (λ(k_11:Nat)=>(λ(s_16:(List Log_)×ByteArray)=>[(0,(vS s_16.2)),(1,(vL Log_.enc l_2)),(7,(gV n_10 6 s_16.1)),(21,(vL Log_.enc l_2)),(22,(vI (l_2.length:Int))),(23,(vI (k_11:Int)))])) (λk x s=>kZ l_2 k x s) o_19 l_2 (r_7,last_1) hj_20 rfl (aK rfl) ?_ ?_
   ·rintro ⟨k_11,l_12,s_16⟩ ⟨hL_18,hD_14⟩
    dsimp only at hL_18 hD_14
    cases l_12 with
    | nil =>
     obtain rfl:=ae hL_18
     refine aj (aa (vB (decide ((k_11:Int)<(l_2.length:Int)))) (af ?_))
     refine au (ay rfl (drop_nil hD_14) (aX ?_))
     exact aV (s_16) rfl rfl (aK rfl)
    | cons x_13 l_12 =>
     obtain ⟨c_,hc_17,hL_18⟩:=bind_some hL_18
     refine aj (aa (vB (decide ((k_11:Int)<(l_2.length:Int)))) (af ?_))
     refine au (aA rfl (bO hD_14) (ax ?_))
     unfold kZ at hc_17
     refine au (aQ (aj (aa (vI (k_11:Int)) (dW Bd rfl rfl (bU hD_14) rfl wz (bK Ay Jl rfl (.d (.agg (Log_.enc x_13))) rfl wz (dC 0 (.inl rfl) z46 rfl wz (λn_21=>aa (vI (k_11:Int)) (fA 0 il ft 1 Ay rfl rfl (Log_.v x_13) rfl wz (af (au (aj (aB 0 1 il ft Ay Jl rfl rfl (.d (.agg (Log_.enc x_13))) rfl wz ?_))))))))))))
     obtain ⟨r_22,hr_23,hc_17⟩:=bind_some hc_17
     refine aC (ul hr_23) rfl hb23 rfl rfl rfl rfl wz (aa (vI r_22) (af (aj (aa (vI r_22) (aa (vB (r_22 != 0)) (af ?_))))))
     rcases ak hc_17 with⟨hc_24,hc_17⟩|⟨hc_24,hc_17⟩
     ·refine aA rfl hc_24 (aj (aa (vI r_22) (aa .nil (aa (vI r_22) (af ?_)))))
      obtain rfl:=ae hc_17
      obtain rfl:=ae hL_18
      obtain rfl:=ae hF
      exact aH (aN [.nil,(vI r_22)] ⟨rfl,⟨rfl,trivial⟩⟩)
     ·refine ay rfl hc_24 (ax (au (au ?_)))
      obtain ⟨v_25,h_26,hc_17⟩:=bind_some hc_17
      refine aS [(0,(vS s_16.2)),(1,(vL Log_.enc l_2)),(7,(gV n_10 6 s_16.1)),(8,(vI (k_11:Int))),(9,(.ref n_21 0 0)),(21,(vL Log_.enc l_2)),(22,(vI (l_2.length:Int))),(23,(vI (k_11:Int))),(43,(vB v_25))] [(n_10,gB 6 Log_.enc s_16.1),(n_21,some (.cells 6 (Log_.v x_13)))] ?_ ?_
      ·refine bE (aa (vI (k_11:Int)) (aa (vB (decide ((k_11:Int)>0))) ?_))
       rcases ak h_26 with⟨hc_27,h_26⟩|⟨hc_27,h_26⟩
       ·refine aI rfl hc_27 wz (aJ uI rfl 0 rfl wa (aB 4 1 (.inr (by kernel_rfl)) (λ_ _ ag=>trivial) sz9 ag9 rfl rfl (vS x_13.Player) rfl wa (aM (vL Log_.enc l_2) wa rfl ?_)))
        obtain ⟨y_28,hy_29,h_26⟩:=bind_some h_26
        refine dW Bd rfl rfl hy_29 rfl wa (kP uI rfl [.str y_28.Player,.str y_28.Item,.int .i64 y_28.No,.int .i64 y_28.Clock,.int .i64 y_28.Long,.str y_28.Sum] rfl rfl wa (bK sz9 ag9 rfl (vS y_28.Player) rfl wa (aM (vB (sNe x_13.Player y_28.Player)) wa rfl (aa (vB (sNe x_13.Player y_28.Player)) (af ?_)))))
        obtain rfl:=ae h_26
        exact cu
       ·refine aI rfl hc_27 wz (ah (ah (ah (ah (ah (ah (ah (aa (vB false) (af ?_)))))))))
        obtain rfl:=ae h_26
        exact cu
      ·rintro ⟨⟩ _ sl_ H_ hp_ hq_
       refine aO _ hp_ hq_ ?_
       rcases ak hc_17 with⟨hc_30,hc_17⟩|⟨hc_30,hc_17⟩
       ·refine aA rfl hc_30 (aj (aa .nil (aa (vI 13) (af ?_))))
        obtain rfl:=ae hc_17
        obtain rfl:=ae hL_18
        obtain rfl:=ae hF
        exact aH (aN [.nil,(vI 13)] ⟨rfl,⟨rfl,trivial⟩⟩)
       ·refine ay rfl hc_30 (ax (au (au ?_)))
        obtain ⟨v_31,h_32,hc_17⟩:=bind_some hc_17
        refine aS [(0,(vS s_16.2)),(1,(vL Log_.enc l_2)),(7,(gV n_10 6 s_16.1)),(8,(vI (k_11:Int))),(9,(.ref n_21 0 0)),(21,(vL Log_.enc l_2)),(22,(vI (l_2.length:Int))),(23,(vI (k_11:Int))),(57,(vB v_31))] [(n_10,gB 6 Log_.enc s_16.1),(n_21,some (.cells 6 (Log_.v x_13)))] ?_ ?_
        ·refine bE (aa (vI (k_11:Int)) (aa (vB (decide ((k_11:Int)>0))) ?_))
         rcases ak h_32 with⟨hc_33,h_32⟩|⟨hc_33,h_32⟩
         ·refine aI rfl hc_33 wz (aJ Ch rfl 2 rfl wa (aB 4 1 (.inr (by kernel_rfl)) (λ_ _ ag=>trivial) sz3 ag3 rfl rfl (vI x_13.No) rfl wa (aM (vL Log_.enc l_2) wa rfl (aM (vI (k_11:Int)) wa rfl (aM (vI (w64 ((k_11:Int)-1))) wa rfl ?_)))))
          obtain ⟨y_34,hy_35,h_32⟩:=bind_some h_32
          refine dW Bd rfl rfl hy_35 rfl wa (kP Ch rfl [.int .i64 y_34.No,.int .i64 y_34.Clock,.int .i64 y_34.Long,.str y_34.Sum] rfl rfl wa (bK sz3 ag3 rfl (vI y_34.No) rfl wa (aM (vI (w64 (y_34.No+1))) wa rfl (aM (vB (x_13.No != (w64 (y_34.No+1)))) wa rfl (aa (vB (x_13.No != (w64 (y_34.No+1)))) (af ?_))))))
          obtain rfl:=ae h_32
          exact cu
         ·refine aI rfl hc_33 wz (ah (ah (ah (ah (ah (ah (ah (ah (ah (ah (aa (vB false) (af ?_))))))))))))
          obtain rfl:=ae h_32
          exact cu
        ·rintro ⟨⟩ _ sl_ H_ hp_ hq_
         refine aO _ hp_ hq_ ?_
         rcases ak hc_17 with⟨hc_36,hc_17⟩|⟨hc_36,hc_17⟩
         ·refine aA rfl hc_36 (aj (aa .nil (aa (vI 16) (af ?_))))
          obtain rfl:=ae hc_17
          obtain rfl:=ae hL_18
          obtain rfl:=ae hF
          exact aH (aN [.nil,(vI 16)] ⟨rfl,⟨rfl,trivial⟩⟩)
         ·refine ay rfl hc_36 (ax (aj (aa (vS s_16.2) (aB 0 1 il ft Ay Jl rfl rfl (.d (.agg (Log_.enc x_13))) rfl wz ?_))))
          obtain ⟨r_37,hr_38,hc_17⟩:=bind_some hc_17
          refine aC (Jz hr_38) rfl hb24 rfl rfl rfl rfl wz (aa (vS r_37) (af (av (aa (gV n_10 6 s_16.1) (aa (vI (k_11:Int)) (aa (vS r_37) ?_))))))
          obtain ⟨_,hi_39,hc_17⟩:=bind_some hc_17
          refine uP Bd rfl rfl (jW hi_39) (ik hi_39) wz (aJ Rp rfl 5 rfl wz ?_)
          obtain ⟨e_40,hy_41,hc_17⟩:=bind_some hc_17
          refine yF 0 il ft 0 sz9 rfl rfl hy_41 (⟨e_40.Player,e_40.Item,e_40.No,e_40.Clock,e_40.Long,r_37⟩:Log_) rfl wz (dU (v':=(gV n_10 6 (s_16.1.set (0+((k_11:Int)).toNat) (⟨e_40.Player,e_40.Item,e_40.No,e_40.Clock,e_40.Long,r_37⟩:Log_)))) 7 rfl (jm (by simp)) (dU (v':=(gV n_10 6 (s_16.1.set (0+((k_11:Int)).toNat) (⟨e_40.Player,e_40.Item,e_40.No,e_40.Clock,e_40.Long,r_37⟩:Log_)))) 61 rfl (jm (by simp)) (af (av (fQ (bN hD_14 hn_15) wz rfl (aa (vI ((k_11+1:Nat):Int)) (af ?_)))))))
          obtain rfl:=ae hc_17
          exact aY (k_11+1,l_12,((s_16.1.set (0+((k_11:Int)).toNat) (⟨e_40.Player,e_40.Item,e_40.No,e_40.Clock,e_40.Long,r_37⟩:Log_)),r_37)) ⟨hL_18,aW hD_14⟩ (ls_ _) rfl (aK rfl)
   ·rintro s_16 ho_ sl_ H_ hp_ hq_
    subst ho_
    refine aO _ hp_ hq_ (aj (aa (gV n_10 6 s_16.1) (aa (gV n_10 6 s_16.1) (aa (vI 0) (af (fB 0 rfl (bX 4 0 rfl rfl (bX 7 0 rfl rfl (bX 67 0 rfl rfl ?_)))))))))
    obtain rfl:=ae hF
    exact aH (aN [(vL Log_.enc s_16.1),(vI 0)] ⟨rfl,⟨rfl,trivial⟩⟩)
theorem yC {a_1:Log_} {b_2:Log_} {r:Int} (hF:kG a_1 b_2=some r) :
  FnM Tryz.prog 55 [(.d (.agg (Log_.enc a_1))),(.d (.agg (Log_.enc b_2)))] [] (vI r) []:=by
 refine FnM.of_wH ⟨Tryz.prog,17,[],[]⟩ rfl Tryz.func55 rfl rfl (lb_ rfl) (by kernel_rfl) ?_
 unfold kG at hF
 refine aj (d9 0 (.inl rfl) (Log_.v a_1) rfl rfl wz (λn_3=>d9 0 (.inl rfl) (Log_.v b_2) rfl rfl wz (λn_4=>aa (vI 0) (af (au (bE (aJ uI rfl 0 rfl wz (aB 1 0 (.inr (by kernel_rfl)) (λ_ _ ag=>trivial) sz9 ag9 rfl rfl (vS a_1.Player) rfl wz (aJ uI rfl 0 rfl wz (aB 3 1 (.inr (by kernel_rfl)) (λ_ _ ag=>⟨.inl ⟨rfl,rfl⟩,trivial⟩) sz9 ag9 rfl rfl (vS b_2.Player) rfl wz ?_))))))))))
 obtain ⟨r_5,hr_6,hF⟩:=bind_some hF
 refine aC (lN hr_6) rfl hb80 rfl rfl rfl rfl wz (aJ Ch rfl 2 rfl wz (aB 6 0 (.inr (by kernel_rfl)) (λ_ _ ag=>⟨.inl ⟨rfl,rfl⟩,⟨.inl ⟨rfl,rfl⟩,trivial⟩⟩) sz3 ag3 rfl rfl (vI a_1.No) rfl wz (aJ Ch rfl 2 rfl wz (aB 8 1 (.inr (by kernel_rfl)) (λ_ _ ag=>⟨.inl ⟨rfl,rfl⟩,⟨.inl ⟨rfl,rfl⟩,⟨.inl ⟨rfl,rfl⟩,trivial⟩⟩⟩) sz3 ag3 rfl rfl (vI b_2.No) rfl wz ?_))))
 obtain ⟨r_7,hr_8,hF⟩:=bind_some hF
 refine aC (ic hr_8) rfl LP rfl rfl rfl rfl wz (eQ (([r_5,r_7]:List Int).map eI) lC wJ rfl rfl rfl rfl rfl wz ?_)
 obtain ⟨r_9,hr_10,hF⟩:=bind_some hF
 refine aC (qd hr_10) rfl hb79 rfl rfl rfl rfl wz (aa (vI r_9) (af ?_))
 obtain rfl:=ae hF
 exact aH (aN [(vI r_9)] ⟨rfl,trivial⟩)
theorem Af {l_1:(List Log_)} {r:Int} (hF:kr l_1=some r) :
  FnM Tryz.prog 25 [(vL Log_.enc l_1)] [] (vI r) []:=by
 refine FnM.of_wH ⟨Tryz.prog,38,[],[]⟩ rfl Tryz.func25 rfl rfl (lb_ rfl) (by kernel_rfl) ?_
 unfold kr at hF
 refine aj (aa (vI 0) (af (au (aj (aa (vL Log_.enc l_1) (dx Lx rfl wz (aa (vB (decide ((l_1.length:Int)>2000))) (af ?_))))))))
 rcases ak hF with⟨hc_2,hF⟩|⟨hc_2,hF⟩
 ·refine aA rfl hc_2 (aj (aa (vI 2) (af ?_)))
  obtain rfl:=ae hF
  exact aH (aN [(vI 2)] ⟨rfl,trivial⟩)
 ·refine ay rfl hc_2 (ax (au (aj (aa (vL Log_.enc l_1) (dx Lx rfl wz (aa (vI 0) (af ?_)))))))
  obtain ⟨o_11,hj_12,hF⟩:=bind_some hF
  obtain ⟨hn_7,hj_12⟩:=bI hj_12
  refine fH (λ(s_8:Unit)=>[]) (λ(s_8:Unit)=>[]) (λ(k_3:Nat)=>(λ(s_8:Unit)=>[(0,(vL Log_.enc l_1)),(9,(vL Log_.enc l_1)),(10,(vI (l_1.length:Int))),(11,(vI (k_3:Int)))])) (λk x s=>lI l_1 k x s) o_11 l_1 () hj_12 rfl (aK rfl) ?_ ?_
  ·rintro ⟨k_3,l_4,s_8⟩ ⟨hL_10,hD_6⟩
   dsimp only at hL_10 hD_6
   cases l_4 with
   | nil =>
    obtain rfl:=ae hL_10
    refine aj (aa (vB (decide ((k_3:Int)<(l_1.length:Int)))) (af ?_))
    refine au (ay rfl (drop_nil hD_6) (aX ?_))
    exact aV (s_8) rfl rfl (aK rfl)
   | cons x_5 l_4 =>
    obtain ⟨c_,hc_9,hL_10⟩:=bind_some hL_10
    refine aj (aa (vB (decide ((k_3:Int)<(l_1.length:Int)))) (af ?_))
    refine au (aA rfl (bO hD_6) (ax ?_))
    unfold lI at hc_9
    refine au (aQ (aj (aa (vI (k_3:Int)) (dW Bd rfl rfl (bU hD_6) rfl wz (bK Ay Jl rfl (.d (.agg (Log_.enc x_5))) rfl wz (dC 0 (.inl rfl) z46 rfl wz (λn_13=>aa (vI (k_3:Int)) (fA 0 il ft 0 Ay rfl rfl (Log_.v x_5) rfl wz (af (au (aj (aB 0 0 il ft Ay Jl rfl rfl (.d (.agg (Log_.enc x_5))) rfl wz ?_))))))))))))
    obtain ⟨r_14,hr_15,hc_9⟩:=bind_some hc_9
    refine aC (ul hr_15) rfl hb23 rfl rfl rfl rfl wz (aa (vI r_14) (af (aj (aa (vI r_14) (aa (vB (r_14 != 0)) (af ?_))))))
    rcases ak hc_9 with⟨hc_16,hc_9⟩|⟨hc_16,hc_9⟩
    ·refine aA rfl hc_16 (aj (aa (vI r_14) (aa (vI r_14) (af ?_))))
     obtain rfl:=ae hc_9
     obtain rfl:=ae hL_10
     obtain rfl:=ae hF
     exact aH (aN [(vI r_14)] ⟨rfl,trivial⟩)
    ·refine ay rfl hc_16 (ax (au (aj (aJ Rp rfl 5 rfl wz (aB 0 0 il ft sz9 ag9 rfl rfl (vS x_5.Sum) rfl wz ?_)))))
     obtain ⟨r_17,hr_18,hc_9⟩:=bind_some hc_9
     refine aC (xq hr_18) rfl hb52 rfl rfl rfl rfl wz (aa (vB (!r_17)) (af ?_))
     rcases ak hc_9 with⟨hc_19,hc_9⟩|⟨hc_19,hc_9⟩
     ·refine aA rfl hc_19 (aj (aa (vI 3) (af ?_)))
      obtain rfl:=ae hc_9
      obtain rfl:=ae hL_10
      obtain rfl:=ae hF
      exact aH (aN [(vI 3)] ⟨rfl,trivial⟩)
     ·refine ay rfl hc_19 (ax (au ?_))
      obtain ⟨v_20,h_21,hc_9⟩:=bind_some hc_9
      refine aS [(0,(vL Log_.enc l_1)),(9,(vL Log_.enc l_1)),(10,(vI (l_1.length:Int))),(11,(vI (k_3:Int))),(36,(vB v_20))] [(n_13,some (.cells 6 (Log_.v x_5)))] ?_ ?_
      ·refine bE (aa (vI (k_3:Int)) (aa (vB (decide ((k_3:Int)>0))) ?_))
       rcases ak h_21 with⟨hc_22,h_21⟩|⟨hc_22,h_21⟩
       ·refine aI rfl hc_22 wz (aM (vL Log_.enc l_1) wa rfl (aM (vI (k_3:Int)) wa rfl (aM (vI (w64 ((k_3:Int)-1))) wa rfl ?_)))
        obtain ⟨y_23,hy_24,h_21⟩:=bind_some h_21
        refine dW Bd rfl rfl hy_24 rfl wa (bK Ay Jl rfl (.d (.agg (Log_.enc y_23))) rfl wa (aB 8 0 (.inr (by kernel_rfl)) (λ_ _ ag=>trivial) Ay Jl rfl rfl (.d (.agg (Log_.enc x_5))) rfl wa ?_))
        obtain ⟨r_25,hr_26,h_21⟩:=bind_some h_21
        refine aC (yC hr_26) rfl hb55 rfl rfl rfl rfl wa (aM (vB (decide (r_25>=0))) wa rfl (aa (vB (decide (r_25>=0))) (af ?_)))
        obtain rfl:=ae h_21
        exact cu
       ·refine aI rfl hc_22 wz (ah (ah (ah (ah (ah (ah (ah (ah (aa (vB false) (af ?_))))))))))
        obtain rfl:=ae h_21
        exact cu
      ·rintro ⟨⟩ _ sl_ H_ hp_ hq_
       refine aO _ hp_ hq_ ?_
       rcases ak hc_9 with⟨hc_27,hc_9⟩|⟨hc_27,hc_9⟩
       ·refine aA rfl hc_27 (aj (aa (vI 7) (af ?_)))
        obtain rfl:=ae hc_9
        obtain rfl:=ae hL_10
        obtain rfl:=ae hF
        exact aH (aN [(vI 7)] ⟨rfl,trivial⟩)
       ·refine ay rfl hc_27 (ax (av (fQ (bN hD_6 hn_7) wz rfl (aa (vI ((k_3+1:Nat):Int)) (af ?_)))))
        obtain rfl:=ae hc_9
        exact aY (k_3+1,l_4,()) ⟨hL_10,aW hD_6⟩ (ls_ _) rfl (aK rfl)
  ·rintro s_8 ho_ sl_ H_ hp_ hq_
   subst ho_
   refine aO _ hp_ hq_ (aj (aa (vI 0) (af ?_)))
   obtain rfl:=ae hF
   exact aH (aN [(vI 0)] ⟨rfl,trivial⟩)
theorem gZ {n_1:Int} {r:Bool} (hF:cO n_1=some r) :
  FnM Tryz.prog 28 [(vI n_1)] [] (vB r) []:=by
 refine FnM.of_wH ⟨Tryz.prog,9,[],[]⟩ rfl Tryz.func28 rfl rfl (lb_ rfl) (by kernel_rfl) ?_
 unfold cO at hF
 refine aj (aa (vB false) (af (au ?_)))
 obtain ⟨v_2,h_3,hF⟩:=bind_some hF
 refine aS [(2,(vB v_2))] [] ?_ ?_
 ·refine av (aa (vI n_1) (aa (vB (decide (n_1>=0))) ?_))
  rcases ak h_3 with⟨hc_4,h_3⟩|⟨hc_4,h_3⟩
  ·refine aI rfl hc_4 wz (aM (vI n_1) wa rfl (aM (vB (decide (n_1<345686400000))) wa rfl (aa (vB (decide (n_1<345686400000))) (aa (vB (decide (n_1<345686400000))) (af ?_)))))
   obtain rfl:=ae h_3
   exact cu
  ·refine aI rfl hc_4 wz (ah (ah (aa (vB false) (aa (vB false) (af ?_)))))
   obtain rfl:=ae h_3
   exact cu
 ·rintro ⟨⟩ _ sl_ H_ hp_ hq_
  refine aO _ hp_ hq_ ?_
  obtain rfl:=ae hF
  exact aH (aN [(vB v_2)] ⟨rfl,trivial⟩)
theorem xI {a_1:Beat} {b_2:Beat} {r:Int} (hF:jc a_1 b_2=some r) :
  FnM Tryz.prog 56 [(.d (.agg (Beat.enc a_1))),(.d (.agg (Beat.enc b_2)))] [] (vI r) []:=by
 refine FnM.of_wH ⟨Tryz.prog,17,[],[]⟩ rfl Tryz.func56 rfl rfl (lb_ rfl) (by kernel_rfl) ?_
 unfold jc at hF
 refine aj (d9 0 (.inl rfl) (Beat.v a_1) rfl rfl wz (λn_3=>d9 0 (.inl rfl) (Beat.v b_2) rfl rfl wz (λn_4=>aa (vI 0) (af (au (bE (aJ BU rfl 0 rfl wz (aB 1 0 (.inr (by kernel_rfl)) (λ_ _ ag=>trivial) sz9 ag9 rfl rfl (vS a_1.Player) rfl wz (aJ BU rfl 0 rfl wz (aB 3 1 (.inr (by kernel_rfl)) (λ_ _ ag=>⟨.inl ⟨rfl,rfl⟩,trivial⟩) sz9 ag9 rfl rfl (vS b_2.Player) rfl wz ?_))))))))))
 obtain ⟨r_5,hr_6,hF⟩:=bind_some hF
 refine aC (lN hr_6) rfl hb80 rfl rfl rfl rfl wz (aJ FJ rfl 1 rfl wz (aB 6 0 (.inr (by kernel_rfl)) (λ_ _ ag=>⟨.inl ⟨rfl,rfl⟩,⟨.inl ⟨rfl,rfl⟩,trivial⟩⟩) sz3 ag3 rfl rfl (vI a_1.At) rfl wz (aJ FJ rfl 1 rfl wz (aB 8 1 (.inr (by kernel_rfl)) (λ_ _ ag=>⟨.inl ⟨rfl,rfl⟩,⟨.inl ⟨rfl,rfl⟩,⟨.inl ⟨rfl,rfl⟩,trivial⟩⟩⟩) sz3 ag3 rfl rfl (vI b_2.At) rfl wz ?_))))
 obtain ⟨r_7,hr_8,hF⟩:=bind_some hF
 refine aC (ic hr_8) rfl LP rfl rfl rfl rfl wz (eQ (([r_5,r_7]:List Int).map eI) lC wJ rfl rfl rfl rfl rfl wz ?_)
 obtain ⟨r_9,hr_10,hF⟩:=bind_some hF
 refine aC (qd hr_10) rfl hb79 rfl rfl rfl rfl wz (aa (vI r_9) (af ?_))
 obtain rfl:=ae hF
 exact aH (aN [(vI r_9)] ⟨rfl,trivial⟩)
theorem rE {l_1:(List Beat)} {r:Int} (hF:fT l_1=some r) :
  FnM Tryz.prog 26 [(vL Beat.enc l_1)] [] (vI r) []:=by
 refine FnM.of_wH ⟨Tryz.prog,69,[],[]⟩ rfl Tryz.func26 rfl rfl (lb_ rfl) (by kernel_rfl) ?_
 unfold fT at hF
 refine aj (aa (vI 0) (af (au (aj (aa (vL Beat.enc l_1) (dx un41 rfl wz (aa (vB (decide ((l_1.length:Int)>500))) (af ?_))))))))
 rcases ak hF with⟨hc_2,hF⟩|⟨hc_2,hF⟩
 ·refine aA rfl hc_2 (aj (aa (vI 2) (af ?_)))
  obtain rfl:=ae hF
  exact aH (aN [(vI 2)] ⟨rfl,trivial⟩)
 ·refine ay rfl hc_2 (ax (au (aj (aa (vL Beat.enc l_1) (dx un41 rfl wz (aa (vI 0) (af ?_)))))))
  obtain ⟨o_11,hj_12,hF⟩:=bind_some hF
  obtain ⟨hn_7,hj_12⟩:=bI hj_12
  refine fH (λ(s_8:Unit)=>[]) (λ(s_8:Unit)=>[]) (λ(k_3:Nat)=>(λ(s_8:Unit)=>[(0,(vL Beat.enc l_1)),(8,(vL Beat.enc l_1)),(9,(vI (l_1.length:Int))),(10,(vI (k_3:Int)))])) (λk x s=>iU l_1 k x s) o_11 l_1 () hj_12 rfl (aK rfl) ?_ ?_
  ·rintro ⟨k_3,l_4,s_8⟩ ⟨hL_10,hD_6⟩
   dsimp only at hL_10 hD_6
   cases l_4 with
   | nil =>
    obtain rfl:=ae hL_10
    refine aj (aa (vB (decide ((k_3:Int)<(l_1.length:Int)))) (af ?_))
    refine au (ay rfl (drop_nil hD_6) (aX ?_))
    exact aV (s_8) rfl rfl (aK rfl)
   | cons x_5 l_4 =>
    obtain ⟨c_,hc_9,hL_10⟩:=bind_some hL_10
    refine aj (aa (vB (decide ((k_3:Int)<(l_1.length:Int)))) (af ?_))
    refine au (aA rfl (bO hD_6) (ax ?_))
    unfold iU at hc_9
    refine au (aQ (aj (aa (vI (k_3:Int)) (dW LF rfl rfl (bU hD_6) rfl wz (bK Pf ag40 rfl (.d (.agg (Beat.enc x_5))) rfl wz (dC 0 (.inl rfl) z40 rfl wz (λn_13=>aa (vI (k_3:Int)) (fA 0 il ft 0 Pf rfl rfl (Beat.v x_5) rfl wz (af (aQ (aj (aJ BU rfl 0 rfl wz (aB 0 0 il ft sz9 ag9 rfl rfl (vS x_5.Player) rfl wz ?_)))))))))))))
    obtain ⟨r_14,hr_15,hc_9⟩:=bind_some hc_9
    refine aC (fw hr_15) rfl AZ rfl rfl rfl rfl wz (aa (vB (!r_14)) (aa (vB (!r_14)) (af ?_)))
    rcases ak hc_9 with⟨hc_16,hc_9⟩|⟨hc_16,hc_9⟩
    ·refine aA rfl hc_16 (aj (aa (vI 5) (af ?_)))
     obtain rfl:=ae hc_9
     obtain rfl:=ae hL_10
     obtain rfl:=ae hF
     exact aH (aN [(vI 5)] ⟨rfl,trivial⟩)
    ·refine ay rfl hc_16 (au ?_)
     obtain ⟨v_17,h_18,hc_9⟩:=bind_some hc_9
     refine aS [(0,(vL Beat.enc l_1)),(3,(vI (k_3:Int))),(4,(.ref n_13 0 0)),(8,(vL Beat.enc l_1)),(9,(vI (l_1.length:Int))),(10,(vI (k_3:Int))),(20,(vB v_17))] [(n_13,some (.cells 3 (Beat.v x_5)))] ?_ ?_
     ·refine av (aJ FJ rfl 1 rfl wz (aB 0 0 il ft sz3 ag3 rfl rfl (vI x_5.At) rfl wz ?_))
      obtain ⟨r_19,hr_20,h_18⟩:=bind_some h_18
      refine aC (gZ hr_20) rfl Ja rfl rfl rfl rfl wz (aa (vB (!r_19)) ?_)
      rcases ak h_18 with⟨hc_21,h_18⟩|⟨hc_21,h_18⟩
      ·refine aI rfl hc_21 wz (ah (ah (ah (aa (vB true) (aa (vB true) (af ?_))))))
       obtain rfl:=ae h_18
       exact cu
      ·refine aI rfl hc_21 wz (aJ FH rfl 2 rfl wa (aB 0 0 il ft sz3 ag3 rfl rfl (vI x_5.Clock) rfl wa ?_))
       obtain ⟨r_22,hr_23,h_18⟩:=bind_some h_18
       refine aC (bD hr_23) rfl rT rfl rfl rfl rfl wa (aa (vB r_22) (aa (vB r_22) (af ?_)))
       obtain rfl:=ae h_18
       exact cu
     ·rintro ⟨⟩ _ sl_ H_ hp_ hq_
      refine aO _ hp_ hq_ ?_
      rcases ak hc_9 with⟨hc_24,hc_9⟩|⟨hc_24,hc_9⟩
      ·refine aA rfl hc_24 (aj (aa (vI 1) (af ?_)))
       obtain rfl:=ae hc_9
       obtain rfl:=ae hL_10
       obtain rfl:=ae hF
       exact aH (aN [(vI 1)] ⟨rfl,trivial⟩)
      ·refine ay rfl hc_24 (au ?_)
       obtain ⟨v_25,h_26,hc_9⟩:=bind_some hc_9
       refine aS [(0,(vL Beat.enc l_1)),(3,(vI (k_3:Int))),(4,(.ref n_13 0 0)),(8,(vL Beat.enc l_1)),(9,(vI (l_1.length:Int))),(10,(vI (k_3:Int))),(30,(vB v_25))] [(n_13,some (.cells 3 (Beat.v x_5)))] ?_ ?_
       ·refine bE (aa (vI (k_3:Int)) (aa (vB (decide ((k_3:Int)>0))) ?_))
        rcases ak h_26 with⟨hc_27,h_26⟩|⟨hc_27,h_26⟩
        ·refine aI rfl hc_27 wz (aM (vL Beat.enc l_1) wa rfl (aM (vI (k_3:Int)) wa rfl (aM (vI (w64 ((k_3:Int)-1))) wa rfl ?_)))
         obtain ⟨y_28,hy_29,h_26⟩:=bind_some h_26
         refine dW LF rfl rfl hy_29 rfl wa (bK Pf ag40 rfl (.d (.agg (Beat.enc y_28))) rfl wa (aB 8 0 (.inr (by kernel_rfl)) (λ_ _ ag=>trivial) Pf ag40 rfl rfl (.d (.agg (Beat.enc x_5))) rfl wa ?_))
         obtain ⟨r_30,hr_31,h_26⟩:=bind_some h_26
         refine aC (xI hr_31) rfl hb56 rfl rfl rfl rfl wa (aM (vB (decide (r_30>=0))) wa rfl (aa (vB (decide (r_30>=0))) (aa (vB (decide (r_30>=0))) (af ?_))))
         obtain rfl:=ae h_26
         exact cu
        ·refine aI rfl hc_27 wz (ah (ah (ah (ah (ah (ah (ah (ah (aa (vB false) (aa (vB false) (af ?_)))))))))))
         obtain rfl:=ae h_26
         exact cu
       ·rintro ⟨⟩ _ sl_ H_ hp_ hq_
        refine aO _ hp_ hq_ ?_
        rcases ak hc_9 with⟨hc_32,hc_9⟩|⟨hc_32,hc_9⟩
        ·refine aA rfl hc_32 (aj (aa (vI 7) (af ?_)))
         obtain rfl:=ae hc_9
         obtain rfl:=ae hL_10
         obtain rfl:=ae hF
         exact aH (aN [(vI 7)] ⟨rfl,trivial⟩)
        ·refine ay rfl hc_32 (au ?_)
         obtain ⟨v_33,h_34,hc_9⟩:=bind_some hc_9
         refine aS [(0,(vL Beat.enc l_1)),(8,(vL Beat.enc l_1)),(9,(vI (l_1.length:Int))),(10,(vI (k_3:Int))),(43,(vB v_33))] [(n_13,some (.cells 3 (Beat.v x_5)))] ?_ ?_
         ·refine bE (aa (vI (k_3:Int)) (aa (vB (decide ((k_3:Int)>0))) ?_))
          rcases ak h_34 with⟨hc_35,h_34⟩|⟨hc_35,h_34⟩
          ·refine aI rfl hc_35 wz (aJ BU rfl 0 rfl wa (aB 4 0 (.inr (by kernel_rfl)) (λ_ _ ag=>trivial) sz9 ag9 rfl rfl (vS x_5.Player) rfl wa (aM (vL Beat.enc l_1) wa rfl (aM (vI (k_3:Int)) wa rfl (aM (vI (w64 ((k_3:Int)-1))) wa rfl ?_)))))
           obtain ⟨y_36,hy_37,h_34⟩:=bind_some h_34
           refine dW LF rfl rfl hy_37 rfl wa (kP BU rfl [.str y_36.Player,.int .i64 y_36.At,.int .i64 y_36.Clock] rfl rfl wa (bK sz9 ag9 rfl (vS y_36.Player) rfl wa (aM (vB (sEq x_5.Player y_36.Player)) wa rfl (aa (vB (sEq x_5.Player y_36.Player)) ?_))))
           rcases ak h_34 with⟨hc_38,h_34⟩|⟨hc_38,h_34⟩
           ·refine aI rfl hc_38 wz (aJ FH rfl 2 rfl wa (aB 15 0 (.inr (by kernel_rfl)) (λ_ _ ag=>⟨.inl ⟨rfl,rfl⟩,trivial⟩) sz3 ag3 rfl rfl (vI x_5.Clock) rfl wa (aM (vL Beat.enc l_1) wa rfl (aM (vI (k_3:Int)) wa rfl (aM (vI (w64 ((k_3:Int)-1))) wa rfl ?_)))))
            obtain ⟨y_39,hy_40,h_34⟩:=bind_some h_34
            refine dW LF rfl rfl hy_40 rfl wa (kP FH rfl [.int .i64 y_39.Clock] rfl rfl wa (bK sz3 ag3 rfl (vI y_39.Clock) rfl wa (aM (vB (decide (x_5.Clock<=y_39.Clock))) wa rfl (aa (vB (decide (x_5.Clock<=y_39.Clock))) (aa (vB (decide (x_5.Clock<=y_39.Clock))) (af ?_))))))
            obtain rfl:=ae h_34
            exact cu
           ·refine aI rfl hc_38 wz (ah (ah (ah (ah (ah (ah (ah (ah (ah (aa (vB false) (aa (vB false) (af ?_))))))))))))
            obtain rfl:=ae h_34
            exact cu
          ·refine aI rfl hc_35 wz (ah (ah (ah (ah (ah (ah (ah (ah (ah (aa (vB false) (aa (vB false) (ah (ah (ah (ah (ah (ah (ah (ah (ah (aa (vB false) (aa (vB false) (af ?_)))))))))))))))))))))))
           obtain rfl:=ae h_34
           exact cu
         ·rintro ⟨⟩ _ sl_ H_ hp_ hq_
          refine aO _ hp_ hq_ ?_
          rcases ak hc_9 with⟨hc_41,hc_9⟩|⟨hc_41,hc_9⟩
          ·refine aA rfl hc_41 (aj (aa (vI 16) (af ?_)))
           obtain rfl:=ae hc_9
           obtain rfl:=ae hL_10
           obtain rfl:=ae hF
           exact aH (aN [(vI 16)] ⟨rfl,trivial⟩)
          ·refine ay rfl hc_41 (ax (av (fQ (bN hD_6 hn_7) wz rfl (aa (vI ((k_3+1:Nat):Int)) (af ?_)))))
           obtain rfl:=ae hc_9
           exact aY (k_3+1,l_4,()) ⟨hL_10,aW hD_6⟩ (ls_ _) rfl (aK rfl)
  ·rintro s_8 ho_ sl_ H_ hp_ hq_
   subst ho_
   refine aO _ hp_ hq_ (aj (aa (vI 0) (af ?_)))
   obtain rfl:=ae hF
   exact aH (aN [(vI 0)] ⟨rfl,trivial⟩)
theorem uZ {l_1:(List Beat)} {player_2:ByteArray} {back_3:Bool} {r:(List Beat_)} (hF:kN l_1 player_2 back_3=some r) :
  FnM Tryz.prog 57 [(vL Beat.enc l_1),(vS player_2),(vB back_3)] [] (vL Beat_.enc r) []:=by
 refine FnM.of_wH ⟨Tryz.prog,41,[],[]⟩ rfl Tryz.func57 rfl rfl (lb_ rfl) (by kernel_rfl) ?_
 unfold kN at hF
 refine aj (aa .nil (af (aj (aa .nil (af (au (aj (aa (vL Beat.enc l_1) (dx un41 rfl wz (aa (vI 0) (af (jH (λn_10 => ?_)))))))))))))
 obtain ⟨o_15,hj_16,hF⟩:=bind_some hF
 obtain ⟨hn_8,hj_16⟩:=bI hj_16
 refine iw (σ:=(List Beat_)) (N:=Nm) (λp=>(λ(s_9:List Beat_) (n_12:Nm)=>([(7,(gV n_12 2 s_9))]:SL_)) p.1 p.2) (λp=>(λ(s_9:List Beat_) (n_12:Nm)=>([(n_12,gB 2 Beat_.enc s_9)]:Hp)) p.1 p.2) (λ(k_4:Nat)=>(λp=>(λ(s_9:List Beat_) (n_12:Nm)=>([(1,(vS player_2)),(2,(vB back_3)),(7,(gV n_12 2 s_9)),(10,(vL Beat.enc l_1)),(11,(vI (l_1.length:Int))),(12,(vI (k_4:Int)))]:SL_)) p.1 p.2)) (λk x s=>jI player_2 back_3 k x s) o_15 l_1 (([]:List Beat_),n_10) hj_16 rfl (aK rfl) ?_ ?_
 ·rintro ⟨k_4,l_5,s_9,n_12⟩ ⟨hL_14,hD_7⟩
  dsimp only at hL_14 hD_7
  cases l_5 with
  | nil =>
   obtain rfl:=ae hL_14
   refine aj (aa (vB (decide ((k_4:Int)<(l_1.length:Int)))) (af ?_))
   refine au (ay rfl (drop_nil hD_7) (aX ?_))
   exact aV (s_9,n_12) rfl rfl (aK rfl)
  | cons x_6 l_5 =>
   obtain ⟨c_,hc_13,hL_14⟩:=bind_some hL_14
   refine aj (aa (vB (decide ((k_4:Int)<(l_1.length:Int)))) (af ?_))
   refine au (aA rfl (bO hD_7) (ax ?_))
   unfold jI at hc_13
   refine au (aQ (aj (dW LF rfl rfl (bU hD_7) rfl wz (bK Pf ag40 rfl (.d (.agg (Beat.enc x_6))) rfl wz (dC 0 (.inl rfl) z40 rfl wz (λn_17=>fA 0 il ft 1 Pf rfl rfl (Beat.v x_6) rfl wz (af (aQ (aj (aJ BU rfl 0 rfl wz (aB 0 1 il ft sz9 ag9 rfl rfl (vS x_6.Player) rfl wz (aa (vS player_2) (aa (vB (sNe x_6.Player player_2)) (aa (vB (sNe x_6.Player player_2)) (af ?_)))))))))))))))
   obtain ⟨v_18,h_19,hc_13⟩:=bind_some hc_13
   refine jA (β:=Nm) (λ(n_20:Nm)=>([(1,(vS player_2)),(2,(vB back_3)),(7,(gV n_20 2 v_18)),(10,(vL Beat.enc l_1)),(11,(vI (l_1.length:Int))),(12,(vI (k_4:Int)))]:SL_)) (λ(n_20:Nm)=>([(n_20,gB 2 Beat_.enc v_18),(n_17,some (.cells 3 (Beat.v x_6)))]:Hp)) (λ_=>True) ?_ ?_
   ·rcases ak h_19 with⟨hc_21,h_19⟩|⟨hc_21,h_19⟩
    ·refine aA rfl hc_21 (ax ?_)
     obtain rfl:=ae h_19
     exact aV n_12 trivial rfl (aK rfl)
    ·refine ay rfl hc_21 (aj (aa (vB back_3) (aa (vB back_3) (af ?_))))
     rcases ak h_19 with⟨hc_22,h_19⟩|⟨hc_22,h_19⟩
     ·refine aA rfl hc_22 (av (aa (gV n_12 2 s_9) (aJ FJ rfl 1 rfl wz (aB 0 1 il ft sz3 ag3 rfl rfl (vI x_6.At) rfl wz (aJ FH rfl 2 rfl wz (aB 0 1 il ft sz3 ag3 rfl rfl (vI x_6.Clock) rfl wz (aM (.d (.agg (Beat_.enc (⟨x_6.At,x_6.Clock⟩:Beat_)))) wz (by kernel_rfl) (eQ (([(⟨x_6.At,x_6.Clock⟩:Beat_)]:List Beat_).map Beat_.enc) A7 ez117 rfl rfl rfl rfl rfl wz ?_))))))))
      obtain ⟨a_23,hz_24,h_19⟩:=bind_some h_19
      refine jh 0 il ft (i:=0) Ng Ng Ip z148 rfl (by decide) by148 (by decide) (λ_=>rfl) rfl rfl rfl hz_24 wz (λn_25=>aa (gV n_25 2 a_23) (af ?_))
      obtain rfl:=ae h_19
      exact aV n_25 trivial rfl (aK rfl)
     ·refine ay rfl hc_22 (av (aa (gV n_12 2 s_9) (aJ FH rfl 2 rfl wz (aB 0 1 il ft sz3 ag3 rfl rfl (vI x_6.Clock) rfl wz (aJ FJ rfl 1 rfl wz (aB 0 1 il ft sz3 ag3 rfl rfl (vI x_6.At) rfl wz (aM (.d (.agg (Beat_.enc (⟨x_6.Clock,x_6.At⟩:Beat_)))) wz (by kernel_rfl) (eQ (([(⟨x_6.Clock,x_6.At⟩:Beat_)]:List Beat_).map Beat_.enc) A7 ez117 rfl rfl rfl rfl rfl wz ?_))))))))
      obtain ⟨a_26,hz_27,h_19⟩:=bind_some h_19
      refine jh 0 il ft (i:=0) Ng Ng Ip z148 rfl (by decide) by148 (by decide) (λ_=>rfl) rfl rfl rfl hz_27 wz (λn_28=>aa (gV n_28 2 a_26) (af ?_))
      obtain rfl:=ae h_19
      exact aV n_28 trivial rfl (aK rfl)
   ·rintro n_20 _ sl_ H_ hp_ hq_
    refine aO _ hp_ hq_ (av (fQ (bN hD_7 hn_8) wz rfl (aa (vI ((k_4+1:Nat):Int)) (af ?_))))
    obtain rfl:=ae hc_13
    exact aY (k_4+1,l_5,v_18,n_20) ⟨hL_14,aW hD_7⟩ (ls_ _) rfl (aK rfl)
 ·rintro ⟨s_9,n_12⟩ ho_ sl_ H_ hp_ hq_
  subst ho_
  refine aO _ hp_ hq_ (aj (aa (gV n_12 2 s_9) (aa (gV n_12 2 s_9) (af (fB 0 rfl (bX 6 0 rfl rfl (bX 7 0 rfl rfl (bX 40 0 rfl rfl ?_))))))))
  obtain rfl:=ae hF
  exact aH (aN [(vL Beat_.enc s_9)] ⟨rfl,trivial⟩)
end Go.Proofs.YtmkljmjhcegapaaGreatDoor.Law

