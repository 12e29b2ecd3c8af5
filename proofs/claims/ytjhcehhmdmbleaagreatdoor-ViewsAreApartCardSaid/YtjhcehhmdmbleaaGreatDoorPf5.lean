/-
 The machine computes these plain functions (written by a program of ours).
-/
import Derived.Test.YtjhcehhmdmbleaaGreatDoorFacts
import Derived.Test.YtjhcehhmdmbleaaGreatDoorDefs
import Derived.Test.YtjhcehhmdmbleaaGreatDoorPf4
open Go Go.Eng Go.Proofs
namespace Go.Proofs.YtjhcehhmdmbleaaGreatDoor.Law
set_option maxRecDepth 100000
set_option linter.unusedVariables false
set_option maxHeartbeats 1000000
theorem Bw {t_1:Window} {wv_2:Window} {r:Window} (hF:ut t_1 wv_2=some r) :
  FnM Tryz.prog 155 [(.d (.agg (Window.enc t_1))),(.d (.agg (Window.enc wv_2)))] [] (.d (.agg (Window.enc r))) []:=by
 refine FnM.of_wH ⟨Tryz.prog,16,[],[]⟩ rfl Tryz.func155 rfl rfl (Nat.le_of_ble_eq_true rfl) (by kernel_rfl) ?_
 unfold ut at hF
 refine af (aa (dJ 0 (.inl rfl) [(vI t_1.From),(vI t_1.To)] rfl rfl wz (fun n_3=>dJ 0 (.inl rfl) [(vI wv_2.From),(vI wv_2.To)] rfl rfl wz (fun n_4=>aY 0 (.inl rfl) z60 rfl wz (fun n_5=>ai (af (aa (ax oD rfl 0 rfl wz (au 0 0 il ft sz3 ag3 rfl rfl (vI t_1.From) rfl wz (ax oD rfl 0 rfl wz (au 0 1 il ft sz3 ag3 rfl rfl (vI wv_2.From) rfl wz (jy (vI (bS t_1.From wv_2.From)) rfl (.inr rfl) wz (ax nY rfl 1 rfl wz (au 0 0 il ft sz3 ag3 rfl rfl (vI t_1.To) rfl wz (ax nY rfl 1 rfl wz (au 0 1 il ft sz3 ag3 rfl rfl (vI wv_2.To) rfl wz (jy (vI (eZ t_1.To wv_2.To)) rfl (.inl rfl) wz (ae (.d (.agg (Window.enc (⟨(bS t_1.From wv_2.From),(eZ t_1.To wv_2.To)⟩:Window)))) wz (by kernel_rfl) (bL 0 il ft 2 yw rfl rfl [(vI (bS t_1.From wv_2.From)),(vI (eZ t_1.To wv_2.To))] rfl wz (ai ?_))))))))))))))))))))
 obtain rfl:=ah hF
 exact ay (aM (.inr rfl) [(.d (.agg (Window.enc (⟨(bS t_1.From wv_2.From),(eZ t_1.To wv_2.To)⟩:Window))))] ⟨⟨2,_,_,_,_,_,_,_,rfl,rfl,yw,Hd,rfl⟩,trivial⟩ rfl rfl rfl)
theorem yn {e_1:Entry} {zone_2:Int} {wv_3:Window} {r:(List Window)} (hF:lh e_1 zone_2 wv_3=some r) :
  FnM Tryz.prog 154 [(.d (.agg (Entry.enc e_1))),(vI zone_2),(.d (.agg (Window.enc wv_3)))] [] (gV (aJ 0) 2 r) (([]:List Box).map some++gO 2 Window.enc r):=by
 refine FnM.of_wH ⟨Tryz.prog,72,[],[]⟩ rfl Tryz.func154 rfl rfl (Nat.le_of_ble_eq_true rfl) (by kernel_rfl) ?_
 unfold lh at hF
 refine af (aa (dJ 0 (.inl rfl) [(vS e_1.Key),(vS e_1.Item),(vI e_1.Version),(vI e_1.First),(vI e_1.Last),(vI e_1.Every),(vI e_1.Days),(vL eI e_1.Except),(vI e_1.From),(vI e_1.To),(vI e_1.Prio),(vL eS e_1.Tags),(vB e_1.Gone)] rfl rfl wz (fun n_4=>dJ 0 (.inl rfl) [(vI wv_3.From),(vI wv_3.To)] rfl rfl wz (fun n_5=>ae .nil wz rfl (ai (af (aa (ae .nil wz rfl (ai (af (af ?_)))))))))))
 obtain ⟨v_6,h_7,hF⟩:=bind_some hF
 refine aG (β:=Unit) (fun _=>([(1,(vI zone_2)),(3,(.ref n_4 0 0)),(5,(.ref n_5 0 0)),(7,.nil),(20,(vB v_6))]:List (Nat×V))) (fun _=>([(n_4,some (.cells 13 [(vS e_1.Key),(vS e_1.Item),(vI e_1.Version),(vI e_1.First),(vI e_1.Last),(vI e_1.Every),(vI e_1.Days),(vL eI e_1.Except),(vI e_1.From),(vI e_1.To),(vI e_1.Prio),(vL eS e_1.Tags),(vB e_1.Gone)])),(n_5,some (.cells 2 [(vI wv_3.From),(vI wv_3.To)]))]:Hp)) (fun _=>True) ?_ ?_
 ·refine aa (ax NA rfl 12 rfl wz (au 0 0 il ft sz4 ag4 rfl rfl (vB e_1.Gone) rfl wz ?_))
  rcases ak h_7 with⟨hc_8,h_7⟩ | ⟨hc_8,h_7⟩
  ·refine aD rfl hc_8 wz (aj wa (aj wa (aj wa (aj wa (aj wa (ae (vB true) wz rfl (ai ?_)))))))
   obtain rfl:=ah h_7
   exact cu
  ·refine aD rfl hc_8 wz (ax oD rfl 0 rfl wa (au 0 1 il ft sz3 ag3 rfl rfl (vI wv_3.From) rfl wa (ax nY rfl 1 rfl wa (au 0 1 il ft sz3 ag3 rfl rfl (vI wv_3.To) rfl wa (ae (vB (decide (wv_3.From≥wv_3.To))) wa rfl (ae (vB (decide (wv_3.From≥wv_3.To))) wz rfl (ai ?_)))))))
   obtain rfl:=ah h_7
   exact cu
 ·rintro ⟨⟩ _ sl_ H_ hp_ hq_
  refine aK _ hp_ hq_ ?_
  rcases ak hF with⟨hc_9,hF⟩ | ⟨hc_9,hF⟩
  ·refine aB rfl hc_9 (af (aa (ae .nil wz rfl (ai (l5 (fun n_10 => ?_))))))
   obtain rfl:=ah hF
   exact ay (finG (outs:=([]:List Box)) (.inr rfl) 2 rfl rfl rfl (by kernel_rfl) (by kernel_rfl))
  ·refine aA rfl hc_9 (av (af (aa (ax oD rfl 0 rfl wz (au 0 1 il ft sz3 ag3 rfl rfl (vI wv_3.From) rfl wz (ae (vI zone_2) wz rfl (ae (vI (w64 (zone_2 * 60000))) wz rfl (ae (vI (w64 (wv_3.From + (w64 (zone_2 * 60000))))) wz rfl (ae (vI (w64 ((w64 (wv_3.From + (w64 (zone_2 * 60000)))).tdiv 86400000))) wz rfl (ae (vI (w64 ((w64 ((w64 (wv_3.From + (w64 (zone_2 * 60000)))).tdiv 86400000)) - 2))) wz rfl (ae (vI (w64 ((w64 ((w64 (wv_3.From + (w64 (zone_2 * 60000)))).tdiv 86400000)) - 2))) wz rfl (ai (af (aa (ax nY rfl 1 rfl wz (au 0 1 il ft sz3 ag3 rfl rfl (vI wv_3.To) rfl wz (ae (vI zone_2) wz rfl (ae (vI (w64 (zone_2 * 60000))) wz rfl (ae (vI (w64 (wv_3.To + (w64 (zone_2 * 60000))))) wz rfl (ae (vI (w64 ((w64 (wv_3.To + (w64 (zone_2 * 60000)))).tdiv 86400000))) wz rfl (ae (vI (w64 ((w64 ((w64 (wv_3.To + (w64 (zone_2 * 60000)))).tdiv 86400000)) + 1))) wz rfl (ae (vI (w64 ((w64 ((w64 (wv_3.To + (w64 (zone_2 * 60000)))).tdiv 86400000)) + 1))) wz rfl (ai ?_)))))))))))))))))))))))
   refine af (af (aa (ae (vI (w64 ((w64 ((w64 (wv_3.From + (w64 (zone_2 * 60000)))).tdiv 86400000)) - 2))) wz rfl (ax BI rfl 3 rfl wz (au 0 0 il ft sz3 ag3 rfl rfl (vI e_1.First) rfl wz (jy (vI (bS (w64 ((w64 ((w64 (wv_3.From + (w64 (zone_2 * 60000)))).tdiv 86400000)) - 2)) e_1.First)) rfl (.inr rfl) wz (ae (vI (bS (w64 ((w64 ((w64 (wv_3.From + (w64 (zone_2 * 60000)))).tdiv 86400000)) - 2)) e_1.First)) wz rfl (ai (l5 (fun n_17 => ?_))))))))))
   obtain ⟨o_22,hj_23,hF⟩:=bind_some hF
   obtain ⟨nq_41,hj_23⟩:=eY hj_23
   refine aG (β:=((List Window)×Int)×Nm) (fun p=>(fun (s_16:(List Window)×Int) (n_19:Nm)=>([(7,(gV n_19 2 s_16.1))]:List (Nat×V))) p.1 p.2) (fun p=>(fun (s_16:(List Window)×Int) (n_19:Nm)=>([(n_4,some (.cells 13 [(vS e_1.Key),(vS e_1.Item),(vI e_1.Version),(vI e_1.First),(vI e_1.Last),(vI e_1.Every),(vI e_1.Days),(vL eI e_1.Except),(vI e_1.From),(vI e_1.To),(vI e_1.Prio),(vL eS e_1.Tags),(vB e_1.Gone)])),(n_5,some (.cells 2 [(vI wv_3.From),(vI wv_3.To)])),(n_19,gB 2 Window.enc s_16.1)]:Hp)) p.1 p.2) (fun p=>o_22 = .go p.1) ?_ ?_
   ·refine aF (aW (β:=Nat×((List Window)×Int)×Nm) (fun p=>(fun (k_11:Nat) (s_16:(List Window)×Int) (n_19:Nm)=>([(1,(vI zone_2)),(3,(.ref n_4 0 0)),(5,(.ref n_5 0 0)),(7,(gV n_19 2 s_16.1)),(9,(vI (w64 ((w64 ((w64 (wv_3.To + (w64 (zone_2 * 60000)))).tdiv 86400000)) + 1)))),(10,(vI s_16.2))]:List (Nat×V))) p.1 p.2.1 p.2.2) (fun p=>(fun (k_11:Nat) (s_16:(List Window)×Int) (n_19:Nm)=>([(n_4,some (.cells 13 [(vS e_1.Key),(vS e_1.Item),(vI e_1.Version),(vI e_1.First),(vI e_1.Last),(vI e_1.Every),(vI e_1.Days),(vL eI e_1.Except),(vI e_1.From),(vI e_1.To),(vI e_1.Prio),(vL eS e_1.Tags),(vB e_1.Gone)])),(n_5,some (.cells 2 [(vI wv_3.From),(vI wv_3.To)])),(n_19,gB 2 Window.enc s_16.1)]:Hp)) p.1 p.2.1 p.2.2) (fun p=>iterN (fun s=>jw wv_3 zone_2 e_1 s) p.1 p.2.1=some o_22) (fun p=>p.1) (nq_41,(([]:List Window),(bS (w64 ((w64 ((w64 (wv_3.From + (w64 (zone_2 * 60000)))).tdiv 86400000)) - 2)) e_1.First)),n_17) hj_23 rfl (aH rfl) ?_)
    rintro ⟨k_11,s_16,n_19⟩ hL_21
    dsimp only at hL_21
    cases k_11 with
    | zero=>cases hL_21
    | succ k_11 =>
     obtain ⟨c_,hc_20,hL_21⟩:=bind_some hL_21
     unfold jw at hc_20
     refine af (af (aa (ae (vI s_16.2) wz rfl (ae (vI (w64 ((w64 ((w64 (wv_3.To + (w64 (zone_2 * 60000)))).tdiv 86400000)) + 1))) wz rfl (ax BM rfl 4 rfl wz (au 0 0 il ft sz3 ag3 rfl rfl (vI e_1.Last) rfl wz (jy (vI (eZ (w64 ((w64 ((w64 (wv_3.To + (w64 (zone_2 * 60000)))).tdiv 86400000)) + 1)) e_1.Last)) rfl (.inl rfl) wz (ae (vB (decide (s_16.2≤(eZ (w64 ((w64 ((w64 (wv_3.To + (w64 (zone_2 * 60000)))).tdiv 86400000)) + 1)) e_1.Last)))) wz rfl (ai ?_)))))))))
     rcases ak hc_20 with⟨hc_24,hc_20⟩ | ⟨hc_24,hc_20⟩
     ·refine aB rfl hc_24 (av (af (aF (af (af (aa (au 0 0 il ft D5 EE rfl rfl (.d (.agg (Entry.enc e_1))) rfl wz (ae (vI s_16.2) wz rfl ?_))))))))
      obtain ⟨r_25,hr_26,hc_20⟩:=bind_some hc_20
      refine aC (yJ hr_26) rfl hb198 rfl rfl rfl rfl wz (ae (vB (!r_25)) wz rfl (ai ?_))
      rcases ak hc_20 with⟨hc_27,hc_20⟩ | ⟨hc_27,hc_20⟩
      ·refine aB rfl hc_27 (aS (aa (ae (vI s_16.2) wz rfl (ae (vI (w64 (s_16.2 + 1))) wz rfl (ae (vI (w64 (s_16.2 + 1))) wz rfl (ai ?_))))))
       obtain rfl:=ah hc_20
       exact aR (k_11,(s_16.1,(w64 (s_16.2 + 1))),n_19) hL_21 (Nat.lt_succ_self _) rfl (aH rfl)
      ·refine aA rfl hc_27 (av (af (aa (au 0 0 il ft D5 EE rfl rfl (.d (.agg (Entry.enc e_1))) rfl wz (ae (vI zone_2) wz rfl (ae (vI s_16.2) wz rfl ?_))))))
       obtain ⟨r_28,hr_29,hc_20⟩:=bind_some hc_20
       refine aC (yB hr_29) rfl hb199 rfl rfl rfl rfl wz (aY 0 (.inl rfl) z60 rfl wz (fun n_30=>bL 0 il ft 3 yw rfl rfl [(vI r_28.From),(vI r_28.To)] rfl wz (ai (af ?_))))
       obtain ⟨v_31,h_32,hc_20⟩:=bind_some hc_20
       refine aG (β:=Unit) (fun _=>([(1,(vI zone_2)),(3,(.ref n_4 0 0)),(5,(.ref n_5 0 0)),(7,(gV n_19 2 s_16.1)),(9,(vI (w64 ((w64 ((w64 (wv_3.To + (w64 (zone_2 * 60000)))).tdiv 86400000)) + 1)))),(10,(vI s_16.2)),(11,(.ref n_30 0 0)),(66,(vB v_31))]:List (Nat×V))) (fun _=>([(n_4,some (.cells 13 [(vS e_1.Key),(vS e_1.Item),(vI e_1.Version),(vI e_1.First),(vI e_1.Last),(vI e_1.Every),(vI e_1.Days),(vL eI e_1.Except),(vI e_1.From),(vI e_1.To),(vI e_1.Prio),(vL eS e_1.Tags),(vB e_1.Gone)])),(n_5,some (.cells 2 [(vI wv_3.From),(vI wv_3.To)])),(n_19,gB 2 Window.enc s_16.1),(n_30,some (.cells 2 [(vI r_28.From),(vI r_28.To)]))]:Hp)) (fun _=>True) ?_ ?_
       ·refine aa (ax oD rfl 0 rfl wz (au 0 3 il ft sz3 ag3 rfl rfl (vI r_28.From) rfl wz (ax nY rfl 1 rfl wz (au 0 1 il ft sz3 ag3 rfl rfl (vI wv_3.To) rfl wz (ae (vB (decide (r_28.From < wv_3.To))) wz rfl ?_)))))
        rcases ak h_32 with⟨hc_33,h_32⟩ | ⟨hc_33,h_32⟩
        ·refine aD rfl hc_33 wz (ax nY rfl 1 rfl wa (au 0 3 il ft sz3 ag3 rfl rfl (vI r_28.To) rfl wa (ax oD rfl 0 rfl wa (au 0 1 il ft sz3 ag3 rfl rfl (vI wv_3.From) rfl wa (ae (vB (decide (r_28.To > wv_3.From))) wa rfl (ae (vB (decide (r_28.To > wv_3.From))) wz rfl (ai ?_)))))))
         obtain rfl:=ah h_32
         exact cu
        ·refine aD rfl hc_33 wz (aj wa (aj wa (aj wa (aj wa (aj wa (ae (vB false) wz rfl (ai ?_)))))))
         obtain rfl:=ah h_32
         exact cu
       ·rintro ⟨⟩ _ sl_ H_ hp_ hq_
        refine aK _ hp_ hq_ ?_
        obtain ⟨v_34,h_35,hc_20⟩:=bind_some hc_20
        refine aG (β:=Nm) (fun (n_36:Nm)=>([(1,(vI zone_2)),(3,(.ref n_4 0 0)),(5,(.ref n_5 0 0)),(7,(gV n_36 2 v_34)),(9,(vI (w64 ((w64 ((w64 (wv_3.To + (w64 (zone_2 * 60000)))).tdiv 86400000)) + 1)))),(10,(vI s_16.2))]:List (Nat×V))) (fun (n_36:Nm)=>([(n_4,some (.cells 13 [(vS e_1.Key),(vS e_1.Item),(vI e_1.Version),(vI e_1.First),(vI e_1.Last),(vI e_1.Every),(vI e_1.Days),(vL eI e_1.Except),(vI e_1.From),(vI e_1.To),(vI e_1.Prio),(vL eS e_1.Tags),(vB e_1.Gone)])),(n_5,some (.cells 2 [(vI wv_3.From),(vI wv_3.To)])),(n_36,gB 2 Window.enc v_34),(n_30,some (.cells 2 [(vI r_28.From),(vI r_28.To)]))]:Hp)) (fun _=>True) ?_ ?_
        ·rcases ak h_35 with⟨hc_37,h_35⟩ | ⟨hc_37,h_35⟩
         ·refine aB rfl hc_37 (aa (ae (gV n_19 2 s_16.1) wz rfl (au 0 3 il ft yw Hd rfl rfl (.d (.agg (Window.enc r_28))) rfl wz (fH (([r_28]:List Window).map Window.enc) Oa ez147 rfl rfl rfl rfl rfl wz ?_))))
          obtain ⟨a_38,hz_39,h_35⟩:=bind_some h_35
          refine kN 0 il ft (i:=2) el147 el147 yw z60 rfl (by decide) by60 (by decide) (fun _=>rfl) rfl rfl rfl hz_39 wz (fun n_40=>ae (gV n_40 2 a_38) wz rfl (ai ?_))
          obtain rfl:=ah h_35
          exact aP n_40 trivial rfl (aH rfl)
         ·refine aA rfl hc_37 (av ?_)
          obtain rfl:=ah h_35
          exact aP n_19 trivial rfl (aH rfl)
        ·rintro n_36 _ sl_ H_ hp_ hq_
         refine aK _ hp_ hq_ (aa (ae (vI s_16.2) wz rfl (ae (vI (w64 (s_16.2 + 1))) wz rfl (ae (vI (w64 (s_16.2 + 1))) wz rfl (ai ?_)))))
         obtain rfl:=ah hc_20
         exact aR (k_11,(v_34,(w64 (s_16.2 + 1))),n_36) hL_21 (Nat.lt_succ_self _) rfl (aH rfl)
     ·refine aA rfl hc_24 (aS ?_)
      obtain rfl:=ah hc_20
      obtain rfl:=ah hL_21
      exact aP ((s_16.1,s_16.2),n_19) rfl rfl (aH rfl)
   ·rintro ⟨s_16,n_19⟩ ho_ sl_ H_ hp_ hq_
    subst ho_
    refine aK _ hp_ hq_ (af (aa (ae (gV n_19 2 s_16.1) wz rfl (ae (gV n_19 2 s_16.1) wz rfl (ai ?_)))))
    obtain rfl:=ah hF
    exact ay (finG (outs:=([]:List Box)) (.inr rfl) 2 rfl rfl rfl (by kernel_rfl) (by kernel_rfl))
theorem yV {e_1:Entry} {zone_2:Int} {wv_3:Window} {r:(List Window)×Int} (hF:lC e_1 zone_2 wv_3=some r) :
  FnM Tryz.prog 78 [(.d (.agg (Entry.enc e_1))),(vI zone_2),(.d (.agg (Window.enc wv_3)))] [] (.tup [(vL Window.enc r.1),(vI r.2)]) []:=by
 refine FnM.of_wH ⟨Tryz.prog,45,[],[]⟩ rfl Tryz.func78 rfl rfl (Nat.le_of_ble_eq_true rfl) (by kernel_rfl) ?_
 unfold lC at hF
 refine af (aa (dJ 0 (.inl rfl) [(vS e_1.Key),(vS e_1.Item),(vI e_1.Version),(vI e_1.First),(vI e_1.Last),(vI e_1.Every),(vI e_1.Days),(vL eI e_1.Except),(vI e_1.From),(vI e_1.To),(vI e_1.Prio),(vL eS e_1.Tags),(vB e_1.Gone)] rfl rfl wz (fun n_4=>dJ 0 (.inl rfl) [(vI wv_3.From),(vI wv_3.To)] rfl rfl wz (fun n_5=>ae .nil wz rfl (ae (vI 0) wz rfl (ai (af (af (aa (au 0 0 il ft D5 EE rfl rfl (.d (.agg (Entry.enc e_1))) rfl wz (fH (([e_1]:List Entry).map Entry.enc) es77 ez77 rfl rfl rfl rfl rfl wz ?_)))))))))))
 obtain ⟨r_6,hr_7,hF⟩:=bind_some hF
 refine aC (rZ hr_7) rfl hb152 rfl rfl rfl rfl wz (ae (vI r_6) wz rfl (ai (af (aa (ae (vI r_6) wz rfl (ae (vB (r_6 != 0)) wz rfl (ai ?_)))))))
 rcases ak hF with⟨hc_8,hF⟩ | ⟨hc_8,hF⟩
 ·refine aB rfl hc_8 (af (aa (ae (vI r_6) wz rfl (ae .nil wz rfl (ae (vI r_6) wz rfl (ai ?_))))))
  obtain rfl:=ah hF
  exact ay (aM (.inr rfl) [.nil,(vI r_6)] ⟨rfl,⟨rfl,trivial⟩⟩ rfl rfl rfl)
 ·refine aA rfl hc_8 (av (af (af (aa (ae (vI zone_2) wz rfl ?_)))))
  obtain ⟨r_9,hr_10,hF⟩:=bind_some hF
  refine aC (bf hr_10) rfl pJ rfl rfl rfl rfl wz (ai ?_)
  rcases ak hF with⟨hc_11,hF⟩ | ⟨hc_11,hF⟩
  ·refine aB rfl hc_11 (af (aa (ae .nil wz rfl (ae (vI 1) wz rfl (ai ?_)))))
   obtain rfl:=ah hF
   exact ay (aM (.inr rfl) [.nil,(vI 1)] ⟨rfl,⟨rfl,trivial⟩⟩ rfl rfl rfl)
  ·refine aA rfl hc_11 (av (af (af (aa (au 0 1 il ft yw Hd rfl rfl (.d (.agg (Window.enc wv_3))) rfl wz ?_)))))
   obtain ⟨r_12,hr_13,hF⟩:=bind_some hF
   refine aC (sP hr_13) rfl hb153 rfl rfl rfl rfl wz (ae (vI r_12) wz rfl (ai (af (aa (ae (vI r_12) wz rfl (ae (vB (r_12 != 0)) wz rfl (ai ?_)))))))
   rcases ak hF with⟨hc_14,hF⟩ | ⟨hc_14,hF⟩
   ·refine aB rfl hc_14 (af (aa (ae (vI r_12) wz rfl (ae .nil wz rfl (ae (vI r_12) wz rfl (ai ?_))))))
    obtain rfl:=ah hF
    exact ay (aM (.inr rfl) [.nil,(vI r_12)] ⟨rfl,⟨rfl,trivial⟩⟩ rfl rfl rfl)
   ·refine aA rfl hc_14 (av (af (aa (au 0 0 il ft D5 EE rfl rfl (.d (.agg (Entry.enc e_1))) rfl wz (ae (vI zone_2) wz rfl (au 0 1 il ft yw Hd rfl rfl (.d (.agg (Window.enc wv_3))) rfl wz ?_))))))
    obtain ⟨r_15,hr_16,hF⟩:=bind_some hF
    refine h_callg [] (yn hr_16) rfl hb154 rfl (by kernel_rfl) (by kernel_rfl) (by kernel_rfl) (by kernel_rfl) (by kernel_rfl) rfl (by decide) (by kernel_rfl) wz ([(n_4,some (.cells 13 [(vS e_1.Key),(vS e_1.Item),(vI e_1.Version),(vI e_1.First),(vI e_1.Last),(vI e_1.Every),(vI e_1.Days),(vL eI e_1.Except),(vI e_1.From),(vI e_1.To),(vI e_1.Prio),(vL eS e_1.Tags),(vB e_1.Gone)])),(n_5,some (.cells 2 [(vI wv_3.From),(vI wv_3.To)]))]:Hp) (fun _=>by kernel_rfl) (fun n_18=>ae (gV n_18 2 r_15) wz rfl (ai (af (af (aa (ae (gV n_18 2 r_15) wz rfl (Gl un147 rfl wz (ae (vI 0) wz rfl (ai ?_)))))))))
    obtain ⟨o_27,hj_28,hF⟩:=bind_some hF
    obtain ⟨hn_23,hj_28⟩:=aQ hj_28
    refine aG (β:=((List Window))) (fun (s_24:(List Window))=>([(10,(gV n_18 2 s_24))]:List (Nat×V))) (fun (s_24:(List Window))=>([(n_4,some (.cells 13 [(vS e_1.Key),(vS e_1.Item),(vI e_1.Version),(vI e_1.First),(vI e_1.Last),(vI e_1.Every),(vI e_1.Days),(vL eI e_1.Except),(vI e_1.From),(vI e_1.To),(vI e_1.Prio),(vL eS e_1.Tags),(vB e_1.Gone)])),(n_5,some (.cells 2 [(vI wv_3.From),(vI wv_3.To)])),(n_18,gB 2 Window.enc s_24)]:Hp)) (fun p=>o_27 = .go p) ?_ ?_
    ·refine aF (aW (β:=Nat×(List Nat)×((List Window))) (fun p=>(fun (k_19:Nat) (l_20:List Nat) (s_24:(List Window))=>([(5,(.ref n_5 0 0)),(10,(gV n_18 2 s_24)),(30,(gV n_18 2 s_24)),(31,(vI (r_15.length:Int))),(32,(vI (k_19:Int)))]:List (Nat×V))) p.1 p.2.1 p.2.2) (fun p=>(fun (k_19:Nat) (l_20:List Nat) (s_24:(List Window))=>([(n_4,some (.cells 13 [(vS e_1.Key),(vS e_1.Item),(vI e_1.Version),(vI e_1.First),(vI e_1.Last),(vI e_1.Every),(vI e_1.Days),(vL eI e_1.Except),(vI e_1.From),(vI e_1.To),(vI e_1.Prio),(vL eS e_1.Tags),(vB e_1.Gone)])),(n_5,some (.cells 2 [(vI wv_3.From),(vI wv_3.To)])),(n_18,gB 2 Window.enc s_24)]:Hp)) p.1 p.2.1 p.2.2) (fun p=>forR (fun k x s=>kS wv_3 k x s) p.2.1 p.1 p.2.2=some o_27∧((List.range ((r_15.length:Int)).toNat)).drop p.1=p.2.1) (fun p=>p.2.1.length) (0,(List.range ((r_15.length:Int)).toNat),r_15) ⟨hj_28,rfl⟩ rfl (aH rfl) ?_)
     rintro ⟨k_19,l_20,s_24⟩ ⟨hL_26,hD_22⟩
     dsimp only at hL_26 hD_22
     cases l_20 with
     | nil =>
      obtain rfl:=ah hL_26
      refine af (aa (ae (vB (decide ((k_19:Int) < (r_15.length:Int)))) wz rfl (ai ?_)))
      refine af (aA rfl (AU hD_22) (aS ?_))
      exact aP (s_24) rfl rfl (aH rfl)
     | cons x_21 l_20 =>
      obtain ⟨c_,hc_25,hL_26⟩:=bind_some hL_26
      refine af (aa (ae (vB (decide ((k_19:Int) < (r_15.length:Int)))) wz rfl (ai ?_)))
      refine af (aB rfl (xW hD_22) (av ?_))
      unfold kS at hc_25
      refine af (aF (af (aa (ae (vI (k_19:Int)) wz rfl ?_))))
      obtain ⟨_,hi_29,hc_25⟩:=bind_some hc_25
      refine Cx Oa rfl rfl (rJ hi_29) (ny hi_29) wz ?_
      obtain ⟨e_30,hy_31,hc_25⟩:=bind_some hc_25
      refine tX 0 2 il ft yw Hd rfl rfl hy_31 (.d (.agg (Window.enc e_30))) rfl wz (aY 0 (.inl rfl) z60 rfl wz (fun n_32=>ae (vI (k_19:Int)) wz rfl (bL 0 il ft 3 yw rfl rfl [(vI e_30.From),(vI e_30.To)] rfl wz (ai (aa (ae (gV n_18 2 s_24) wz rfl (ae (vI (k_19:Int)) wz rfl (au 0 3 il ft yw Hd rfl rfl (.d (.agg (Window.enc e_30))) rfl wz (au 0 1 il ft yw Hd rfl rfl (.d (.agg (Window.enc wv_3))) rfl wz ?_)))))))))
      obtain ⟨r_33,hr_34,hc_25⟩:=bind_some hc_25
      refine aC (Bw hr_34) rfl hb155 rfl rfl rfl rfl wz ?_
      obtain ⟨_,hi_35,hc_25⟩:=bind_some hc_25
      refine Cx Oa rfl rfl (rJ hi_35) (ny hi_35) wz ?_
      obtain ⟨e_36,hy_37,hc_25⟩:=bind_some hc_25
      refine FW 0 il ft 2 yw rfl rfl hy_37 r_33 rfl wz (lK (v':=(gV n_18 2 (s_24.set (0 + ((k_19:Int)).toNat) r_33))) 10 rfl (si (by simp)) (lK (v':=(gV n_18 2 (s_24.set (0 + ((k_19:Int)).toNat) r_33))) 30 rfl (si (by simp)) (lK (v':=(gV n_18 2 (s_24.set (0 + ((k_19:Int)).toNat) r_33))) 37 rfl (si (by simp)) (ai (aa (dQ (AL hD_22 hn_23) wz rfl (ae (vI ((k_19 + 1:Nat):Int)) wz rfl (ai ?_))))))))
      obtain rfl:=ah hc_25
      exact aR (k_19 + 1,l_20,(s_24.set (0 + ((k_19:Int)).toNat) r_33)) ⟨hL_26,aN hD_22⟩ (Nat.lt_succ_self _) rfl (aH rfl)
    ·rintro s_24 ho_ sl_ H_ hp_ hq_
     subst ho_
     refine aK _ hp_ hq_ (af (aa (ae (gV n_18 2 s_24) wz rfl (ae (gV n_18 2 s_24) wz rfl (ae (vI 0) wz rfl (ai (gU 2 rfl (dX 6 2 rfl rfl (dX 10 2 rfl rfl (dX 44 2 rfl rfl ?_))))))))))
     obtain rfl:=ah hF
     exact ay (aM (.inr rfl) [(vL Window.enc s_24),(vI 0)] ⟨rfl,⟨rfl,trivial⟩⟩ rfl rfl rfl)
theorem zz {wv_1:Window} {r:Bool} (hF:nJ wv_1=some r) :
  FnM Tryz.prog 200 [(.d (.agg (Window.enc wv_1)))] [] (vB r) []:=by
 refine FnM.of_wH ⟨Tryz.prog,18,[],[]⟩ rfl Tryz.func200 rfl rfl (Nat.le_of_ble_eq_true rfl) (by kernel_rfl) ?_
 unfold nJ at hF
 refine af (aa (dJ 0 (.inl rfl) [(vI wv_1.From),(vI wv_1.To)] rfl rfl wz (fun n_2=>ae (vB false) wz rfl (ai (af ?_)))))
 obtain ⟨v_3,h_4,hF⟩:=bind_some hF
 refine aG (β:=Unit) (fun _=>([(2,(vB v_3))]:List (Nat×V))) (fun _=>([(n_2,some (.cells 2 [(vI wv_1.From),(vI wv_1.To)]))]:Hp)) (fun _=>True) ?_ ?_
 ·refine aa (ax oD rfl 0 rfl wz (au 0 0 il ft sz3 ag3 rfl rfl (vI wv_1.From) rfl wz (ae (vB (decide (wv_1.From≥0))) wz rfl ?_)))
  rcases ak h_4 with⟨hc_5,h_4⟩ | ⟨hc_5,h_4⟩
  ·refine aD rfl hc_5 wz (ax oD rfl 0 rfl wa (au 0 0 il ft sz3 ag3 rfl rfl (vI wv_1.From) rfl wa (ax nY rfl 1 rfl wa (au 0 0 il ft sz3 ag3 rfl rfl (vI wv_1.To) rfl wa (ae (vB (decide (wv_1.From < wv_1.To))) wa rfl (ae (vB (decide (wv_1.From < wv_1.To))) wz rfl ?_))))))
   rcases ak h_4 with⟨hc_6,h_4⟩ | ⟨hc_6,h_4⟩
   ·refine aD rfl hc_6 wz (ax nY rfl 1 rfl wa (au 0 0 il ft sz3 ag3 rfl rfl (vI wv_1.To) rfl wa (ae (vB (decide (wv_1.To≤345686400000))) wa rfl (ae (vB (decide (wv_1.To≤345686400000))) wz rfl (ae (vB (decide (wv_1.To≤345686400000))) wz rfl (ai ?_))))))
    obtain rfl:=ah h_4
    exact cu
   ·refine aD rfl hc_6 wz (aj wa (aj wa (aj wa (ae (vB false) wz rfl (ae (vB false) wz rfl (ai ?_))))))
    obtain rfl:=ah h_4
    exact cu
  ·refine aD rfl hc_5 wz (aj wa (aj wa (aj wa (aj wa (aj wa (ae (vB false) wz rfl (ae (vB false) wz rfl (aj wa (aj wa (aj wa (ae (vB false) wz rfl (ae (vB false) wz rfl (ai ?_)))))))))))))
   obtain rfl:=ah h_4
   exact cu
 ·rintro ⟨⟩ _ sl_ H_ hp_ hq_
  refine aK _ hp_ hq_ ?_
  obtain rfl:=ah hF
  exact ay (aM (.inr rfl) [(vB v_3)] ⟨rfl,trivial⟩ rfl rfl rfl)
theorem vG {l_1:(List ByteArray)} {r:Int} (hF:jB l_1=some r) :
  FnM Tryz.prog 201 [(vL eS l_1)] [] (vI r) []:=by
 refine FnM.of_wH ⟨Tryz.prog,8,[],[]⟩ rfl Tryz.func201 rfl rfl (Nat.le_of_ble_eq_true rfl) (by kernel_rfl) ?_
 unfold jB at hF
 refine af (aa (ae (vI 0) wz rfl (ai (af (af (aa (ae (vL eS l_1) wz rfl (bP I6 rfl wz (ae (vB (decide ((l_1.length:Int) > 20))) wz rfl (ai ?_))))))))))
 rcases ak hF with⟨hc_2,hF⟩ | ⟨hc_2,hF⟩
 ·refine aB rfl hc_2 (af (aa (ae (vI 2) wz rfl (ai ?_))))
  obtain rfl:=ah hF
  exact ay (aM (.inr rfl) [(vI 2)] ⟨rfl,trivial⟩ rfl rfl rfl)
 ·refine aA rfl hc_2 (av (af (aa (ae (vL eS l_1) wz rfl ?_))))
  obtain ⟨r_3,hr_4,hF⟩:=bind_some hF
  refine aC (rC hr_4) rfl hb266 rfl rfl rfl rfl wz (ae (vI r_3) wz rfl (ai ?_))
  obtain rfl:=ah hF
  exact ay (aM (.inr rfl) [(vI r_3)] ⟨rfl,trivial⟩ rfl rfl rfl)
theorem rH {l_1:(List Campaign)} {r:Int} (hF:fP l_1=some r) :
  FnM Tryz.prog 156 [(vL Campaign.enc l_1)] [] (vI r) []:=by
 refine FnM.of_wH ⟨Tryz.prog,73,[],[]⟩ rfl Tryz.func156 rfl rfl (Nat.le_of_ble_eq_true rfl) (by kernel_rfl) ?_
 unfold fP at hF
 refine af (aa (ae (vI 0) wz rfl (ai (af (af (aa (ae (vL Campaign.enc l_1) wz rfl (bP un230 rfl wz (ae (vB (decide ((l_1.length:Int) > 30))) wz rfl (ai ?_))))))))))
 rcases ak hF with⟨hc_2,hF⟩ | ⟨hc_2,hF⟩
 ·refine aB rfl hc_2 (af (aa (ae (vI 2) wz rfl (ai ?_))))
  obtain rfl:=ah hF
  exact ay (aM (.inr rfl) [(vI 2)] ⟨rfl,trivial⟩ rfl rfl rfl)
 ·refine aA rfl hc_2 (av (af (af (aa (ae (vL Campaign.enc l_1) wz rfl (bP un230 rfl wz (ae (vI 0) wz rfl (ai ?_))))))))
  obtain ⟨o_11,hj_12,hF⟩:=bind_some hF
  obtain ⟨hn_7,hj_12⟩:=aQ hj_12
  refine aG (β:=(Unit)) (fun (s_8:Unit)=>([]:List (Nat×V))) (fun (s_8:Unit)=>([]:Hp)) (fun p=>o_11 = .go p) ?_ ?_
  ·refine aF (aW (β:=Nat×(List Campaign)×(Unit)) (fun p=>(fun (k_3:Nat) (l_4:List Campaign) (s_8:Unit)=>([(0,(vL Campaign.enc l_1)),(9,(vL Campaign.enc l_1)),(10,(vI (l_1.length:Int))),(11,(vI (k_3:Int)))]:List (Nat×V))) p.1 p.2.1 p.2.2) (fun p=>(fun (k_3:Nat) (l_4:List Campaign) (s_8:Unit)=>([]:Hp)) p.1 p.2.1 p.2.2) (fun p=>forR (fun k x s=>eU l_1 k x s) p.2.1 p.1 p.2.2=some o_11∧(l_1).drop p.1=p.2.1) (fun p=>p.2.1.length) (0,l_1,()) ⟨hj_12,rfl⟩ rfl (aH rfl) ?_)
   rintro ⟨k_3,l_4,s_8⟩ ⟨hL_10,hD_6⟩
   dsimp only at hL_10 hD_6
   cases l_4 with
   | nil =>
    obtain rfl:=ah hL_10
    refine af (aa (ae (vB (decide ((k_3:Int) < (l_1.length:Int)))) wz rfl (ai ?_)))
    refine af (aA rfl (drop_nil hD_6) (aS ?_))
    exact aP (s_8) rfl rfl (aH rfl)
   | cons x_5 l_4 =>
    obtain ⟨c_,hc_9,hL_10⟩:=bind_some hL_10
    refine af (aa (ae (vB (decide ((k_3:Int) < (l_1.length:Int)))) wz rfl (ai ?_)))
    refine af (aB rfl (aX hD_6) (av ?_))
    unfold eU at hc_9
    refine af (aF (af (aa (ae (vI (k_3:Int)) wz rfl (dL Nc rfl rfl (bC hD_6) rfl wz (bJ K6 Nw rfl (.d (.agg (Campaign.enc x_5))) rfl wz (aY 0 (.inl rfl) z154 rfl wz (fun n_13=>ae (vI (k_3:Int)) wz rfl (bL 0 il ft 0 K6 rfl rfl [(vS x_5.Key),(vS x_5.Class),(vI x_5.Time.From),(vI x_5.Time.To),(vL eS x_5.Tags),(vI x_5.Goal),(vI x_5.Most),(vI x_5.Cents)] rfl wz (ai (af (aF (af ?_)))))))))))))
    obtain ⟨v_14,h_15,hc_9⟩:=bind_some hc_9
    refine aG (β:=Unit) (fun _=>([(0,(vL Campaign.enc l_1)),(3,(vI (k_3:Int))),(4,(.ref n_13 0 0)),(9,(vL Campaign.enc l_1)),(10,(vI (l_1.length:Int))),(11,(vI (k_3:Int))),(16,(vB v_14))]:List (Nat×V))) (fun _=>([(n_13,some (.cells 8 [(vS x_5.Key),(vS x_5.Class),(vI x_5.Time.From),(vI x_5.Time.To),(vL eS x_5.Tags),(vI x_5.Goal),(vI x_5.Most),(vI x_5.Cents)]))]:Hp)) (fun _=>True) ?_ ?_
    ·refine aa (ax Gg rfl 0 rfl wz (au 0 0 il ft sz9 ag9 rfl rfl (vS x_5.Key) rfl wz ?_))
     obtain ⟨r_16,hr_17,h_15⟩:=bind_some h_15
     refine aC (dN hr_17) rfl qM rfl rfl rfl rfl wz (ae (vB (!r_16)) wz rfl ?_)
     rcases ak h_15 with⟨hc_18,h_15⟩ | ⟨hc_18,h_15⟩
     ·refine aD rfl hc_18 wz (aj wa (aj wa (aj wa (aj wa (aj (wn rfl rfl) (aj (wn rfl rfl) (aj (wn rfl rfl) (aj (wn rfl rfl) (aj wa (ae (vB true) wz rfl (ae (vB true) wz rfl (ai ?_))))))))))))
      obtain rfl:=ah h_15
      exact cu
     ·refine aD rfl hc_18 wz (ax KO rfl 1 rfl wa (au 0 0 il ft sz9 ag9 rfl rfl (vS x_5.Class) rfl wa (ae (vB (sNe x_5.Class (⟨#[]⟩:ByteArray))) wa rfl ?_)))
      rcases ak h_15 with⟨hc_19,h_15⟩ | ⟨hc_19,h_15⟩
      ·refine aD rfl hc_19 wa (ax KO rfl 1 rfl wa (au 0 0 il ft sz9 ag9 rfl rfl (vS x_5.Class) rfl wa ?_))
       obtain ⟨r_20,hr_21,h_15⟩:=bind_some h_15
       refine aC (dN hr_21) rfl qM rfl rfl rfl rfl wa (ae (vB (!r_20)) wa rfl (ae (vB (!r_20)) wa rfl (ae (vB (!r_20)) wz rfl (ae (vB (!r_20)) wz rfl (ai ?_)))))
       obtain rfl:=ah h_15
       exact cu
      ·refine aD rfl hc_19 wa (aj wa (aj wa (aj wa (aj wa (ae (vB false) wa rfl (ae (vB false) wz rfl (ae (vB false) wz rfl (ai ?_))))))))
       obtain rfl:=ah h_15
       exact cu
    ·rintro ⟨⟩ _ sl_ H_ hp_ hq_
     refine aK _ hp_ hq_ ?_
     rcases ak hc_9 with⟨hc_22,hc_9⟩ | ⟨hc_22,hc_9⟩
     ·refine aB rfl hc_22 (af (aa (ae (vI 5) wz rfl (ai ?_))))
      obtain rfl:=ah hc_9
      obtain rfl:=ah hL_10
      obtain rfl:=ah hF
      exact ay (aM (.inr rfl) [(vI 5)] ⟨rfl,trivial⟩ rfl rfl rfl)
     ·refine aA rfl hc_22 (af ?_)
      obtain ⟨v_23,h_24,hc_9⟩:=bind_some hc_9
      refine aG (β:=Unit) (fun _=>([(0,(vL Campaign.enc l_1)),(4,(.ref n_13 0 0)),(9,(vL Campaign.enc l_1)),(10,(vI (l_1.length:Int))),(11,(vI (k_3:Int))),(32,(vB v_23))]:List (Nat×V))) (fun _=>([(n_13,some (.cells 8 [(vS x_5.Key),(vS x_5.Class),(vI x_5.Time.From),(vI x_5.Time.To),(vL eS x_5.Tags),(vI x_5.Goal),(vI x_5.Most),(vI x_5.Cents)]))]:Hp)) (fun _=>True) ?_ ?_
      ·refine bB (ae (vI (k_3:Int)) wz rfl (ae (vB (decide ((k_3:Int) > 0))) wz rfl ?_))
       rcases ak h_24 with⟨hc_25,h_24⟩ | ⟨hc_25,h_24⟩
       ·refine aD rfl hc_25 wz (ax Gg rfl 0 rfl wa (au 4 0 (.inr (by kernel_rfl)) (fun _ _ ag=>trivial) sz9 ag9 rfl rfl (vS x_5.Key) rfl wa (ae (vL Campaign.enc l_1) wa rfl (ae (vI (k_3:Int)) wa rfl (ae (vI (w64 ((k_3:Int) - 1))) wa rfl ?_)))))
        obtain ⟨y_26,hy_27,h_24⟩:=bind_some h_24
        refine dL Nc rfl rfl hy_27 rfl wa (lW Gg rfl [.str y_26.Key,.str y_26.Class,.int .i64 y_26.Time.From,.int .i64 y_26.Time.To,dl eS y_26.Tags,.int .i64 y_26.Goal,.int .i64 y_26.Most,.int .i64 y_26.Cents] rfl rfl wa (bJ sz9 ag9 rfl (vS y_26.Key) rfl wa (ae (vB (sLe x_5.Key y_26.Key)) wa rfl (ae (vB (sLe x_5.Key y_26.Key)) wz rfl (ae (vB (sLe x_5.Key y_26.Key)) wz rfl (ai ?_))))))
        obtain rfl:=ah h_24
        exact cu
       ·refine aD rfl hc_25 wz (aj wa (aj wa (aj wa (aj wa (aj wa (aj wa (aj wa (aj wa (aj wa (ae (vB false) wz rfl (ae (vB false) wz rfl (ai ?_))))))))))))
        obtain rfl:=ah h_24
        exact cu
      ·rintro ⟨⟩ _ sl_ H_ hp_ hq_
       refine aK _ hp_ hq_ ?_
       rcases ak hc_9 with⟨hc_28,hc_9⟩ | ⟨hc_28,hc_9⟩
       ·refine aB rfl hc_28 (af (aa (ae (vI 7) wz rfl (ai ?_))))
        obtain rfl:=ah hc_9
        obtain rfl:=ah hL_10
        obtain rfl:=ah hF
        exact ay (aM (.inr rfl) [(vI 7)] ⟨rfl,trivial⟩ rfl rfl rfl)
       ·refine aA rfl hc_28 (af ?_)
        obtain ⟨v_29,h_30,hc_9⟩:=bind_some hc_9
        refine aG (β:=Unit) (fun _=>([(0,(vL Campaign.enc l_1)),(4,(.ref n_13 0 0)),(9,(vL Campaign.enc l_1)),(10,(vI (l_1.length:Int))),(11,(vI (k_3:Int))),(46,(vB v_29))]:List (Nat×V))) (fun _=>([(n_13,some (.cells 8 [(vS x_5.Key),(vS x_5.Class),(vI x_5.Time.From),(vI x_5.Time.To),(vL eS x_5.Tags),(vI x_5.Goal),(vI x_5.Most),(vI x_5.Cents)]))]:Hp)) (fun _=>True) ?_ ?_
        ·refine aa (ax wQ rfl 2 rfl wz (au 0 0 il ft yw Hd rfl rfl (.d (.agg (Window.enc x_5.Time))) rfl wz ?_))
         obtain ⟨r_31,hr_32,h_30⟩:=bind_some h_30
         refine aC (zz hr_32) rfl hb200 rfl rfl rfl rfl wz (ae (vB (!r_31)) wz rfl ?_)
         rcases ak h_30 with⟨hc_33,h_30⟩ | ⟨hc_33,h_30⟩
         ·refine aD rfl hc_33 wz (aj wa (aj wa (aj wa (ae (vB true) wz rfl (ae (vB true) wz rfl (aj wa (aj wa (aj wa (ae (vB true) wz rfl (ae (vB true) wz rfl (aj wa (aj wa (aj wa (ae (vB true) wz rfl (ae (vB true) wz rfl (ai ?_))))))))))))))))
          obtain rfl:=ah h_30
          exact cu
         ·refine aD rfl hc_33 wz (ax Gt rfl 5 rfl wa (au 0 0 il ft sz3 ag3 rfl rfl (vI x_5.Goal) rfl wa ?_))
          obtain ⟨r_34,hr_35,h_30⟩:=bind_some h_30
          refine aC (bf hr_35) rfl pJ rfl rfl rfl rfl wa (ae (vB r_34) wz rfl ?_)
          rcases ak h_30 with⟨hc_36,h_30⟩ | ⟨hc_36,h_30⟩
          ·refine aD rfl hc_36 wz (aj wa (aj wa (aj wa (ae (vB true) wz rfl (ae (vB true) wz rfl (aj wa (aj wa (aj wa (ae (vB true) wz rfl (ae (vB true) wz rfl (ai ?_)))))))))))
           obtain rfl:=ah h_30
           exact cu
          ·refine aD rfl hc_36 wz (ax pl154_5 rfl 6 rfl wa (au 0 0 il ft sz3 ag3 rfl rfl (vI x_5.Most) rfl wa ?_))
           obtain ⟨r_37,hr_38,h_30⟩:=bind_some h_30
           refine aC (bf hr_38) rfl pJ rfl rfl rfl rfl wa (ae (vB r_37) wz rfl ?_)
           rcases ak h_30 with⟨hc_39,h_30⟩ | ⟨hc_39,h_30⟩
           ·refine aD rfl hc_39 wz (aj wa (aj wa (aj wa (ae (vB true) wz rfl (ae (vB true) wz rfl (ai ?_))))))
            obtain rfl:=ah h_30
            exact cu
           ·refine aD rfl hc_39 wz (ax pl154_6 rfl 7 rfl wa (au 0 0 il ft sz3 ag3 rfl rfl (vI x_5.Cents) rfl wa ?_))
            obtain ⟨r_40,hr_41,h_30⟩:=bind_some h_30
            refine aC (bf hr_41) rfl pJ rfl rfl rfl rfl wa (ae (vB r_40) wz rfl (ae (vB r_40) wz rfl (ai ?_)))
            obtain rfl:=ah h_30
            exact cu
        ·rintro ⟨⟩ _ sl_ H_ hp_ hq_
         refine aK _ hp_ hq_ ?_
         rcases ak hc_9 with⟨hc_42,hc_9⟩ | ⟨hc_42,hc_9⟩
         ·refine aB rfl hc_42 (af (aa (ae (vI 1) wz rfl (ai ?_))))
          obtain rfl:=ah hc_9
          obtain rfl:=ah hL_10
          obtain rfl:=ah hF
          exact ay (aM (.inr rfl) [(vI 1)] ⟨rfl,trivial⟩ rfl rfl rfl)
         ·refine aA rfl hc_42 (av (af (aa (ax pl154_3 rfl 4 rfl wz (au 0 0 il ft Md LJ rfl rfl (vL eS x_5.Tags) rfl wz ?_)))))
          obtain ⟨r_43,hr_44,hc_9⟩:=bind_some hc_9
          refine aC (vG hr_44) rfl hb201 rfl rfl rfl rfl wz (ae (vI r_43) wz rfl (ai (af (aa (ae (vI r_43) wz rfl (ae (vB (r_43 != 0)) wz rfl (ai ?_)))))))
          rcases ak hc_9 with⟨hc_45,hc_9⟩ | ⟨hc_45,hc_9⟩
          ·refine aB rfl hc_45 (af (aa (ae (vI r_43) wz rfl (ae (vI r_43) wz rfl (ai ?_)))))
           obtain rfl:=ah hc_9
           obtain rfl:=ah hL_10
           obtain rfl:=ah hF
           exact ay (aM (.inr rfl) [(vI r_43)] ⟨rfl,trivial⟩ rfl rfl rfl)
          ·refine aA rfl hc_45 (av (aa (dQ (bu hD_6 hn_7) wz rfl (ae (vI ((k_3 + 1:Nat):Int)) wz rfl (ai ?_)))))
           obtain rfl:=ah hc_9
           exact aR (k_3 + 1,l_4,()) ⟨hL_10,aN hD_6⟩ (Nat.lt_succ_self _) rfl (aH rfl)
  ·rintro s_8 ho_ sl_ H_ hp_ hq_
   subst ho_
   refine aK _ hp_ hq_ (af (aa (ae (vI 0) wz rfl (ai ?_))))
   obtain rfl:=ah hF
   exact ay (aM (.inr rfl) [(vI 0)] ⟨rfl,trivial⟩ rfl rfl rfl)
theorem iq {n_1:Int} {r:Bool} (hF:dF n_1=some r) :
  FnM Tryz.prog 101 [(vI n_1)] [] (vB r) []:=by
 refine FnM.of_wH ⟨Tryz.prog,9,[],[]⟩ rfl Tryz.func101 rfl rfl (Nat.le_of_ble_eq_true rfl) (by kernel_rfl) ?_
 unfold dF at hF
 refine af (aa (ae (vB false) wz rfl (ai (af ?_))))
 obtain ⟨v_2,h_3,hF⟩:=bind_some hF
 refine aG (β:=Unit) (fun _=>([(2,(vB v_2))]:List (Nat×V))) (fun _=>([]:Hp)) (fun _=>True) ?_ ?_
 ·refine aa (ae (vI n_1) wz rfl (ae (vB (decide (n_1≥0))) wz rfl ?_))
  rcases ak h_3 with⟨hc_4,h_3⟩ | ⟨hc_4,h_3⟩
  ·refine aD rfl hc_4 wz (ae (vI n_1) wa rfl (ae (vB (decide (n_1 < 345686400000))) wa rfl (ae (vB (decide (n_1 < 345686400000))) wz rfl (ae (vB (decide (n_1 < 345686400000))) wz rfl (ai ?_)))))
   obtain rfl:=ah h_3
   exact cu
  ·refine aD rfl hc_4 wz (aj wa (aj wa (ae (vB false) wz rfl (ae (vB false) wz rfl (ai ?_)))))
   obtain rfl:=ah h_3
   exact cu
 ·rintro ⟨⟩ _ sl_ H_ hp_ hq_
  refine aK _ hp_ hq_ ?_
  obtain rfl:=ah hF
  exact ay (aM (.inr rfl) [(vB v_2)] ⟨rfl,trivial⟩ rfl rfl rfl)
theorem CR {c_1:Campaign} {atv_2:Int} {r:Int} (hF:rO c_1 atv_2=some r) :
  FnM Tryz.prog 157 [(.d (.agg (Campaign.enc c_1))),(vI atv_2)] [] (vI r) []:=by
 refine FnM.of_wH ⟨Tryz.prog,35,[],[]⟩ rfl Tryz.func157 rfl rfl (Nat.le_of_ble_eq_true rfl) (by kernel_rfl) ?_
 unfold rO at hF
 refine af (aa (dJ 0 (.inl rfl) [(vS c_1.Key),(vS c_1.Class),(vI c_1.Time.From),(vI c_1.Time.To),(vL eS c_1.Tags),(vI c_1.Goal),(vI c_1.Most),(vI c_1.Cents)] rfl rfl wz (fun n_3=>ae (vI 0) wz rfl (ai (af (aF (af (aa (ae (vI atv_2) wz rfl (ax wQ rfl 2 rfl wz (ax oD rfl 2 rfl wz (au 0 0 il ft sz3 ag3 rfl rfl (vI c_1.Time.From) rfl wz (ae (vB (decide (atv_2 < c_1.Time.From))) wz rfl (ae (vB (decide (atv_2 < c_1.Time.From))) wz rfl (ai ?_)))))))))))))))
 rcases ak hF with⟨hc_4,hF⟩ | ⟨hc_4,hF⟩
 ·refine aB rfl hc_4 (af (aa (ae (vI 0) wz rfl (ai ?_))))
  obtain rfl:=ah hF
  exact ay (aM (.inr rfl) [(vI 0)] ⟨rfl,trivial⟩ rfl rfl rfl)
 ·refine aA rfl hc_4 (af (aa (ae (vI atv_2) wz rfl (ax wQ rfl 2 rfl wz (ax nY rfl 3 rfl wz (au 0 0 il ft sz3 ag3 rfl rfl (vI c_1.Time.To) rfl wz (ae (vB (decide (atv_2≥c_1.Time.To))) wz rfl (ae (vB (decide (atv_2≥c_1.Time.To))) wz rfl (ai ?_)))))))))
  rcases ak hF with⟨hc_5,hF⟩ | ⟨hc_5,hF⟩
  ·refine aB rfl hc_5 (af (aa (ax Gt rfl 5 rfl wz (au 0 0 il ft sz3 ag3 rfl rfl (vI c_1.Goal) rfl wz (ae (vI c_1.Goal) wz rfl (ai ?_))))))
   obtain rfl:=ah hF
   exact ay (aM (.inr rfl) [(vI c_1.Goal)] ⟨rfl,trivial⟩ rfl rfl rfl)
  ·refine aA rfl hc_5 (av (af (aa (ax Gt rfl 5 rfl wz (au 0 0 il ft sz3 ag3 rfl rfl (vI c_1.Goal) rfl wz (ae (vI atv_2) wz rfl (ax wQ rfl 2 rfl wz (ax oD rfl 2 rfl wz (au 0 0 il ft sz3 ag3 rfl rfl (vI c_1.Time.From) rfl wz (ae (vI (w64 (atv_2 - c_1.Time.From))) wz rfl (ae (vI (w64 (c_1.Goal * (w64 (atv_2 - c_1.Time.From))))) wz rfl (ax wQ rfl 2 rfl wz (ax nY rfl 3 rfl wz (au 0 0 il ft sz3 ag3 rfl rfl (vI c_1.Time.To) rfl wz (ax wQ rfl 2 rfl wz (ax oD rfl 2 rfl wz (au 0 0 il ft sz3 ag3 rfl rfl (vI c_1.Time.From) rfl wz (ae (vI (w64 (c_1.Time.To - c_1.Time.From))) wz rfl ?_))))))))))))))))))
   obtain ⟨q_6,hz_7,hF⟩:=bind_some hF
   refine Cc rfl rfl hz_7 wz (ae (vI q_6) wz rfl (ai (aK (H0:=([(n_3,some (.cells 8 [(vS c_1.Key),(vS c_1.Class),(vI c_1.Time.From),(vI c_1.Time.To),(vL eS c_1.Tags),(vI c_1.Goal),(vI c_1.Most),(vI c_1.Cents)]))]:Hp)) ([(4,(vI q_6))]:List (Nat×V)) (by kernel_rfl) (mM (by kernel_rfl)) ?_)))
   obtain rfl:=ah hF
   exact ay (aM (.inr rfl) [(vI q_6)] ⟨rfl,trivial⟩ rfl rfl rfl)
theorem DY {c_1:Campaign} {atv_2:Int} {r:Int×Int} (hF:o8 c_1 atv_2=some r) :
  FnM Tryz.prog 79 [(.d (.agg (Campaign.enc c_1))),(vI atv_2)] [] (.tup [(vI r.1),(vI r.2)]) []:=by
 refine FnM.of_wH ⟨Tryz.prog,19,[],[]⟩ rfl Tryz.func79 rfl rfl (Nat.le_of_ble_eq_true rfl) (by kernel_rfl) ?_
 unfold o8 at hF
 refine af (aa (dJ 0 (.inl rfl) [(vS c_1.Key),(vS c_1.Class),(vI c_1.Time.From),(vI c_1.Time.To),(vL eS c_1.Tags),(vI c_1.Goal),(vI c_1.Most),(vI c_1.Cents)] rfl rfl wz (fun n_3=>ae (vI 0) wz rfl (ae (vI 0) wz rfl (ai (af (af (aa (au 0 0 il ft K6 Nw rfl rfl (.d (.agg (Campaign.enc c_1))) rfl wz (fH (([c_1]:List Campaign).map Campaign.enc) Nc ez230 rfl rfl rfl rfl rfl wz ?_))))))))))
 obtain ⟨r_4,hr_5,hF⟩:=bind_some hF
 refine aC (rH hr_5) rfl hb156 rfl rfl rfl rfl wz (ae (vI r_4) wz rfl (ai (af (aa (ae (vI r_4) wz rfl (ae (vB (r_4 != 0)) wz rfl (ai ?_)))))))
 rcases ak hF with⟨hc_6,hF⟩ | ⟨hc_6,hF⟩
 ·refine aB rfl hc_6 (af (aa (ae (vI r_4) wz rfl (ae (vI 0) wz rfl (ae (vI r_4) wz rfl (ai ?_))))))
  obtain rfl:=ah hF
  exact ay (aM (.inr rfl) [(vI 0),(vI r_4)] ⟨rfl,⟨rfl,trivial⟩⟩ rfl rfl rfl)
 ·refine aA rfl hc_6 (av (af (af (aa (ae (vI atv_2) wz rfl ?_)))))
  obtain ⟨r_7,hr_8,hF⟩:=bind_some hF
  refine aC (iq hr_8) rfl CX rfl rfl rfl rfl wz (ae (vB (!r_7)) wz rfl (ai ?_))
  rcases ak hF with⟨hc_9,hF⟩ | ⟨hc_9,hF⟩
  ·refine aB rfl hc_9 (af (aa (ae (vI 0) wz rfl (ae (vI 1) wz rfl (ai ?_)))))
   obtain rfl:=ah hF
   exact ay (aM (.inr rfl) [(vI 0),(vI 1)] ⟨rfl,⟨rfl,trivial⟩⟩ rfl rfl rfl)
  ·refine aA rfl hc_9 (av (af (aa (au 0 0 il ft K6 Nw rfl rfl (.d (.agg (Campaign.enc c_1))) rfl wz (ae (vI atv_2) wz rfl ?_)))))
   obtain ⟨r_10,hr_11,hF⟩:=bind_some hF
   refine aC (CR hr_11) rfl hb157 rfl rfl rfl rfl wz (ae (vI r_10) wz rfl (ae (vI 0) wz rfl (ai ?_)))
   obtain rfl:=ah hF
   exact ay (aM (.inr rfl) [(vI r_10),(vI 0)] ⟨rfl,⟨rfl,trivial⟩⟩ rfl rfl rfl)
theorem nk {a_1:ByteArray} {b_2:ByteArray} {r:Int} (hF:gG a_1 b_2=some r) :
  FnM Tryz.prog 181 [(vS a_1),(vS b_2)] [] (vI r) []:=by
 refine FnM.of_wH ⟨Tryz.prog,8,[],[]⟩ rfl Tryz.func181 rfl rfl (Nat.le_of_ble_eq_true rfl) (by kernel_rfl) ?_
 unfold gG at hF
 refine af (aa (ae (vI 0) wz rfl (ai (af (aa (ae (vS a_1) wz rfl (ae (vS b_2) wz rfl (h_ext (NG (f:=248) Tryz.func248 rfl rfl (by kernel_rfl) (by kernel_rfl) _ _) rfl nb248 rfl wz (ae (vI (Mq a_1 b_2)) wz rfl (ai ?_))))))))))
 obtain rfl:=ah hF
 exact ay (aM (.inr rfl) [(vI (Mq a_1 b_2))] ⟨rfl,trivial⟩ rfl rfl rfl)
theorem qR {a_1:ByteArray} {b_2:ByteArray} {r:Int} (hF:strings_Compare a_1 b_2=some r) :
  FnM Tryz.prog 108 [(vS a_1),(vS b_2)] [] (vI r) []:=by
 refine FnM.of_wH ⟨Tryz.prog,8,[],[]⟩ rfl Tryz.func108 rfl rfl (Nat.le_of_ble_eq_true rfl) (by kernel_rfl) ?_
 unfold strings_Compare at hF
 refine af (aa (ae (vI 0) wz rfl (ai (af (aa (ae (vS a_1) wz rfl (ae (vS b_2) wz rfl ?_)))))))
 obtain ⟨r_3,hr_4,hF⟩:=bind_some hF
 refine aC (nk hr_4) rfl hb181 rfl rfl rfl rfl wz (ae (vI r_3) wz rfl (ai ?_))
 obtain rfl:=ah hF
 exact ay (aM (.inr rfl) [(vI r_3)] ⟨rfl,trivial⟩ rfl rfl rfl)
theorem qW {x_1:Int} {y_2:Int} {r:Int} (hF:cmp_Compare_int x_1 y_2=some r) :
  FnM Tryz.prog 114 [(vI x_1),(vI y_2)] [] (vI r) []:=by
 refine FnM.of_wH ⟨Tryz.prog,20,[],[]⟩ rfl Tryz.func114 rfl rfl (Nat.le_of_ble_eq_true rfl) (by kernel_rfl) ?_
 unfold cmp_Compare_int at hF
 refine af (aa (ae (vI 0) wz rfl (ai (af (aa (ae (vI x_1) wz rfl ?_))))))
 obtain ⟨r_3,hr_4,hF⟩:=bind_some hF
 refine aC (lS hr_4) rfl Kl rfl rfl rfl rfl wz (ae (vB r_3) wz rfl (ai (af (aa (ae (vI y_2) wz rfl ?_)))))
 obtain ⟨r_5,hr_6,hF⟩:=bind_some hF
 refine aC (lS hr_6) rfl Kl rfl rfl rfl rfl wz (ae (vB r_5) wz rfl (ai (af (af (aa (ae (vB r_3) wz rfl (ai ?_)))))))
 rcases ak hF with⟨hc_7,hF⟩ | ⟨hc_7,hF⟩
 ·refine aB rfl hc_7 (af (af (aa (ae (vB r_5) wz rfl (ai ?_)))))
  rcases ak hF with⟨hc_8,hF⟩ | ⟨hc_8,hF⟩
  ·refine aB rfl hc_8 (af (aa (ae (vI 0) wz rfl (ai ?_))))
   obtain rfl:=ah hF
   exact ay (aM (.inr rfl) [(vI 0)] ⟨rfl,trivial⟩ rfl rfl rfl)
  ·refine aA rfl hc_8 (av (af (aa (ae (vI (-1)) wz rfl (ai ?_)))))
   obtain rfl:=ah hF
   exact ay (aM (.inr rfl) [(vI (-1))] ⟨rfl,trivial⟩ rfl rfl rfl)
 ·refine aA rfl hc_7 (av (af (af (aa (ae (vB r_5) wz rfl (ai ?_))))))
  rcases ak hF with⟨hc_9,hF⟩ | ⟨hc_9,hF⟩
  ·refine aB rfl hc_9 (af (aa (ae (vI 1) wz rfl (ai ?_))))
   obtain rfl:=ah hF
   exact ay (aM (.inr rfl) [(vI 1)] ⟨rfl,trivial⟩ rfl rfl rfl)
  ·refine aA rfl hc_9 (av (af (af (aa (ae (vI x_1) wz rfl (ae (vI y_2) wz rfl (ae (vB (decide (x_1 < y_2))) wz rfl (ai ?_))))))))
   rcases ak hF with⟨hc_10,hF⟩ | ⟨hc_10,hF⟩
   ·refine aB rfl hc_10 (af (aa (ae (vI (-1)) wz rfl (ai ?_))))
    obtain rfl:=ah hF
    exact ay (aM (.inr rfl) [(vI (-1))] ⟨rfl,trivial⟩ rfl rfl rfl)
   ·refine aA rfl hc_10 (av (af (af (aa (ae (vI x_1) wz rfl (ae (vI y_2) wz rfl (ae (vB (decide (x_1 > y_2))) wz rfl (ai ?_))))))))
    rcases ak hF with⟨hc_11,hF⟩ | ⟨hc_11,hF⟩
    ·refine aB rfl hc_11 (af (aa (ae (vI 1) wz rfl (ai ?_))))
     obtain rfl:=ah hF
     exact ay (aM (.inr rfl) [(vI 1)] ⟨rfl,trivial⟩ rfl rfl rfl)
    ·refine aA rfl hc_11 (av (af (aa (ae (vI 0) wz rfl (ai ?_)))))
     obtain rfl:=ah hF
     exact ay (aM (.inr rfl) [(vI 0)] ⟨rfl,trivial⟩ rfl rfl rfl)
theorem xA {vals_1:(List Int)} {r:Int} (hF:tT vals_1=some r) :
  FnM Tryz.prog 107 [(vL eI vals_1)] [] (vI r) []:=by
 refine FnM.of_wH ⟨Tryz.prog,18,[],[]⟩ rfl Tryz.func107 rfl rfl (Nat.le_of_ble_eq_true rfl) (by kernel_rfl) ?_
 unfold tT at hF
 refine af (aa (ae (vI 0) wz rfl (ai (af (aa (ae (vI 0) wz rfl (ai (af (af (aa (ae (vL eI vals_1) wz rfl (bP vE rfl wz (ae (vI 0) wz rfl (ai ?_))))))))))))))
 obtain ⟨o_10,hj_11,hF⟩:=bind_some hF
 obtain ⟨hn_6,hj_11⟩:=aQ hj_11
 refine aG (β:=(Unit)) (fun (s_7:Unit)=>([(3,(vI 0))]:List (Nat×V))) (fun (s_7:Unit)=>([]:Hp)) (fun p=>o_10 = .go p) ?_ ?_
 ·refine aF (aW (β:=Nat×(List Int)×(Unit)) (fun p=>(fun (k_2:Nat) (l_3:List Int) (s_7:Unit)=>([(3,(vI 0)),(6,(vL eI vals_1)),(7,(vI (vals_1.length:Int))),(8,(vI (k_2:Int)))]:List (Nat×V))) p.1 p.2.1 p.2.2) (fun p=>(fun (k_2:Nat) (l_3:List Int) (s_7:Unit)=>([]:Hp)) p.1 p.2.1 p.2.2) (fun p=>forR (fun k x s=>rX k x s) p.2.1 p.1 p.2.2=some o_10∧(vals_1).drop p.1=p.2.1) (fun p=>p.2.1.length) (0,vals_1,()) ⟨hj_11,rfl⟩ rfl (aH rfl) ?_)
  rintro ⟨k_2,l_3,s_7⟩ ⟨hL_9,hD_5⟩
  dsimp only at hL_9 hD_5
  cases l_3 with
  | nil =>
   obtain rfl:=ah hL_9
   refine af (aa (ae (vB (decide ((k_2:Int) < (vals_1.length:Int)))) wz rfl (ai ?_)))
   refine af (aA rfl (drop_nil hD_5) (aS ?_))
   exact aP (s_7) rfl rfl (aH rfl)
  | cons x_4 l_3 =>
   obtain ⟨c_,hc_8,hL_9⟩:=bind_some hL_9
   refine af (aa (ae (vB (decide ((k_2:Int) < (vals_1.length:Int)))) wz rfl (ai ?_)))
   refine af (aB rfl (aX hD_5) (av ?_))
   unfold rX at hc_8
   refine af (aF (af (aa (dL oo rfl rfl (bC hD_5) rfl wz (bJ sz3 ag3 rfl (vI x_4) rfl wz (ae (vI x_4) wz rfl (ai (af (aa (ae (vI x_4) wz rfl (ae (vI 0) wz rfl (ae (vB (x_4 != 0)) wz rfl (ai ?_)))))))))))))
   rcases ak hc_8 with⟨hc_12,hc_8⟩ | ⟨hc_12,hc_8⟩
   ·refine aB rfl hc_12 (af (aa (ae (vI x_4) wz rfl (ae (vI x_4) wz rfl (ai ?_)))))
    obtain rfl:=ah hc_8
    obtain rfl:=ah hL_9
    obtain rfl:=ah hF
    exact ay (aM (.inr rfl) [(vI x_4)] ⟨rfl,trivial⟩ rfl rfl rfl)
   ·refine aA rfl hc_12 (av (aa (dQ (bu hD_5 hn_6) wz rfl (ae (vI ((k_2 + 1:Nat):Int)) wz rfl (ai ?_)))))
    obtain rfl:=ah hc_8
    exact aR (k_2 + 1,l_3,()) ⟨hL_9,aN hD_5⟩ (Nat.lt_succ_self _) rfl (aH rfl)
 ·rintro s_7 ho_ sl_ H_ hp_ hq_
  subst ho_
  refine aK _ hp_ hq_ (af (aa (ae (vI 0) wz rfl (ae (vI 0) wz rfl (ai ?_)))))
  obtain rfl:=ah hF
  exact ay (aM (.inr rfl) [(vI 0)] ⟨rfl,trivial⟩ rfl rfl rfl)
theorem vv {a_1:Beat} {b_2:Beat} {r:Int} (hF:j5 a_1 b_2=some r) :
  FnM Tryz.prog 267 [(.d (.agg (Beat.enc a_1))),(.d (.agg (Beat.enc b_2)))] [] (vI r) []:=by
 refine FnM.of_wH ⟨Tryz.prog,17,[],[]⟩ rfl Tryz.func267 rfl rfl (Nat.le_of_ble_eq_true rfl) (by kernel_rfl) ?_
 unfold j5 at hF
 refine af (aa (dJ 0 (.inl rfl) [(vS a_1.Player),(vI a_1.At),(vI a_1.Clock)] rfl rfl wz (fun n_3=>dJ 0 (.inl rfl) [(vS b_2.Player),(vI b_2.At),(vI b_2.Clock)] rfl rfl wz (fun n_4=>ae (vI 0) wz rfl (ai (af (bB (ax wL rfl 0 rfl wz (au 1 0 (.inr (by kernel_rfl)) (fun _ _ ag=>trivial) sz9 ag9 rfl rfl (vS a_1.Player) rfl wz (ax wL rfl 0 rfl wz (au 3 1 (.inr (by kernel_rfl)) (fun _ _ ag=>⟨.inl ⟨rfl,rfl⟩,trivial⟩) sz9 ag9 rfl rfl (vS b_2.Player) rfl wz ?_)))))))))))
 obtain ⟨r_5,hr_6,hF⟩:=bind_some hF
 refine aC (qR hr_6) rfl hb108 rfl rfl rfl rfl wz (ax yO rfl 1 rfl wz (au 6 0 (.inr (by kernel_rfl)) (fun _ _ ag=>⟨.inl ⟨rfl,rfl⟩,⟨.inl ⟨rfl,rfl⟩,trivial⟩⟩) sz3 ag3 rfl rfl (vI a_1.At) rfl wz (ax yO rfl 1 rfl wz (au 8 1 (.inr (by kernel_rfl)) (fun _ _ ag=>⟨.inl ⟨rfl,rfl⟩,⟨.inl ⟨rfl,rfl⟩,⟨.inl ⟨rfl,rfl⟩,trivial⟩⟩⟩) sz3 ag3 rfl rfl (vI b_2.At) rfl wz ?_))))
 obtain ⟨r_7,hr_8,hF⟩:=bind_some hF
 refine aC (qW hr_8) rfl hb114 rfl rfl rfl rfl wz (fH (([r_5,r_7]:List Int).map eI) oo Ce rfl rfl rfl rfl rfl wz ?_)
 obtain ⟨r_9,hr_10,hF⟩:=bind_some hF
 refine aC (xA hr_10) rfl hb107 rfl rfl rfl rfl wz (ae (vI r_9) wz rfl (ai ?_))
 obtain rfl:=ah hF
 exact ay (aM (.inr rfl) [(vI r_9)] ⟨rfl,trivial⟩ rfl rfl rfl)
theorem xh {l_1:(List Beat)} {r:Int} (hF:jX l_1=some r) :
  FnM Tryz.prog 202 [(vL Beat.enc l_1)] [] (vI r) []:=by
 refine FnM.of_wH ⟨Tryz.prog,69,[],[]⟩ rfl Tryz.func202 rfl rfl (Nat.le_of_ble_eq_true rfl) (by kernel_rfl) ?_
 unfold jX at hF
 refine af (aa (ae (vI 0) wz rfl (ai (af (af (aa (ae (vL Beat.enc l_1) wz rfl (bP Nz rfl wz (ae (vB (decide ((l_1.length:Int) > 500))) wz rfl (ai ?_))))))))))
 rcases ak hF with⟨hc_2,hF⟩ | ⟨hc_2,hF⟩
 ·refine aB rfl hc_2 (af (aa (ae (vI 2) wz rfl (ai ?_))))
  obtain rfl:=ah hF
  exact ay (aM (.inr rfl) [(vI 2)] ⟨rfl,trivial⟩ rfl rfl rfl)
 ·refine aA rfl hc_2 (av (af (af (aa (ae (vL Beat.enc l_1) wz rfl (bP Nz rfl wz (ae (vI 0) wz rfl (ai ?_))))))))
  obtain ⟨o_11,hj_12,hF⟩:=bind_some hF
  obtain ⟨hn_7,hj_12⟩:=aQ hj_12
  refine aG (β:=(Unit)) (fun (s_8:Unit)=>([]:List (Nat×V))) (fun (s_8:Unit)=>([]:Hp)) (fun p=>o_11 = .go p) ?_ ?_
  ·refine aF (aW (β:=Nat×(List Beat)×(Unit)) (fun p=>(fun (k_3:Nat) (l_4:List Beat) (s_8:Unit)=>([(0,(vL Beat.enc l_1)),(8,(vL Beat.enc l_1)),(9,(vI (l_1.length:Int))),(10,(vI (k_3:Int)))]:List (Nat×V))) p.1 p.2.1 p.2.2) (fun p=>(fun (k_3:Nat) (l_4:List Beat) (s_8:Unit)=>([]:Hp)) p.1 p.2.1 p.2.2) (fun p=>forR (fun k x s=>iA l_1 k x s) p.2.1 p.1 p.2.2=some o_11∧(l_1).drop p.1=p.2.1) (fun p=>p.2.1.length) (0,l_1,()) ⟨hj_12,rfl⟩ rfl (aH rfl) ?_)
   rintro ⟨k_3,l_4,s_8⟩ ⟨hL_10,hD_6⟩
   dsimp only at hL_10 hD_6
   cases l_4 with
   | nil =>
    obtain rfl:=ah hL_10
    refine af (aa (ae (vB (decide ((k_3:Int) < (l_1.length:Int)))) wz rfl (ai ?_)))
    refine af (aA rfl (drop_nil hD_6) (aS ?_))
    exact aP (s_8) rfl rfl (aH rfl)
   | cons x_5 l_4 =>
    obtain ⟨c_,hc_9,hL_10⟩:=bind_some hL_10
    refine af (aa (ae (vB (decide ((k_3:Int) < (l_1.length:Int)))) wz rfl (ai ?_)))
    refine af (aB rfl (aX hD_6) (av ?_))
    unfold iA at hc_9
    refine af (aF (af (aa (ae (vI (k_3:Int)) wz rfl (dL E9 rfl rfl (bC hD_6) rfl wz (bJ Fj KU rfl (.d (.agg (Beat.enc x_5))) rfl wz (aY 0 (.inl rfl) z157 rfl wz (fun n_13=>ae (vI (k_3:Int)) wz rfl (bL 0 il ft 0 Fj rfl rfl [(vS x_5.Player),(vI x_5.At),(vI x_5.Clock)] rfl wz (ai (aF (af (aa (ax wL rfl 0 rfl wz (au 0 0 il ft sz9 ag9 rfl rfl (vS x_5.Player) rfl wz ?_)))))))))))))))
    obtain ⟨r_14,hr_15,hc_9⟩:=bind_some hc_9
    refine aC (dN hr_15) rfl qM rfl rfl rfl rfl wz (ae (vB (!r_14)) wz rfl (ae (vB (!r_14)) wz rfl (ai ?_)))
    rcases ak hc_9 with⟨hc_16,hc_9⟩ | ⟨hc_16,hc_9⟩
    ·refine aB rfl hc_16 (af (aa (ae (vI 5) wz rfl (ai ?_))))
     obtain rfl:=ah hc_9
     obtain rfl:=ah hL_10
     obtain rfl:=ah hF
     exact ay (aM (.inr rfl) [(vI 5)] ⟨rfl,trivial⟩ rfl rfl rfl)
    ·refine aA rfl hc_16 (af ?_)
     obtain ⟨v_17,h_18,hc_9⟩:=bind_some hc_9
     refine aG (β:=Unit) (fun _=>([(0,(vL Beat.enc l_1)),(3,(vI (k_3:Int))),(4,(.ref n_13 0 0)),(8,(vL Beat.enc l_1)),(9,(vI (l_1.length:Int))),(10,(vI (k_3:Int))),(20,(vB v_17))]:List (Nat×V))) (fun _=>([(n_13,some (.cells 3 [(vS x_5.Player),(vI x_5.At),(vI x_5.Clock)]))]:Hp)) (fun _=>True) ?_ ?_
     ·refine aa (ax yO rfl 1 rfl wz (au 0 0 il ft sz3 ag3 rfl rfl (vI x_5.At) rfl wz ?_))
      obtain ⟨r_19,hr_20,h_18⟩:=bind_some h_18
      refine aC (iq hr_20) rfl CX rfl rfl rfl rfl wz (ae (vB (!r_19)) wz rfl ?_)
      rcases ak h_18 with⟨hc_21,h_18⟩ | ⟨hc_21,h_18⟩
      ·refine aD rfl hc_21 wz (aj wa (aj wa (aj wa (ae (vB true) wz rfl (ae (vB true) wz rfl (ai ?_))))))
       obtain rfl:=ah h_18
       exact cu
      ·refine aD rfl hc_21 wz (ax yP rfl 2 rfl wa (au 0 0 il ft sz3 ag3 rfl rfl (vI x_5.Clock) rfl wa ?_))
       obtain ⟨r_22,hr_23,h_18⟩:=bind_some h_18
       refine aC (bf hr_23) rfl pJ rfl rfl rfl rfl wa (ae (vB r_22) wz rfl (ae (vB r_22) wz rfl (ai ?_)))
       obtain rfl:=ah h_18
       exact cu
     ·rintro ⟨⟩ _ sl_ H_ hp_ hq_
      refine aK _ hp_ hq_ ?_
      rcases ak hc_9 with⟨hc_24,hc_9⟩ | ⟨hc_24,hc_9⟩
      ·refine aB rfl hc_24 (af (aa (ae (vI 1) wz rfl (ai ?_))))
       obtain rfl:=ah hc_9
       obtain rfl:=ah hL_10
       obtain rfl:=ah hF
       exact ay (aM (.inr rfl) [(vI 1)] ⟨rfl,trivial⟩ rfl rfl rfl)
      ·refine aA rfl hc_24 (af ?_)
       obtain ⟨v_25,h_26,hc_9⟩:=bind_some hc_9
       refine aG (β:=Unit) (fun _=>([(0,(vL Beat.enc l_1)),(3,(vI (k_3:Int))),(4,(.ref n_13 0 0)),(8,(vL Beat.enc l_1)),(9,(vI (l_1.length:Int))),(10,(vI (k_3:Int))),(30,(vB v_25))]:List (Nat×V))) (fun _=>([(n_13,some (.cells 3 [(vS x_5.Player),(vI x_5.At),(vI x_5.Clock)]))]:Hp)) (fun _=>True) ?_ ?_
       ·refine bB (ae (vI (k_3:Int)) wz rfl (ae (vB (decide ((k_3:Int) > 0))) wz rfl ?_))
        rcases ak h_26 with⟨hc_27,h_26⟩ | ⟨hc_27,h_26⟩
        ·refine aD rfl hc_27 wz (ae (vL Beat.enc l_1) wa rfl (ae (vI (k_3:Int)) wa rfl (ae (vI (w64 ((k_3:Int) - 1))) wa rfl ?_)))
         obtain ⟨y_28,hy_29,h_26⟩:=bind_some h_26
         refine dL E9 rfl rfl hy_29 rfl wa (bJ Fj KU rfl (.d (.agg (Beat.enc y_28))) rfl wa (au 8 0 (.inr (by kernel_rfl)) (fun _ _ ag=>trivial) Fj KU rfl rfl (.d (.agg (Beat.enc x_5))) rfl wa ?_))
         obtain ⟨r_30,hr_31,h_26⟩:=bind_some h_26
         refine aC (vv hr_31) rfl hb267 rfl rfl rfl rfl wa (ae (vB (decide (r_30≥0))) wa rfl (ae (vB (decide (r_30≥0))) wz rfl (ae (vB (decide (r_30≥0))) wz rfl (ai ?_))))
         obtain rfl:=ah h_26
         exact cu
        ·refine aD rfl hc_27 wz (aj wa (aj wa (aj wa (aj wa (aj wa (aj wa (aj wa (aj wa (ae (vB false) wz rfl (ae (vB false) wz rfl (ai ?_)))))))))))
         obtain rfl:=ah h_26
         exact cu
       ·rintro ⟨⟩ _ sl_ H_ hp_ hq_
        refine aK _ hp_ hq_ ?_
        rcases ak hc_9 with⟨hc_32,hc_9⟩ | ⟨hc_32,hc_9⟩
        ·refine aB rfl hc_32 (af (aa (ae (vI 7) wz rfl (ai ?_))))
         obtain rfl:=ah hc_9
         obtain rfl:=ah hL_10
         obtain rfl:=ah hF
         exact ay (aM (.inr rfl) [(vI 7)] ⟨rfl,trivial⟩ rfl rfl rfl)
        ·refine aA rfl hc_32 (af ?_)
         obtain ⟨v_33,h_34,hc_9⟩:=bind_some hc_9
         refine aG (β:=Unit) (fun _=>([(0,(vL Beat.enc l_1)),(8,(vL Beat.enc l_1)),(9,(vI (l_1.length:Int))),(10,(vI (k_3:Int))),(43,(vB v_33))]:List (Nat×V))) (fun _=>([(n_13,some (.cells 3 [(vS x_5.Player),(vI x_5.At),(vI x_5.Clock)]))]:Hp)) (fun _=>True) ?_ ?_
         ·refine bB (ae (vI (k_3:Int)) wz rfl (ae (vB (decide ((k_3:Int) > 0))) wz rfl ?_))
          rcases ak h_34 with⟨hc_35,h_34⟩ | ⟨hc_35,h_34⟩
          ·refine aD rfl hc_35 wz (ax wL rfl 0 rfl wa (au 4 0 (.inr (by kernel_rfl)) (fun _ _ ag=>trivial) sz9 ag9 rfl rfl (vS x_5.Player) rfl wa (ae (vL Beat.enc l_1) wa rfl (ae (vI (k_3:Int)) wa rfl (ae (vI (w64 ((k_3:Int) - 1))) wa rfl ?_)))))
           obtain ⟨y_36,hy_37,h_34⟩:=bind_some h_34
           refine dL E9 rfl rfl hy_37 rfl wa (lW wL rfl [.str y_36.Player,.int .i64 y_36.At,.int .i64 y_36.Clock] rfl rfl wa (bJ sz9 ag9 rfl (vS y_36.Player) rfl wa (ae (vB (sEq x_5.Player y_36.Player)) wa rfl (ae (vB (sEq x_5.Player y_36.Player)) wz rfl ?_))))
           rcases ak h_34 with⟨hc_38,h_34⟩ | ⟨hc_38,h_34⟩
           ·refine aD rfl hc_38 wz (ax yP rfl 2 rfl wa (au 15 0 (.inr (by kernel_rfl)) (fun _ _ ag=>⟨.inl ⟨rfl,rfl⟩,trivial⟩) sz3 ag3 rfl rfl (vI x_5.Clock) rfl wa (ae (vL Beat.enc l_1) wa rfl (ae (vI (k_3:Int)) wa rfl (ae (vI (w64 ((k_3:Int) - 1))) wa rfl ?_)))))
            obtain ⟨y_39,hy_40,h_34⟩:=bind_some h_34
            refine dL E9 rfl rfl hy_40 rfl wa (lW yP rfl [.int .i64 y_39.Clock] rfl rfl wa (bJ sz3 ag3 rfl (vI y_39.Clock) rfl wa (ae (vB (decide (x_5.Clock≤y_39.Clock))) wa rfl (ae (vB (decide (x_5.Clock≤y_39.Clock))) wz rfl (ae (vB (decide (x_5.Clock≤y_39.Clock))) wz rfl (ai ?_))))))
            obtain rfl:=ah h_34
            exact cu
           ·refine aD rfl hc_38 wz (aj wa (aj wa (aj wa (aj wa (aj wa (aj wa (aj wa (aj wa (aj wa (ae (vB false) wz rfl (ae (vB false) wz rfl (ai ?_))))))))))))
            obtain rfl:=ah h_34
            exact cu
          ·refine aD rfl hc_35 wz (aj wa (aj wa (aj wa (aj wa (aj wa (aj wa (aj wa (aj wa (aj wa (ae (vB false) wz rfl (ae (vB false) wz rfl (aj wa (aj wa (aj wa (aj wa (aj wa (aj wa (aj wa (aj wa (aj wa (ae (vB false) wz rfl (ae (vB false) wz rfl (ai ?_)))))))))))))))))))))))
           obtain rfl:=ah h_34
           exact cu
         ·rintro ⟨⟩ _ sl_ H_ hp_ hq_
          refine aK _ hp_ hq_ ?_
          rcases ak hc_9 with⟨hc_41,hc_9⟩ | ⟨hc_41,hc_9⟩
          ·refine aB rfl hc_41 (af (aa (ae (vI 16) wz rfl (ai ?_))))
           obtain rfl:=ah hc_9
           obtain rfl:=ah hL_10
           obtain rfl:=ah hF
           exact ay (aM (.inr rfl) [(vI 16)] ⟨rfl,trivial⟩ rfl rfl rfl)
          ·refine aA rfl hc_41 (av (aa (dQ (bu hD_6 hn_7) wz rfl (ae (vI ((k_3 + 1:Nat):Int)) wz rfl (ai ?_)))))
           obtain rfl:=ah hc_9
           exact aR (k_3 + 1,l_4,()) ⟨hL_10,aN hD_6⟩ (Nat.lt_succ_self _) rfl (aH rfl)
  ·rintro s_8 ho_ sl_ H_ hp_ hq_
   subst ho_
   refine aK _ hp_ hq_ (af (aa (ae (vI 0) wz rfl (ai ?_))))
   obtain rfl:=ah hF
   exact ay (aM (.inr rfl) [(vI 0)] ⟨rfl,trivial⟩ rfl rfl rfl)
theorem AB {l_1:(List Beat)} {player_2:ByteArray} {back_3:Bool} {r:(List Beat_)} (hF:oL l_1 player_2 back_3=some r) :
  FnM Tryz.prog 204 [(vL Beat.enc l_1),(vS player_2),(vB back_3)] [] (vL Beat_.enc r) []:=by
 refine FnM.of_wH ⟨Tryz.prog,41,[],[]⟩ rfl Tryz.func204 rfl rfl (Nat.le_of_ble_eq_true rfl) (by kernel_rfl) ?_
 unfold oL at hF
 refine af (aa (ae .nil wz rfl (ai (af (aa (ae .nil wz rfl (ai (af (af (aa (ae (vL Beat.enc l_1) wz rfl (bP Nz rfl wz (ae (vI 0) wz rfl (ai (l5 (fun n_10 => ?_))))))))))))))))
 obtain ⟨o_15,hj_16,hF⟩:=bind_some hF
 obtain ⟨hn_8,hj_16⟩:=aQ hj_16
 refine aG (β:=((List Beat_))×Nm) (fun p=>(fun (s_9:(List Beat_)) (n_12:Nm)=>([(7,(gV n_12 2 s_9))]:List (Nat×V))) p.1 p.2) (fun p=>(fun (s_9:(List Beat_)) (n_12:Nm)=>([(n_12,gB 2 Beat_.enc s_9)]:Hp)) p.1 p.2) (fun p=>o_15 = .go p.1) ?_ ?_
 ·refine aF (aW (β:=Nat×(List Beat)×((List Beat_))×Nm) (fun p=>(fun (k_4:Nat) (l_5:List Beat) (s_9:(List Beat_)) (n_12:Nm)=>([(1,(vS player_2)),(2,(vB back_3)),(7,(gV n_12 2 s_9)),(10,(vL Beat.enc l_1)),(11,(vI (l_1.length:Int))),(12,(vI (k_4:Int)))]:List (Nat×V))) p.1 p.2.1 p.2.2.1 p.2.2.2) (fun p=>(fun (k_4:Nat) (l_5:List Beat) (s_9:(List Beat_)) (n_12:Nm)=>([(n_12,gB 2 Beat_.enc s_9)]:Hp)) p.1 p.2.1 p.2.2.1 p.2.2.2) (fun p=>forR (fun k x s=>oz player_2 back_3 k x s) p.2.1 p.1 p.2.2.1=some o_15∧(l_1).drop p.1=p.2.1) (fun p=>p.2.1.length) (0,l_1,([]:List Beat_),n_10) ⟨hj_16,rfl⟩ rfl (aH rfl) ?_)
  rintro ⟨k_4,l_5,s_9,n_12⟩ ⟨hL_14,hD_7⟩
  dsimp only at hL_14 hD_7
  cases l_5 with
  | nil =>
   obtain rfl:=ah hL_14
   refine af (aa (ae (vB (decide ((k_4:Int) < (l_1.length:Int)))) wz rfl (ai ?_)))
   refine af (aA rfl (drop_nil hD_7) (aS ?_))
   exact aP (s_9,n_12) rfl rfl (aH rfl)
  | cons x_6 l_5 =>
   obtain ⟨c_,hc_13,hL_14⟩:=bind_some hL_14
   refine af (aa (ae (vB (decide ((k_4:Int) < (l_1.length:Int)))) wz rfl (ai ?_)))
   refine af (aB rfl (aX hD_7) (av ?_))
   unfold oz at hc_13
   refine af (aF (af (aa (dL E9 rfl rfl (bC hD_7) rfl wz (bJ Fj KU rfl (.d (.agg (Beat.enc x_6))) rfl wz (aY 0 (.inl rfl) z157 rfl wz (fun n_17=>bL 0 il ft 1 Fj rfl rfl [(vS x_6.Player),(vI x_6.At),(vI x_6.Clock)] rfl wz (ai (aF (af (aa (ax wL rfl 0 rfl wz (au 0 1 il ft sz9 ag9 rfl rfl (vS x_6.Player) rfl wz (ae (vS player_2) wz rfl (ae (vB (sNe x_6.Player player_2)) wz rfl (ae (vB (sNe x_6.Player player_2)) wz rfl (ai ?_)))))))))))))))))
   obtain ⟨v_18,h_19,hc_13⟩:=bind_some hc_13
   refine aG (β:=Nm) (fun (n_20:Nm)=>([(1,(vS player_2)),(2,(vB back_3)),(7,(gV n_20 2 v_18)),(10,(vL Beat.enc l_1)),(11,(vI (l_1.length:Int))),(12,(vI (k_4:Int)))]:List (Nat×V))) (fun (n_20:Nm)=>([(n_20,gB 2 Beat_.enc v_18),(n_17,some (.cells 3 [(vS x_6.Player),(vI x_6.At),(vI x_6.Clock)]))]:Hp)) (fun _=>True) ?_ ?_
   ·rcases ak h_19 with⟨hc_21,h_19⟩ | ⟨hc_21,h_19⟩
    ·refine aB rfl hc_21 (av ?_)
     obtain rfl:=ah h_19
     exact aP n_12 trivial rfl (aH rfl)
    ·refine aA rfl hc_21 (af (aa (ae (vB back_3) wz rfl (ae (vB back_3) wz rfl (ai ?_)))))
     rcases ak h_19 with⟨hc_22,h_19⟩ | ⟨hc_22,h_19⟩
     ·refine aB rfl hc_22 (aa (ae (gV n_12 2 s_9) wz rfl (ax yO rfl 1 rfl wz (au 0 1 il ft sz3 ag3 rfl rfl (vI x_6.At) rfl wz (ax yP rfl 2 rfl wz (au 0 1 il ft sz3 ag3 rfl rfl (vI x_6.Clock) rfl wz (ae (.d (.agg (Beat_.enc (⟨x_6.At,x_6.Clock⟩:Beat_)))) wz (by kernel_rfl) (fH (([(⟨x_6.At,x_6.Clock⟩:Beat_)]:List Beat_).map Beat_.enc) zb ez272 rfl rfl rfl rfl rfl wz ?_))))))))
      obtain ⟨a_23,hz_24,h_19⟩:=bind_some h_19
      refine kN 0 il ft (i:=0) J6 J6 ET z316 rfl (by decide) by316 (by decide) (fun _=>rfl) rfl rfl rfl hz_24 wz (fun n_25=>ae (gV n_25 2 a_23) wz rfl (ai ?_))
      obtain rfl:=ah h_19
      exact aP n_25 trivial rfl (aH rfl)
     ·refine aA rfl hc_22 (aa (ae (gV n_12 2 s_9) wz rfl (ax yP rfl 2 rfl wz (au 0 1 il ft sz3 ag3 rfl rfl (vI x_6.Clock) rfl wz (ax yO rfl 1 rfl wz (au 0 1 il ft sz3 ag3 rfl rfl (vI x_6.At) rfl wz (ae (.d (.agg (Beat_.enc (⟨x_6.Clock,x_6.At⟩:Beat_)))) wz (by kernel_rfl) (fH (([(⟨x_6.Clock,x_6.At⟩:Beat_)]:List Beat_).map Beat_.enc) zb ez272 rfl rfl rfl rfl rfl wz ?_))))))))
      obtain ⟨a_26,hz_27,h_19⟩:=bind_some h_19
      refine kN 0 il ft (i:=0) J6 J6 ET z316 rfl (by decide) by316 (by decide) (fun _=>rfl) rfl rfl rfl hz_27 wz (fun n_28=>ae (gV n_28 2 a_26) wz rfl (ai ?_))
      obtain rfl:=ah h_19
      exact aP n_28 trivial rfl (aH rfl)
   ·rintro n_20 _ sl_ H_ hp_ hq_
    refine aK _ hp_ hq_ (aa (dQ (bu hD_7 hn_8) wz rfl (ae (vI ((k_4 + 1:Nat):Int)) wz rfl (ai ?_))))
    obtain rfl:=ah hc_13
    exact aR (k_4 + 1,l_5,v_18,n_20) ⟨hL_14,aN hD_7⟩ (Nat.lt_succ_self _) rfl (aH rfl)
 ·rintro ⟨s_9,n_12⟩ ho_ sl_ H_ hp_ hq_
  subst ho_
  refine aK _ hp_ hq_ (af (aa (ae (gV n_12 2 s_9) wz rfl (ae (gV n_12 2 s_9) wz rfl (ai (gU 0 rfl (dX 6 0 rfl rfl (dX 7 0 rfl rfl (dX 40 0 rfl rfl ?_)))))))))
  obtain rfl:=ah hF
  exact ay (aM (.inr rfl) [(vL Beat_.enc s_9)] ⟨rfl,trivial⟩ rfl rfl rfl)
end Go.Proofs.YtjhcehhmdmbleaaGreatDoor.Law

