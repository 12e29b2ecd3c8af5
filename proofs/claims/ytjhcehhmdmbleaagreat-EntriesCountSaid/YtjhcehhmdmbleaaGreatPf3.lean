/-
 The machine computes these plain functions (written by a program of ours).
-/
import Derived.Test.YtjhcehhmdmbleaaGreatFacts
import Derived.Test.YtjhcehhmdmbleaaGreatDefs
import Derived.Test.YtjhcehhmdmbleaaGreatPf2
import Derived.Test.YtjhcehhmdmbleaaGreatShelf
open Go Go.Eng Go.Proofs
namespace Go.Proofs.YtjhcehhmdmbleaaGreat.Law
set_option maxRecDepth 100000
set_option linter.unusedVariables false
set_option maxHeartbeats 1000000
theorem schedule_times_ok {e_1:Entry} {zone_2:Int} {wv_3:Window} {r:(List Window)} (hF:schedule_times e_1 zone_2 wv_3=some r) :
  FnM Tryz.prog 59 [(.d (.agg (Entry.enc e_1))),(vI zone_2),(.d (.agg (Window.enc wv_3)))] [] (vL Window.enc r) []:=by
 refine FnM.of_wH ⟨Tryz.prog,72,[],[]⟩ rfl Tryz.func59 rfl rfl (Nat.le_of_ble_eq_true rfl) (by kernel_rfl) ?_
 unfold schedule_times at hF
 refine wH_seq (wH_region (h_box 0 (.inl rfl) [(vS e_1.Key),(vS e_1.Item),(vI e_1.Version),(vI e_1.First),(vI e_1.Last),(vI e_1.Every),(vI e_1.Days),(vL eI e_1.Except),(vI e_1.From),(vI e_1.To),(vI e_1.Prio),(vL eS e_1.Tags),(vB e_1.Gone)] rfl rfl wz (fun n_4=>h_box 0 (.inl rfl) [(vI wv_3.From),(vI wv_3.To)] rfl rfl wz (fun n_5=>h_op .nil wz rfl (h_nil (wH_seq (wH_region (h_op .nil wz rfl (h_nil (wH_seq (wH_seq ?_)))))))))))
 obtain ⟨v_6,h_7,hF⟩:=bind_some hF
 refine wH_join (β:=Unit) (fun _=>([(1,(vI zone_2)),(3,(.ref n_4 0 0)),(5,(.ref n_5 0 0)),(7,.nil),(20,(vB v_6))]:List (Nat×V))) (fun _=>([(n_4,some (.cells 13 [(vS e_1.Key),(vS e_1.Item),(vI e_1.Version),(vI e_1.First),(vI e_1.Last),(vI e_1.Every),(vI e_1.Days),(vL eI e_1.Except),(vI e_1.From),(vI e_1.To),(vI e_1.Prio),(vL eS e_1.Tags),(vB e_1.Gone)])),(n_5,some (.cells 2 [(vI wv_3.From),(vI wv_3.To)]))]:Hp)) (fun _=>True) ?_ ?_
 ·refine wH_region (h_far pl55_12 rfl 12 rfl wz (h_ldr 0 0 il ft sz4 ag4 rfl rfl (vB e_1.Gone) rfl wz ?_))
  rcases cond_some h_7 with⟨hc_8,h_7⟩ | ⟨hc_8,h_7⟩
  ·refine h_movb rfl hc_8 wz (h_skip wa (h_skip wa (h_skip wa (h_skip wa (h_skip wa (h_op (vB true) wz rfl (h_nil ?_)))))))
   obtain rfl:=some_inj h_7
   exact cu
  ·refine h_movb rfl hc_8 wz (h_far pl65_0 rfl 0 rfl wa (h_ldr 0 1 il ft sz3 ag3 rfl rfl (vI wv_3.From) rfl wa (h_far pl65_1 rfl 1 rfl wa (h_ldr 0 1 il ft sz3 ag3 rfl rfl (vI wv_3.To) rfl wa (h_op (vB (decide (wv_3.From≥wv_3.To))) wa rfl (h_op (vB (decide (wv_3.From≥wv_3.To))) wz rfl (h_nil ?_)))))))
   obtain rfl:=some_inj h_7
   exact cu
 ·rintro ⟨⟩ _ sl_ H_ hp_ hq_
  refine wH_at _ hp_ hq_ ?_
  rcases cond_some hF with⟨hc_9,hF⟩ | ⟨hc_9,hF⟩
  ·refine wH_ift rfl hc_9 (wH_seq (wH_region (h_op .nil wz rfl (h_nil ?_))))
   obtain rfl:=some_inj hF
   exact wH_ret (fin0 (.inr rfl) [.nil] ⟨rfl,trivial⟩ rfl rfl rfl)
  ·refine wH_iff rfl hc_9 (wH_skip (wH_seq (wH_region (h_far pl65_0 rfl 0 rfl wz (h_ldr 0 1 il ft sz3 ag3 rfl rfl (vI wv_3.From) rfl wz (h_op (vI zone_2) wz rfl (h_op (vI (w64 (zone_2 * 60000))) wz rfl (h_op (vI (w64 (wv_3.From + (w64 (zone_2 * 60000))))) wz rfl (h_op (vI (w64 ((w64 (wv_3.From + (w64 (zone_2 * 60000)))).tdiv 86400000))) wz rfl (h_op (vI (w64 ((w64 ((w64 (wv_3.From + (w64 (zone_2 * 60000)))).tdiv 86400000)) - 2))) wz rfl (h_op (vI (w64 ((w64 ((w64 (wv_3.From + (w64 (zone_2 * 60000)))).tdiv 86400000)) - 2))) wz rfl (h_nil (wH_seq (wH_region (h_far pl65_1 rfl 1 rfl wz (h_ldr 0 1 il ft sz3 ag3 rfl rfl (vI wv_3.To) rfl wz (h_op (vI zone_2) wz rfl (h_op (vI (w64 (zone_2 * 60000))) wz rfl (h_op (vI (w64 (wv_3.To + (w64 (zone_2 * 60000))))) wz rfl (h_op (vI (w64 ((w64 (wv_3.To + (w64 (zone_2 * 60000)))).tdiv 86400000))) wz rfl (h_op (vI (w64 ((w64 ((w64 (wv_3.To + (w64 (zone_2 * 60000)))).tdiv 86400000)) + 1))) wz rfl (h_op (vI (w64 ((w64 ((w64 (wv_3.To + (w64 (zone_2 * 60000)))).tdiv 86400000)) + 1))) wz rfl (h_nil ?_)))))))))))))))))))))))
   refine wH_seq (wH_seq (wH_region (h_op (vI (w64 ((w64 ((w64 (wv_3.From + (w64 (zone_2 * 60000)))).tdiv 86400000)) - 2))) wz rfl (h_far pl55_3 rfl 3 rfl wz (h_ldr 0 0 il ft sz3 ag3 rfl rfl (vI e_1.First) rfl wz (h_minmax (vI (maxI (w64 ((w64 ((w64 (wv_3.From + (w64 (zone_2 * 60000)))).tdiv 86400000)) - 2)) e_1.First)) rfl (.inr rfl) wz (h_op (vI (maxI (w64 ((w64 ((w64 (wv_3.From + (w64 (zone_2 * 60000)))).tdiv 86400000)) - 2)) e_1.First)) wz rfl (h_nil (wH_new (fun n_16 => ?_))))))))))
   obtain ⟨o_21,hj_22,hF⟩:=bind_some hF
   obtain ⟨nq_40,hj_22⟩:=loopO_iter hj_22
   refine wH_join (β:=((List Window)×Int)×Nm) (fun p=>(fun (s_15:(List Window)×Int) (n_18:Nm)=>([(7,(gV n_18 2 s_15.1))]:List (Nat×V))) p.1 p.2) (fun p=>(fun (s_15:(List Window)×Int) (n_18:Nm)=>([(n_4,some (.cells 13 [(vS e_1.Key),(vS e_1.Item),(vI e_1.Version),(vI e_1.First),(vI e_1.Last),(vI e_1.Every),(vI e_1.Days),(vL eI e_1.Except),(vI e_1.From),(vI e_1.To),(vI e_1.Prio),(vL eS e_1.Tags),(vB e_1.Gone)])),(n_5,some (.cells 2 [(vI wv_3.From),(vI wv_3.To)])),(n_18,gB 2 Window.enc s_15.1)]:Hp)) p.1 p.2) (fun p=>o_21 = .go p.1) ?_ ?_
   ·refine wH_block (wH_loop (β:=Nat×((List Window)×Int)×Nm) (fun p=>(fun (k_10:Nat) (s_15:(List Window)×Int) (n_18:Nm)=>([(1,(vI zone_2)),(3,(.ref n_4 0 0)),(5,(.ref n_5 0 0)),(7,(gV n_18 2 s_15.1)),(9,(vI (w64 ((w64 ((w64 (wv_3.To + (w64 (zone_2 * 60000)))).tdiv 86400000)) + 1)))),(10,(vI s_15.2))]:List (Nat×V))) p.1 p.2.1 p.2.2) (fun p=>(fun (k_10:Nat) (s_15:(List Window)×Int) (n_18:Nm)=>([(n_4,some (.cells 13 [(vS e_1.Key),(vS e_1.Item),(vI e_1.Version),(vI e_1.First),(vI e_1.Last),(vI e_1.Every),(vI e_1.Days),(vL eI e_1.Except),(vI e_1.From),(vI e_1.To),(vI e_1.Prio),(vL eS e_1.Tags),(vB e_1.Gone)])),(n_5,some (.cells 2 [(vI wv_3.From),(vI wv_3.To)])),(n_18,gB 2 Window.enc s_15.1)]:Hp)) p.1 p.2.1 p.2.2) (fun p=>iterN (fun s=>schedule_times_L1 wv_3 zone_2 e_1 s) p.1 p.2.1=some o_21) (fun p=>p.1) (nq_40,(([]:List Window),(maxI (w64 ((w64 ((w64 (wv_3.From + (w64 (zone_2 * 60000)))).tdiv 86400000)) - 2)) e_1.First)),n_16) hj_22 rfl (pre_r rfl) ?_)
    rintro ⟨k_10,s_15,n_18⟩ hL_20
    dsimp only at hL_20
    cases k_10 with
    | zero=>cases hL_20
    | succ k_10 =>
     obtain ⟨c_,hc_19,hL_20⟩:=bind_some hL_20
     unfold schedule_times_L1 at hc_19
     refine wH_seq (wH_seq (wH_region (h_op (vI s_15.2) wz rfl (h_op (vI (w64 ((w64 ((w64 (wv_3.To + (w64 (zone_2 * 60000)))).tdiv 86400000)) + 1))) wz rfl (h_far pl55_4 rfl 4 rfl wz (h_ldr 0 0 il ft sz3 ag3 rfl rfl (vI e_1.Last) rfl wz (h_minmax (vI (minI (w64 ((w64 ((w64 (wv_3.To + (w64 (zone_2 * 60000)))).tdiv 86400000)) + 1)) e_1.Last)) rfl (.inl rfl) wz (h_op (vB (decide (s_15.2≤(minI (w64 ((w64 ((w64 (wv_3.To + (w64 (zone_2 * 60000)))).tdiv 86400000)) + 1)) e_1.Last)))) wz rfl (h_nil ?_)))))))))
     rcases cond_some hc_19 with⟨hc_23,hc_19⟩ | ⟨hc_23,hc_19⟩
     ·refine wH_ift rfl hc_23 (wH_skip (wH_seq (wH_block (wH_seq (wH_seq (wH_region (h_ldr 0 0 il ft sz55 ag55 rfl rfl (.d (.agg (Entry.enc e_1))) rfl wz (h_op (vI s_15.2) wz rfl ?_))))))))
      obtain ⟨r_24,hr_25,hc_19⟩:=bind_some hc_19
      refine h_call0 (schedule_isDay_ok hr_25) rfl hb80 rfl rfl rfl rfl wz (h_op (vB (!r_24)) wz rfl (h_nil ?_))
      rcases cond_some hc_19 with⟨hc_26,hc_19⟩ | ⟨hc_26,hc_19⟩
      ·refine wH_ift rfl hc_26 (wH_exit (wH_region (h_op (vI s_15.2) wz rfl (h_op (vI (w64 (s_15.2 + 1))) wz rfl (h_op (vI (w64 (s_15.2 + 1))) wz rfl (h_nil ?_))))))
       obtain rfl:=some_inj hc_19
       exact loop_mk (k_10,(s_15.1,(w64 (s_15.2 + 1))),n_18) hL_20 (Nat.lt_succ_self _) rfl (pre_r rfl)
      ·refine wH_iff rfl hc_26 (wH_skip (wH_seq (wH_region (h_ldr 0 0 il ft sz55 ag55 rfl rfl (.d (.agg (Entry.enc e_1))) rfl wz (h_op (vI zone_2) wz rfl (h_op (vI s_15.2) wz rfl ?_))))))
       obtain ⟨r_27,hr_28,hc_19⟩:=bind_some hc_19
       refine h_call0 (schedule_timeOf_ok hr_28) rfl hb81 rfl rfl rfl rfl wz (h_alloc 0 (.inl rfl) z65 rfl wz (fun n_29=>h_str 0 il ft 3 sz65 rfl rfl [(vI r_27.From),(vI r_27.To)] rfl wz (h_nil (wH_seq ?_))))
       obtain ⟨v_30,h_31,hc_19⟩:=bind_some hc_19
       refine wH_join (β:=Unit) (fun _=>([(1,(vI zone_2)),(3,(.ref n_4 0 0)),(5,(.ref n_5 0 0)),(7,(gV n_18 2 s_15.1)),(9,(vI (w64 ((w64 ((w64 (wv_3.To + (w64 (zone_2 * 60000)))).tdiv 86400000)) + 1)))),(10,(vI s_15.2)),(11,(.ref n_29 0 0)),(66,(vB v_30))]:List (Nat×V))) (fun _=>([(n_4,some (.cells 13 [(vS e_1.Key),(vS e_1.Item),(vI e_1.Version),(vI e_1.First),(vI e_1.Last),(vI e_1.Every),(vI e_1.Days),(vL eI e_1.Except),(vI e_1.From),(vI e_1.To),(vI e_1.Prio),(vL eS e_1.Tags),(vB e_1.Gone)])),(n_5,some (.cells 2 [(vI wv_3.From),(vI wv_3.To)])),(n_18,gB 2 Window.enc s_15.1),(n_29,some (.cells 2 [(vI r_27.From),(vI r_27.To)]))]:Hp)) (fun _=>True) ?_ ?_
       ·refine wH_region (h_far pl65_0 rfl 0 rfl wz (h_ldr 0 3 il ft sz3 ag3 rfl rfl (vI r_27.From) rfl wz (h_far pl65_1 rfl 1 rfl wz (h_ldr 0 1 il ft sz3 ag3 rfl rfl (vI wv_3.To) rfl wz (h_op (vB (decide (r_27.From < wv_3.To))) wz rfl ?_)))))
        rcases cond_some h_31 with⟨hc_32,h_31⟩ | ⟨hc_32,h_31⟩
        ·refine h_movb rfl hc_32 wz (h_far pl65_1 rfl 1 rfl wa (h_ldr 0 3 il ft sz3 ag3 rfl rfl (vI r_27.To) rfl wa (h_far pl65_0 rfl 0 rfl wa (h_ldr 0 1 il ft sz3 ag3 rfl rfl (vI wv_3.From) rfl wa (h_op (vB (decide (r_27.To > wv_3.From))) wa rfl (h_op (vB (decide (r_27.To > wv_3.From))) wz rfl (h_nil ?_)))))))
         obtain rfl:=some_inj h_31
         exact cu
        ·refine h_movb rfl hc_32 wz (h_skip wa (h_skip wa (h_skip wa (h_skip wa (h_skip wa (h_op (vB false) wz rfl (h_nil ?_)))))))
         obtain rfl:=some_inj h_31
         exact cu
       ·rintro ⟨⟩ _ sl_ H_ hp_ hq_
        refine wH_at _ hp_ hq_ ?_
        obtain ⟨v_33,h_34,hc_19⟩:=bind_some hc_19
        refine wH_join (β:=Nm) (fun (n_35:Nm)=>([(1,(vI zone_2)),(3,(.ref n_4 0 0)),(5,(.ref n_5 0 0)),(7,(gV n_35 2 v_33)),(9,(vI (w64 ((w64 ((w64 (wv_3.To + (w64 (zone_2 * 60000)))).tdiv 86400000)) + 1)))),(10,(vI s_15.2))]:List (Nat×V))) (fun (n_35:Nm)=>([(n_4,some (.cells 13 [(vS e_1.Key),(vS e_1.Item),(vI e_1.Version),(vI e_1.First),(vI e_1.Last),(vI e_1.Every),(vI e_1.Days),(vL eI e_1.Except),(vI e_1.From),(vI e_1.To),(vI e_1.Prio),(vL eS e_1.Tags),(vB e_1.Gone)])),(n_5,some (.cells 2 [(vI wv_3.From),(vI wv_3.To)])),(n_35,gB 2 Window.enc v_33),(n_29,some (.cells 2 [(vI r_27.From),(vI r_27.To)]))]:Hp)) (fun _=>True) ?_ ?_
        ·rcases cond_some h_34 with⟨hc_36,h_34⟩ | ⟨hc_36,h_34⟩
         ·refine wH_ift rfl hc_36 (wH_region (h_op (gV n_18 2 s_15.1) wz rfl (h_ldr 0 3 il ft sz65 ag65 rfl rfl (.d (.agg (Window.enc r_27))) rfl wz (h_lit (([r_27]:List Window).map Window.enc) es78 ez78 rfl rfl rfl rfl rfl wz ?_))))
          obtain ⟨a_37,hz_38,h_34⟩:=bind_some h_34
          refine h_appg 0 il ft (i:=2) el78 el78 sz65 z65 rfl (by decide) by65 (by decide) (fun _=>rfl) rfl rfl rfl hz_38 wz (fun n_39=>h_op (gV n_39 2 a_37) wz rfl (h_nil ?_))
          obtain rfl:=some_inj h_34
          exact cut_mk n_39 trivial rfl (pre_r rfl)
         ·refine wH_iff rfl hc_36 (wH_skip ?_)
          obtain rfl:=some_inj h_34
          exact cut_mk n_18 trivial rfl (pre_r rfl)
        ·rintro n_35 _ sl_ H_ hp_ hq_
         refine wH_at _ hp_ hq_ (wH_region (h_op (vI s_15.2) wz rfl (h_op (vI (w64 (s_15.2 + 1))) wz rfl (h_op (vI (w64 (s_15.2 + 1))) wz rfl (h_nil ?_)))))
         obtain rfl:=some_inj hc_19
         exact loop_mk (k_10,(v_33,(w64 (s_15.2 + 1))),n_35) hL_20 (Nat.lt_succ_self _) rfl (pre_r rfl)
     ·refine wH_iff rfl hc_23 (wH_exit ?_)
      obtain rfl:=some_inj hc_19
      obtain rfl:=some_inj hL_20
      exact cut_mk ((s_15.1,s_15.2),n_18) rfl rfl (pre_r rfl)
   ·rintro ⟨s_15,n_18⟩ ho_ sl_ H_ hp_ hq_
    subst ho_
    refine wH_at _ hp_ hq_ (wH_seq (wH_region (h_op (gV n_18 2 s_15.1) wz rfl (h_op (gV n_18 2 s_15.1) wz rfl (h_nil (wH_frozg 2 rfl (wH_cog 6 2 rfl rfl (wH_cog 7 2 rfl rfl (wH_cog 71 2 rfl rfl ?_)))))))))
    obtain rfl:=some_inj hF
    exact wH_ret (fin0 (.inr rfl) [(vL Window.enc s_15.1)] ⟨rfl,trivial⟩ rfl rfl rfl)
theorem schedule_spans_ok {l_1:(List Entry)} {p_2:Player} {wv_3:Window} {r:(List Span)} (hF:schedule_spans l_1 p_2 wv_3=some r) :
  FnM Tryz.prog 46 [(vL Entry.enc l_1),(.d (.agg (Player.enc p_2))),(.d (.agg (Window.enc wv_3)))] [] (vL Span.enc r) []:=by
 refine FnM.of_wH ⟨Tryz.prog,47,[],[]⟩ rfl Tryz.func46 rfl rfl (Nat.le_of_ble_eq_true rfl) (by kernel_rfl) ?_
 unfold schedule_spans at hF
 refine wH_seq (wH_region (h_box 0 (.inl rfl) [(vS p_2.Key),(vS p_2.Screen),(vI p_2.Zone),(vL eS p_2.Tags)] rfl rfl wz (fun n_4=>h_box 0 (.inl rfl) [(vI wv_3.From),(vI wv_3.To)] rfl rfl wz (fun n_5=>h_op .nil wz rfl (h_nil (wH_seq (wH_region (h_op .nil wz rfl (h_nil (wH_seq (wH_seq (wH_region (h_op (vL Entry.enc l_1) wz rfl (h_len un26 rfl wz (h_op (vI 0) wz rfl (h_nil (wH_new (fun n_12 => ?_))))))))))))))))))
 obtain ⟨o_17,hj_18,hF⟩:=bind_some hF
 obtain ⟨hn_10,hj_18⟩:=forL_some hj_18
 refine wH_join (β:=((List Span))×Nm) (fun p=>(fun (s_11:(List Span)) (n_14:Nm)=>([(7,(gV n_14 3 s_11))]:List (Nat×V))) p.1 p.2) (fun p=>(fun (s_11:(List Span)) (n_14:Nm)=>([(n_4,some (.cells 4 [(vS p_2.Key),(vS p_2.Screen),(vI p_2.Zone),(vL eS p_2.Tags)])),(n_5,some (.cells 2 [(vI wv_3.From),(vI wv_3.To)])),(n_14,gB 3 Span.enc s_11)]:Hp)) p.1 p.2) (fun p=>o_17 = .go p.1) ?_ ?_
 ·refine wH_block (wH_loop (β:=Nat×(List Entry)×((List Span))×Nm) (fun p=>(fun (k_6:Nat) (l_7:List Entry) (s_11:(List Span)) (n_14:Nm)=>([(0,(vL Entry.enc l_1)),(4,(.ref n_4 0 0)),(5,(.ref n_5 0 0)),(7,(gV n_14 3 s_11)),(12,(vI (l_1.length:Int))),(13,(vI (k_6:Int)))]:List (Nat×V))) p.1 p.2.1 p.2.2.1 p.2.2.2) (fun p=>(fun (k_6:Nat) (l_7:List Entry) (s_11:(List Span)) (n_14:Nm)=>([(n_4,some (.cells 4 [(vS p_2.Key),(vS p_2.Screen),(vI p_2.Zone),(vL eS p_2.Tags)])),(n_5,some (.cells 2 [(vI wv_3.From),(vI wv_3.To)])),(n_14,gB 3 Span.enc s_11)]:Hp)) p.1 p.2.1 p.2.2.1 p.2.2.2) (fun p=>forR (fun k x s=>schedule_spans_L2 p_2 wv_3 l_1 k x s) p.2.1 p.1 p.2.2.1=some o_17∧(l_1).drop p.1=p.2.1) (fun p=>p.2.1.length) (0,l_1,([]:List Span),n_12) ⟨hj_18,rfl⟩ rfl (pre_r rfl) ?_)
  rintro ⟨k_6,l_7,s_11,n_14⟩ ⟨hL_16,hD_9⟩
  dsimp only at hL_16 hD_9
  cases l_7 with
  | nil =>
   obtain rfl:=some_inj hL_16
   refine wH_seq (wH_region (h_op (vB (decide ((k_6:Int) < (l_1.length:Int)))) wz rfl (h_nil ?_)))
   refine wH_seq (wH_iff rfl (drop_nil hD_9) (wH_exit ?_))
   exact cut_mk (s_11,n_14) rfl rfl (pre_r rfl)
  | cons x_8 l_7 =>
   obtain ⟨c_,hc_15,hL_16⟩:=bind_some hL_16
   refine wH_seq (wH_region (h_op (vB (decide ((k_6:Int) < (l_1.length:Int)))) wz rfl (h_nil ?_)))
   refine wH_seq (wH_ift rfl (drop_cons hD_9) (wH_skip ?_))
   unfold schedule_spans_L2 at hc_15
   refine wH_seq (wH_block (wH_seq (wH_region (h_op (vI (k_6:Int)) wz rfl (h_op (vI (k_6:Int)) wz rfl (h_nil (wH_seq (wH_seq (wH_draws (h_op (vL Entry.enc l_1) wz rfl (h_op (vI (k_6:Int)) wz rfl (h_ia es26 rfl rfl (drop_idx hD_9) rfl wz (h_ldc sz55 ag55 rfl (.d (.agg (Entry.enc x_8))) rfl wz (h_ldr 4 0 (.inr (by kernel_rfl)) (fun _ _ ag=>trivial) sz30 ag30 rfl rfl (.d (.agg (Player.enc p_2))) rfl wz ?_))))))))))))))
   obtain ⟨r_19,hr_20,hc_15⟩:=bind_some hc_15
   refine h_call0 (schedule_fits_ok hr_20) rfl hb71 rfl rfl rfl rfl wz (h_op (vB (!r_19)) wz rfl (h_nil ?_))
   rcases cond_some hc_15 with⟨hc_21,hc_15⟩ | ⟨hc_21,hc_15⟩
   ·refine wH_ift rfl hc_21 (wH_exit (wH_region (h_opw (w64_next hD_9 hn_10) wz rfl (h_op (vI ((k_6 + 1:Nat):Int)) wz rfl (h_nil ?_)))))
    obtain rfl:=some_inj hc_15
    exact loop_mk (k_6 + 1,l_7,s_11,n_14) ⟨hL_16,drop_next hD_9⟩ (Nat.lt_succ_self _) rfl (pre_r rfl)
   ·refine wH_iff rfl hc_21 (wH_skip (wH_seq (wH_draws (h_op (vL Entry.enc l_1) wz rfl (h_op (vI (k_6:Int)) wz rfl (h_ia es26 rfl rfl (drop_idx hD_9) rfl wz (h_ldc sz55 ag55 rfl (.d (.agg (Entry.enc x_8))) rfl wz (h_far pl30_2 rfl 2 rfl wz (h_ldr 5 0 (.inr (by kernel_rfl)) (fun _ _ ag=>trivial) sz3 ag3 rfl rfl (vI p_2.Zone) rfl wz (h_ldr 6 1 (.inr (by kernel_rfl)) (fun _ _ ag=>⟨.inl ⟨rfl,rfl⟩,trivial⟩) sz65 ag65 rfl rfl (.d (.agg (Window.enc wv_3))) rfl wz ?_))))))))))
    obtain ⟨r_22,hr_23,hc_15⟩:=bind_some hc_15
    refine h_call0 (schedule_times_ok hr_23) rfl hb59 rfl rfl rfl rfl wz (h_len un78 rfl wz (h_op (vI 0) wz rfl (h_nil ?_)))
    obtain ⟨o_34,hj_35,hc_15⟩:=bind_some hc_15
    obtain ⟨hn_28,hj_35⟩:=forL_some hj_35
    refine wH_join (β:=((List Span))×Nm) (fun p=>(fun (s_29:(List Span)) (n_31:Nm)=>([(0,(vL Entry.enc l_1)),(4,(.ref n_4 0 0)),(5,(.ref n_5 0 0)),(7,(gV n_31 3 s_29)),(12,(vI (l_1.length:Int))),(13,(vI (k_6:Int)))]:List (Nat×V))) p.1 p.2) (fun p=>(fun (s_29:(List Span)) (n_31:Nm)=>([(n_4,some (.cells 4 [(vS p_2.Key),(vS p_2.Screen),(vI p_2.Zone),(vL eS p_2.Tags)])),(n_5,some (.cells 2 [(vI wv_3.From),(vI wv_3.To)])),(n_31,gB 3 Span.enc s_29)]:Hp)) p.1 p.2) (fun p=>o_34 = .go p.1) ?_ ?_
    ·refine wH_block (wH_loop (β:=Nat×(List Window)×((List Span))×Nm) (fun p=>(fun (k_24:Nat) (l_25:List Window) (s_29:(List Span)) (n_31:Nm)=>([(0,(vL Entry.enc l_1)),(4,(.ref n_4 0 0)),(5,(.ref n_5 0 0)),(7,(gV n_31 3 s_29)),(8,(vI (k_6:Int))),(12,(vI (l_1.length:Int))),(13,(vI (k_6:Int))),(30,(vL Window.enc r_22)),(31,(vI (r_22.length:Int))),(32,(vI (k_24:Int)))]:List (Nat×V))) p.1 p.2.1 p.2.2.1 p.2.2.2) (fun p=>(fun (k_24:Nat) (l_25:List Window) (s_29:(List Span)) (n_31:Nm)=>([(n_4,some (.cells 4 [(vS p_2.Key),(vS p_2.Screen),(vI p_2.Zone),(vL eS p_2.Tags)])),(n_5,some (.cells 2 [(vI wv_3.From),(vI wv_3.To)])),(n_31,gB 3 Span.enc s_29)]:Hp)) p.1 p.2.1 p.2.2.1 p.2.2.2) (fun p=>forR (fun k x s=>schedule_spans_L1 l_1 k_6 k x s) p.2.1 p.1 p.2.2.1=some o_34∧(r_22).drop p.1=p.2.1) (fun p=>p.2.1.length) (0,r_22,s_11,n_14) ⟨hj_35,rfl⟩ rfl (pre_r rfl) ?_)
     rintro ⟨k_24,l_25,s_29,n_31⟩ ⟨hL_33,hD_27⟩
     dsimp only at hL_33 hD_27
     cases l_25 with
     | nil =>
      obtain rfl:=some_inj hL_33
      refine wH_seq (wH_region (h_op (vB (decide ((k_24:Int) < (r_22.length:Int)))) wz rfl (h_nil ?_)))
      refine wH_seq (wH_iff rfl (drop_nil hD_27) (wH_exit ?_))
      exact cut_mk (s_29,n_31) rfl rfl (pre_r rfl)
     | cons x_26 l_25 =>
      obtain ⟨c_,hc_32,hL_33⟩:=bind_some hL_33
      refine wH_seq (wH_region (h_op (vB (decide ((k_24:Int) < (r_22.length:Int)))) wz rfl (h_nil ?_)))
      refine wH_seq (wH_ift rfl (drop_cons hD_27) (wH_skip ?_))
      unfold schedule_spans_L1 at hc_32
      refine wH_seq (wH_block (wH_seq (wH_region (h_ia es78 rfl rfl (drop_idx hD_27) rfl wz (h_ldc sz65 ag65 rfl (.d (.agg (Window.enc x_26))) rfl wz (h_alloc 0 (.inl rfl) z65 rfl wz (fun n_36=>h_str 0 il ft 3 sz65 rfl rfl [(vI x_26.From),(vI x_26.To)] rfl wz (h_nil (wH_draws (h_op (gV n_31 3 s_29) wz rfl (h_op (vL Entry.enc l_1) wz rfl (h_op (vI (k_6:Int)) wz rfl ?_))))))))))))
      obtain ⟨y_37,hy_38,hc_32⟩:=bind_some hc_32
      refine h_ia es26 rfl rfl hy_38 rfl wz (h_ldr 4 3 (.inr (by kernel_rfl)) (fun _ _ ag=>trivial) sz65 ag65 rfl rfl (.d (.agg (Window.enc x_26))) rfl wz (h_op (.d (.agg (Span.enc (⟨(some y_37),x_26⟩:Span)))) wz (by kernel_rfl) (h_lit (([(⟨(some y_37),x_26⟩:Span)]:List Span).map Span.enc) es62 ez62 rfl rfl rfl rfl rfl wz ?_)))
      obtain ⟨a_39,hz_40,hc_32⟩:=bind_some hc_32
      refine h_appg 7 (.inr (by kernel_rfl)) (fun _ _ ag=>⟨.inr (.inr (by kernel_rfl)),trivial⟩) (i:=2) el62 el62 sz67 z67 rfl (by decide) by67 (by decide) (fun _=>rfl) rfl rfl rfl hz_40 wz (fun n_41=>h_op (gV n_41 3 a_39) wz rfl (h_nil (wH_region (h_opw (w64_next hD_27 hn_28) wz rfl (h_op (vI ((k_24 + 1:Nat):Int)) wz rfl (h_nil ?_))))))
      obtain rfl:=some_inj hc_32
      exact loop_mk (k_24 + 1,l_25,a_39,n_41) ⟨hL_33,drop_next hD_27⟩ (Nat.lt_succ_self _) rfl (pre_r rfl)
    ·rintro ⟨s_29,n_31⟩ ho_ sl_ H_ hp_ hq_
     subst ho_
     refine wH_at _ hp_ hq_ (wH_region (h_opw (w64_next hD_9 hn_10) wz rfl (h_op (vI ((k_6 + 1:Nat):Int)) wz rfl (h_nil ?_))))
     obtain rfl:=some_inj hc_15
     exact loop_mk (k_6 + 1,l_7,s_29,n_31) ⟨hL_16,drop_next hD_9⟩ (Nat.lt_succ_self _) rfl (pre_r rfl)
 ·rintro ⟨s_11,n_14⟩ ho_ sl_ H_ hp_ hq_
  subst ho_
  refine wH_at _ hp_ hq_ (wH_seq (wH_region (h_op (gV n_14 3 s_11) wz rfl (h_op (gV n_14 3 s_11) wz rfl (h_nil (wH_frozg 2 rfl (wH_cog 6 2 rfl rfl (wH_cog 7 2 rfl rfl (wH_cog 46 2 rfl rfl ?_)))))))))
  obtain rfl:=some_inj hF
  exact wH_ret (fin0 (.inr rfl) [(vL Span.enc s_11)] ⟨rfl,trivial⟩ rfl rfl rfl)
theorem cmp_Compare_int_ok {x_1:Int} {y_2:Int} {r:Int} (hF:cmp_Compare_int x_1 y_2=some r) :
  FnM Tryz.prog 50 [(vI x_1),(vI y_2)] [] (vI r) []:=by
 refine FnM.of_wH ⟨Tryz.prog,20,[],[]⟩ rfl Tryz.func50 rfl rfl (Nat.le_of_ble_eq_true rfl) (by kernel_rfl) ?_
 unfold cmp_Compare_int at hF
 refine wH_seq (wH_region (h_op (vI 0) wz rfl (h_nil (wH_seq (wH_region (h_op (vI x_1) wz rfl ?_))))))
 obtain ⟨r_3,hr_4,hF⟩:=bind_some hF
 refine h_call0 (cmp_isNaN_int_ok hr_4) rfl hb75 rfl rfl rfl rfl wz (h_op (vB r_3) wz rfl (h_nil (wH_seq (wH_region (h_op (vI y_2) wz rfl ?_)))))
 obtain ⟨r_5,hr_6,hF⟩:=bind_some hF
 refine h_call0 (cmp_isNaN_int_ok hr_6) rfl hb75 rfl rfl rfl rfl wz (h_op (vB r_5) wz rfl (h_nil (wH_seq (wH_seq (wH_region (h_op (vB r_3) wz rfl (h_nil ?_)))))))
 rcases cond_some hF with⟨hc_7,hF⟩ | ⟨hc_7,hF⟩
 ·refine wH_ift rfl hc_7 (wH_seq (wH_seq (wH_region (h_op (vB r_5) wz rfl (h_nil ?_)))))
  rcases cond_some hF with⟨hc_8,hF⟩ | ⟨hc_8,hF⟩
  ·refine wH_ift rfl hc_8 (wH_seq (wH_region (h_op (vI 0) wz rfl (h_nil ?_))))
   obtain rfl:=some_inj hF
   exact wH_ret (fin0 (.inr rfl) [(vI 0)] ⟨rfl,trivial⟩ rfl rfl rfl)
  ·refine wH_iff rfl hc_8 (wH_skip (wH_seq (wH_region (h_op (vI (-1)) wz rfl (h_nil ?_)))))
   obtain rfl:=some_inj hF
   exact wH_ret (fin0 (.inr rfl) [(vI (-1))] ⟨rfl,trivial⟩ rfl rfl rfl)
 ·refine wH_iff rfl hc_7 (wH_skip (wH_seq (wH_seq (wH_region (h_op (vB r_5) wz rfl (h_nil ?_))))))
  rcases cond_some hF with⟨hc_9,hF⟩ | ⟨hc_9,hF⟩
  ·refine wH_ift rfl hc_9 (wH_seq (wH_region (h_op (vI 1) wz rfl (h_nil ?_))))
   obtain rfl:=some_inj hF
   exact wH_ret (fin0 (.inr rfl) [(vI 1)] ⟨rfl,trivial⟩ rfl rfl rfl)
  ·refine wH_iff rfl hc_9 (wH_skip (wH_seq (wH_seq (wH_region (h_op (vI x_1) wz rfl (h_op (vI y_2) wz rfl (h_op (vB (decide (x_1 < y_2))) wz rfl (h_nil ?_))))))))
   rcases cond_some hF with⟨hc_10,hF⟩ | ⟨hc_10,hF⟩
   ·refine wH_ift rfl hc_10 (wH_seq (wH_region (h_op (vI (-1)) wz rfl (h_nil ?_))))
    obtain rfl:=some_inj hF
    exact wH_ret (fin0 (.inr rfl) [(vI (-1))] ⟨rfl,trivial⟩ rfl rfl rfl)
   ·refine wH_iff rfl hc_10 (wH_skip (wH_seq (wH_seq (wH_region (h_op (vI x_1) wz rfl (h_op (vI y_2) wz rfl (h_op (vB (decide (x_1 > y_2))) wz rfl (h_nil ?_))))))))
    rcases cond_some hF with⟨hc_11,hF⟩ | ⟨hc_11,hF⟩
    ·refine wH_ift rfl hc_11 (wH_seq (wH_region (h_op (vI 1) wz rfl (h_nil ?_))))
     obtain rfl:=some_inj hF
     exact wH_ret (fin0 (.inr rfl) [(vI 1)] ⟨rfl,trivial⟩ rfl rfl rfl)
    ·refine wH_iff rfl hc_11 (wH_skip (wH_seq (wH_region (h_op (vI 0) wz rfl (h_nil ?_)))))
     obtain rfl:=some_inj hF
     exact wH_ret (fin0 (.inr rfl) [(vI 0)] ⟨rfl,trivial⟩ rfl rfl rfl)
theorem internal_bytealg_CompareString_ok {a_1:ByteArray} {b_2:ByteArray} {r:Int} (hF:internal_bytealg_CompareString a_1 b_2=some r) :
  FnM Tryz.prog 89 [(vS a_1),(vS b_2)] [] (vI r) []:=by
 refine FnM.of_wH ⟨Tryz.prog,8,[],[]⟩ rfl Tryz.func89 rfl rfl (Nat.le_of_ble_eq_true rfl) (by kernel_rfl) ?_
 unfold internal_bytealg_CompareString at hF
 refine wH_seq (wH_region (h_op (vI 0) wz rfl (h_nil (wH_seq (wH_region (h_op (vS a_1) wz rfl (h_op (vS b_2) wz rfl (h_ext (ext_cmpB (f:=118) Tryz.func118 rfl rfl (by kernel_rfl) (by kernel_rfl) _ _) rfl nb118 rfl wz (h_op (vI (cmpB a_1 b_2)) wz rfl (h_nil ?_))))))))))
 obtain rfl:=some_inj hF
 exact wH_ret (fin0 (.inr rfl) [(vI (cmpB a_1 b_2))] ⟨rfl,trivial⟩ rfl rfl rfl)
theorem strings_Compare_ok {a_1:ByteArray} {b_2:ByteArray} {r:Int} (hF:strings_Compare a_1 b_2=some r) :
  FnM Tryz.prog 66 [(vS a_1),(vS b_2)] [] (vI r) []:=by
 refine FnM.of_wH ⟨Tryz.prog,8,[],[]⟩ rfl Tryz.func66 rfl rfl (Nat.le_of_ble_eq_true rfl) (by kernel_rfl) ?_
 unfold strings_Compare at hF
 refine wH_seq (wH_region (h_op (vI 0) wz rfl (h_nil (wH_seq (wH_region (h_op (vS a_1) wz rfl (h_op (vS b_2) wz rfl ?_)))))))
 obtain ⟨r_3,hr_4,hF⟩:=bind_some hF
 refine h_call0 (internal_bytealg_CompareString_ok hr_4) rfl hb89 rfl rfl rfl rfl wz (h_op (vI r_3) wz rfl (h_nil ?_))
 obtain rfl:=some_inj hF
 exact wH_ret (fin0 (.inr rfl) [(vI r_3)] ⟨rfl,trivial⟩ rfl rfl rfl)
theorem cmp_Or_int_ok {vals_1:(List Int)} {r:Int} (hF:cmp_Or_int vals_1=some r) :
  FnM Tryz.prog 74 [(vL eI vals_1)] [] (vI r) []:=by
 refine FnM.of_wH ⟨Tryz.prog,18,[],[]⟩ rfl Tryz.func74 rfl rfl (Nat.le_of_ble_eq_true rfl) (by kernel_rfl) ?_
 unfold cmp_Or_int at hF
 refine wH_seq (wH_region (h_op (vI 0) wz rfl (h_nil (wH_seq (wH_region (h_op (vI 0) wz rfl (h_nil (wH_seq (wH_seq (wH_region (h_op (vL eI vals_1) wz rfl (h_len un22 rfl wz (h_op (vI 0) wz rfl (h_nil ?_))))))))))))))
 obtain ⟨o_10,hj_11,hF⟩:=bind_some hF
 obtain ⟨hn_6,hj_11⟩:=forL_some hj_11
 refine wH_join (β:=(Unit)) (fun (s_7:Unit)=>([(3,(vI 0))]:List (Nat×V))) (fun (s_7:Unit)=>([]:Hp)) (fun p=>o_10 = .go p) ?_ ?_
 ·refine wH_block (wH_loop (β:=Nat×(List Int)×(Unit)) (fun p=>(fun (k_2:Nat) (l_3:List Int) (s_7:Unit)=>([(3,(vI 0)),(6,(vL eI vals_1)),(7,(vI (vals_1.length:Int))),(8,(vI (k_2:Int)))]:List (Nat×V))) p.1 p.2.1 p.2.2) (fun p=>(fun (k_2:Nat) (l_3:List Int) (s_7:Unit)=>([]:Hp)) p.1 p.2.1 p.2.2) (fun p=>forR (fun k x s=>cmp_Or_int_L1 k x s) p.2.1 p.1 p.2.2=some o_10∧(vals_1).drop p.1=p.2.1) (fun p=>p.2.1.length) (0,vals_1,()) ⟨hj_11,rfl⟩ rfl (pre_r rfl) ?_)
  rintro ⟨k_2,l_3,s_7⟩ ⟨hL_9,hD_5⟩
  dsimp only at hL_9 hD_5
  cases l_3 with
  | nil =>
   obtain rfl:=some_inj hL_9
   refine wH_seq (wH_region (h_op (vB (decide ((k_2:Int) < (vals_1.length:Int)))) wz rfl (h_nil ?_)))
   refine wH_seq (wH_iff rfl (drop_nil hD_5) (wH_exit ?_))
   exact cut_mk (s_7) rfl rfl (pre_r rfl)
  | cons x_4 l_3 =>
   obtain ⟨c_,hc_8,hL_9⟩:=bind_some hL_9
   refine wH_seq (wH_region (h_op (vB (decide ((k_2:Int) < (vals_1.length:Int)))) wz rfl (h_nil ?_)))
   refine wH_seq (wH_ift rfl (drop_cons hD_5) (wH_skip ?_))
   unfold cmp_Or_int_L1 at hc_8
   refine wH_seq (wH_block (wH_seq (wH_region (h_ia es22 rfl rfl (drop_idx hD_5) rfl wz (h_ldc sz3 ag3 rfl (vI x_4) rfl wz (h_op (vI x_4) wz rfl (h_nil (wH_seq (wH_region (h_op (vI x_4) wz rfl (h_op (vI 0) wz rfl (h_op (vB (x_4 != 0)) wz rfl (h_nil ?_)))))))))))))
   rcases cond_some hc_8 with⟨hc_12,hc_8⟩ | ⟨hc_12,hc_8⟩
   ·refine wH_ift rfl hc_12 (wH_seq (wH_region (h_op (vI x_4) wz rfl (h_op (vI x_4) wz rfl (h_nil ?_)))))
    obtain rfl:=some_inj hc_8
    obtain rfl:=some_inj hL_9
    obtain rfl:=some_inj hF
    exact wH_ret (fin0 (.inr rfl) [(vI x_4)] ⟨rfl,trivial⟩ rfl rfl rfl)
   ·refine wH_iff rfl hc_12 (wH_skip (wH_region (h_opw (w64_next hD_5 hn_6) wz rfl (h_op (vI ((k_2 + 1:Nat):Int)) wz rfl (h_nil ?_)))))
    obtain rfl:=some_inj hc_8
    exact loop_mk (k_2 + 1,l_3,()) ⟨hL_9,drop_next hD_5⟩ (Nat.lt_succ_self _) rfl (pre_r rfl)
 ·rintro s_7 ho_ sl_ H_ hp_ hq_
  subst ho_
  refine wH_at _ hp_ hq_ (wH_seq (wH_region (h_op (vI 0) wz rfl (h_op (vI 0) wz rfl (h_nil ?_)))))
  obtain rfl:=some_inj hF
  exact wH_ret (fin0 (.inr rfl) [(vI 0)] ⟨rfl,trivial⟩ rfl rfl rfl)
theorem schedule_compare_ok {a_1:Span} {b_2:Span} {r:Int} (hF:schedule_compare a_1 b_2=some r) :
  FnM Tryz.prog 48 [(.d (.agg (Span.enc a_1))),(.d (.agg (Span.enc b_2)))] [] (vI r) []:=by
 refine FnM.of_wH ⟨Tryz.prog,36,[],[]⟩ rfl Tryz.func48 rfl rfl (Nat.le_of_ble_eq_true rfl) (by kernel_rfl) ?_
 unfold schedule_compare at hF
 refine wH_seq (wH_region (h_box 0 (.inl rfl) [(.d (dP Entry.enc a_1.f_e)),(vI a_1.f_time.From),(vI a_1.f_time.To)] rfl (one_cons (oneV_dP _ _) (one_cons rfl (one_cons rfl rfl))) wz (fun n_3=>h_box 0 (.inl rfl) [(.d (dP Entry.enc b_2.f_e)),(vI b_2.f_time.From),(vI b_2.f_time.To)] rfl (one_cons (oneV_dP _ _) (one_cons rfl (one_cons rfl rfl))) wz (fun n_4=>h_op (vI 0) wz rfl (h_nil (wH_seq (wH_draws (h_far pl67_0 rfl 0 rfl wz (h_ldr 1 1 (.inr (by kernel_rfl)) (fun _ _ ag=>trivial) sz53 ag53 rfl rfl (.d (dP Entry.enc b_2.f_e)) rfl wz ?_)))))))))
 obtain ⟨y_5,hy_6,hF⟩:=bind_some hF
 refine h_re (v':=(.d (.ptr [.str y_5.Key,.str y_5.Item,.int .i64 y_5.Version,.int .i64 y_5.First,.int .i64 y_5.Last,.int .i64 y_5.Every,.int .i64 y_5.Days,dl eI y_5.Except,.int .i64 y_5.From,.int .i64 y_5.To,.int .i64 y_5.Prio,dl eS y_5.Tags,.bool y_5.Gone]))) 6 rfl (dP_some (enc:=Entry.enc) (y:=y_5) hy_6) (h_op (.d (.ptr [.str y_5.Key,.str y_5.Item,.int .i64 y_5.Version,.int .i64 y_5.First,.int .i64 y_5.Last,.int .i64 y_5.Every,.int .i64 y_5.Days,dl eI y_5.Except,.int .i64 y_5.From,.int .i64 y_5.To,.int .i64 y_5.Prio,dl eS y_5.Tags,.bool y_5.Gone])) wz rfl (h_fac pl55_10 rfl [.int .i64 y_5.Prio,dl eS y_5.Tags,.bool y_5.Gone] rfl rfl wz (h_ldc sz3 ag3 rfl (vI y_5.Prio) rfl wz (h_far pl67_0 rfl 0 rfl wz (h_ldr 6 0 (.inr (by kernel_rfl)) (fun _ _ ag=>⟨.inl ⟨rfl,rfl⟩,trivial⟩) sz53 ag53 rfl rfl (.d (dP Entry.enc a_1.f_e)) rfl wz ?_)))))
 obtain ⟨y_7,hy_8,hF⟩:=bind_some hF
 refine h_re (v':=(.d (.ptr [.str y_7.Key,.str y_7.Item,.int .i64 y_7.Version,.int .i64 y_7.First,.int .i64 y_7.Last,.int .i64 y_7.Every,.int .i64 y_7.Days,dl eI y_7.Except,.int .i64 y_7.From,.int .i64 y_7.To,.int .i64 y_7.Prio,dl eS y_7.Tags,.bool y_7.Gone]))) 11 rfl (dP_some (enc:=Entry.enc) (y:=y_7) hy_8) (h_op (.d (.ptr [.str y_7.Key,.str y_7.Item,.int .i64 y_7.Version,.int .i64 y_7.First,.int .i64 y_7.Last,.int .i64 y_7.Every,.int .i64 y_7.Days,dl eI y_7.Except,.int .i64 y_7.From,.int .i64 y_7.To,.int .i64 y_7.Prio,dl eS y_7.Tags,.bool y_7.Gone])) wz rfl (h_fac pl55_10 rfl [.int .i64 y_7.Prio,dl eS y_7.Tags,.bool y_7.Gone] rfl rfl wz (h_ldc sz3 ag3 rfl (vI y_7.Prio) rfl wz ?_)))
 obtain ⟨r_9,hr_10,hF⟩:=bind_some hF
 refine h_call0 (cmp_Compare_int_ok hr_10) rfl hb50 rfl rfl rfl rfl wz (h_far pl67_1 rfl 1 rfl wz (h_far pl65_0 rfl 1 rfl wz (h_ldr 13 1 (.inr (by kernel_rfl)) (fun _ _ ag=>⟨.inl ⟨rfl,rfl⟩,⟨.inl ⟨rfl,rfl⟩,trivial⟩⟩) sz3 ag3 rfl rfl (vI b_2.f_time.From) rfl wz (h_far pl67_1 rfl 1 rfl wz (h_far pl65_0 rfl 1 rfl wz (h_ldr 16 0 (.inr (by kernel_rfl)) (fun _ _ ag=>⟨.inl ⟨rfl,rfl⟩,⟨.inl ⟨rfl,rfl⟩,⟨.inl ⟨rfl,rfl⟩,trivial⟩⟩⟩) sz3 ag3 rfl rfl (vI a_1.f_time.From) rfl wz ?_))))))
 obtain ⟨r_11,hr_12,hF⟩:=bind_some hF
 refine h_call0 (cmp_Compare_int_ok hr_12) rfl hb50 rfl rfl rfl rfl wz (h_far pl67_0 rfl 0 rfl wz (h_ldr 19 1 (.inr (by kernel_rfl)) (fun _ _ ag=>⟨.inl ⟨rfl,rfl⟩,⟨.inl ⟨rfl,rfl⟩,⟨.inl ⟨rfl,rfl⟩,⟨.inl ⟨rfl,rfl⟩,trivial⟩⟩⟩⟩) sz53 ag53 rfl rfl (.d (dP Entry.enc b_2.f_e)) rfl wz ?_))
 obtain ⟨y_13,hy_14,hF⟩:=bind_some hF
 refine h_re (v':=(.d (.ptr [.str y_13.Key,.str y_13.Item,.int .i64 y_13.Version,.int .i64 y_13.First,.int .i64 y_13.Last,.int .i64 y_13.Every,.int .i64 y_13.Days,dl eI y_13.Except,.int .i64 y_13.From,.int .i64 y_13.To,.int .i64 y_13.Prio,dl eS y_13.Tags,.bool y_13.Gone]))) 24 rfl (dP_some (enc:=Entry.enc) (y:=y_13) hy_14) (h_op (.d (.ptr [.str y_13.Key,.str y_13.Item,.int .i64 y_13.Version,.int .i64 y_13.First,.int .i64 y_13.Last,.int .i64 y_13.Every,.int .i64 y_13.Days,dl eI y_13.Except,.int .i64 y_13.From,.int .i64 y_13.To,.int .i64 y_13.Prio,dl eS y_13.Tags,.bool y_13.Gone])) wz rfl (h_fac pl55_0 rfl [.str y_13.Key,.str y_13.Item,.int .i64 y_13.Version,.int .i64 y_13.First,.int .i64 y_13.Last,.int .i64 y_13.Every,.int .i64 y_13.Days,dl eI y_13.Except,.int .i64 y_13.From,.int .i64 y_13.To,.int .i64 y_13.Prio,dl eS y_13.Tags,.bool y_13.Gone] rfl rfl wz (h_ldc sz9 ag9 rfl (vS y_13.Key) rfl wz (h_far pl67_0 rfl 0 rfl wz (h_ldr 24 0 (.inr (by kernel_rfl)) (fun _ _ ag=>⟨.inl ⟨rfl,rfl⟩,⟨.inl ⟨rfl,rfl⟩,⟨.inl ⟨rfl,rfl⟩,⟨.inl ⟨rfl,rfl⟩,⟨.inl ⟨rfl,rfl⟩,trivial⟩⟩⟩⟩⟩) sz53 ag53 rfl rfl (.d (dP Entry.enc a_1.f_e)) rfl wz ?_)))))
 obtain ⟨y_15,hy_16,hF⟩:=bind_some hF
 refine h_re (v':=(.d (.ptr [.str y_15.Key,.str y_15.Item,.int .i64 y_15.Version,.int .i64 y_15.First,.int .i64 y_15.Last,.int .i64 y_15.Every,.int .i64 y_15.Days,dl eI y_15.Except,.int .i64 y_15.From,.int .i64 y_15.To,.int .i64 y_15.Prio,dl eS y_15.Tags,.bool y_15.Gone]))) 29 rfl (dP_some (enc:=Entry.enc) (y:=y_15) hy_16) (h_op (.d (.ptr [.str y_15.Key,.str y_15.Item,.int .i64 y_15.Version,.int .i64 y_15.First,.int .i64 y_15.Last,.int .i64 y_15.Every,.int .i64 y_15.Days,dl eI y_15.Except,.int .i64 y_15.From,.int .i64 y_15.To,.int .i64 y_15.Prio,dl eS y_15.Tags,.bool y_15.Gone])) wz rfl (h_fac pl55_0 rfl [.str y_15.Key,.str y_15.Item,.int .i64 y_15.Version,.int .i64 y_15.First,.int .i64 y_15.Last,.int .i64 y_15.Every,.int .i64 y_15.Days,dl eI y_15.Except,.int .i64 y_15.From,.int .i64 y_15.To,.int .i64 y_15.Prio,dl eS y_15.Tags,.bool y_15.Gone] rfl rfl wz (h_ldc sz9 ag9 rfl (vS y_15.Key) rfl wz ?_)))
 obtain ⟨r_17,hr_18,hF⟩:=bind_some hF
 refine h_call0 (strings_Compare_ok hr_18) rfl hb66 rfl rfl rfl rfl wz (h_lit (([r_9,r_11,r_17]:List Int).map eI) es22 ez22 rfl rfl rfl rfl rfl wz ?_)
 obtain ⟨r_19,hr_20,hF⟩:=bind_some hF
 refine h_call0 (cmp_Or_int_ok hr_20) rfl hb74 rfl rfl rfl rfl wz (h_op (vI r_19) wz rfl (h_nil (wH_at (H0:=([(n_3,some (.cells 3 [(.d (dP Entry.enc a_1.f_e)),(vI a_1.f_time.From),(vI a_1.f_time.To)])),(n_4,some (.cells 3 [(.d (dP Entry.enc b_2.f_e)),(vI b_2.f_time.From),(vI b_2.f_time.To)]))]:Hp)) ([(4,(vI r_19))]:List (Nat×V)) (by kernel_rfl) (pre_mk (by kernel_rfl)) ?_)))
 obtain rfl:=some_inj hF
 exact wH_ret (fin0 (.inr rfl) [(vI r_19)] ⟨rfl,trivial⟩ rfl rfl rfl)
theorem math_bits_Len64_ok {x_1:Int} {r:Int} (hF:math_bits_Len64 x_1=some r) :
  FnM Tryz.prog 103 [(.d (.int .u64 x_1))] [] (vI r) []:=by
 refine FnM.of_wH ⟨Tryz.prog,25,[],[]⟩ rfl Tryz.func103 rfl rfl (Nat.le_of_ble_eq_true rfl) (by kernel_rfl) ?_
 unfold math_bits_Len64 at hF
 refine wH_seq (wH_region (h_op (vI 0) wz rfl (h_nil (wH_seq (wH_seq (wH_region (h_op (.d (.int .u64 x_1)) wz rfl (h_op (vB (decide (x_1≥4294967296))) wz rfl (h_nil ?_)))))))))
 obtain ⟨v_2,h_3,hF⟩:=bind_some hF
 refine wH_join (β:=Unit) (fun _=>([(0,(.d (.int .u64 v_2.1))),(2,(vI v_2.2))]:List (Nat×V))) (fun _=>([]:Hp)) (fun _=>True) ?_ ?_
 ·rcases cond_some h_3 with⟨hc_4,h_3⟩ | ⟨hc_4,h_3⟩
  ·refine wH_ift rfl hc_4 (wH_seq (wH_region (h_op (.d (.int .u64 x_1)) wz rfl ?_)))
   obtain ⟨q_5,hz_6,h_3⟩:=bind_some h_3
   refine h_shr rfl rfl hz_6 wz (h_op (.d (.int .u64 q_5)) wz rfl (h_nil (wH_region (h_op (vI 32) wz rfl (h_nil ?_)))))
   obtain rfl:=some_inj h_3
   exact cu
  ·refine wH_iff rfl hc_4 (wH_skip ?_)
   obtain rfl:=some_inj h_3
   exact cu
 ·rintro ⟨⟩ _ sl_ H_ hp_ hq_
  refine wH_at _ hp_ hq_ (wH_seq (wH_seq (wH_region (h_op (.d (.int .u64 v_2.1)) wz rfl (h_op (vB (decide (v_2.1≥65536))) wz rfl (h_nil ?_))))))
  obtain ⟨v_7,h_8,hF⟩:=bind_some hF
  refine wH_join (β:=Unit) (fun _=>([(0,(.d (.int .u64 v_7.1))),(2,(vI v_7.2))]:List (Nat×V))) (fun _=>([]:Hp)) (fun _=>True) ?_ ?_
  ·rcases cond_some h_8 with⟨hc_9,h_8⟩ | ⟨hc_9,h_8⟩
   ·refine wH_ift rfl hc_9 (wH_seq (wH_region (h_op (.d (.int .u64 v_2.1)) wz rfl ?_)))
    obtain ⟨q_10,hz_11,h_8⟩:=bind_some h_8
    refine h_shr rfl rfl hz_11 wz (h_op (.d (.int .u64 q_10)) wz rfl (h_nil (wH_region (h_op (vI v_2.2) wz rfl (h_op (vI (w64 (v_2.2 + 16))) wz rfl (h_op (vI (w64 (v_2.2 + 16))) wz rfl (h_nil ?_)))))))
    obtain rfl:=some_inj h_8
    exact cu
   ·refine wH_iff rfl hc_9 (wH_skip ?_)
    obtain rfl:=some_inj h_8
    exact cu
  ·rintro ⟨⟩ _ sl_ H_ hp_ hq_
   refine wH_at _ hp_ hq_ (wH_seq (wH_seq (wH_region (h_op (.d (.int .u64 v_7.1)) wz rfl (h_op (vB (decide (v_7.1≥256))) wz rfl (h_nil ?_))))))
   obtain ⟨v_12,h_13,hF⟩:=bind_some hF
   refine wH_join (β:=Unit) (fun _=>([(0,(.d (.int .u64 v_12.1))),(2,(vI v_12.2))]:List (Nat×V))) (fun _=>([]:Hp)) (fun _=>True) ?_ ?_
   ·rcases cond_some h_13 with⟨hc_14,h_13⟩ | ⟨hc_14,h_13⟩
    ·refine wH_ift rfl hc_14 (wH_seq (wH_region (h_op (.d (.int .u64 v_7.1)) wz rfl ?_)))
     obtain ⟨q_15,hz_16,h_13⟩:=bind_some h_13
     refine h_shr rfl rfl hz_16 wz (h_op (.d (.int .u64 q_15)) wz rfl (h_nil (wH_region (h_op (vI v_7.2) wz rfl (h_op (vI (w64 (v_7.2 + 8))) wz rfl (h_op (vI (w64 (v_7.2 + 8))) wz rfl (h_nil ?_)))))))
     obtain rfl:=some_inj h_13
     exact cu
    ·refine wH_iff rfl hc_14 (wH_skip ?_)
     obtain rfl:=some_inj h_13
     exact cu
   ·rintro ⟨⟩ _ sl_ H_ hp_ hq_
    refine wH_at _ hp_ hq_ (wH_seq (wH_region (h_op (vI v_12.2) wz rfl (h_op (.d (.int .u64 v_12.1)) wz rfl (h_conv un126 un5 rfl wz ?_)))))
    obtain ⟨b_17,hy_18,hF⟩:=bind_some hF
    refine h_idxs un9 rfl rfl hy_18 wz (h_conv un5 un3 rfl wz (h_op (vI (w64 (v_12.2 + (w64 (b_17.toNat:Int))))) wz rfl (h_op (vI (w64 (v_12.2 + (w64 (b_17.toNat:Int))))) wz rfl (h_nil ?_))))
    obtain rfl:=some_inj hF
    exact wH_ret (fin0 (.inr rfl) [(vI (w64 (v_12.2 + (w64 (b_17.toNat:Int)))))] ⟨rfl,trivial⟩ rfl rfl rfl)
theorem math_bits_Len_ok {x_1:Int} {r:Int} (hF:math_bits_Len x_1=some r) :
  FnM Tryz.prog 73 [(.d (.int .u64 x_1))] [] (vI r) []:=by
 refine FnM.of_wH ⟨Tryz.prog,8,[],[]⟩ rfl Tryz.func73 rfl rfl (Nat.le_of_ble_eq_true rfl) (by kernel_rfl) ?_
 unfold math_bits_Len at hF
 refine wH_seq (wH_region (h_op (vI 0) wz rfl (h_nil (wH_seq (wH_iff rfl rfl (wH_skip (wH_seq (wH_region (h_op (.d (.int .u64 x_1)) wz rfl ?_)))))))))
 obtain ⟨r_2,hr_3,hF⟩:=bind_some hF
 refine h_call0 (math_bits_Len64_ok hr_3) rfl hb103 rfl rfl rfl rfl wz (h_op (vI r_2) wz rfl (h_nil ?_))
 obtain rfl:=some_inj hF
 exact wH_ret (fin0 (.inr rfl) [(vI r_2)] ⟨rfl,trivial⟩ rfl rfl rfl)
theorem slices_insertionSortCmpFunc_schedule_span_v1_ok {data_1:(List Span)} {a_2:Int} {b_3:Int} {r:(List Span)} (hF:slices_insertionSortCmpFunc_schedule_span_v1 data_1 a_2 b_3=some r) :
  FnM Tryz.prog 94 [(dV (extN 0) 3 data_1),(vI a_2),(vI b_3),(.fn 48 [])] (([]:List Box)++gI 3 Span.enc data_1) (.tup []) (([]:List Box).map some++gT data_1 (gB 3 Span.enc r)):=by
 refine FnM.of_wHv ⟨Tryz.prog,53,[],[]⟩ rfl Tryz.func94 rfl rfl (Nat.le_of_ble_eq_true rfl) (by kernel_rfl) ?_
 unfold slices_insertionSortCmpFunc_schedule_span_v1 at hF
 refine wH_seq (wH_region (h_op (vI a_2) wz rfl (h_op (vI (w64 (a_2 + 1))) wz rfl (h_op (vI (w64 (a_2 + 1))) wz rfl (h_nil ?_)))))
 obtain ⟨o_13,hj_14,hF⟩:=bind_some hF
 obtain ⟨nq_51,hj_14⟩:=loopO_iter hj_14
 refine wH_join (β:=((List Span)×Int)) (fun (s_10:(List Span)×Int)=>([]:List (Nat×V))) (fun (s_10:(List Span)×Int)=>([((extN 0),gB 3 Span.enc s_10.1)]:Hp)) (fun p=>o_13 = .go p) ?_ ?_
 ·refine wH_block (wH_loop (β:=Nat×((List Span)×Int)) (fun p=>(fun (k_5:Nat) (s_10:(List Span)×Int)=>([(0,(dV (extN 0) 3 s_10.1)),(1,(vI a_2)),(2,(vI b_3)),(3,(.fn 48 [])),(8,(vI s_10.2))]:List (Nat×V))) p.1 p.2) (fun p=>(fun (k_5:Nat) (s_10:(List Span)×Int)=>([((extN 0),gB 3 Span.enc s_10.1)]:Hp)) p.1 p.2) (fun p=>iterN (fun s=>slices_insertionSortCmpFunc_schedule_span_v1_L2 b_3 a_2 s) p.1 p.2=some o_13) (fun p=>p.1) (nq_51,(data_1,(w64 (a_2 + 1)))) hj_14 rfl (pre_r rfl) ?_)
  rintro ⟨k_5,s_10⟩ hL_12
  dsimp only at hL_12
  cases k_5 with
  | zero=>cases hL_12
  | succ k_5 =>
   obtain ⟨c_,hc_11,hL_12⟩:=bind_some hL_12
   unfold slices_insertionSortCmpFunc_schedule_span_v1_L2 at hc_11
   refine wH_seq (wH_seq (wH_region (h_op (vI s_10.2) wz rfl (h_op (vI b_3) wz rfl (h_op (vB (decide (s_10.2 < b_3))) wz rfl (h_nil ?_))))))
   rcases cond_some hc_11 with⟨hc_15,hc_11⟩ | ⟨hc_15,hc_11⟩
   ·refine wH_ift rfl hc_15 (wH_skip (wH_seq (wH_block (wH_seq (wH_region (h_op (vI s_10.2) wz rfl (h_op (vI s_10.2) wz rfl (h_nil ?_))))))))
    obtain ⟨o_24,hj_25,hc_11⟩:=bind_some hc_11
    obtain ⟨nq_50,hj_25⟩:=loopO_iter hj_25
    refine wH_join (β:=((List Span)×Int)) (fun (s_21:(List Span)×Int)=>([(0,(dV (extN 0) 3 s_21.1)),(1,(vI a_2)),(2,(vI b_3)),(3,(.fn 48 [])),(8,(vI s_10.2))]:List (Nat×V))) (fun (s_21:(List Span)×Int)=>([((extN 0),gB 3 Span.enc s_21.1)]:Hp)) (fun p=>o_24 = .go p) ?_ ?_
    ·refine wH_block (wH_loop (β:=Nat×((List Span)×Int)) (fun p=>(fun (k_16:Nat) (s_21:(List Span)×Int)=>([(0,(dV (extN 0) 3 s_21.1)),(1,(vI a_2)),(2,(vI b_3)),(3,(.fn 48 [])),(8,(vI s_10.2)),(9,(vI s_21.2))]:List (Nat×V))) p.1 p.2) (fun p=>(fun (k_16:Nat) (s_21:(List Span)×Int)=>([((extN 0),gB 3 Span.enc s_21.1)]:Hp)) p.1 p.2) (fun p=>iterN (fun s=>slices_insertionSortCmpFunc_schedule_span_v1_L1 a_2 s) p.1 p.2=some o_24) (fun p=>p.1) (nq_50,(s_10.1,s_10.2)) hj_25 rfl (pre_r rfl) ?_)
     rintro ⟨k_16,s_21⟩ hL_23
     dsimp only at hL_23
     cases k_16 with
     | zero=>cases hL_23
     | succ k_16 =>
      obtain ⟨c_,hc_22,hL_23⟩:=bind_some hL_23
      unfold slices_insertionSortCmpFunc_schedule_span_v1_L1 at hc_22
      refine wH_seq (wH_seq ?_)
      obtain ⟨v_26,h_27,hc_22⟩:=bind_some hc_22
      refine wH_join (β:=Unit) (fun _=>([(0,(dV (extN 0) 3 s_21.1)),(1,(vI a_2)),(2,(vI b_3)),(3,(.fn 48 [])),(8,(vI s_10.2)),(9,(vI s_21.2)),(34,(vB v_26))]:List (Nat×V))) (fun _=>([((extN 0),gB 3 Span.enc s_21.1)]:Hp)) (fun _=>True) ?_ ?_
      ·refine wH_draws (h_op (vI s_21.2) wz rfl (h_op (vI a_2) wz rfl (h_op (vB (decide (s_21.2 > a_2))) wz rfl ?_)))
       rcases cond_some h_27 with⟨hc_28,h_27⟩ | ⟨hc_28,h_27⟩
       ·refine h_movb rfl hc_28 wz (h_op (.fn 48 []) wa rfl (h_op (dV (extN 0) 3 s_21.1) wa rfl (h_op (vI s_21.2) wa rfl ?_)))
        obtain ⟨_,hi_29,h_27⟩:=bind_some h_27
        refine h_iavd es62 rfl rfl (inR_0 hi_29) (inR_lt hi_29) wa ?_
        obtain ⟨e_30,hy_31,h_27⟩:=bind_some h_27
        refine h_ldvg 8 0 (.inr (by kernel_rfl)) (fun _ _ ag=>trivial) sz67 ag67 rfl rfl hy_31 (.d (.agg (Span.enc e_30))) rfl wa (h_op (dV (extN 0) 3 s_21.1) wa rfl (h_op (vI s_21.2) wa rfl (h_op (vI (w64 (s_21.2 - 1))) wa rfl ?_)))
        obtain ⟨_,hi_32,h_27⟩:=bind_some h_27
        refine h_iavd es62 rfl rfl (inR_0 hi_32) (inR_lt hi_32) wa ?_
        obtain ⟨e_33,hy_34,h_27⟩:=bind_some h_27
        refine h_ldvg 13 0 (.inr (by kernel_rfl)) (fun _ _ ag=>⟨.inl ⟨rfl,rfl⟩,trivial⟩) sz67 ag67 rfl rfl hy_34 (.d (.agg (Span.enc e_33))) rfl wa ?_
        obtain ⟨r_35,hr_36,h_27⟩:=bind_some h_27
        refine h_call0 (schedule_compare_ok hr_36) rfl hb48 rfl rfl rfl rfl wa (h_op (vB (decide (r_35 < 0))) wa rfl (h_op (vB (decide (r_35 < 0))) wz rfl (h_nil ?_)))
        obtain rfl:=some_inj h_27
        exact cu
       ·refine h_movb rfl hc_28 wz (h_skip wa (h_skip wa (h_skip wa (h_skip wa (h_skip wa (h_skip wa (h_skip wa (h_skip wa (h_skip wa (h_skip wa (h_skip wa (h_skip wa (h_op (vB false) wz rfl (h_nil ?_))))))))))))))
        obtain rfl:=some_inj h_27
        exact cu
      ·rintro ⟨⟩ _ sl_ H_ hp_ hq_
       refine wH_at _ hp_ hq_ ?_
       rcases cond_some hc_22 with⟨hc_37,hc_22⟩ | ⟨hc_37,hc_22⟩
       ·refine wH_ift rfl hc_37 (wH_skip (wH_seq (wH_block (wH_draws (h_op (dV (extN 0) 3 s_21.1) wz rfl (h_op (vI s_21.2) wz rfl (h_op (dV (extN 0) 3 s_21.1) wz rfl (h_op (vI s_21.2) wz rfl (h_op (vI (w64 (s_21.2 - 1))) wz rfl (h_op (dV (extN 0) 3 s_21.1) wz rfl (h_op (vI s_21.2) wz rfl (h_op (vI (w64 (s_21.2 - 1))) wz rfl ?_))))))))))))
        obtain ⟨_,hi_38,hc_22⟩:=bind_some hc_22
        refine h_iavd es62 rfl rfl (inR_0 hi_38) (inR_lt hi_38) wz ?_
        obtain ⟨e_39,hy_40,hc_22⟩:=bind_some hc_22
        refine h_ldvg 9 0 (.inr (by kernel_rfl)) (fun _ _ ag=>trivial) sz67 ag67 rfl rfl hy_40 (.d (.agg (Span.enc e_39))) rfl wz (h_op (dV (extN 0) 3 s_21.1) wz rfl (h_op (vI s_21.2) wz rfl ?_))
        obtain ⟨_,hi_41,hc_22⟩:=bind_some hc_22
        refine h_iavd es62 rfl rfl (inR_0 hi_41) (inR_lt hi_41) wz ?_
        obtain ⟨e_42,hy_43,hc_22⟩:=bind_some hc_22
        refine h_ldvg 13 0 (.inr (by kernel_rfl)) (fun _ _ ag=>⟨.inl ⟨rfl,rfl⟩,trivial⟩) sz67 ag67 rfl rfl hy_43 (.d (.agg (Span.enc e_42))) rfl wz ?_
        obtain ⟨_,hi_44,hc_22⟩:=bind_some hc_22
        refine h_iavd es62 rfl rfl (inR_0 hi_44) (inR_lt hi_44) wz ?_
        obtain ⟨e_45,hy_46,hc_22⟩:=bind_some hc_22
        refine h_stvg 15 (.inr (by kernel_rfl)) (fun _ _ ag=>⟨.inr (.inr (by kernel_rfl)),⟨.inr (.inr (by kernel_rfl)),trivial⟩⟩) 0 sz67 rfl rfl hy_46 e_39 (stD_one rfl rfl (one_cons (oneV_dP _ _) (one_cons rfl (one_cons rfl rfl))) rfl rfl) wz (h_re (v':=(dV (extN 0) 3 (s_21.1.set (0 + (s_21.2).toNat) e_39))) 0 rfl (dV_len (by simp)) (h_re (v':=(dV (extN 0) 3 (s_21.1.set (0 + (s_21.2).toNat) e_39))) 37 rfl (dV_len (by simp)) (h_re (v':=(dV (extN 0) 3 (s_21.1.set (0 + (s_21.2).toNat) e_39))) 39 rfl (dV_len (by simp)) (h_re (v':=(dV (extN 0) 3 (s_21.1.set (0 + (s_21.2).toNat) e_39))) 42 rfl (dV_len (by simp)) (h_re (v':=(dV (extN 0) 3 (s_21.1.set (0 + (s_21.2).toNat) e_39))) 47 rfl (dV_len (by simp)) ?_)))))
        obtain ⟨_,hi_47,hc_22⟩:=bind_some hc_22
        refine h_iavd es62 rfl rfl (inR_0 hi_47) (inR_lt hi_47) wz ?_
        obtain ⟨e_48,hy_49,hc_22⟩:=bind_some hc_22
        refine h_stvg 17 (.inr (by kernel_rfl)) (fun _ _ ag=>⟨.inr (.inr (by kernel_rfl)),⟨.inr (.inr (by kernel_rfl)),⟨.inr (.inr (by kernel_rfl)),trivial⟩⟩⟩) 0 sz67 rfl rfl hy_49 e_42 (stD_one rfl rfl (one_cons (oneV_dP _ _) (one_cons rfl (one_cons rfl rfl))) rfl rfl) wz (h_re (v':=(dV (extN 0) 3 ((s_21.1.set (0 + (s_21.2).toNat) e_39).set (0 + ((w64 (s_21.2 - 1))).toNat) e_42))) 0 rfl (dV_len (by simp)) (h_re (v':=(dV (extN 0) 3 ((s_21.1.set (0 + (s_21.2).toNat) e_39).set (0 + ((w64 (s_21.2 - 1))).toNat) e_42))) 37 rfl (dV_len (by simp)) (h_re (v':=(dV (extN 0) 3 ((s_21.1.set (0 + (s_21.2).toNat) e_39).set (0 + ((w64 (s_21.2 - 1))).toNat) e_42))) 39 rfl (dV_len (by simp)) (h_re (v':=(dV (extN 0) 3 ((s_21.1.set (0 + (s_21.2).toNat) e_39).set (0 + ((w64 (s_21.2 - 1))).toNat) e_42))) 42 rfl (dV_len (by simp)) (h_re (v':=(dV (extN 0) 3 ((s_21.1.set (0 + (s_21.2).toNat) e_39).set (0 + ((w64 (s_21.2 - 1))).toNat) e_42))) 47 rfl (dV_len (by simp)) (h_nil (wH_region (h_op (vI s_21.2) wz rfl (h_op (vI (w64 (s_21.2 - 1))) wz rfl (h_op (vI (w64 (s_21.2 - 1))) wz rfl (h_nil ?_)))))))))))
        obtain rfl:=some_inj hc_22
        exact loop_mk (k_16,(((s_21.1.set (0 + (s_21.2).toNat) e_39).set (0 + ((w64 (s_21.2 - 1))).toNat) e_42),(w64 (s_21.2 - 1)))) hL_23 (Nat.lt_succ_self _) rfl (pre_r rfl)
       ·refine wH_iff rfl hc_37 (wH_exit ?_)
        obtain rfl:=some_inj hc_22
        obtain rfl:=some_inj hL_23
        exact cut_mk ((s_21.1,s_21.2)) rfl rfl (pre_r rfl)
    ·rintro s_21 ho_ sl_ H_ hp_ hq_
     subst ho_
     refine wH_at _ hp_ hq_ (wH_region (h_op (vI s_10.2) wz rfl (h_op (vI (w64 (s_10.2 + 1))) wz rfl (h_op (vI (w64 (s_10.2 + 1))) wz rfl (h_nil ?_)))))
     obtain rfl:=some_inj hc_11
     exact loop_mk (k_5,(s_21.1,(w64 (s_10.2 + 1)))) hL_12 (Nat.lt_succ_self _) rfl (pre_r rfl)
   ·refine wH_iff rfl hc_15 (wH_exit ?_)
    obtain rfl:=some_inj hc_11
    obtain rfl:=some_inj hL_12
    exact cut_mk ((s_10.1,s_10.2)) rfl rfl (pre_r rfl)
 ·rintro s_10 ho_ sl_ H_ hp_ hq_
  subst ho_
  show finH _ _ _ _ _ _ _ _
  obtain rfl:=some_inj hF
  exact finH_at (H0:=([((extN 0),gB 3 Span.enc s_10.1)]:Hp)) (sl':=envS []) hq_ (finV (bs:=([]:List Box)) (os:=([]:List Box)) (xs:=data_1) (o:=gB 3 Span.enc s_10.1) (.inl rfl) [] trivial rfl rfl rfl rfl rfl (by kernel_rfl) gB_ok rfl)
theorem slices_pdqsortCmpFunc_schedule_span_v1_ok {data_1:(List Span)} {a_2:Int} {b_3:Int} {limit_4:Int} {r:(List Span)} (hF:slices_pdqsortCmpFunc_schedule_span_v1 data_1 a_2 b_3 limit_4=some r) :
  FnM Tryz.prog 72 [(dV (extN 0) 3 data_1),(vI a_2),(vI b_3),(vI limit_4),(.fn 48 [])] (([]:List Box)++gI 3 Span.enc data_1) (.tup []) (([]:List Box).map some++gT data_1 (gB 3 Span.enc r)):=by
 refine FnM.of_wHv ⟨Tryz.prog,148,[],[]⟩ rfl Tryz.func72 rfl rfl (Nat.le_of_ble_eq_true rfl) (by kernel_rfl) ?_
 unfold slices_pdqsortCmpFunc_schedule_span_v1 at hF
 refine wH_seq (wH_region (h_op (vB true) wz rfl (h_nil (wH_seq (wH_region (h_op (vB true) wz rfl (h_nil ?_)))))))
 obtain ⟨o_14,hj_15,hF⟩:=bind_some hF
 obtain ⟨nq_21,hj_15⟩:=loopO_iter hj_15
 refine wH_join (β:=(Unit)) (fun (s_11:Unit)=>([]:List (Nat×V))) (fun (s_11:Unit)=>([((extN 0),gB 3 Span.enc data_1)]:Hp)) (fun p=>o_14 = .go p) ?_ ?_
 ·refine wH_block (wH_loop (β:=Nat×(Unit)) (fun p=>(fun (k_6:Nat) (s_11:Unit)=>([(0,(dV (extN 0) 3 data_1)),(1,(vI a_2)),(2,(vI b_3)),(3,(vI limit_4)),(4,(.fn 48 [])),(10,(vB true)),(11,(vB true))]:List (Nat×V))) p.1 p.2) (fun p=>(fun (k_6:Nat) (s_11:Unit)=>([((extN 0),gB 3 Span.enc data_1)]:Hp)) p.1 p.2) (fun p=>iterN (fun s=>slices_pdqsortCmpFunc_schedule_span_v1_L1 b_3 a_2 data_1 limit_4 s) p.1 p.2=some o_14) (fun p=>p.1) (nq_21,()) hj_15 rfl (pre_r rfl) ?_)
  rintro ⟨k_6,s_11⟩ hL_13
  dsimp only at hL_13
  cases k_6 with
  | zero=>cases hL_13
  | succ k_6 =>
   obtain ⟨c_,hc_12,hL_13⟩:=bind_some hL_13
   unfold slices_pdqsortCmpFunc_schedule_span_v1_L1 at hc_12
   refine wH_block (wH_seq (wH_region (h_op (vI b_3) wz rfl (h_op (vI a_2) wz rfl (h_op (vI (w64 (b_3 - a_2))) wz rfl (h_op (vI (w64 (b_3 - a_2))) wz rfl (h_nil (wH_seq (wH_seq (wH_region (h_op (vI (w64 (b_3 - a_2))) wz rfl (h_op (vB (decide ((w64 (b_3 - a_2))≤12))) wz rfl (h_nil ?_)))))))))))))
   rcases cond_some hc_12 with⟨hc_16,hc_12⟩ | ⟨hc_16,hc_12⟩
   ·refine wH_ift rfl hc_16 (wH_seq (wH_region (h_op (dV (extN 0) 3 data_1) wz rfl (h_op (vI a_2) wz rfl (h_op (vI b_3) wz rfl (h_op (.fn 48 []) wz rfl ?_))))))
    obtain ⟨r_17,hr_18,hc_12⟩:=bind_some hc_12
    obtain ⟨_,hs_19,hc_12⟩:=bind_some hc_12
    replace hs_19:=sameL_eq hs_19
    refine h_callv 0 [] 0 0 il ft (slices_insertionSortCmpFunc_schedule_span_v1_ok hr_18) rfl hb94 rfl rfl rfl (by kernel_rfl) rfl (.inr (.inl rfl)) rfl (by kernel_rfl) (by kernel_rfl) (by kernel_rfl) (by kernel_rfl) rfl (by decide) (by kernel_rfl) gB_ok (gB_ho hs_19) wz ([((extN 0),gB 3 Span.enc r_17)]:Hp) (by kernel_rfl) (h_re (v':=(dV (extN 0) 3 r_17)) 0 rfl (dV_len hs_19.symm) (h_re (v':=(dV (extN 0) 3 r_17)) 26 rfl (dV_len hs_19.symm) (h_nil ?_)))
    obtain rfl:=some_inj hc_12
    obtain rfl:=some_inj hL_13
    obtain rfl:=some_inj hF
    exact wH_ret (finV (bs:=([]:List Box)) (os:=([]:List Box)) (xs:=data_1) (o:=gB 3 Span.enc r_17) (.inr rfl) [] trivial rfl rfl rfl rfl rfl (by kernel_rfl) gB_ok rfl)
   ·refine wH_iff rfl hc_16 (wH_skip (wH_seq (wH_seq (wH_region (h_op (vI limit_4) wz rfl (h_op (vB (limit_4 == 0)) wz rfl (h_nil ?_)))))))
    rcases cond_some hc_12 with⟨hc_20,hc_12⟩ | ⟨hc_20,hc_12⟩
    ·refine wH_ift rfl hc_20 (wH_seq (wH_region (h_op (dV (extN 0) 3 data_1) wz rfl (h_op (vI a_2) wz rfl (h_op (vI b_3) wz rfl (h_op (.fn 48 []) wz rfl ?_))))))
     cases hc_12
    ·refine wH_iff rfl hc_20 (wH_skip (wH_seq (wH_seq (wH_region (h_op (vB true) wz rfl (h_op (vB false) wz rfl (h_nil (wH_iff rfl rfl (wH_skip (wH_seq (wH_region (h_op (dV (extN 0) 3 data_1) wz rfl (h_op (vI a_2) wz rfl (h_op (vI b_3) wz rfl (h_op (.fn 48 []) wz rfl ?_)))))))))))))))
     cases hc_12
 ·rintro s_11 ho_ sl_ H_ hp_ hq_
  subst ho_
  show finH _ _ _ _ _ _ _ _
  obtain rfl:=some_inj hF
  exact finH_at (H0:=([((extN 0),gB 3 Span.enc data_1)]:Hp)) (sl':=envS []) hq_ (finV (bs:=([]:List Box)) (os:=([]:List Box)) (xs:=data_1) (o:=gB 3 Span.enc data_1) (.inl rfl) [] trivial rfl rfl rfl rfl rfl (by kernel_rfl) gB_ok rfl)
theorem slices_SortFunc_schedule_span_schedule_span_v1_ok {x_1:(List Span)} {r:(List Span)} (hF:slices_SortFunc_schedule_span_schedule_span_v1 x_1=some r) :
  FnM Tryz.prog 47 [(dV (extN 0) 3 x_1),(.fn 48 [])] (([]:List Box)++gI 3 Span.enc x_1) (.tup []) (([]:List Box).map some++gT x_1 (gB 3 Span.enc r)):=by
 refine FnM.of_wHv ⟨Tryz.prog,14,[],[]⟩ rfl Tryz.func47 rfl rfl (Nat.le_of_ble_eq_true rfl) (by kernel_rfl) ?_
 unfold slices_SortFunc_schedule_span_schedule_span_v1 at hF
 refine wH_seq (wH_region (h_op (dV (extN 0) 3 x_1) wz rfl (h_lend un62 rfl wz (h_op (vI (x_1.length:Int)) wz rfl (h_nil (wH_region (h_op (dV (extN 0) 3 x_1) wz rfl (h_op (vI (x_1.length:Int)) wz rfl (h_op (vI (x_1.length:Int)) wz rfl (h_conv un3 un105 rfl wz ?_))))))))))
 obtain ⟨r_3,hr_4,hF⟩:=bind_some hF
 refine h_call0 (math_bits_Len_ok hr_4) rfl hb73 rfl rfl rfl rfl wz (h_op (.fn 48 []) wz rfl ?_)
 obtain ⟨r_5,hr_6,hF⟩:=bind_some hF
 obtain ⟨_,hs_7,hF⟩:=bind_some hF
 replace hs_7:=sameL_eq hs_7
 refine h_callv 0 [] 0 0 il ft (slices_pdqsortCmpFunc_schedule_span_v1_ok hr_6) rfl hb72 rfl rfl rfl (by kernel_rfl) rfl (.inr (.inl rfl)) rfl (by kernel_rfl) (by kernel_rfl) (by kernel_rfl) (by kernel_rfl) rfl (by decide) (by kernel_rfl) gB_ok (gB_ho hs_7) wz ([((extN 0),gB 3 Span.enc r_5)]:Hp) (by kernel_rfl) (h_re (v':=(dV (extN 0) 3 r_5)) 0 rfl (dV_len hs_7.symm) (h_re (v':=(dV (extN 0) 3 r_5)) 5 rfl (dV_len hs_7.symm) (h_re (v':=(dV (extN 0) 3 r_5)) 7 rfl (dV_len hs_7.symm) (h_nil ?_))))
 show finH _ _ _ _ _ _ _ _
 obtain rfl:=some_inj hF
 exact finV (bs:=([]:List Box)) (os:=([]:List Box)) (xs:=x_1) (o:=gB 3 Span.enc r_5) (.inl rfl) [] trivial rfl rfl rfl rfl rfl (by kernel_rfl) gB_ok rfl
theorem schedule_spans_okb {l_1:(List Entry)} {p_2:Player} {wv_3:Window} {r:(List Span)} (hF:schedule_spans l_1 p_2 wv_3=some r) :
  FnM Tryz.prog 46 [(vL Entry.enc l_1),(.d (.agg (Player.enc p_2))),(.d (.agg (Window.enc wv_3)))] [] (gV (extN 0) 3 r) (([]:List Box).map some++gO 3 Span.enc r):=by
 refine FnM.of_wH ⟨Tryz.prog,47,[],[]⟩ rfl Tryz.func46 rfl rfl (Nat.le_of_ble_eq_true rfl) (by kernel_rfl) ?_
 unfold schedule_spans at hF
 refine wH_seq (wH_region (h_box 0 (.inl rfl) [(vS p_2.Key),(vS p_2.Screen),(vI p_2.Zone),(vL eS p_2.Tags)] rfl rfl wz (fun n_4=>h_box 0 (.inl rfl) [(vI wv_3.From),(vI wv_3.To)] rfl rfl wz (fun n_5=>h_op .nil wz rfl (h_nil (wH_seq (wH_region (h_op .nil wz rfl (h_nil (wH_seq (wH_seq (wH_region (h_op (vL Entry.enc l_1) wz rfl (h_len un26 rfl wz (h_op (vI 0) wz rfl (h_nil (wH_new (fun n_12 => ?_))))))))))))))))))
 obtain ⟨o_17,hj_18,hF⟩:=bind_some hF
 obtain ⟨hn_10,hj_18⟩:=forL_some hj_18
 refine wH_join (β:=((List Span))×Nm) (fun p=>(fun (s_11:(List Span)) (n_14:Nm)=>([(7,(gV n_14 3 s_11))]:List (Nat×V))) p.1 p.2) (fun p=>(fun (s_11:(List Span)) (n_14:Nm)=>([(n_4,some (.cells 4 [(vS p_2.Key),(vS p_2.Screen),(vI p_2.Zone),(vL eS p_2.Tags)])),(n_5,some (.cells 2 [(vI wv_3.From),(vI wv_3.To)])),(n_14,gB 3 Span.enc s_11)]:Hp)) p.1 p.2) (fun p=>o_17 = .go p.1) ?_ ?_
 ·refine wH_block (wH_loop (β:=Nat×(List Entry)×((List Span))×Nm) (fun p=>(fun (k_6:Nat) (l_7:List Entry) (s_11:(List Span)) (n_14:Nm)=>([(0,(vL Entry.enc l_1)),(4,(.ref n_4 0 0)),(5,(.ref n_5 0 0)),(7,(gV n_14 3 s_11)),(12,(vI (l_1.length:Int))),(13,(vI (k_6:Int)))]:List (Nat×V))) p.1 p.2.1 p.2.2.1 p.2.2.2) (fun p=>(fun (k_6:Nat) (l_7:List Entry) (s_11:(List Span)) (n_14:Nm)=>([(n_4,some (.cells 4 [(vS p_2.Key),(vS p_2.Screen),(vI p_2.Zone),(vL eS p_2.Tags)])),(n_5,some (.cells 2 [(vI wv_3.From),(vI wv_3.To)])),(n_14,gB 3 Span.enc s_11)]:Hp)) p.1 p.2.1 p.2.2.1 p.2.2.2) (fun p=>forR (fun k x s=>schedule_spans_L2 p_2 wv_3 l_1 k x s) p.2.1 p.1 p.2.2.1=some o_17∧(l_1).drop p.1=p.2.1) (fun p=>p.2.1.length) (0,l_1,([]:List Span),n_12) ⟨hj_18,rfl⟩ rfl (pre_r rfl) ?_)
  rintro ⟨k_6,l_7,s_11,n_14⟩ ⟨hL_16,hD_9⟩
  dsimp only at hL_16 hD_9
  cases l_7 with
  | nil =>
   obtain rfl:=some_inj hL_16
   refine wH_seq (wH_region (h_op (vB (decide ((k_6:Int) < (l_1.length:Int)))) wz rfl (h_nil ?_)))
   refine wH_seq (wH_iff rfl (drop_nil hD_9) (wH_exit ?_))
   exact cut_mk (s_11,n_14) rfl rfl (pre_r rfl)
  | cons x_8 l_7 =>
   obtain ⟨c_,hc_15,hL_16⟩:=bind_some hL_16
   refine wH_seq (wH_region (h_op (vB (decide ((k_6:Int) < (l_1.length:Int)))) wz rfl (h_nil ?_)))
   refine wH_seq (wH_ift rfl (drop_cons hD_9) (wH_skip ?_))
   unfold schedule_spans_L2 at hc_15
   refine wH_seq (wH_block (wH_seq (wH_region (h_op (vI (k_6:Int)) wz rfl (h_op (vI (k_6:Int)) wz rfl (h_nil (wH_seq (wH_seq (wH_draws (h_op (vL Entry.enc l_1) wz rfl (h_op (vI (k_6:Int)) wz rfl (h_ia es26 rfl rfl (drop_idx hD_9) rfl wz (h_ldc sz55 ag55 rfl (.d (.agg (Entry.enc x_8))) rfl wz (h_ldr 4 0 (.inr (by kernel_rfl)) (fun _ _ ag=>trivial) sz30 ag30 rfl rfl (.d (.agg (Player.enc p_2))) rfl wz ?_))))))))))))))
   obtain ⟨r_19,hr_20,hc_15⟩:=bind_some hc_15
   refine h_call0 (schedule_fits_ok hr_20) rfl hb71 rfl rfl rfl rfl wz (h_op (vB (!r_19)) wz rfl (h_nil ?_))
   rcases cond_some hc_15 with⟨hc_21,hc_15⟩ | ⟨hc_21,hc_15⟩
   ·refine wH_ift rfl hc_21 (wH_exit (wH_region (h_opw (w64_next hD_9 hn_10) wz rfl (h_op (vI ((k_6 + 1:Nat):Int)) wz rfl (h_nil ?_)))))
    obtain rfl:=some_inj hc_15
    exact loop_mk (k_6 + 1,l_7,s_11,n_14) ⟨hL_16,drop_next hD_9⟩ (Nat.lt_succ_self _) rfl (pre_r rfl)
   ·refine wH_iff rfl hc_21 (wH_skip (wH_seq (wH_draws (h_op (vL Entry.enc l_1) wz rfl (h_op (vI (k_6:Int)) wz rfl (h_ia es26 rfl rfl (drop_idx hD_9) rfl wz (h_ldc sz55 ag55 rfl (.d (.agg (Entry.enc x_8))) rfl wz (h_far pl30_2 rfl 2 rfl wz (h_ldr 5 0 (.inr (by kernel_rfl)) (fun _ _ ag=>trivial) sz3 ag3 rfl rfl (vI p_2.Zone) rfl wz (h_ldr 6 1 (.inr (by kernel_rfl)) (fun _ _ ag=>⟨.inl ⟨rfl,rfl⟩,trivial⟩) sz65 ag65 rfl rfl (.d (.agg (Window.enc wv_3))) rfl wz ?_))))))))))
    obtain ⟨r_22,hr_23,hc_15⟩:=bind_some hc_15
    refine h_call0 (schedule_times_ok hr_23) rfl hb59 rfl rfl rfl rfl wz (h_len un78 rfl wz (h_op (vI 0) wz rfl (h_nil ?_)))
    obtain ⟨o_34,hj_35,hc_15⟩:=bind_some hc_15
    obtain ⟨hn_28,hj_35⟩:=forL_some hj_35
    refine wH_join (β:=((List Span))×Nm) (fun p=>(fun (s_29:(List Span)) (n_31:Nm)=>([(0,(vL Entry.enc l_1)),(4,(.ref n_4 0 0)),(5,(.ref n_5 0 0)),(7,(gV n_31 3 s_29)),(12,(vI (l_1.length:Int))),(13,(vI (k_6:Int)))]:List (Nat×V))) p.1 p.2) (fun p=>(fun (s_29:(List Span)) (n_31:Nm)=>([(n_4,some (.cells 4 [(vS p_2.Key),(vS p_2.Screen),(vI p_2.Zone),(vL eS p_2.Tags)])),(n_5,some (.cells 2 [(vI wv_3.From),(vI wv_3.To)])),(n_31,gB 3 Span.enc s_29)]:Hp)) p.1 p.2) (fun p=>o_34 = .go p.1) ?_ ?_
    ·refine wH_block (wH_loop (β:=Nat×(List Window)×((List Span))×Nm) (fun p=>(fun (k_24:Nat) (l_25:List Window) (s_29:(List Span)) (n_31:Nm)=>([(0,(vL Entry.enc l_1)),(4,(.ref n_4 0 0)),(5,(.ref n_5 0 0)),(7,(gV n_31 3 s_29)),(8,(vI (k_6:Int))),(12,(vI (l_1.length:Int))),(13,(vI (k_6:Int))),(30,(vL Window.enc r_22)),(31,(vI (r_22.length:Int))),(32,(vI (k_24:Int)))]:List (Nat×V))) p.1 p.2.1 p.2.2.1 p.2.2.2) (fun p=>(fun (k_24:Nat) (l_25:List Window) (s_29:(List Span)) (n_31:Nm)=>([(n_4,some (.cells 4 [(vS p_2.Key),(vS p_2.Screen),(vI p_2.Zone),(vL eS p_2.Tags)])),(n_5,some (.cells 2 [(vI wv_3.From),(vI wv_3.To)])),(n_31,gB 3 Span.enc s_29)]:Hp)) p.1 p.2.1 p.2.2.1 p.2.2.2) (fun p=>forR (fun k x s=>schedule_spans_L1 l_1 k_6 k x s) p.2.1 p.1 p.2.2.1=some o_34∧(r_22).drop p.1=p.2.1) (fun p=>p.2.1.length) (0,r_22,s_11,n_14) ⟨hj_35,rfl⟩ rfl (pre_r rfl) ?_)
     rintro ⟨k_24,l_25,s_29,n_31⟩ ⟨hL_33,hD_27⟩
     dsimp only at hL_33 hD_27
     cases l_25 with
     | nil =>
      obtain rfl:=some_inj hL_33
      refine wH_seq (wH_region (h_op (vB (decide ((k_24:Int) < (r_22.length:Int)))) wz rfl (h_nil ?_)))
      refine wH_seq (wH_iff rfl (drop_nil hD_27) (wH_exit ?_))
      exact cut_mk (s_29,n_31) rfl rfl (pre_r rfl)
     | cons x_26 l_25 =>
      obtain ⟨c_,hc_32,hL_33⟩:=bind_some hL_33
      refine wH_seq (wH_region (h_op (vB (decide ((k_24:Int) < (r_22.length:Int)))) wz rfl (h_nil ?_)))
      refine wH_seq (wH_ift rfl (drop_cons hD_27) (wH_skip ?_))
      unfold schedule_spans_L1 at hc_32
      refine wH_seq (wH_block (wH_seq (wH_region (h_ia es78 rfl rfl (drop_idx hD_27) rfl wz (h_ldc sz65 ag65 rfl (.d (.agg (Window.enc x_26))) rfl wz (h_alloc 0 (.inl rfl) z65 rfl wz (fun n_36=>h_str 0 il ft 3 sz65 rfl rfl [(vI x_26.From),(vI x_26.To)] rfl wz (h_nil (wH_draws (h_op (gV n_31 3 s_29) wz rfl (h_op (vL Entry.enc l_1) wz rfl (h_op (vI (k_6:Int)) wz rfl ?_))))))))))))
      obtain ⟨y_37,hy_38,hc_32⟩:=bind_some hc_32
      refine h_ia es26 rfl rfl hy_38 rfl wz (h_ldr 4 3 (.inr (by kernel_rfl)) (fun _ _ ag=>trivial) sz65 ag65 rfl rfl (.d (.agg (Window.enc x_26))) rfl wz (h_op (.d (.agg (Span.enc (⟨(some y_37),x_26⟩:Span)))) wz (by kernel_rfl) (h_lit (([(⟨(some y_37),x_26⟩:Span)]:List Span).map Span.enc) es62 ez62 rfl rfl rfl rfl rfl wz ?_)))
      obtain ⟨a_39,hz_40,hc_32⟩:=bind_some hc_32
      refine h_appg 7 (.inr (by kernel_rfl)) (fun _ _ ag=>⟨.inr (.inr (by kernel_rfl)),trivial⟩) (i:=2) el62 el62 sz67 z67 rfl (by decide) by67 (by decide) (fun _=>rfl) rfl rfl rfl hz_40 wz (fun n_41=>h_op (gV n_41 3 a_39) wz rfl (h_nil (wH_region (h_opw (w64_next hD_27 hn_28) wz rfl (h_op (vI ((k_24 + 1:Nat):Int)) wz rfl (h_nil ?_))))))
      obtain rfl:=some_inj hc_32
      exact loop_mk (k_24 + 1,l_25,a_39,n_41) ⟨hL_33,drop_next hD_27⟩ (Nat.lt_succ_self _) rfl (pre_r rfl)
    ·rintro ⟨s_29,n_31⟩ ho_ sl_ H_ hp_ hq_
     subst ho_
     refine wH_at _ hp_ hq_ (wH_region (h_opw (w64_next hD_9 hn_10) wz rfl (h_op (vI ((k_6 + 1:Nat):Int)) wz rfl (h_nil ?_))))
     obtain rfl:=some_inj hc_15
     exact loop_mk (k_6 + 1,l_7,s_29,n_31) ⟨hL_16,drop_next hD_9⟩ (Nat.lt_succ_self _) rfl (pre_r rfl)
 ·rintro ⟨s_11,n_14⟩ ho_ sl_ H_ hp_ hq_
  subst ho_
  refine wH_at _ hp_ hq_ (wH_seq (wH_region (h_op (gV n_14 3 s_11) wz rfl (h_op (gV n_14 3 s_11) wz rfl (h_nil ?_)))))
  obtain rfl:=some_inj hF
  exact wH_ret (finG (outs:=([]:List Box)) (.inr rfl) 2 rfl rfl rfl (by kernel_rfl) (by kernel_rfl))
theorem schedule_on_ok {l_1:(List Entry)} {p_2:Player} {atv_3:Int} {r:(List Span)} (hF:schedule_on l_1 p_2 atv_3=some r) :
  FnM Tryz.prog 28 [(vL Entry.enc l_1),(.d (.agg (Player.enc p_2))),(vI atv_3)] [] (vL Span.enc r) []:=by
 refine FnM.of_wH ⟨Tryz.prog,18,[],[]⟩ rfl Tryz.func28 rfl rfl (Nat.le_of_ble_eq_true rfl) (by kernel_rfl) ?_
 unfold schedule_on at hF
 refine wH_seq (wH_region (h_box 0 (.inl rfl) [(vS p_2.Key),(vS p_2.Screen),(vI p_2.Zone),(vL eS p_2.Tags)] rfl rfl wz (fun n_4=>h_op .nil wz rfl (h_nil (wH_seq (wH_region (h_op (vL Entry.enc l_1) wz rfl (h_ldr 0 0 il ft sz30 ag30 rfl rfl (.d (.agg (Player.enc p_2))) rfl wz (h_op (vI atv_3) wz rfl (h_op (vI atv_3) wz rfl (h_op (vI (w64 (atv_3 + 1))) wz rfl (h_op (.d (.agg (Window.enc (⟨atv_3,(w64 (atv_3 + 1))⟩:Window)))) wz (by kernel_rfl) ?_))))))))))))
 obtain ⟨r_5,hr_6,hF⟩:=bind_some hF
 refine h_callg [] (schedule_spans_okb hr_6) rfl hb46 rfl (by kernel_rfl) (by kernel_rfl) (by kernel_rfl) (by kernel_rfl) (by kernel_rfl) rfl (by decide) (by kernel_rfl) wz ([(n_4,some (.cells 4 [(vS p_2.Key),(vS p_2.Screen),(vI p_2.Zone),(vL eS p_2.Tags)]))]:Hp) (fun _=>by kernel_rfl) (fun n_8=>h_op (gV n_8 3 r_5) wz rfl (h_nil (wH_seq (wH_region (h_op (gV n_8 3 r_5) wz rfl ?_)))))
 obtain ⟨r_9,hr_10,hF⟩:=bind_some hF
 obtain ⟨_,hs_11,hF⟩:=bind_some hF
 replace hs_11:=sameL_eq hs_11
 refine h_callv 0 [] 1 0 il ft (slices_SortFunc_schedule_span_schedule_span_v1_ok hr_10) rfl hb47 rfl rfl rfl (by kernel_rfl) rfl (.inl rfl) rfl (by kernel_rfl) (by kernel_rfl) (by kernel_rfl) (by kernel_rfl) rfl (by decide) (by kernel_rfl) gB_ok (gB_ho hs_11) wz ([(n_4,some (.cells 4 [(vS p_2.Key),(vS p_2.Screen),(vI p_2.Zone),(vL eS p_2.Tags)])),(n_8,gB 3 Span.enc r_9)]:Hp) (by kernel_rfl) (h_re (v':=(gV n_8 3 r_9)) 14 rfl (gV_len hs_11.symm) (h_re (v':=(gV n_8 3 r_9)) 15 rfl (gV_len hs_11.symm) (h_re (v':=(gV n_8 3 r_9)) 7 rfl (gV_len hs_11.symm) (h_nil (wH_seq (wH_region (h_op (gV n_8 3 r_9) wz rfl (h_op (gV n_8 3 r_9) wz rfl (h_nil (wH_frozg 1 rfl (wH_cog 6 1 rfl rfl (wH_cog 7 1 rfl rfl (wH_cog 14 1 rfl rfl (wH_cog 15 1 rfl rfl (wH_cog 17 1 rfl rfl ?_)))))))))))))))
 obtain rfl:=some_inj hF
 exact wH_ret (fin0 (.inr rfl) [(vL Span.enc r_9)] ⟨rfl,trivial⟩ rfl rfl rfl)
theorem schedule_On_ok {l_1:(List Entry)} {p_2:Player} {atv_3:Int} {r:ByteArray×Bool×Int} (hF:schedule_On l_1 p_2 atv_3=some r) :
  FnM Tryz.prog 9 [(vL Entry.enc l_1),(.d (.agg (Player.enc p_2))),(vI atv_3)] [] (.tup [(vS r.1),(vB r.2.1),(vI r.2.2)]) []:=by
 refine FnM.of_wH ⟨Tryz.prog,32,[],[]⟩ rfl Tryz.func9 rfl rfl (Nat.le_of_ble_eq_true rfl) (by kernel_rfl) ?_
 unfold schedule_On at hF
 refine wH_seq (wH_region (h_box 0 (.inl rfl) [(vS p_2.Key),(vS p_2.Screen),(vI p_2.Zone),(vL eS p_2.Tags)] rfl rfl wz (fun n_4=>h_op (vS (⟨#[]⟩:ByteArray)) wz rfl (h_op (vB false) wz rfl (h_op (vI 0) wz rfl (h_nil (wH_seq (wH_seq (wH_region (h_op (vL Entry.enc l_1) wz rfl (h_ldr 0 0 il ft sz30 ag30 rfl rfl (.d (.agg (Player.enc p_2))) rfl wz (h_op (vI atv_3) wz rfl ?_))))))))))))
 obtain ⟨r_5,hr_6,hF⟩:=bind_some hF
 refine h_call0 (schedule_momentFault_ok hr_6) rfl hb27 rfl rfl rfl rfl wz (h_op (vI r_5) wz rfl (h_nil (wH_seq (wH_region (h_op (vI r_5) wz rfl (h_op (vB (r_5 != 0)) wz rfl (h_nil ?_)))))))
 rcases cond_some hF with⟨hc_7,hF⟩ | ⟨hc_7,hF⟩
 ·refine wH_ift rfl hc_7 (wH_seq (wH_region (h_op (vI r_5) wz rfl (h_op (vS (⟨#[]⟩:ByteArray)) wz rfl (h_op (vB false) wz rfl (h_op (vI r_5) wz rfl (h_nil ?_)))))))
  obtain rfl:=some_inj hF
  exact wH_ret (fin0 (.inr rfl) [(vS (⟨#[]⟩:ByteArray)),(vB false),(vI r_5)] ⟨rfl,⟨rfl,⟨rfl,trivial⟩⟩⟩ rfl rfl rfl)
 ·refine wH_iff rfl hc_7 (wH_skip (wH_seq (wH_region (h_op (vL Entry.enc l_1) wz rfl (h_ldr 0 0 il ft sz30 ag30 rfl rfl (.d (.agg (Player.enc p_2))) rfl wz (h_op (vI atv_3) wz rfl ?_))))))
  obtain ⟨r_8,hr_9,hF⟩:=bind_some hF
  refine h_call0 (schedule_on_ok hr_9) rfl hb28 rfl rfl rfl rfl wz (h_op (vL Span.enc r_8) wz rfl (h_nil (wH_seq (wH_seq (wH_region (h_op (vL Span.enc r_8) wz rfl (h_len un62 rfl wz (h_op (vB ((r_8.length:Int) == 0)) wz rfl (h_nil ?_)))))))))
  rcases cond_some hF with⟨hc_10,hF⟩ | ⟨hc_10,hF⟩
  ·refine wH_ift rfl hc_10 (wH_seq (wH_region (h_op (vS (⟨#[]⟩:ByteArray)) wz rfl (h_op (vB false) wz rfl (h_op (vI 0) wz rfl (h_nil ?_))))))
   obtain rfl:=some_inj hF
   exact wH_ret (fin0 (.inr rfl) [(vS (⟨#[]⟩:ByteArray)),(vB false),(vI 0)] ⟨rfl,⟨rfl,⟨rfl,trivial⟩⟩⟩ rfl rfl rfl)
  ·refine wH_iff rfl hc_10 (wH_skip (wH_seq (wH_region (h_op (vL Span.enc r_8) wz rfl ?_))))
   obtain ⟨y_11,hy_12,hF⟩:=bind_some hF
   refine h_ia es62 rfl rfl hy_12 rfl wz (h_fac pl67_0 rfl [dP Entry.enc y_11.f_e,.int .i64 y_11.f_time.From,.int .i64 y_11.f_time.To] rfl rfl wz (h_ldc sz53 ag53 rfl (.d (dP Entry.enc y_11.f_e)) rfl wz ?_))
   obtain ⟨y_13,hy_14,hF⟩:=bind_some hF
   refine h_re (v':=(.d (.ptr [.str y_13.Key,.str y_13.Item,.int .i64 y_13.Version,.int .i64 y_13.First,.int .i64 y_13.Last,.int .i64 y_13.Every,.int .i64 y_13.Days,dl eI y_13.Except,.int .i64 y_13.From,.int .i64 y_13.To,.int .i64 y_13.Prio,dl eS y_13.Tags,.bool y_13.Gone]))) 28 rfl (dP_some (enc:=Entry.enc) (y:=y_13) hy_14) (h_op (.d (.ptr [.str y_13.Key,.str y_13.Item,.int .i64 y_13.Version,.int .i64 y_13.First,.int .i64 y_13.Last,.int .i64 y_13.Every,.int .i64 y_13.Days,dl eI y_13.Except,.int .i64 y_13.From,.int .i64 y_13.To,.int .i64 y_13.Prio,dl eS y_13.Tags,.bool y_13.Gone])) wz rfl (h_fac pl55_0 rfl [.str y_13.Key,.str y_13.Item,.int .i64 y_13.Version,.int .i64 y_13.First,.int .i64 y_13.Last,.int .i64 y_13.Every,.int .i64 y_13.Days,dl eI y_13.Except,.int .i64 y_13.From,.int .i64 y_13.To,.int .i64 y_13.Prio,dl eS y_13.Tags,.bool y_13.Gone] rfl rfl wz (h_ldc sz9 ag9 rfl (vS y_13.Key) rfl wz (h_op (vS y_13.Key) wz rfl (h_op (vB true) wz rfl (h_op (vI 0) wz rfl (h_nil ?_)))))))
   obtain rfl:=some_inj hF
   exact wH_ret (fin0 (.inr rfl) [(vS y_13.Key),(vB true),(vI 0)] ⟨rfl,⟨rfl,⟨rfl,trivial⟩⟩⟩ rfl rfl rfl)
theorem schedule_Why_ok {l_1:(List Entry)} {p_2:Player} {atv_3:Int} {r:(List ByteArray)×Int} (hF:schedule_Why l_1 p_2 atv_3=some r) :
  FnM Tryz.prog 10 [(vL Entry.enc l_1),(.d (.agg (Player.enc p_2))),(vI atv_3)] [] (.tup [(vL eS r.1),(vI r.2)]) []:=by
 refine FnM.of_wH ⟨Tryz.prog,38,[],[]⟩ rfl Tryz.func10 rfl rfl (Nat.le_of_ble_eq_true rfl) (by kernel_rfl) ?_
 unfold schedule_Why at hF
 refine wH_seq (wH_region (h_box 0 (.inl rfl) [(vS p_2.Key),(vS p_2.Screen),(vI p_2.Zone),(vL eS p_2.Tags)] rfl rfl wz (fun n_4=>h_op .nil wz rfl (h_op (vI 0) wz rfl (h_nil (wH_seq (wH_seq (wH_region (h_op (vL Entry.enc l_1) wz rfl (h_ldr 0 0 il ft sz30 ag30 rfl rfl (.d (.agg (Player.enc p_2))) rfl wz (h_op (vI atv_3) wz rfl ?_)))))))))))
 obtain ⟨r_5,hr_6,hF⟩:=bind_some hF
 refine h_call0 (schedule_momentFault_ok hr_6) rfl hb27 rfl rfl rfl rfl wz (h_op (vI r_5) wz rfl (h_nil (wH_seq (wH_region (h_op (vI r_5) wz rfl (h_op (vB (r_5 != 0)) wz rfl (h_nil ?_)))))))
 rcases cond_some hF with⟨hc_7,hF⟩ | ⟨hc_7,hF⟩
 ·refine wH_ift rfl hc_7 (wH_seq (wH_region (h_op (vI r_5) wz rfl (h_op .nil wz rfl (h_op (vI r_5) wz rfl (h_nil ?_))))))
  obtain rfl:=some_inj hF
  exact wH_ret (fin0 (.inr rfl) [.nil,(vI r_5)] ⟨rfl,⟨rfl,trivial⟩⟩ rfl rfl rfl)
 ·refine wH_iff rfl hc_7 (wH_skip (wH_seq (wH_region (h_op .nil wz rfl (h_nil (wH_seq (wH_seq (wH_region (h_op (vL Entry.enc l_1) wz rfl (h_ldr 0 0 il ft sz30 ag30 rfl rfl (.d (.agg (Player.enc p_2))) rfl wz (h_op (vI atv_3) wz rfl ?_)))))))))))
  obtain ⟨r_8,hr_9,hF⟩:=bind_some hF
  refine h_call0 (schedule_on_ok hr_9) rfl hb28 rfl rfl rfl rfl wz (h_len un62 rfl wz (h_op (vI 0) wz rfl (h_nil (wH_new (fun n_16 => ?_)))))
  obtain ⟨o_21,hj_22,hF⟩:=bind_some hF
  obtain ⟨hn_14,hj_22⟩:=forL_some hj_22
  refine wH_join (β:=((List ByteArray))×Nm) (fun p=>(fun (s_15:(List ByteArray)) (n_18:Nm)=>([(9,(gV n_18 1 s_15))]:List (Nat×V))) p.1 p.2) (fun p=>(fun (s_15:(List ByteArray)) (n_18:Nm)=>([(n_4,some (.cells 4 [(vS p_2.Key),(vS p_2.Screen),(vI p_2.Zone),(vL eS p_2.Tags)])),(n_18,gB 1 eS s_15)]:Hp)) p.1 p.2) (fun p=>o_21 = .go p.1) ?_ ?_
  ·refine wH_block (wH_loop (β:=Nat×(List Span)×((List ByteArray))×Nm) (fun p=>(fun (k_10:Nat) (l_11:List Span) (s_15:(List ByteArray)) (n_18:Nm)=>([(9,(gV n_18 1 s_15)),(22,(vL Span.enc r_8)),(23,(vI (r_8.length:Int))),(24,(vI (k_10:Int)))]:List (Nat×V))) p.1 p.2.1 p.2.2.1 p.2.2.2) (fun p=>(fun (k_10:Nat) (l_11:List Span) (s_15:(List ByteArray)) (n_18:Nm)=>([(n_4,some (.cells 4 [(vS p_2.Key),(vS p_2.Screen),(vI p_2.Zone),(vL eS p_2.Tags)])),(n_18,gB 1 eS s_15)]:Hp)) p.1 p.2.1 p.2.2.1 p.2.2.2) (fun p=>forR (fun k x s=>schedule_Why_L1 k x s) p.2.1 p.1 p.2.2.1=some o_21∧(r_8).drop p.1=p.2.1) (fun p=>p.2.1.length) (0,r_8,([]:List ByteArray),n_16) ⟨hj_22,rfl⟩ rfl (pre_r rfl) ?_)
   rintro ⟨k_10,l_11,s_15,n_18⟩ ⟨hL_20,hD_13⟩
   dsimp only at hL_20 hD_13
   cases l_11 with
   | nil =>
    obtain rfl:=some_inj hL_20
    refine wH_seq (wH_region (h_op (vB (decide ((k_10:Int) < (r_8.length:Int)))) wz rfl (h_nil ?_)))
    refine wH_seq (wH_iff rfl (drop_nil hD_13) (wH_exit ?_))
    exact cut_mk (s_15,n_18) rfl rfl (pre_r rfl)
   | cons x_12 l_11 =>
    obtain ⟨c_,hc_19,hL_20⟩:=bind_some hL_20
    refine wH_seq (wH_region (h_op (vB (decide ((k_10:Int) < (r_8.length:Int)))) wz rfl (h_nil ?_)))
    refine wH_seq (wH_ift rfl (drop_cons hD_13) (wH_skip ?_))
    unfold schedule_Why_L1 at hc_19
    refine wH_seq (wH_block (wH_seq (wH_region (h_ia es62 rfl rfl (drop_idx hD_13) rfl wz (h_ldc sz67 ag67 rfl (.d (.agg (Span.enc x_12))) rfl wz (h_alloc 0 (.inl rfl) z67 rfl wz (fun n_23=>h_str 0 il ft 2 sz67 rfl rfl [(.d (dP Entry.enc x_12.f_e)),(vI x_12.f_time.From),(vI x_12.f_time.To)] (stC_one rfl (one_cons (oneV_dP _ _) (one_cons rfl (one_cons rfl rfl))) rfl rfl) wz (h_nil (wH_region (h_op (gV n_18 1 s_15) wz rfl (h_far pl67_0 rfl 0 rfl wz (h_ldr 0 2 il ft sz53 ag53 rfl rfl (.d (dP Entry.enc x_12.f_e)) rfl wz ?_))))))))))))
    obtain ⟨y_24,hy_25,hc_19⟩:=bind_some hc_19
    refine h_re (v':=(.d (.ptr [.str y_24.Key,.str y_24.Item,.int .i64 y_24.Version,.int .i64 y_24.First,.int .i64 y_24.Last,.int .i64 y_24.Every,.int .i64 y_24.Days,dl eI y_24.Except,.int .i64 y_24.From,.int .i64 y_24.To,.int .i64 y_24.Prio,dl eS y_24.Tags,.bool y_24.Gone]))) 30 rfl (dP_some (enc:=Entry.enc) (y:=y_24) hy_25) (h_op (.d (.ptr [.str y_24.Key,.str y_24.Item,.int .i64 y_24.Version,.int .i64 y_24.First,.int .i64 y_24.Last,.int .i64 y_24.Every,.int .i64 y_24.Days,dl eI y_24.Except,.int .i64 y_24.From,.int .i64 y_24.To,.int .i64 y_24.Prio,dl eS y_24.Tags,.bool y_24.Gone])) wz rfl (h_fac pl55_0 rfl [.str y_24.Key,.str y_24.Item,.int .i64 y_24.Version,.int .i64 y_24.First,.int .i64 y_24.Last,.int .i64 y_24.Every,.int .i64 y_24.Days,dl eI y_24.Except,.int .i64 y_24.From,.int .i64 y_24.To,.int .i64 y_24.Prio,dl eS y_24.Tags,.bool y_24.Gone] rfl rfl wz (h_ldc sz9 ag9 rfl (vS y_24.Key) rfl wz (h_lit (([y_24.Key]:List ByteArray).map eS) es28 ez28 rfl rfl rfl rfl rfl wz ?_))))
    obtain ⟨a_26,hz_27,hc_19⟩:=bind_some hc_19
    refine h_appg 0 il ft (i:=1) el28 el28 sz9 z9 rfl (by decide) by9 (by decide) (fun _=>rfl) rfl rfl rfl hz_27 wz (fun n_28=>h_op (gV n_28 1 a_26) wz rfl (h_nil (wH_region (h_opw (w64_next hD_13 hn_14) wz rfl (h_op (vI ((k_10 + 1:Nat):Int)) wz rfl (h_nil ?_))))))
    obtain rfl:=some_inj hc_19
    exact loop_mk (k_10 + 1,l_11,a_26,n_28) ⟨hL_20,drop_next hD_13⟩ (Nat.lt_succ_self _) rfl (pre_r rfl)
  ·rintro ⟨s_15,n_18⟩ ho_ sl_ H_ hp_ hq_
   subst ho_
   refine wH_at _ hp_ hq_ (wH_seq (wH_region (h_op (gV n_18 1 s_15) wz rfl (h_op (gV n_18 1 s_15) wz rfl (h_op (vI 0) wz rfl (h_nil (wH_frozg 1 rfl (wH_cog 6 1 rfl rfl (wH_cog 9 1 rfl rfl (wH_cog 37 1 rfl rfl ?_))))))))))
   obtain rfl:=some_inj hF
   exact wH_ret (fin0 (.inr rfl) [(vL eS s_15),(vI 0)] ⟨rfl,⟨rfl,trivial⟩⟩ rfl rfl rfl)
theorem schedule_through_1_ok {a_1:Span} {b_2:Span} {r:Int} (hF:schedule_through_1 a_1 b_2=some r) :
  FnM Tryz.prog 49 [(.d (.agg (Span.enc a_1))),(.d (.agg (Span.enc b_2)))] [] (vI r) []:=by
 refine FnM.of_wH ⟨Tryz.prog,12,[],[]⟩ rfl Tryz.func49 rfl rfl (Nat.le_of_ble_eq_true rfl) (by kernel_rfl) ?_
 unfold schedule_through_1 at hF
 refine wH_seq (wH_region (h_box 0 (.inl rfl) [(.d (dP Entry.enc a_1.f_e)),(vI a_1.f_time.From),(vI a_1.f_time.To)] rfl (one_cons (oneV_dP _ _) (one_cons rfl (one_cons rfl rfl))) wz (fun n_3=>h_box 0 (.inl rfl) [(.d (dP Entry.enc b_2.f_e)),(vI b_2.f_time.From),(vI b_2.f_time.To)] rfl (one_cons (oneV_dP _ _) (one_cons rfl (one_cons rfl rfl))) wz (fun n_4=>h_op (vI 0) wz rfl (h_nil (wH_seq (wH_region (h_far pl67_1 rfl 1 rfl wz (h_far pl65_0 rfl 1 rfl wz (h_ldr 0 0 il ft sz3 ag3 rfl rfl (vI a_1.f_time.From) rfl wz (h_far pl67_1 rfl 1 rfl wz (h_far pl65_0 rfl 1 rfl wz (h_ldr 0 1 il ft sz3 ag3 rfl rfl (vI b_2.f_time.From) rfl wz ?_)))))))))))))
 obtain ⟨r_5,hr_6,hF⟩:=bind_some hF
 refine h_call0 (cmp_Compare_int_ok hr_6) rfl hb50 rfl rfl rfl rfl wz (h_op (vI r_5) wz rfl (h_nil ?_))
 obtain rfl:=some_inj hF
 exact wH_ret (fin0 (.inr rfl) [(vI r_5)] ⟨rfl,trivial⟩ rfl rfl rfl)
theorem slices_sort_by_schedule_through_1_ok {x r:(List Span)} (hF:slices_sort_by_schedule_through_1 x=some r) :
  FnM Tryz.prog 47 [(dV (extN 0) 3 x),(.fn 49 [])] (([]:List Box)++gI 3 Span.enc x) (.tup []) (([]:List Box).map some++gT x (gB 3 Span.enc r)) :=
 fnm_sortf (E:=Span.enc) (F:=fun a b=>schedule_through_1 a b) rfl (fun _=>rfl) (fun a b r h=>schedule_through_1_ok h) hb49 (fun β _ enc hk h1 cf hO g cb blk off cap d w eg hcmp hH hblk hsz=>Tryz.slices_SortFunc_eq_f47 3 Tryz.isAgg67 Tryz.sizeOf67 enc hk h1 cf hO g cb blk off cap d w eg hcmp hH hblk hsz) (fun p cap fv w=>Tryz.slices_SortFunc_none_f47 (α:=Nat) p cap fv w) hF
theorem schedule_cut_ok {t_1:Window} {wv_2:Window} {r:Window} (hF:schedule_cut t_1 wv_2=some r) :
  FnM Tryz.prog 60 [(.d (.agg (Window.enc t_1))),(.d (.agg (Window.enc wv_2)))] [] (.d (.agg (Window.enc r))) []:=by
 refine FnM.of_wH ⟨Tryz.prog,16,[],[]⟩ rfl Tryz.func60 rfl rfl (Nat.le_of_ble_eq_true rfl) (by kernel_rfl) ?_
 unfold schedule_cut at hF
 refine wH_seq (wH_region (h_box 0 (.inl rfl) [(vI t_1.From),(vI t_1.To)] rfl rfl wz (fun n_3=>h_box 0 (.inl rfl) [(vI wv_2.From),(vI wv_2.To)] rfl rfl wz (fun n_4=>h_alloc 0 (.inl rfl) z65 rfl wz (fun n_5=>h_nil (wH_seq (wH_region (h_far pl65_0 rfl 0 rfl wz (h_ldr 0 0 il ft sz3 ag3 rfl rfl (vI t_1.From) rfl wz (h_far pl65_0 rfl 0 rfl wz (h_ldr 0 1 il ft sz3 ag3 rfl rfl (vI wv_2.From) rfl wz (h_minmax (vI (maxI t_1.From wv_2.From)) rfl (.inr rfl) wz (h_far pl65_1 rfl 1 rfl wz (h_ldr 0 0 il ft sz3 ag3 rfl rfl (vI t_1.To) rfl wz (h_far pl65_1 rfl 1 rfl wz (h_ldr 0 1 il ft sz3 ag3 rfl rfl (vI wv_2.To) rfl wz (h_minmax (vI (minI t_1.To wv_2.To)) rfl (.inl rfl) wz (h_op (.d (.agg (Window.enc (⟨(maxI t_1.From wv_2.From),(minI t_1.To wv_2.To)⟩:Window)))) wz (by kernel_rfl) (h_str 0 il ft 2 sz65 rfl rfl [(vI (maxI t_1.From wv_2.From)),(vI (minI t_1.To wv_2.To))] rfl wz (h_nil ?_))))))))))))))))))))
 obtain rfl:=some_inj hF
 exact wH_ret (fin0 (.inr rfl) [(.d (.agg (Window.enc (⟨(maxI t_1.From wv_2.From),(minI t_1.To wv_2.To)⟩:Window))))] ⟨⟨2,_,_,_,_,_,_,_,rfl,rfl,sz65,ag65,rfl⟩,trivial⟩ rfl rfl rfl)
theorem slices_Sort_int_int_v1_ok {x r:(List Int)} (hF:slices_Sort_int_int_v1 x=some r) :
  FnM Tryz.prog 76 [(dV (extN 0) 1 x)] (([]:List Box)++gI 1 eI x) (.tup []) (([]:List Box).map some++gT x (gB 1 eI r)) :=
 sortI_ok Tryz.slices_Sort_int Tryz.slices_Sort_int_none hF
theorem slices_Compact_int_int_v1_ok {s_1:(List Int)} {r:(List Int)} (hF:slices_Compact_int_int_v1 s_1=some r) :
  FnM Tryz.prog 77 [(dV (extN 0) 1 s_1)] (([]:List Box)++gI 1 eI s_1) (vL eI r) (([]:List Box).map some++gT s_1 none):=by
 refine FnM.of_wHv ⟨Tryz.prog,61,[],[]⟩ rfl Tryz.func77 rfl rfl (Nat.le_of_ble_eq_true rfl) (by kernel_rfl) ?_
 unfold slices_Compact_int_int_v1 at hF
 refine wH_seq (wH_region (h_op .nil wz rfl (h_nil (wH_seq (wH_seq (wH_region (h_op (dV (extN 0) 1 s_1) wz rfl (h_lend un22 rfl wz (h_op (vB (decide ((s_1.length:Int) < 2))) wz rfl (h_nil ?_))))))))))
 rcases cond_some hF with⟨hc_2,hF⟩ | ⟨hc_2,hF⟩
 ·refine wH_ift rfl hc_2 (wH_seq (wH_region (h_op (dV (extN 0) 1 s_1) wz rfl (h_op (dV (extN 0) 1 s_1) wz rfl (h_nil (wH_frozg 0 rfl (wH_cod 0 0 rfl rfl (wH_cod 2 0 rfl rfl (wH_cod 6 0 rfl rfl (wH_cod 9 0 rfl rfl (wH_drop (i:=0) rfl ?_)))))))))))
  obtain rfl:=some_inj hF
  exact wH_ret (finV (bs:=([]:List Box)) (os:=([]:List Box)) (xs:=s_1) (o:=none) (.inr rfl) [(vL eI s_1)] ⟨rfl,trivial⟩ rfl rfl rfl rfl rfl (by kernel_rfl) none_ok rfl)
 ·refine wH_iff rfl hc_2 (wH_skip (wH_seq (wH_seq (wH_region (h_op (vI 1) wz rfl (h_nil ?_))))))
  obtain ⟨o_11,hj_12,hF⟩:=bind_some hF
  obtain ⟨nq_52,hj_12⟩:=loopO_iter hj_12
  refine wH_join (β:=(Int)) (fun (s_8:Int)=>([(0,(dV (extN 0) 1 s_1))]:List (Nat×V))) (fun (s_8:Int)=>([((extN 0),gB 1 eI s_1)]:Hp)) (fun p=>o_11 = .go p) ?_ ?_
  ·refine wH_block (wH_loop (β:=Nat×(Int)) (fun p=>(fun (k_3:Nat) (s_8:Int)=>([(0,(dV (extN 0) 1 s_1)),(3,(vI s_8))]:List (Nat×V))) p.1 p.2) (fun p=>(fun (k_3:Nat) (s_8:Int)=>([((extN 0),gB 1 eI s_1)]:Hp)) p.1 p.2) (fun p=>iterN (fun s=>slices_Compact_int_int_v1_L2 s_1 s) p.1 p.2=some o_11) (fun p=>p.1) (nq_52,1) hj_12 rfl (pre_r rfl) ?_)
   rintro ⟨k_3,s_8⟩ hL_10
   dsimp only at hL_10
   cases k_3 with
   | zero=>cases hL_10
   | succ k_3 =>
    obtain ⟨c_,hc_9,hL_10⟩:=bind_some hL_10
    unfold slices_Compact_int_int_v1_L2 at hc_9
    refine wH_seq (wH_seq (wH_region (h_op (vI s_8) wz rfl (h_op (dV (extN 0) 1 s_1) wz rfl (h_lend un22 rfl wz (h_op (vB (decide (s_8 < (s_1.length:Int)))) wz rfl (h_nil ?_)))))))
    rcases cond_some hc_9 with⟨hc_13,hc_9⟩ | ⟨hc_13,hc_9⟩
    ·refine wH_ift rfl hc_13 (wH_skip (wH_seq (wH_block (wH_seq (wH_draws (h_op (dV (extN 0) 1 s_1) wz rfl (h_op (vI s_8) wz rfl ?_)))))))
     obtain ⟨_,hi_14,hc_9⟩:=bind_some hc_9
     refine h_iavd es22 rfl rfl (inR_0 hi_14) (inR_lt hi_14) wz ?_
     obtain ⟨e_15,hy_16,hc_9⟩:=bind_some hc_9
     refine h_ldvg 3 0 (.inr (by kernel_rfl)) (fun _ _ ag=>trivial) sz3 ag3 rfl rfl hy_16 (vI e_15) rfl wz (h_op (dV (extN 0) 1 s_1) wz rfl (h_op (vI s_8) wz rfl (h_op (vI (w64 (s_8 - 1))) wz rfl ?_)))
     obtain ⟨_,hi_17,hc_9⟩:=bind_some hc_9
     refine h_iavd es22 rfl rfl (inR_0 hi_17) (inR_lt hi_17) wz ?_
     obtain ⟨e_18,hy_19,hc_9⟩:=bind_some hc_9
     refine h_ldvg 8 0 (.inr (by kernel_rfl)) (fun _ _ ag=>⟨.inl ⟨rfl,rfl⟩,trivial⟩) sz3 ag3 rfl rfl hy_19 (vI e_18) rfl wz (h_op (vB (e_15 == e_18)) wz rfl (h_nil ?_))
     rcases cond_some hc_9 with⟨hc_20,hc_9⟩ | ⟨hc_20,hc_9⟩
     ·refine wH_ift rfl hc_20 (wH_seq (wH_region (h_op (dV (extN 0) 1 s_1) wz rfl (h_op (vI s_8) wz rfl ?_))))
      obtain ⟨_,hn_21,hc_9⟩:=bind_some hc_9
      replace hn_21:=neL_ne hn_21
      refine h_re (v':=(vV (extN 0) 1 s_1)) 0 rfl (dV_cons hn_21) (h_re (v':=(vV (extN 0) 1 s_1)) 11 rfl (dV_cons hn_21) (h_re (v':=(vV (extN 0) 1 s_1)) 16 rfl (dV_cons hn_21) (h_re (v':=(vV (extN 0) 1 s_1)) 20 rfl (dV_cons hn_21) (h_re (v':=(vV (extN 0) 1 s_1)) 26 rfl (dV_cons hn_21) (h_reH 0 rfl (gB_cons hn_21) ?_)))))
      obtain ⟨_,hr_22,hc_9⟩:=bind_some hc_9
      refine h_partTF un22 sz3 rfl rfl hr_22 wz (h_op (.vs (extN 0) 1 ((s_8).toNat) (((s_1.length:Int)).toNat - (s_8).toNat)) wz rfl (h_nil (wH_seq (wH_seq (wH_region (h_op (vI 1) wz rfl (h_nil ?_)))))))
      obtain ⟨o_31,hj_32,hc_9⟩:=bind_some hc_9
      obtain ⟨nq_51,hj_32⟩:=loopO_iter hj_32
      refine wH_join (β:=((List Int)×Int×Int)) (fun (s_28:(List Int)×Int×Int)=>([(0,(vV (extN 0) 1 s_28.1)),(3,(vI s_28.2.1))]:List (Nat×V))) (fun (s_28:(List Int)×Int×Int)=>([((extN 0),some (bV 1 eI s_28.1))]:Hp)) (fun p=>o_31 = .go p) ?_ ?_
      ·refine wH_block (wH_loop (β:=Nat×((List Int)×Int×Int)) (fun p=>(fun (k_23:Nat) (s_28:(List Int)×Int×Int)=>([(0,(vV (extN 0) 1 s_28.1)),(3,(vI s_28.2.1)),(4,(.vs (extN 0) 1 ((s_8).toNat) (((s_1.length:Int)).toNat - (s_8).toNat))),(5,(vI s_28.2.2))]:List (Nat×V))) p.1 p.2) (fun p=>(fun (k_23:Nat) (s_28:(List Int)×Int×Int)=>([((extN 0),some (bV 1 eI s_28.1))]:Hp)) p.1 p.2) (fun p=>iterN (fun s=>slices_Compact_int_int_v1_L1 s_1 s_8 s) p.1 p.2=some o_31) (fun p=>p.1) (nq_51,(s_1,s_8,1)) hj_32 rfl (pre_r rfl) ?_)
       rintro ⟨k_23,s_28⟩ hL_30
       dsimp only at hL_30
       cases k_23 with
       | zero=>cases hL_30
       | succ k_23 =>
        obtain ⟨c_,hc_29,hL_30⟩:=bind_some hL_30
        unfold slices_Compact_int_int_v1_L1 at hc_29
        refine wH_seq (wH_seq (wH_region (h_op (vI s_28.2.2) wz rfl (h_op (.vs (extN 0) 1 ((s_8).toNat) (((s_1.length:Int)).toNat - (s_8).toNat)) wz rfl (h_lenp un22 rfl wz (h_op (vB (decide (s_28.2.2 < (((((s_1.length:Int)).toNat - (s_8).toNat):Nat):Int)))) wz rfl (h_nil ?_)))))))
        rcases cond_some hc_29 with⟨hc_33,hc_29⟩ | ⟨hc_33,hc_29⟩
        ·refine wH_ift rfl hc_33 (wH_skip (wH_seq (wH_block (wH_seq (wH_draws (h_op (.vs (extN 0) 1 ((s_8).toNat) (((s_1.length:Int)).toNat - (s_8).toNat)) wz rfl (h_op (vI s_28.2.2) wz rfl ?_)))))))
         obtain ⟨_,hi_34,hc_29⟩:=bind_some hc_29
         refine h_iav es22 rfl rfl (inN_0 hi_34) (inN_lt hi_34) wz ?_
         obtain ⟨e_35,hy_36,hc_29⟩:=bind_some hc_29
         refine h_ldv 3 0 (.inr (by kernel_rfl)) (fun _ _ ag=>trivial) sz3 ag3 rfl rfl hy_36 (vI e_35) rfl wz (h_op (.vs (extN 0) 1 ((s_8).toNat) (((s_1.length:Int)).toNat - (s_8).toNat)) wz rfl (h_op (vI s_28.2.2) wz rfl (h_op (vI (w64 (s_28.2.2 - 1))) wz rfl ?_)))
         obtain ⟨_,hi_37,hc_29⟩:=bind_some hc_29
         refine h_iav es22 rfl rfl (inN_0 hi_37) (inN_lt hi_37) wz ?_
         obtain ⟨e_38,hy_39,hc_29⟩:=bind_some hc_29
         refine h_ldv 8 0 (.inr (by kernel_rfl)) (fun _ _ ag=>⟨.inl ⟨rfl,rfl⟩,trivial⟩) sz3 ag3 rfl rfl hy_39 (vI e_38) rfl wz (h_op (vB (e_35 != e_38)) wz rfl (h_nil ?_))
         obtain ⟨v_40,h_41,hc_29⟩:=bind_some hc_29
         refine wH_join (β:=Unit) (fun _=>([(0,(vV (extN 0) 1 v_40.1)),(3,(vI v_40.2)),(4,(.vs (extN 0) 1 ((s_8).toNat) (((s_1.length:Int)).toNat - (s_8).toNat))),(5,(vI s_28.2.2))]:List (Nat×V))) (fun _=>([((extN 0),some (bV 1 eI v_40.1))]:Hp)) (fun _=>True) ?_ ?_
         ·rcases cond_some h_41 with⟨hc_42,h_41⟩ | ⟨hc_42,h_41⟩
          ·refine wH_ift rfl hc_42 (wH_seq (wH_region (h_op (vV (extN 0) 1 s_28.1) wz rfl (h_op (vI s_28.2.1) wz rfl (h_op (.vs (extN 0) 1 ((s_8).toNat) (((s_1.length:Int)).toNat - (s_8).toNat)) wz rfl (h_op (vI s_28.2.2) wz rfl ?_))))))
           obtain ⟨_,hi_43,h_41⟩:=bind_some h_41
           refine h_iav es22 rfl rfl (inN_0 hi_43) (inN_lt hi_43) wz ?_
           obtain ⟨e_44,hy_45,h_41⟩:=bind_some h_41
           refine h_ldv 0 0 il ft sz3 ag3 rfl rfl hy_45 (vI e_44) rfl wz ?_
           obtain ⟨_,hi_46,h_41⟩:=bind_some h_41
           refine h_iav es22 rfl rfl (inR_0 hi_46) (inR_lt hi_46) wz ?_
           obtain ⟨e_47,hy_48,h_41⟩:=bind_some h_41
           refine h_stv 0 il ft 0 sz3 rfl rfl hy_48 e_44 rfl wz (h_re (v':=(vV (extN 0) 1 (s_28.1.set (0 + (s_28.2.1).toNat) e_44))) 0 rfl (vV_len (by simp)) (h_re (v':=(vV (extN 0) 1 (s_28.1.set (0 + (s_28.2.1).toNat) e_44))) 45 rfl (vV_len (by simp)) (h_nil (wH_region (h_op (vI s_28.2.1) wz rfl (h_op (vI (w64 (s_28.2.1 + 1))) wz rfl (h_op (vI (w64 (s_28.2.1 + 1))) wz rfl (h_nil ?_))))))))
           obtain rfl:=some_inj h_41
           exact cu
          ·refine wH_iff rfl hc_42 (wH_skip ?_)
           obtain rfl:=some_inj h_41
           exact cu
         ·rintro ⟨⟩ _ sl_ H_ hp_ hq_
          refine wH_at _ hp_ hq_ (wH_region (h_op (vI s_28.2.2) wz rfl (h_op (vI (w64 (s_28.2.2 + 1))) wz rfl (h_op (vI (w64 (s_28.2.2 + 1))) wz rfl (h_nil ?_)))))
          obtain rfl:=some_inj hc_29
          exact loop_mk (k_23,(v_40.1,v_40.2,(w64 (s_28.2.2 + 1)))) hL_30 (Nat.lt_succ_self _) rfl (pre_r rfl)
        ·refine wH_iff rfl hc_33 (wH_exit ?_)
         obtain rfl:=some_inj hc_29
         obtain rfl:=some_inj hL_30
         exact cut_mk ((s_28.1,s_28.2.1,s_28.2.2)) rfl rfl (pre_r rfl)
      ·rintro s_28 ho_ sl_ H_ hp_ hq_
       subst ho_
       refine wH_at _ hp_ hq_ (wH_seq (wH_region (h_op (vV (extN 0) 1 s_28.1) wz rfl (h_op (vI s_28.2.1) wz rfl ?_))))
       obtain ⟨_,hr_49,hc_9⟩:=bind_some hc_9
       refine h_partTF un22 sz3 rfl rfl hr_49 wz (h_clear (i:=0) 0 il ft 0 el22 sz3 z3 rfl rfl rfl (by decide) rfl (subR_le hr_49) rfl wz (h_re (v':=(vV (extN 0) 1 (s_28.1.take ((s_28.2.1).toNat)++List.replicate (((s_28.1.length:Int)).toNat - (s_28.2.1).toNat) 0++s_28.1.drop (((s_28.2.1).toNat) + (((s_28.1.length:Int)).toNat - (s_28.2.1).toNat))))) 0 rfl (vV_len (clear_len (subR_le hr_49))) (h_re (v':=(vV (extN 0) 1 (s_28.1.take ((s_28.2.1).toNat)++List.replicate (((s_28.1.length:Int)).toNat - (s_28.2.1).toNat) 0++s_28.1.drop (((s_28.2.1).toNat) + (((s_28.1.length:Int)).toNat - (s_28.2.1).toNat))))) 54 rfl (vV_len (clear_len (subR_le hr_49))) (h_nil (wH_seq (wH_region (h_op (vV (extN 0) 1 (s_28.1.take ((s_28.2.1).toNat)++List.replicate (((s_28.1.length:Int)).toNat - (s_28.2.1).toNat) 0++s_28.1.drop (((s_28.2.1).toNat) + (((s_28.1.length:Int)).toNat - (s_28.2.1).toNat)))) wz rfl (h_op (vI s_28.2.1) wz rfl ?_))))))))
       obtain ⟨_,hr_50,hc_9⟩:=bind_some hc_9
       refine h_partFT un22 sz3 rfl rfl hr_50 wz (h_op (.vs (extN 0) 1 0 ((s_28.2.1).toNat)) wz rfl (h_nil (wH_froz 0 rfl (wH_co 0 0 rfl rfl (wH_cop 2 0 rfl rfl (subR_le hr_50) (wH_co 54 0 rfl rfl (wH_co 57 0 rfl rfl (wH_cop 59 0 rfl rfl (subR_le hr_50) (wH_drop (i:=0) rfl ?_)))))))))
       obtain rfl:=some_inj hc_9
       obtain rfl:=some_inj hL_10
       obtain rfl:=some_inj hF
       exact wH_ret (finV (bs:=([]:List Box)) (os:=([]:List Box)) (xs:=s_1) (o:=none) (.inr rfl) [(vL eI (cutL (s_28.1.take ((s_28.2.1).toNat)++List.replicate (((s_28.1.length:Int)).toNat - (s_28.2.1).toNat) 0++s_28.1.drop (((s_28.2.1).toNat) + (((s_28.1.length:Int)).toNat - (s_28.2.1).toNat))) 0 ((s_28.2.1).toNat)))] ⟨rfl,trivial⟩ rfl rfl rfl rfl rfl (by kernel_rfl) none_ok rfl)
     ·refine wH_iff rfl hc_20 (wH_skip (wH_region (h_op (vI s_8) wz rfl (h_op (vI (w64 (s_8 + 1))) wz rfl (h_op (vI (w64 (s_8 + 1))) wz rfl (h_nil ?_))))))
      obtain rfl:=some_inj hc_9
      exact loop_mk (k_3,(w64 (s_8 + 1))) hL_10 (Nat.lt_succ_self _) rfl (pre_r rfl)
    ·refine wH_iff rfl hc_13 (wH_exit ?_)
     obtain rfl:=some_inj hc_9
     obtain rfl:=some_inj hL_10
     exact cut_mk (s_8) rfl rfl (pre_r rfl)
  ·rintro s_8 ho_ sl_ H_ hp_ hq_
   subst ho_
   refine wH_at _ hp_ hq_ (wH_seq (wH_region (h_op (dV (extN 0) 1 s_1) wz rfl (h_op (dV (extN 0) 1 s_1) wz rfl (h_nil (wH_frozg 0 rfl (wH_cod 0 0 rfl rfl (wH_cod 2 0 rfl rfl (wH_cod 60 0 rfl rfl (wH_drop (i:=0) rfl ?_))))))))))
   obtain rfl:=some_inj hF
   exact wH_ret (finV (bs:=([]:List Box)) (os:=([]:List Box)) (xs:=s_1) (o:=none) (.inr rfl) [(vL eI s_1)] ⟨rfl,trivial⟩ rfl rfl rfl rfl rfl (by kernel_rfl) none_ok rfl)
theorem schedule_Edges_ok {l_1:(List Entry)} {p_2:Player} {wv_3:Window} {r:(List Int)} (hF:schedule_Edges l_1 p_2 wv_3=some r) :
  FnM Tryz.prog 51 [(vL Entry.enc l_1),(.d (.agg (Player.enc p_2))),(.d (.agg (Window.enc wv_3)))] [] (vL eI r) []:=by
 refine FnM.of_wH ⟨Tryz.prog,41,[15],[]⟩ rfl Tryz.func51 rfl rfl (Nat.le_of_ble_eq_true rfl) (by kernel_rfl) ?_
 unfold schedule_Edges at hF
 refine wH_seq (wH_region (h_box 0 (.inl rfl) [(vS p_2.Key),(vS p_2.Screen),(vI p_2.Zone),(vL eS p_2.Tags)] rfl rfl wz (fun n_4=>h_box 0 (.inl rfl) [(vI wv_3.From),(vI wv_3.To)] rfl rfl wz (fun n_5=>h_op .nil wz rfl (h_nil (wH_seq (wH_region (h_far pl65_0 rfl 0 rfl wz (h_ldr 0 1 il ft sz3 ag3 rfl rfl (vI wv_3.From) rfl wz (h_far pl65_1 rfl 1 rfl wz (h_ldr 0 1 il ft sz3 ag3 rfl rfl (vI wv_3.To) rfl wz (h_litv 0 (.inl rfl) (([wv_3.From,wv_3.To]:List Int).map eI) es22 ez22 rfl rfl rfl rfl rfl wz (fun n_6=>h_op (vV n_6 1 ([wv_3.From,wv_3.To]:List Int)) wz rfl (h_nil (wH_seq (wH_seq (wH_region (h_op (vL Entry.enc l_1) wz rfl (h_ldr 0 0 il ft sz30 ag30 rfl rfl (.d (.agg (Player.enc p_2))) rfl wz (h_ldr 0 1 il ft sz65 ag65 rfl rfl (.d (.agg (Window.enc wv_3))) rfl wz ?_))))))))))))))))))))
 obtain ⟨r_7,hr_8,hF⟩:=bind_some hF
 refine h_call0 (schedule_spans_ok hr_8) rfl hb46 rfl rfl rfl rfl wz (h_len un62 rfl wz (h_op (vI 0) wz rfl (h_nil ?_)))
 obtain ⟨o_19,hj_20,hF⟩:=bind_some hF
 obtain ⟨hn_13,hj_20⟩:=forL_some hj_20
 refine wH_join (β:=((List Int))×Nm) (fun p=>(fun (s_14:(List Int)) (n_16:Nm)=>([(7,(vV n_16 1 s_14))]:List (Nat×V))) p.1 p.2) (fun p=>(fun (s_14:(List Int)) (n_16:Nm)=>([(n_4,some (.cells 4 [(vS p_2.Key),(vS p_2.Screen),(vI p_2.Zone),(vL eS p_2.Tags)])),(n_5,some (.cells 2 [(vI wv_3.From),(vI wv_3.To)])),(n_16,some (bV 1 eI s_14))]:Hp)) p.1 p.2) (fun p=>o_19 = .go p.1) ?_ ?_
 ·refine wH_block (wH_loop (β:=Nat×(List Span)×((List Int))×Nm) (fun p=>(fun (k_9:Nat) (l_10:List Span) (s_14:(List Int)) (n_16:Nm)=>([(5,(.ref n_5 0 0)),(7,(vV n_16 1 s_14)),(19,(vL Span.enc r_7)),(20,(vI (r_7.length:Int))),(21,(vI (k_9:Int)))]:List (Nat×V))) p.1 p.2.1 p.2.2.1 p.2.2.2) (fun p=>(fun (k_9:Nat) (l_10:List Span) (s_14:(List Int)) (n_16:Nm)=>([(n_4,some (.cells 4 [(vS p_2.Key),(vS p_2.Screen),(vI p_2.Zone),(vL eS p_2.Tags)])),(n_5,some (.cells 2 [(vI wv_3.From),(vI wv_3.To)])),(n_16,some (bV 1 eI s_14))]:Hp)) p.1 p.2.1 p.2.2.1 p.2.2.2) (fun p=>forR (fun k x s=>schedule_Edges_L1 wv_3 k x s) p.2.1 p.1 p.2.2.1=some o_19∧(r_7).drop p.1=p.2.1) (fun p=>p.2.1.length) (0,r_7,([wv_3.From,wv_3.To]:List Int),n_6) ⟨hj_20,rfl⟩ rfl (pre_r rfl) ?_)
  rintro ⟨k_9,l_10,s_14,n_16⟩ ⟨hL_18,hD_12⟩
  dsimp only at hL_18 hD_12
  cases l_10 with
  | nil =>
   obtain rfl:=some_inj hL_18
   refine wH_seq (wH_region (h_op (vB (decide ((k_9:Int) < (r_7.length:Int)))) wz rfl (h_nil ?_)))
   refine wH_seq (wH_iff rfl (drop_nil hD_12) (wH_exit ?_))
   exact cut_mk (s_14,n_16) rfl rfl (pre_r rfl)
  | cons x_11 l_10 =>
   obtain ⟨c_,hc_17,hL_18⟩:=bind_some hL_18
   refine wH_seq (wH_region (h_op (vB (decide ((k_9:Int) < (r_7.length:Int)))) wz rfl (h_nil ?_)))
   refine wH_seq (wH_ift rfl (drop_cons hD_12) (wH_skip ?_))
   unfold schedule_Edges_L1 at hc_17
   refine wH_seq (wH_block (wH_seq (wH_region (h_ia es62 rfl rfl (drop_idx hD_12) rfl wz (h_ldc sz67 ag67 rfl (.d (.agg (Span.enc x_11))) rfl wz (h_alloc 0 (.inl rfl) z67 rfl wz (fun n_21=>h_str 0 il ft 3 sz67 rfl rfl [(.d (dP Entry.enc x_11.f_e)),(vI x_11.f_time.From),(vI x_11.f_time.To)] (stC_one rfl (one_cons (oneV_dP _ _) (one_cons rfl (one_cons rfl rfl))) rfl rfl) wz (h_nil (wH_seq (wH_region (h_far pl67_1 rfl 1 rfl wz (h_ldr 0 3 il ft sz65 ag65 rfl rfl (.d (.agg (Window.enc x_11.f_time))) rfl wz (h_ldr 0 1 il ft sz65 ag65 rfl rfl (.d (.agg (Window.enc wv_3))) rfl wz ?_)))))))))))))
   obtain ⟨r_22,hr_23,hc_17⟩:=bind_some hc_17
   refine h_call0 (schedule_cut_ok hr_23) rfl hb60 rfl rfl rfl rfl wz (h_alloc 0 (.inl rfl) z65 rfl wz (fun n_24=>h_str 0 il ft 4 sz65 rfl rfl [(vI r_22.From),(vI r_22.To)] rfl wz (h_nil (wH_region (h_op (vV n_16 1 s_14) wz rfl (h_far pl65_0 rfl 0 rfl wz (h_ldr 0 4 il ft sz3 ag3 rfl rfl (vI r_22.From) rfl wz (h_far pl65_1 rfl 1 rfl wz (h_ldr 0 4 il ft sz3 ag3 rfl rfl (vI r_22.To) rfl wz (h_lit (([r_22.From,r_22.To]:List Int).map eI) es22 ez22 rfl rfl rfl rfl rfl wz ?_))))))))))
   obtain ⟨a_25,hz_26,hc_17⟩:=bind_some hc_17
   refine h_appv 0 il ft (i:=2) el22 el22 sz3 z3 rfl (by decide) by3 (by decide) (fun _=>rfl) rfl rfl rfl hz_26 wz (fun n_27=>h_op (vV n_27 1 a_25) wz rfl (h_nil (wH_region (h_opw (w64_next hD_12 hn_13) wz rfl (h_op (vI ((k_9 + 1:Nat):Int)) wz rfl (h_nil ?_))))))
   obtain rfl:=some_inj hc_17
   exact loop_mk (k_9 + 1,l_10,a_25,n_27) ⟨hL_18,drop_next hD_12⟩ (Nat.lt_succ_self _) rfl (pre_r rfl)
 ·rintro ⟨s_14,n_16⟩ ho_ sl_ H_ hp_ hq_
  subst ho_
  refine wH_at _ hp_ hq_ (wH_seq (wH_region (h_op (vV n_16 1 s_14) wz rfl ?_)))
  obtain ⟨_,hn_28,hF⟩:=bind_some hF
  replace hn_28:=neL_ne hn_28
  refine h_reH 2 rfl (gB_cons hn_28).symm (h_re (v':=(gV n_16 1 s_14)) 37 rfl (vV_gV hn_28) (h_re (v':=(gV n_16 1 s_14)) 7 rfl (vV_gV hn_28) ?_))
  obtain ⟨r_29,hr_30,hF⟩:=bind_some hF
  obtain ⟨_,hs_31,hF⟩:=bind_some hF
  replace hs_31:=sameL_eq hs_31
  refine h_callv 0 [] 2 0 il ft (slices_Sort_int_int_v1_ok hr_30) rfl hb76 rfl rfl rfl (by kernel_rfl) rfl (.inl rfl) rfl (by kernel_rfl) (by kernel_rfl) (by kernel_rfl) (by kernel_rfl) rfl (by decide) (by kernel_rfl) gB_ok (gB_ho hs_31) wz ([(n_4,some (.cells 4 [(vS p_2.Key),(vS p_2.Screen),(vI p_2.Zone),(vL eS p_2.Tags)])),(n_5,some (.cells 2 [(vI wv_3.From),(vI wv_3.To)])),(n_16,gB 1 eI r_29)]:Hp) (by kernel_rfl) (h_re (v':=(gV n_16 1 r_29)) 37 rfl (gV_len hs_31.symm) (h_re (v':=(gV n_16 1 r_29)) 7 rfl (gV_len hs_31.symm) (h_nil (wH_seq (wH_region (h_op (gV n_16 1 r_29) wz rfl ?_))))))
  obtain ⟨r_32,hr_33,hF⟩:=bind_some hF
  refine h_callv 0 [] 2 0 il ft (slices_Compact_int_int_v1_ok hr_33) rfl hb77 rfl rfl rfl (by kernel_rfl) rfl (.inl rfl) rfl (by kernel_rfl) (by kernel_rfl) (by kernel_rfl) (by kernel_rfl) rfl (by decide) (by kernel_rfl) none_ok (fun _=>rfl) wz ([(n_4,some (.cells 4 [(vS p_2.Key),(vS p_2.Screen),(vI p_2.Zone),(vL eS p_2.Tags)])),(n_5,some (.cells 2 [(vI wv_3.From),(vI wv_3.To)])),(n_16,none)]:Hp) (by kernel_rfl) (h_op (vL eI r_32) wz rfl (h_nil ?_))
  obtain rfl:=some_inj hF
  exact wH_ret (fin0 (.inr rfl) [(vL eI r_32)] ⟨rfl,trivial⟩ rfl rfl rfl)
theorem schedule_through_2_ok {s_1:Span} {p_2:(List Int)} {p_3:Int} {r:Bool} (hF:schedule_through_2 s_1 p_2 p_3=some r) :
  FnM Tryz.prog 53 [(.d (.agg (Span.enc s_1))),(.ref (extN 0) 0 0),(.ref (extN 1) 0 0)] [(.cells 1 [(vL eI p_2)]),(.cells 1 [(vI p_3)])] (vB r) [some (.cells 1 [(vL eI p_2)]),some (.cells 1 [(vI p_3)])]:=by
 refine FnM.of_wH ⟨Tryz.prog,13,[],[]⟩ rfl Tryz.func53 rfl rfl (Nat.le_of_ble_eq_true rfl) (by kernel_rfl) ?_
 unfold schedule_through_2 at hF
 refine wH_seq (wH_region (h_box 0 (.inl rfl) [(.d (dP Entry.enc s_1.f_e)),(vI s_1.f_time.From),(vI s_1.f_time.To)] rfl (one_cons (oneV_dP _ _) (one_cons rfl (one_cons rfl rfl))) wz (fun n_4=>h_op (vB false) wz rfl (h_nil (wH_seq (wH_draws (h_far pl67_1 rfl 1 rfl wz (h_far pl65_1 rfl 2 rfl wz (h_ldr 2 2 (.inr (by kernel_rfl)) (fun _ _ ag=>trivial) sz3 ag3 rfl rfl (vI s_1.f_time.To) rfl wz (h_ldr 3 0 (.inr (by kernel_rfl)) (fun _ _ ag=>⟨.inl ⟨rfl,rfl⟩,trivial⟩) sz22 ag22 rfl rfl (vL eI p_2) rfl wz (h_ldr 4 1 (.inr (by kernel_rfl)) (fun _ _ ag=>⟨.inl ⟨rfl,rfl⟩,⟨.inl ⟨rfl,rfl⟩,trivial⟩⟩) sz3 ag3 rfl rfl (vI p_3) rfl wz ?_)))))))))))
 obtain ⟨y_5,hy_6,hF⟩:=bind_some hF
 refine h_ia es22 rfl rfl hy_6 rfl wz (h_ldc sz3 ag3 rfl (vI y_5) rfl wz (h_op (vB (decide (s_1.f_time.To≤y_5))) wz rfl (h_op (vB (decide (s_1.f_time.To≤y_5))) wz rfl (h_nil ?_))))
 obtain rfl:=some_inj hF
 exact wH_ret (finB (.inr rfl) [(vB (decide (s_1.f_time.To≤y_5)))] _ [0,1] [extN 0,extN 1] ⟨rfl,trivial⟩ (.cons (co_data rfl rfl) (.nil)) (by kernel_rfl) ⟨(by kernel_rfl),⟨(by kernel_rfl),trivial⟩⟩ (by decide) (by kernel_rfl))
end Go.Proofs.YtjhcehhmdmbleaaGreat.Law

