/-
 The machine computes these plain functions (written by a program of ours).
-/
import Derived.Test.YtjhcehhmdmbleaaGreatFacts
import Derived.Test.YtjhcehhmdmbleaaGreatDefs
import Derived.Test.YtjhcehhmdmbleaaGreatPf4
open Go Go.Eng Go.Proofs
namespace Go.Proofs.YtjhcehhmdmbleaaGreat.Law
set_option maxRecDepth 100000
set_option linter.unusedVariables false
set_option maxHeartbeats 1000000
theorem law_errs_ok {l_1:(List Int)} {r:Int} (hF:law_errs l_1=some r) :
  FnM Tryz.prog 12 [(vL eI l_1)] [] (vI r) []:=by
 refine FnM.of_wH ⟨Tryz.prog,15,[],[]⟩ rfl Tryz.func12 rfl rfl (Nat.le_of_ble_eq_true rfl) (by kernel_rfl) ?_
 unfold law_errs at hF
 refine wH_seq (wH_region (h_op (vI 0) wz rfl (h_nil (wH_seq (wH_seq (wH_region (h_op (vL eI l_1) wz rfl (h_len un72 rfl wz (h_op (vI 0) wz rfl (h_nil ?_))))))))))
 obtain ⟨o_10,hj_11,hF⟩:=bind_some hF
 obtain ⟨hn_6,hj_11⟩:=forL_some hj_11
 refine wH_join (β:=(Unit)) (fun (s_7:Unit)=>([]:List (Nat×V))) (fun (s_7:Unit)=>([]:Hp)) (fun p=>o_10 = .go p) ?_ ?_
 ·refine wH_block (wH_loop (β:=Nat×(List Int)×(Unit)) (fun p=>(fun (k_2:Nat) (l_3:List Int) (s_7:Unit)=>([(5,(vL eI l_1)),(6,(vI (l_1.length:Int))),(7,(vI (k_2:Int)))]:List (Nat×V))) p.1 p.2.1 p.2.2) (fun p=>(fun (k_2:Nat) (l_3:List Int) (s_7:Unit)=>([]:Hp)) p.1 p.2.1 p.2.2) (fun p=>forR (fun k x s=>law_errs_L1 k x s) p.2.1 p.1 p.2.2=some o_10∧(l_1).drop p.1=p.2.1) (fun p=>p.2.1.length) (0,l_1,()) ⟨hj_11,rfl⟩ rfl (pre_r rfl) ?_)
  rintro ⟨k_2,l_3,s_7⟩ ⟨hL_9,hD_5⟩
  dsimp only at hL_9 hD_5
  cases l_3 with
  | nil =>
   obtain rfl:=some_inj hL_9
   refine wH_seq (wH_region (h_op (vB (decide ((k_2:Int) < (l_1.length:Int)))) wz rfl (h_nil ?_)))
   refine wH_seq (wH_iff rfl (drop_nil hD_5) (wH_exit ?_))
   exact cut_mk (s_7) rfl rfl (pre_r rfl)
  | cons x_4 l_3 =>
   obtain ⟨c_,hc_8,hL_9⟩:=bind_some hL_9
   refine wH_seq (wH_region (h_op (vB (decide ((k_2:Int) < (l_1.length:Int)))) wz rfl (h_nil ?_)))
   refine wH_seq (wH_ift rfl (drop_cons hD_5) (wH_skip ?_))
   unfold law_errs_L1 at hc_8
   refine wH_seq (wH_block (wH_seq (wH_region (h_ia es72 rfl rfl (drop_idx hD_5) rfl wz (h_ldc sz35 ag35 rfl (vI x_4) rfl wz (h_op (vI x_4) wz rfl (h_nil (wH_seq (wH_region (h_op (vI x_4) wz rfl (h_op (vB (x_4 != 0)) wz rfl (h_nil ?_))))))))))))
   rcases cond_some hc_8 with⟨hc_12,hc_8⟩ | ⟨hc_12,hc_8⟩
   ·refine wH_ift rfl hc_12 (wH_seq (wH_region (h_op (vI x_4) wz rfl (h_op (vI x_4) wz rfl (h_nil ?_)))))
    obtain rfl:=some_inj hc_8
    obtain rfl:=some_inj hL_9
    obtain rfl:=some_inj hF
    exact wH_ret (fin0 (.inr rfl) [(vI x_4)] ⟨rfl,trivial⟩ rfl rfl rfl)
   ·refine wH_iff rfl hc_12 (wH_skip (wH_region (h_opw (w64_next hD_5 hn_6) wz rfl (h_op (vI ((k_2 + 1:Nat):Int)) wz rfl (h_nil ?_)))))
    obtain rfl:=some_inj hc_8
    exact loop_mk (k_2 + 1,l_3,()) ⟨hL_9,drop_next hD_5⟩ (Nat.lt_succ_self _) rfl (pre_r rfl)
 ·rintro s_7 ho_ sl_ H_ hp_ hq_
  subst ho_
  refine wH_at _ hp_ hq_ (wH_seq (wH_region (h_op (vI 0) wz rfl (h_nil ?_))))
  obtain rfl:=some_inj hF
  exact wH_ret (fin0 (.inr rfl) [(vI 0)] ⟨rfl,trivial⟩ rfl rfl rfl)
theorem schedule_windowFault_ok {wv_1:Window} {r:Int} (hF:schedule_windowFault wv_1=some r) :
  FnM Tryz.prog 58 [(.d (.agg (Window.enc wv_1)))] [] (vI r) []:=by
 refine FnM.of_wH ⟨Tryz.prog,19,[],[]⟩ rfl Tryz.func58 rfl rfl (Nat.le_of_ble_eq_true rfl) (by kernel_rfl) ?_
 unfold schedule_windowFault at hF
 refine wH_seq (wH_region (h_box 0 (.inl rfl) [(vI wv_1.From),(vI wv_1.To)] rfl rfl wz (fun n_2=>h_op (vI 0) wz rfl (h_nil (wH_seq (wH_seq ?_))))))
 obtain ⟨v_3,h_4,hF⟩:=bind_some hF
 refine wH_join (β:=Unit) (fun _=>([(1,(.ref n_2 0 0)),(12,(vB v_3))]:List (Nat×V))) (fun _=>([(n_2,some (.cells 2 [(vI wv_1.From),(vI wv_1.To)]))]:Hp)) (fun _=>True) ?_ ?_
 ·refine wH_region (h_far pl65_0 rfl 0 rfl wz (h_ldr 0 0 il ft sz3 ag3 rfl rfl (vI wv_1.From) rfl wz (h_far pl65_1 rfl 1 rfl wz (h_ldr 0 0 il ft sz3 ag3 rfl rfl (vI wv_1.To) rfl wz ?_))))
  obtain ⟨r_5,hr_6,h_4⟩:=bind_some h_4
  refine h_call0 (kit_Outside_ok hr_6) rfl hb57 rfl rfl rfl rfl wz ?_
  rcases cond_some h_4 with⟨hc_7,h_4⟩ | ⟨hc_7,h_4⟩
  ·refine h_movb rfl hc_7 wz (h_skip wa (h_skip wa (h_skip wa (h_op (vB true) wz rfl (h_nil ?_)))))
   obtain rfl:=some_inj h_4
   exact cu
  ·refine h_movb rfl hc_7 wz (h_far pl65_1 rfl 1 rfl wa (h_ldr 0 0 il ft sz3 ag3 rfl rfl (vI wv_1.To) rfl wa (h_op (vB (decide (wv_1.To > 345686400000))) wa rfl (h_op (vB (decide (wv_1.To > 345686400000))) wz rfl (h_nil ?_)))))
   obtain rfl:=some_inj h_4
   exact cu
 ·rintro ⟨⟩ _ sl_ H_ hp_ hq_
  refine wH_at _ hp_ hq_ ?_
  rcases cond_some hF with⟨hc_8,hF⟩ | ⟨hc_8,hF⟩
  ·refine wH_ift rfl hc_8 (wH_seq (wH_region (h_op (vI 1) wz rfl (h_nil ?_))))
   obtain rfl:=some_inj hF
   exact wH_ret (fin0 (.inr rfl) [(vI 1)] ⟨rfl,trivial⟩ rfl rfl rfl)
  ·refine wH_iff rfl hc_8 (wH_skip (wH_seq (wH_seq (wH_region (h_far pl65_1 rfl 1 rfl wz (h_ldr 0 0 il ft sz3 ag3 rfl rfl (vI wv_1.To) rfl wz (h_far pl65_0 rfl 0 rfl wz (h_ldr 0 0 il ft sz3 ag3 rfl rfl (vI wv_1.From) rfl wz (h_op (vI (w64 (wv_1.To - wv_1.From))) wz rfl (h_op (vB (decide ((w64 (wv_1.To - wv_1.From)) > 34560000000))) wz rfl (h_nil ?_)))))))))))
   rcases cond_some hF with⟨hc_9,hF⟩ | ⟨hc_9,hF⟩
   ·refine wH_ift rfl hc_9 (wH_seq (wH_region (h_op (vI 2) wz rfl (h_nil ?_))))
    obtain rfl:=some_inj hF
    exact wH_ret (fin0 (.inr rfl) [(vI 2)] ⟨rfl,trivial⟩ rfl rfl rfl)
   ·refine wH_iff rfl hc_9 (wH_skip (wH_seq (wH_region (h_op (vI 0) wz rfl (h_nil ?_)))))
    obtain rfl:=some_inj hF
    exact wH_ret (fin0 (.inr rfl) [(vI 0)] ⟨rfl,trivial⟩ rfl rfl rfl)
theorem schedule_times_okb {e_1:Entry} {zone_2:Int} {wv_3:Window} {r:(List Window)} (hF:schedule_times e_1 zone_2 wv_3=some r) :
  FnM Tryz.prog 59 [(.d (.agg (Entry.enc e_1))),(vI zone_2),(.d (.agg (Window.enc wv_3)))] [] (gV (extN 0) 2 r) (([]:List Box).map some++gO 2 Window.enc r):=by
 refine FnM.of_wH ⟨Tryz.prog,72,[],[]⟩ rfl Tryz.func59 rfl rfl (Nat.le_of_ble_eq_true rfl) (by kernel_rfl) ?_
 unfold schedule_times at hF
 refine wH_seq (wH_region (h_box 0 (.inl rfl) [(vS e_1.Key),(vS e_1.Item),(vI e_1.Version),(vI e_1.First),(vI e_1.Last),(vI e_1.Every),(vI e_1.Days),(vL eI e_1.Except),(vI e_1.From),(vI e_1.To),(vI e_1.Prio),(vL eS e_1.Tags),(vB e_1.Gone)] rfl rfl wz (fun n_4=>h_box 0 (.inl rfl) [(vI wv_3.From),(vI wv_3.To)] rfl rfl wz (fun n_5=>h_op .nil wz rfl (h_nil (wH_seq (wH_region (h_op .nil wz rfl (h_nil (wH_seq (wH_seq ?_)))))))))))
 obtain ⟨v_6,h_7,hF⟩:=bind_some hF
 refine wH_join (β:=Unit) (fun _=>([(1,(vI zone_2)),(3,(.ref n_4 0 0)),(5,(.ref n_5 0 0)),(7,.nil),(20,(vB v_6))]:List (Nat×V))) (fun _=>([(n_4,some (.cells 13 [(vS e_1.Key),(vS e_1.Item),(vI e_1.Version),(vI e_1.First),(vI e_1.Last),(vI e_1.Every),(vI e_1.Days),(vL eI e_1.Except),(vI e_1.From),(vI e_1.To),(vI e_1.Prio),(vL eS e_1.Tags),(vB e_1.Gone)])),(n_5,some (.cells 2 [(vI wv_3.From),(vI wv_3.To)]))]:Hp)) (fun _=>True) ?_ ?_
 ·refine wH_region (h_far pl55_12 rfl 12 rfl wz (h_ldr 0 0 il ft sz4 ag4 rfl rfl (vB e_1.Gone) rfl wz ?_))
  rcases cond_some h_7 with⟨hc_8,h_7⟩ | ⟨hc_8,h_7⟩
  ·refine h_movb rfl hc_8 wz (h_skip wa (h_skip wa (h_skip wa (h_skip wa (h_skip wa (h_op (vB true) wz rfl (h_nil ?_)))))))
   obtain rfl:=some_inj h_7
   exact cu
  ·refine h_movb rfl hc_8 wz (h_far pl65_0 rfl 0 rfl wa (h_ldr 0 1 il ft sz3 ag3 rfl rfl (vI wv_3.From) rfl wa (h_far pl65_1 rfl 1 rfl wa (h_ldr 0 1 il ft sz3 ag3 rfl rfl (vI wv_3.To) rfl wa (h_op (vB (decide (wv_3.From≥wv_3.To))) wa rfl (h_op (vB (decide (wv_3.From≥wv_3.To))) wz rfl (h_nil ?_)))))))
   obtain rfl:=some_inj h_7
   exact cu
 ·rintro ⟨⟩ _ sl_ H_ hp_ hq_
  refine wH_at _ hp_ hq_ ?_
  rcases cond_some hF with⟨hc_9,hF⟩ | ⟨hc_9,hF⟩
  ·refine wH_ift rfl hc_9 (wH_seq (wH_region (h_op .nil wz rfl (h_nil (wH_new (fun n_10 => ?_))))))
   obtain rfl:=some_inj hF
   exact wH_ret (finG (outs:=([]:List Box)) (.inr rfl) 2 rfl rfl rfl (by kernel_rfl) (by kernel_rfl))
  ·refine wH_iff rfl hc_9 (wH_skip (wH_seq (wH_region (h_far pl65_0 rfl 0 rfl wz (h_ldr 0 1 il ft sz3 ag3 rfl rfl (vI wv_3.From) rfl wz (h_op (vI zone_2) wz rfl (h_op (vI (w64 (zone_2 * 60000))) wz rfl (h_op (vI (w64 (wv_3.From + (w64 (zone_2 * 60000))))) wz rfl (h_op (vI (w64 ((w64 (wv_3.From + (w64 (zone_2 * 60000)))).tdiv 86400000))) wz rfl (h_op (vI (w64 ((w64 ((w64 (wv_3.From + (w64 (zone_2 * 60000)))).tdiv 86400000)) - 2))) wz rfl (h_op (vI (w64 ((w64 ((w64 (wv_3.From + (w64 (zone_2 * 60000)))).tdiv 86400000)) - 2))) wz rfl (h_nil (wH_seq (wH_region (h_far pl65_1 rfl 1 rfl wz (h_ldr 0 1 il ft sz3 ag3 rfl rfl (vI wv_3.To) rfl wz (h_op (vI zone_2) wz rfl (h_op (vI (w64 (zone_2 * 60000))) wz rfl (h_op (vI (w64 (wv_3.To + (w64 (zone_2 * 60000))))) wz rfl (h_op (vI (w64 ((w64 (wv_3.To + (w64 (zone_2 * 60000)))).tdiv 86400000))) wz rfl (h_op (vI (w64 ((w64 ((w64 (wv_3.To + (w64 (zone_2 * 60000)))).tdiv 86400000)) + 1))) wz rfl (h_op (vI (w64 ((w64 ((w64 (wv_3.To + (w64 (zone_2 * 60000)))).tdiv 86400000)) + 1))) wz rfl (h_nil ?_)))))))))))))))))))))))
   refine wH_seq (wH_seq (wH_region (h_op (vI (w64 ((w64 ((w64 (wv_3.From + (w64 (zone_2 * 60000)))).tdiv 86400000)) - 2))) wz rfl (h_far pl55_3 rfl 3 rfl wz (h_ldr 0 0 il ft sz3 ag3 rfl rfl (vI e_1.First) rfl wz (h_minmax (vI (maxI (w64 ((w64 ((w64 (wv_3.From + (w64 (zone_2 * 60000)))).tdiv 86400000)) - 2)) e_1.First)) rfl (.inr rfl) wz (h_op (vI (maxI (w64 ((w64 ((w64 (wv_3.From + (w64 (zone_2 * 60000)))).tdiv 86400000)) - 2)) e_1.First)) wz rfl (h_nil (wH_new (fun n_17 => ?_))))))))))
   obtain ⟨o_22,hj_23,hF⟩:=bind_some hF
   obtain ⟨nq_41,hj_23⟩:=loopO_iter hj_23
   refine wH_join (β:=((List Window)×Int)×Nm) (fun p=>(fun (s_16:(List Window)×Int) (n_19:Nm)=>([(7,(gV n_19 2 s_16.1))]:List (Nat×V))) p.1 p.2) (fun p=>(fun (s_16:(List Window)×Int) (n_19:Nm)=>([(n_4,some (.cells 13 [(vS e_1.Key),(vS e_1.Item),(vI e_1.Version),(vI e_1.First),(vI e_1.Last),(vI e_1.Every),(vI e_1.Days),(vL eI e_1.Except),(vI e_1.From),(vI e_1.To),(vI e_1.Prio),(vL eS e_1.Tags),(vB e_1.Gone)])),(n_5,some (.cells 2 [(vI wv_3.From),(vI wv_3.To)])),(n_19,gB 2 Window.enc s_16.1)]:Hp)) p.1 p.2) (fun p=>o_22 = .go p.1) ?_ ?_
   ·refine wH_block (wH_loop (β:=Nat×((List Window)×Int)×Nm) (fun p=>(fun (k_11:Nat) (s_16:(List Window)×Int) (n_19:Nm)=>([(1,(vI zone_2)),(3,(.ref n_4 0 0)),(5,(.ref n_5 0 0)),(7,(gV n_19 2 s_16.1)),(9,(vI (w64 ((w64 ((w64 (wv_3.To + (w64 (zone_2 * 60000)))).tdiv 86400000)) + 1)))),(10,(vI s_16.2))]:List (Nat×V))) p.1 p.2.1 p.2.2) (fun p=>(fun (k_11:Nat) (s_16:(List Window)×Int) (n_19:Nm)=>([(n_4,some (.cells 13 [(vS e_1.Key),(vS e_1.Item),(vI e_1.Version),(vI e_1.First),(vI e_1.Last),(vI e_1.Every),(vI e_1.Days),(vL eI e_1.Except),(vI e_1.From),(vI e_1.To),(vI e_1.Prio),(vL eS e_1.Tags),(vB e_1.Gone)])),(n_5,some (.cells 2 [(vI wv_3.From),(vI wv_3.To)])),(n_19,gB 2 Window.enc s_16.1)]:Hp)) p.1 p.2.1 p.2.2) (fun p=>iterN (fun s=>schedule_times_L1 wv_3 zone_2 e_1 s) p.1 p.2.1=some o_22) (fun p=>p.1) (nq_41,(([]:List Window),(maxI (w64 ((w64 ((w64 (wv_3.From + (w64 (zone_2 * 60000)))).tdiv 86400000)) - 2)) e_1.First)),n_17) hj_23 rfl (pre_r rfl) ?_)
    rintro ⟨k_11,s_16,n_19⟩ hL_21
    dsimp only at hL_21
    cases k_11 with
    | zero=>cases hL_21
    | succ k_11 =>
     obtain ⟨c_,hc_20,hL_21⟩:=bind_some hL_21
     unfold schedule_times_L1 at hc_20
     refine wH_seq (wH_seq (wH_region (h_op (vI s_16.2) wz rfl (h_op (vI (w64 ((w64 ((w64 (wv_3.To + (w64 (zone_2 * 60000)))).tdiv 86400000)) + 1))) wz rfl (h_far pl55_4 rfl 4 rfl wz (h_ldr 0 0 il ft sz3 ag3 rfl rfl (vI e_1.Last) rfl wz (h_minmax (vI (minI (w64 ((w64 ((w64 (wv_3.To + (w64 (zone_2 * 60000)))).tdiv 86400000)) + 1)) e_1.Last)) rfl (.inl rfl) wz (h_op (vB (decide (s_16.2≤(minI (w64 ((w64 ((w64 (wv_3.To + (w64 (zone_2 * 60000)))).tdiv 86400000)) + 1)) e_1.Last)))) wz rfl (h_nil ?_)))))))))
     rcases cond_some hc_20 with⟨hc_24,hc_20⟩ | ⟨hc_24,hc_20⟩
     ·refine wH_ift rfl hc_24 (wH_skip (wH_seq (wH_block (wH_seq (wH_seq (wH_region (h_ldr 0 0 il ft sz55 ag55 rfl rfl (.d (.agg (Entry.enc e_1))) rfl wz (h_op (vI s_16.2) wz rfl ?_))))))))
      obtain ⟨r_25,hr_26,hc_20⟩:=bind_some hc_20
      refine h_call0 (schedule_isDay_ok hr_26) rfl hb80 rfl rfl rfl rfl wz (h_op (vB (!r_25)) wz rfl (h_nil ?_))
      rcases cond_some hc_20 with⟨hc_27,hc_20⟩ | ⟨hc_27,hc_20⟩
      ·refine wH_ift rfl hc_27 (wH_exit (wH_region (h_op (vI s_16.2) wz rfl (h_op (vI (w64 (s_16.2 + 1))) wz rfl (h_op (vI (w64 (s_16.2 + 1))) wz rfl (h_nil ?_))))))
       obtain rfl:=some_inj hc_20
       exact loop_mk (k_11,(s_16.1,(w64 (s_16.2 + 1))),n_19) hL_21 (Nat.lt_succ_self _) rfl (pre_r rfl)
      ·refine wH_iff rfl hc_27 (wH_skip (wH_seq (wH_region (h_ldr 0 0 il ft sz55 ag55 rfl rfl (.d (.agg (Entry.enc e_1))) rfl wz (h_op (vI zone_2) wz rfl (h_op (vI s_16.2) wz rfl ?_))))))
       obtain ⟨r_28,hr_29,hc_20⟩:=bind_some hc_20
       refine h_call0 (schedule_timeOf_ok hr_29) rfl hb81 rfl rfl rfl rfl wz (h_alloc 0 (.inl rfl) z65 rfl wz (fun n_30=>h_str 0 il ft 3 sz65 rfl rfl [(vI r_28.From),(vI r_28.To)] rfl wz (h_nil (wH_seq ?_))))
       obtain ⟨v_31,h_32,hc_20⟩:=bind_some hc_20
       refine wH_join (β:=Unit) (fun _=>([(1,(vI zone_2)),(3,(.ref n_4 0 0)),(5,(.ref n_5 0 0)),(7,(gV n_19 2 s_16.1)),(9,(vI (w64 ((w64 ((w64 (wv_3.To + (w64 (zone_2 * 60000)))).tdiv 86400000)) + 1)))),(10,(vI s_16.2)),(11,(.ref n_30 0 0)),(66,(vB v_31))]:List (Nat×V))) (fun _=>([(n_4,some (.cells 13 [(vS e_1.Key),(vS e_1.Item),(vI e_1.Version),(vI e_1.First),(vI e_1.Last),(vI e_1.Every),(vI e_1.Days),(vL eI e_1.Except),(vI e_1.From),(vI e_1.To),(vI e_1.Prio),(vL eS e_1.Tags),(vB e_1.Gone)])),(n_5,some (.cells 2 [(vI wv_3.From),(vI wv_3.To)])),(n_19,gB 2 Window.enc s_16.1),(n_30,some (.cells 2 [(vI r_28.From),(vI r_28.To)]))]:Hp)) (fun _=>True) ?_ ?_
       ·refine wH_region (h_far pl65_0 rfl 0 rfl wz (h_ldr 0 3 il ft sz3 ag3 rfl rfl (vI r_28.From) rfl wz (h_far pl65_1 rfl 1 rfl wz (h_ldr 0 1 il ft sz3 ag3 rfl rfl (vI wv_3.To) rfl wz (h_op (vB (decide (r_28.From < wv_3.To))) wz rfl ?_)))))
        rcases cond_some h_32 with⟨hc_33,h_32⟩ | ⟨hc_33,h_32⟩
        ·refine h_movb rfl hc_33 wz (h_far pl65_1 rfl 1 rfl wa (h_ldr 0 3 il ft sz3 ag3 rfl rfl (vI r_28.To) rfl wa (h_far pl65_0 rfl 0 rfl wa (h_ldr 0 1 il ft sz3 ag3 rfl rfl (vI wv_3.From) rfl wa (h_op (vB (decide (r_28.To > wv_3.From))) wa rfl (h_op (vB (decide (r_28.To > wv_3.From))) wz rfl (h_nil ?_)))))))
         obtain rfl:=some_inj h_32
         exact cu
        ·refine h_movb rfl hc_33 wz (h_skip wa (h_skip wa (h_skip wa (h_skip wa (h_skip wa (h_op (vB false) wz rfl (h_nil ?_)))))))
         obtain rfl:=some_inj h_32
         exact cu
       ·rintro ⟨⟩ _ sl_ H_ hp_ hq_
        refine wH_at _ hp_ hq_ ?_
        obtain ⟨v_34,h_35,hc_20⟩:=bind_some hc_20
        refine wH_join (β:=Nm) (fun (n_36:Nm)=>([(1,(vI zone_2)),(3,(.ref n_4 0 0)),(5,(.ref n_5 0 0)),(7,(gV n_36 2 v_34)),(9,(vI (w64 ((w64 ((w64 (wv_3.To + (w64 (zone_2 * 60000)))).tdiv 86400000)) + 1)))),(10,(vI s_16.2))]:List (Nat×V))) (fun (n_36:Nm)=>([(n_4,some (.cells 13 [(vS e_1.Key),(vS e_1.Item),(vI e_1.Version),(vI e_1.First),(vI e_1.Last),(vI e_1.Every),(vI e_1.Days),(vL eI e_1.Except),(vI e_1.From),(vI e_1.To),(vI e_1.Prio),(vL eS e_1.Tags),(vB e_1.Gone)])),(n_5,some (.cells 2 [(vI wv_3.From),(vI wv_3.To)])),(n_36,gB 2 Window.enc v_34),(n_30,some (.cells 2 [(vI r_28.From),(vI r_28.To)]))]:Hp)) (fun _=>True) ?_ ?_
        ·rcases cond_some h_35 with⟨hc_37,h_35⟩ | ⟨hc_37,h_35⟩
         ·refine wH_ift rfl hc_37 (wH_region (h_op (gV n_19 2 s_16.1) wz rfl (h_ldr 0 3 il ft sz65 ag65 rfl rfl (.d (.agg (Window.enc r_28))) rfl wz (h_lit (([r_28]:List Window).map Window.enc) es78 ez78 rfl rfl rfl rfl rfl wz ?_))))
          obtain ⟨a_38,hz_39,h_35⟩:=bind_some h_35
          refine h_appg 0 il ft (i:=2) el78 el78 sz65 z65 rfl (by decide) by65 (by decide) (fun _=>rfl) rfl rfl rfl hz_39 wz (fun n_40=>h_op (gV n_40 2 a_38) wz rfl (h_nil ?_))
          obtain rfl:=some_inj h_35
          exact cut_mk n_40 trivial rfl (pre_r rfl)
         ·refine wH_iff rfl hc_37 (wH_skip ?_)
          obtain rfl:=some_inj h_35
          exact cut_mk n_19 trivial rfl (pre_r rfl)
        ·rintro n_36 _ sl_ H_ hp_ hq_
         refine wH_at _ hp_ hq_ (wH_region (h_op (vI s_16.2) wz rfl (h_op (vI (w64 (s_16.2 + 1))) wz rfl (h_op (vI (w64 (s_16.2 + 1))) wz rfl (h_nil ?_)))))
         obtain rfl:=some_inj hc_20
         exact loop_mk (k_11,(v_34,(w64 (s_16.2 + 1))),n_36) hL_21 (Nat.lt_succ_self _) rfl (pre_r rfl)
     ·refine wH_iff rfl hc_24 (wH_exit ?_)
      obtain rfl:=some_inj hc_20
      obtain rfl:=some_inj hL_21
      exact cut_mk ((s_16.1,s_16.2),n_19) rfl rfl (pre_r rfl)
   ·rintro ⟨s_16,n_19⟩ ho_ sl_ H_ hp_ hq_
    subst ho_
    refine wH_at _ hp_ hq_ (wH_seq (wH_region (h_op (gV n_19 2 s_16.1) wz rfl (h_op (gV n_19 2 s_16.1) wz rfl (h_nil ?_)))))
    obtain rfl:=some_inj hF
    exact wH_ret (finG (outs:=([]:List Box)) (.inr rfl) 2 rfl rfl rfl (by kernel_rfl) (by kernel_rfl))
theorem schedule_Times_ok {e_1:Entry} {zone_2:Int} {wv_3:Window} {r:(List Window)×Int} (hF:schedule_Times e_1 zone_2 wv_3=some r) :
  FnM Tryz.prog 36 [(.d (.agg (Entry.enc e_1))),(vI zone_2),(.d (.agg (Window.enc wv_3)))] [] (.tup [(vL Window.enc r.1),(vI r.2)]) []:=by
 refine FnM.of_wH ⟨Tryz.prog,45,[],[]⟩ rfl Tryz.func36 rfl rfl (Nat.le_of_ble_eq_true rfl) (by kernel_rfl) ?_
 unfold schedule_Times at hF
 refine wH_seq (wH_region (h_box 0 (.inl rfl) [(vS e_1.Key),(vS e_1.Item),(vI e_1.Version),(vI e_1.First),(vI e_1.Last),(vI e_1.Every),(vI e_1.Days),(vL eI e_1.Except),(vI e_1.From),(vI e_1.To),(vI e_1.Prio),(vL eS e_1.Tags),(vB e_1.Gone)] rfl rfl wz (fun n_4=>h_box 0 (.inl rfl) [(vI wv_3.From),(vI wv_3.To)] rfl rfl wz (fun n_5=>h_op .nil wz rfl (h_op (vI 0) wz rfl (h_nil (wH_seq (wH_seq (wH_region (h_ldr 0 0 il ft sz55 ag55 rfl rfl (.d (.agg (Entry.enc e_1))) rfl wz (h_lit (([e_1]:List Entry).map Entry.enc) es26 ez26 rfl rfl rfl rfl rfl wz ?_)))))))))))
 obtain ⟨r_6,hr_7,hF⟩:=bind_some hF
 refine h_call0 (schedule_CheckEntries_ok hr_7) rfl hb43 rfl rfl rfl rfl wz (h_op (vI r_6) wz rfl (h_nil (wH_seq (wH_region (h_op (vI r_6) wz rfl (h_op (vB (r_6 != 0)) wz rfl (h_nil ?_)))))))
 rcases cond_some hF with⟨hc_8,hF⟩ | ⟨hc_8,hF⟩
 ·refine wH_ift rfl hc_8 (wH_seq (wH_region (h_op (vI r_6) wz rfl (h_op .nil wz rfl (h_op (vI r_6) wz rfl (h_nil ?_))))))
  obtain rfl:=some_inj hF
  exact wH_ret (fin0 (.inr rfl) [.nil,(vI r_6)] ⟨rfl,⟨rfl,trivial⟩⟩ rfl rfl rfl)
 ·refine wH_iff rfl hc_8 (wH_skip (wH_seq (wH_seq (wH_region (h_op (vI zone_2) wz rfl ?_)))))
  obtain ⟨r_9,hr_10,hF⟩:=bind_some hF
  refine h_call0 (kit_Outside_ok hr_10) rfl hb57 rfl rfl rfl rfl wz (h_nil ?_)
  rcases cond_some hF with⟨hc_11,hF⟩ | ⟨hc_11,hF⟩
  ·refine wH_ift rfl hc_11 (wH_seq (wH_region (h_op .nil wz rfl (h_op (vI 1) wz rfl (h_nil ?_)))))
   obtain rfl:=some_inj hF
   exact wH_ret (fin0 (.inr rfl) [.nil,(vI 1)] ⟨rfl,⟨rfl,trivial⟩⟩ rfl rfl rfl)
  ·refine wH_iff rfl hc_11 (wH_skip (wH_seq (wH_seq (wH_region (h_ldr 0 1 il ft sz65 ag65 rfl rfl (.d (.agg (Window.enc wv_3))) rfl wz ?_)))))
   obtain ⟨r_12,hr_13,hF⟩:=bind_some hF
   refine h_call0 (schedule_windowFault_ok hr_13) rfl hb58 rfl rfl rfl rfl wz (h_op (vI r_12) wz rfl (h_nil (wH_seq (wH_region (h_op (vI r_12) wz rfl (h_op (vB (r_12 != 0)) wz rfl (h_nil ?_)))))))
   rcases cond_some hF with⟨hc_14,hF⟩ | ⟨hc_14,hF⟩
   ·refine wH_ift rfl hc_14 (wH_seq (wH_region (h_op (vI r_12) wz rfl (h_op .nil wz rfl (h_op (vI r_12) wz rfl (h_nil ?_))))))
    obtain rfl:=some_inj hF
    exact wH_ret (fin0 (.inr rfl) [.nil,(vI r_12)] ⟨rfl,⟨rfl,trivial⟩⟩ rfl rfl rfl)
   ·refine wH_iff rfl hc_14 (wH_skip (wH_seq (wH_region (h_ldr 0 0 il ft sz55 ag55 rfl rfl (.d (.agg (Entry.enc e_1))) rfl wz (h_op (vI zone_2) wz rfl (h_ldr 0 1 il ft sz65 ag65 rfl rfl (.d (.agg (Window.enc wv_3))) rfl wz ?_))))))
    obtain ⟨r_15,hr_16,hF⟩:=bind_some hF
    refine h_callg [] (schedule_times_okb hr_16) rfl hb59 rfl (by kernel_rfl) (by kernel_rfl) (by kernel_rfl) (by kernel_rfl) (by kernel_rfl) rfl (by decide) (by kernel_rfl) wz ([(n_4,some (.cells 13 [(vS e_1.Key),(vS e_1.Item),(vI e_1.Version),(vI e_1.First),(vI e_1.Last),(vI e_1.Every),(vI e_1.Days),(vL eI e_1.Except),(vI e_1.From),(vI e_1.To),(vI e_1.Prio),(vL eS e_1.Tags),(vB e_1.Gone)])),(n_5,some (.cells 2 [(vI wv_3.From),(vI wv_3.To)]))]:Hp) (fun _=>by kernel_rfl) (fun n_18=>h_op (gV n_18 2 r_15) wz rfl (h_nil (wH_seq (wH_seq (wH_region (h_op (gV n_18 2 r_15) wz rfl (h_leng un78 rfl wz (h_op (vI 0) wz rfl (h_nil ?_)))))))))
    obtain ⟨o_27,hj_28,hF⟩:=bind_some hF
    obtain ⟨hn_23,hj_28⟩:=forL_some hj_28
    refine wH_join (β:=((List Window))) (fun (s_24:(List Window))=>([(10,(gV n_18 2 s_24))]:List (Nat×V))) (fun (s_24:(List Window))=>([(n_4,some (.cells 13 [(vS e_1.Key),(vS e_1.Item),(vI e_1.Version),(vI e_1.First),(vI e_1.Last),(vI e_1.Every),(vI e_1.Days),(vL eI e_1.Except),(vI e_1.From),(vI e_1.To),(vI e_1.Prio),(vL eS e_1.Tags),(vB e_1.Gone)])),(n_5,some (.cells 2 [(vI wv_3.From),(vI wv_3.To)])),(n_18,gB 2 Window.enc s_24)]:Hp)) (fun p=>o_27 = .go p) ?_ ?_
    ·refine wH_block (wH_loop (β:=Nat×(List Nat)×((List Window))) (fun p=>(fun (k_19:Nat) (l_20:List Nat) (s_24:(List Window))=>([(5,(.ref n_5 0 0)),(10,(gV n_18 2 s_24)),(30,(gV n_18 2 s_24)),(31,(vI (r_15.length:Int))),(32,(vI (k_19:Int)))]:List (Nat×V))) p.1 p.2.1 p.2.2) (fun p=>(fun (k_19:Nat) (l_20:List Nat) (s_24:(List Window))=>([(n_4,some (.cells 13 [(vS e_1.Key),(vS e_1.Item),(vI e_1.Version),(vI e_1.First),(vI e_1.Last),(vI e_1.Every),(vI e_1.Days),(vL eI e_1.Except),(vI e_1.From),(vI e_1.To),(vI e_1.Prio),(vL eS e_1.Tags),(vB e_1.Gone)])),(n_5,some (.cells 2 [(vI wv_3.From),(vI wv_3.To)])),(n_18,gB 2 Window.enc s_24)]:Hp)) p.1 p.2.1 p.2.2) (fun p=>forR (fun k x s=>schedule_Times_L1 wv_3 k x s) p.2.1 p.1 p.2.2=some o_27∧((List.range ((r_15.length:Int)).toNat)).drop p.1=p.2.1) (fun p=>p.2.1.length) (0,(List.range ((r_15.length:Int)).toNat),r_15) ⟨hj_28,rfl⟩ rfl (pre_r rfl) ?_)
     rintro ⟨k_19,l_20,s_24⟩ ⟨hL_26,hD_22⟩
     dsimp only at hL_26 hD_22
     cases l_20 with
     | nil =>
      obtain rfl:=some_inj hL_26
      refine wH_seq (wH_region (h_op (vB (decide ((k_19:Int) < (r_15.length:Int)))) wz rfl (h_nil ?_)))
      refine wH_seq (wH_iff rfl (range_nil hD_22) (wH_exit ?_))
      exact cut_mk (s_24) rfl rfl (pre_r rfl)
     | cons x_21 l_20 =>
      obtain ⟨c_,hc_25,hL_26⟩:=bind_some hL_26
      refine wH_seq (wH_region (h_op (vB (decide ((k_19:Int) < (r_15.length:Int)))) wz rfl (h_nil ?_)))
      refine wH_seq (wH_ift rfl (range_cons hD_22) (wH_skip ?_))
      unfold schedule_Times_L1 at hc_25
      refine wH_seq (wH_block (wH_seq (wH_region (h_op (vI (k_19:Int)) wz rfl ?_))))
      obtain ⟨_,hi_29,hc_25⟩:=bind_some hc_25
      refine h_iavg es78 rfl rfl (inR_0 hi_29) (inR_lt hi_29) wz ?_
      obtain ⟨e_30,hy_31,hc_25⟩:=bind_some hc_25
      refine h_ldvg 0 2 il ft sz65 ag65 rfl rfl hy_31 (.d (.agg (Window.enc e_30))) rfl wz (h_alloc 0 (.inl rfl) z65 rfl wz (fun n_32=>h_op (vI (k_19:Int)) wz rfl (h_str 0 il ft 3 sz65 rfl rfl [(vI e_30.From),(vI e_30.To)] rfl wz (h_nil (wH_region (h_op (gV n_18 2 s_24) wz rfl (h_op (vI (k_19:Int)) wz rfl (h_ldr 0 3 il ft sz65 ag65 rfl rfl (.d (.agg (Window.enc e_30))) rfl wz (h_ldr 0 1 il ft sz65 ag65 rfl rfl (.d (.agg (Window.enc wv_3))) rfl wz ?_)))))))))
      obtain ⟨r_33,hr_34,hc_25⟩:=bind_some hc_25
      refine h_call0 (schedule_cut_ok hr_34) rfl hb60 rfl rfl rfl rfl wz ?_
      obtain ⟨_,hi_35,hc_25⟩:=bind_some hc_25
      refine h_iavg es78 rfl rfl (inR_0 hi_35) (inR_lt hi_35) wz ?_
      obtain ⟨e_36,hy_37,hc_25⟩:=bind_some hc_25
      refine h_stvg 0 il ft 2 sz65 rfl rfl hy_37 r_33 rfl wz (h_re (v':=(gV n_18 2 (s_24.set (0 + ((k_19:Int)).toNat) r_33))) 10 rfl (gV_len (by simp)) (h_re (v':=(gV n_18 2 (s_24.set (0 + ((k_19:Int)).toNat) r_33))) 30 rfl (gV_len (by simp)) (h_re (v':=(gV n_18 2 (s_24.set (0 + ((k_19:Int)).toNat) r_33))) 37 rfl (gV_len (by simp)) (h_nil (wH_region (h_opw (w64_nextr hD_22 hn_23) wz rfl (h_op (vI ((k_19 + 1:Nat):Int)) wz rfl (h_nil ?_))))))))
      obtain rfl:=some_inj hc_25
      exact loop_mk (k_19 + 1,l_20,(s_24.set (0 + ((k_19:Int)).toNat) r_33)) ⟨hL_26,drop_next hD_22⟩ (Nat.lt_succ_self _) rfl (pre_r rfl)
    ·rintro s_24 ho_ sl_ H_ hp_ hq_
     subst ho_
     refine wH_at _ hp_ hq_ (wH_seq (wH_region (h_op (gV n_18 2 s_24) wz rfl (h_op (gV n_18 2 s_24) wz rfl (h_op (vI 0) wz rfl (h_nil (wH_frozg 2 rfl (wH_cog 6 2 rfl rfl (wH_cog 10 2 rfl rfl (wH_cog 44 2 rfl rfl ?_))))))))))
     obtain rfl:=some_inj hF
     exact wH_ret (fin0 (.inr rfl) [(vL Window.enc s_24),(vI 0)] ⟨rfl,⟨rfl,trivial⟩⟩ rfl rfl rfl)
theorem law_timed_ok {r:Bool} (hF:law_timed  = some r) :
  FnM Tryz.prog 16 [] [] (vB r) []:=by
 refine FnM.of_wH ⟨Tryz.prog,23,[],[]⟩ rfl Tryz.func16 rfl rfl (Nat.le_of_ble_eq_true rfl) (by kernel_rfl) ?_
 unfold law_timed at hF
 refine wH_seq (wH_region (h_op (vB false) wz rfl (h_nil (wH_seq (wH_region (h_op (.agg [(vS (⟨#[97]⟩:ByteArray)),(vS (⟨#[98]⟩:ByteArray)),(vI 0),(vI 0),(vI 0),(vI 1),(vI 127),.nil,(vI 1),(vI 2),(vI 0),.nil,(vB false)]) wz (by kernel_rfl) (h_op (.d (.agg (Window.enc (⟨0,86400000⟩:Window)))) wz (by kernel_rfl) ?_)))))))
 obtain ⟨r_1,hr_2,hF⟩:=bind_some hF
 refine h_call0 (schedule_Times_ok hr_2) rfl hb36 rfl rfl rfl rfl wz (h_op (.tup [(vL Window.enc r_1.1),(vI r_1.2)]) wz rfl (h_op (vL Window.enc r_1.1) wz rfl (h_op (vI r_1.2) wz rfl (h_op (vL Window.enc r_1.1) wz rfl (h_op (vI r_1.2) wz rfl (h_nil (wH_seq ?_)))))))
 obtain ⟨v_3,h_4,hF⟩:=bind_some hF
 refine wH_join (β:=Unit) (fun _=>([(0,(vB v_3))]:List (Nat×V))) (fun _=>([]:Hp)) (fun _=>True) ?_ ?_
 ·refine wH_region (h_op (vI r_1.2) wz rfl (h_op (vB (r_1.2 == 0)) wz rfl ?_))
  rcases cond_some h_4 with⟨hc_5,h_4⟩ | ⟨hc_5,h_4⟩
  ·refine h_movb rfl hc_5 wz (h_op (vL Window.enc r_1.1) wa rfl (h_len un78 rfl wa (h_op (vB ((r_1.1.length:Int) == 1)) wa rfl (h_op (vB ((r_1.1.length:Int) == 1)) wz rfl ?_))))
   rcases cond_some h_4 with⟨hc_6,h_4⟩ | ⟨hc_6,h_4⟩
   ·refine h_movb rfl hc_6 wz (h_op (vL Window.enc r_1.1) wa rfl ?_)
    obtain ⟨y_7,hy_8,h_4⟩:=bind_some h_4
    refine h_ia es78 rfl rfl hy_8 rfl wa (h_fac pl65_0 rfl [.int .i64 y_7.From,.int .i64 y_7.To] rfl rfl wa (h_ldc sz3 ag3 rfl (vI y_7.From) rfl wa (h_op (vB (y_7.From == 60000)) wa rfl (h_op (vB (y_7.From == 60000)) wz rfl (h_op (vB (y_7.From == 60000)) wz rfl (h_nil ?_))))))
    obtain rfl:=some_inj h_4
    exact cu
   ·refine h_movb rfl hc_6 wz (h_skip wa (h_skip wa (h_skip wa (h_skip wa (h_skip wa (h_op (vB false) wz rfl (h_op (vB false) wz rfl (h_nil ?_))))))))
    obtain rfl:=some_inj h_4
    exact cu
  ·refine h_movb rfl hc_5 wz (h_skip wa (h_skip wa (h_skip wa (h_op (vB false) wz rfl (h_op (vB false) wz rfl (h_skip wa (h_skip wa (h_skip wa (h_skip wa (h_skip wa (h_op (vB false) wz rfl (h_op (vB false) wz rfl (h_nil ?_)))))))))))))
   obtain rfl:=some_inj h_4
   exact cu
 ·rintro ⟨⟩ _ sl_ H_ hp_ hq_
  refine wH_at _ hp_ hq_ ?_
  obtain rfl:=some_inj hF
  exact wH_ret (fin0 (.inr rfl) [(vB v_3)] ⟨rfl,trivial⟩ rfl rfl rfl)
theorem ref_floor_ok {a_1:Int} {b_2:Int} {r:Int} (hF:ref_floor a_1 b_2=some r) :
  FnM Tryz.prog 82 [(vI a_1),(vI b_2)] [] (vI r) []:=by
 refine FnM.of_wH ⟨Tryz.prog,16,[],[]⟩ rfl Tryz.func82 rfl rfl (Nat.le_of_ble_eq_true rfl) (by kernel_rfl) ?_
 unfold ref_floor at hF
 refine wH_seq (wH_region (h_op (vI 0) wz rfl (h_nil (wH_seq (wH_seq (wH_region (h_op (vI a_1) wz rfl (h_op (vI b_2) wz rfl ?_))))))))
 obtain ⟨q_3,hz_4,hF⟩:=bind_some hF
 refine h_rem rfl rfl hz_4 wz (h_op (vB (decide (q_3 < 0))) wz rfl (h_nil ?_))
 rcases cond_some hF with⟨hc_5,hF⟩ | ⟨hc_5,hF⟩
 ·refine wH_ift rfl hc_5 (wH_seq (wH_region (h_op (vI a_1) wz rfl (h_op (vI b_2) wz rfl ?_))))
  obtain ⟨q_6,hz_7,hF⟩:=bind_some hF
  refine h_quo rfl rfl hz_7 wz (h_op (vI (w64 (q_6 - 1))) wz rfl (h_op (vI (w64 (q_6 - 1))) wz rfl (h_nil ?_)))
  obtain rfl:=some_inj hF
  exact wH_ret (fin0 (.inr rfl) [(vI (w64 (q_6 - 1)))] ⟨rfl,trivial⟩ rfl rfl rfl)
 ·refine wH_iff rfl hc_5 (wH_skip (wH_seq (wH_region (h_op (vI a_1) wz rfl (h_op (vI b_2) wz rfl ?_)))))
  obtain ⟨q_8,hz_9,hF⟩:=bind_some hF
  refine h_quo rfl rfl hz_9 wz (h_op (vI q_8) wz rfl (h_nil ?_))
  obtain rfl:=some_inj hF
  exact wH_ret (fin0 (.inr rfl) [(vI q_8)] ⟨rfl,trivial⟩ rfl rfl rfl)
theorem ref_timeOf_ok {e_1:Entry} {zone_2:Int} {d_3:Int} {r:Window} (hF:ref_timeOf e_1 zone_2 d_3=some r) :
  FnM Tryz.prog 83 [(.d (.agg (Entry.enc e_1))),(vI zone_2),(vI d_3)] [] (.d (.agg (Window.enc r))) []:=by
 refine FnM.of_wH ⟨Tryz.prog,32,[],[]⟩ rfl Tryz.func83 rfl rfl (Nat.le_of_ble_eq_true rfl) (by kernel_rfl) ?_
 unfold ref_timeOf at hF
 refine wH_seq (wH_region (h_box 0 (.inl rfl) [(vS e_1.Key),(vS e_1.Item),(vI e_1.Version),(vI e_1.First),(vI e_1.Last),(vI e_1.Every),(vI e_1.Days),(vL eI e_1.Except),(vI e_1.From),(vI e_1.To),(vI e_1.Prio),(vL eS e_1.Tags),(vB e_1.Gone)] rfl rfl wz (fun n_4=>h_alloc 0 (.inl rfl) z65 rfl wz (fun n_5=>h_nil (wH_seq (wH_region (h_far pl55_9 rfl 9 rfl wz (h_ldr 0 0 il ft sz3 ag3 rfl rfl (vI e_1.To) rfl wz (h_op (vI e_1.To) wz rfl (h_nil (wH_seq (wH_seq (wH_region (h_op (vI e_1.To) wz rfl (h_far pl55_8 rfl 8 rfl wz (h_ldr 0 0 il ft sz3 ag3 rfl rfl (vI e_1.From) rfl wz (h_op (vB (decide (e_1.To≤e_1.From))) wz rfl (h_nil ?_))))))))))))))))))
 obtain ⟨v_6,h_7,hF⟩:=bind_some hF
 refine wH_join (β:=Unit) (fun _=>([(1,(vI zone_2)),(2,(vI d_3)),(3,(.ref n_4 0 0)),(6,(.ref n_5 0 0)),(7,(vI v_6))]:List (Nat×V))) (fun _=>([(n_4,some (.cells 13 [(vS e_1.Key),(vS e_1.Item),(vI e_1.Version),(vI e_1.First),(vI e_1.Last),(vI e_1.Every),(vI e_1.Days),(vL eI e_1.Except),(vI e_1.From),(vI e_1.To),(vI e_1.Prio),(vL eS e_1.Tags),(vB e_1.Gone)])),(n_5,some (.cells 2 [(vI 0),(vI 0)]))]:Hp)) (fun _=>True) ?_ ?_
 ·rcases cond_some h_7 with⟨hc_8,h_7⟩ | ⟨hc_8,h_7⟩
  ·refine wH_ift rfl hc_8 (wH_region (h_op (vI e_1.To) wz rfl (h_op (vI (w64 (e_1.To + 1440))) wz rfl (h_op (vI (w64 (e_1.To + 1440))) wz rfl (h_nil ?_)))))
   obtain rfl:=some_inj h_7
   exact cu
  ·refine wH_iff rfl hc_8 (wH_skip ?_)
   obtain rfl:=some_inj h_7
   exact cu
 ·rintro ⟨⟩ _ sl_ H_ hp_ hq_
  refine wH_at _ hp_ hq_ (wH_seq (wH_region (h_op (vI d_3) wz rfl (h_op (vI (w64 (d_3 * 86400000))) wz rfl (h_op (vI zone_2) wz rfl (h_op (vI (w64 (zone_2 * 60000))) wz rfl (h_op (vI (w64 ((w64 (d_3 * 86400000)) - (w64 (zone_2 * 60000))))) wz rfl (h_op (vI (w64 ((w64 (d_3 * 86400000)) - (w64 (zone_2 * 60000))))) wz rfl (h_nil (wH_seq (wH_region (h_op (vI (w64 ((w64 (d_3 * 86400000)) - (w64 (zone_2 * 60000))))) wz rfl (h_far pl55_8 rfl 8 rfl wz (h_ldr 0 0 il ft sz3 ag3 rfl rfl (vI e_1.From) rfl wz (h_op (vI (w64 (e_1.From * 60000))) wz rfl (h_op (vI (w64 ((w64 ((w64 (d_3 * 86400000)) - (w64 (zone_2 * 60000)))) + (w64 (e_1.From * 60000))))) wz rfl (h_op (vI (w64 ((w64 (d_3 * 86400000)) - (w64 (zone_2 * 60000))))) wz rfl (h_op (vI v_6) wz rfl (h_op (vI (w64 (v_6 * 60000))) wz rfl (h_op (vI (w64 ((w64 ((w64 (d_3 * 86400000)) - (w64 (zone_2 * 60000)))) + (w64 (v_6 * 60000))))) wz rfl (h_op (.d (.agg (Window.enc (⟨(w64 ((w64 ((w64 (d_3 * 86400000)) - (w64 (zone_2 * 60000)))) + (w64 (e_1.From * 60000)))),(w64 ((w64 ((w64 (d_3 * 86400000)) - (w64 (zone_2 * 60000)))) + (w64 (v_6 * 60000))))⟩:Window)))) wz (by kernel_rfl) (h_str 0 il ft 1 sz65 rfl rfl [(vI (w64 ((w64 ((w64 (d_3 * 86400000)) - (w64 (zone_2 * 60000)))) + (w64 (e_1.From * 60000))))),(vI (w64 ((w64 ((w64 (d_3 * 86400000)) - (w64 (zone_2 * 60000)))) + (w64 (v_6 * 60000)))))] rfl wz (h_nil ?_)))))))))))))))))))))))
  obtain rfl:=some_inj hF
  exact wH_ret (fin0 (.inr rfl) [(.d (.agg (Window.enc (⟨(w64 ((w64 ((w64 (d_3 * 86400000)) - (w64 (zone_2 * 60000)))) + (w64 (e_1.From * 60000)))),(w64 ((w64 ((w64 (d_3 * 86400000)) - (w64 (zone_2 * 60000)))) + (w64 (v_6 * 60000))))⟩:Window))))] ⟨⟨1,_,_,_,_,_,_,_,rfl,rfl,sz65,ag65,rfl⟩,trivial⟩ rfl rfl rfl)
theorem slices_Index_int_int_ok {s_1:(List Int)} {v_2:Int} {r:Int} (hF:slices_Index_int_int s_1 v_2=some r) :
  FnM Tryz.prog 138 [(vL eI s_1),(vI v_2)] [] (vI r) []:=by
 refine FnM.of_wH ⟨Tryz.prog,19,[],[]⟩ rfl Tryz.func138 rfl rfl (Nat.le_of_ble_eq_true rfl) (by kernel_rfl) ?_
 unfold slices_Index_int_int at hF
 refine wH_seq (wH_region (h_op (vI 0) wz rfl (h_nil (wH_seq (wH_seq (wH_region (h_op (vL eI s_1) wz rfl (h_len un22 rfl wz (h_op (vI 0) wz rfl (h_nil ?_))))))))))
 obtain ⟨o_11,hj_12,hF⟩:=bind_some hF
 obtain ⟨hn_7,hj_12⟩:=forL_some hj_12
 refine wH_join (β:=(Unit)) (fun (s_8:Unit)=>([]:List (Nat×V))) (fun (s_8:Unit)=>([]:Hp)) (fun p=>o_11 = .go p) ?_ ?_
 ·refine wH_block (wH_loop (β:=Nat×(List Int)×(Unit)) (fun p=>(fun (k_3:Nat) (l_4:List Int) (s_8:Unit)=>([(0,(vL eI s_1)),(1,(vI v_2)),(7,(vI (s_1.length:Int))),(8,(vI (k_3:Int)))]:List (Nat×V))) p.1 p.2.1 p.2.2) (fun p=>(fun (k_3:Nat) (l_4:List Int) (s_8:Unit)=>([]:Hp)) p.1 p.2.1 p.2.2) (fun p=>forR (fun k x s=>slices_Index_int_int_L1 v_2 k x s) p.2.1 p.1 p.2.2=some o_11∧(s_1).drop p.1=p.2.1) (fun p=>p.2.1.length) (0,s_1,()) ⟨hj_12,rfl⟩ rfl (pre_r rfl) ?_)
  rintro ⟨k_3,l_4,s_8⟩ ⟨hL_10,hD_6⟩
  dsimp only at hL_10 hD_6
  cases l_4 with
  | nil =>
   obtain rfl:=some_inj hL_10
   refine wH_seq (wH_region (h_op (vB (decide ((k_3:Int) < (s_1.length:Int)))) wz rfl (h_nil ?_)))
   refine wH_seq (wH_iff rfl (drop_nil hD_6) (wH_exit ?_))
   exact cut_mk (s_8) rfl rfl (pre_r rfl)
  | cons x_5 l_4 =>
   obtain ⟨c_,hc_9,hL_10⟩:=bind_some hL_10
   refine wH_seq (wH_region (h_op (vB (decide ((k_3:Int) < (s_1.length:Int)))) wz rfl (h_nil ?_)))
   refine wH_seq (wH_ift rfl (drop_cons hD_6) (wH_skip ?_))
   unfold slices_Index_int_int_L1 at hc_9
   refine wH_seq (wH_block (wH_seq (wH_region (h_op (vI (k_3:Int)) wz rfl (h_op (vI (k_3:Int)) wz rfl (h_nil (wH_seq (wH_region (h_op (vI v_2) wz rfl (h_op (vL eI s_1) wz rfl (h_op (vI (k_3:Int)) wz rfl (h_ia es22 rfl rfl (drop_idx hD_6) rfl wz (h_ldc sz3 ag3 rfl (vI x_5) rfl wz (h_op (vB (v_2 == x_5)) wz rfl (h_nil ?_)))))))))))))))
   rcases cond_some hc_9 with⟨hc_13,hc_9⟩ | ⟨hc_13,hc_9⟩
   ·refine wH_ift rfl hc_13 (wH_seq (wH_region (h_op (vI (k_3:Int)) wz rfl (h_op (vI (k_3:Int)) wz rfl (h_nil ?_)))))
    obtain rfl:=some_inj hc_9
    obtain rfl:=some_inj hL_10
    obtain rfl:=some_inj hF
    exact wH_ret (fin0 (.inr rfl) [(vI (k_3:Int))] ⟨rfl,trivial⟩ rfl rfl rfl)
   ·refine wH_iff rfl hc_13 (wH_skip (wH_region (h_opw (w64_next hD_6 hn_7) wz rfl (h_op (vI ((k_3 + 1:Nat):Int)) wz rfl (h_nil ?_)))))
    obtain rfl:=some_inj hc_9
    exact loop_mk (k_3 + 1,l_4,()) ⟨hL_10,drop_next hD_6⟩ (Nat.lt_succ_self _) rfl (pre_r rfl)
 ·rintro s_8 ho_ sl_ H_ hp_ hq_
  subst ho_
  refine wH_at _ hp_ hq_ (wH_seq (wH_region (h_op (vI (-1)) wz rfl (h_nil ?_))))
  obtain rfl:=some_inj hF
  exact wH_ret (fin0 (.inr rfl) [(vI (-1))] ⟨rfl,trivial⟩ rfl rfl rfl)
theorem slices_Contains_int_int_ok {s_1:(List Int)} {v_2:Int} {r:Bool} (hF:slices_Contains_int_int s_1 v_2=some r) :
  FnM Tryz.prog 107 [(vL eI s_1),(vI v_2)] [] (vB r) []:=by
 refine FnM.of_wH ⟨Tryz.prog,9,[],[]⟩ rfl Tryz.func107 rfl rfl (Nat.le_of_ble_eq_true rfl) (by kernel_rfl) ?_
 unfold slices_Contains_int_int at hF
 refine wH_seq (wH_region (h_op (vB false) wz rfl (h_nil (wH_seq (wH_region (h_op (vL eI s_1) wz rfl (h_op (vI v_2) wz rfl ?_)))))))
 obtain ⟨r_3,hr_4,hF⟩:=bind_some hF
 refine h_call0 (slices_Index_int_int_ok hr_4) rfl hb138 rfl rfl rfl rfl wz (h_op (vB (decide (r_3≥0))) wz rfl (h_op (vB (decide (r_3≥0))) wz rfl (h_nil ?_)))
 obtain rfl:=some_inj hF
 exact wH_ret (fin0 (.inr rfl) [(vB (decide (r_3≥0)))] ⟨rfl,trivial⟩ rfl rfl rfl)
theorem ref_dayOf_ok {e_1:Entry} {d_2:Int} {r:Bool} (hF:ref_dayOf e_1 d_2=some r) :
  FnM Tryz.prog 84 [(.d (.agg (Entry.enc e_1))),(vI d_2)] [] (vB r) []:=by
 refine FnM.of_wH ⟨Tryz.prog,37,[],[]⟩ rfl Tryz.func84 rfl rfl (Nat.le_of_ble_eq_true rfl) (by kernel_rfl) ?_
 unfold ref_dayOf at hF
 refine wH_seq (wH_region (h_box 0 (.inl rfl) [(vS e_1.Key),(vS e_1.Item),(vI e_1.Version),(vI e_1.First),(vI e_1.Last),(vI e_1.Every),(vI e_1.Days),(vL eI e_1.Except),(vI e_1.From),(vI e_1.To),(vI e_1.Prio),(vL eS e_1.Tags),(vB e_1.Gone)] rfl rfl wz (fun n_3=>h_op (vB false) wz rfl (h_nil (wH_seq ?_)))))
 obtain ⟨v_4,h_5,hF⟩:=bind_some hF
 refine wH_join (β:=Unit) (fun _=>([(4,(vB v_4))]:List (Nat×V))) (fun _=>([(n_3,some (.cells 13 [(vS e_1.Key),(vS e_1.Item),(vI e_1.Version),(vI e_1.First),(vI e_1.Last),(vI e_1.Every),(vI e_1.Days),(vL eI e_1.Except),(vI e_1.From),(vI e_1.To),(vI e_1.Prio),(vL eS e_1.Tags),(vB e_1.Gone)]))]:Hp)) (fun _=>True) ?_ ?_
 ·refine wH_region (h_op (vI d_2) wz rfl (h_far pl55_3 rfl 3 rfl wz (h_ldr 0 0 il ft sz3 ag3 rfl rfl (vI e_1.First) rfl wz (h_far pl55_4 rfl 4 rfl wz (h_ldr 0 0 il ft sz3 ag3 rfl rfl (vI e_1.Last) rfl wz ?_)))))
  obtain ⟨r_6,hr_7,h_5⟩:=bind_some h_5
  refine h_call0 (ref_in_ok hr_7) rfl hb32 rfl rfl rfl rfl wz ?_
  rcases cond_some h_5 with⟨hc_8,h_5⟩ | ⟨hc_8,h_5⟩
  ·refine h_movb rfl hc_8 wz (h_op (vI d_2) wa rfl (h_far pl55_3 rfl 3 rfl wa (h_ldr 0 0 il ft sz3 ag3 rfl rfl (vI e_1.First) rfl wa (h_op (vI (w64 (d_2 - e_1.First))) wa rfl (h_far pl55_5 rfl 5 rfl wa (h_ldr 0 0 il ft sz3 ag3 rfl rfl (vI e_1.Every) rfl wa ?_))))))
   obtain ⟨q_9,hz_10,h_5⟩:=bind_some h_5
   refine h_rem rfl rfl hz_10 wa (h_op (vB (q_9 == 0)) wa rfl (h_op (vB (q_9 == 0)) wz rfl ?_))
   rcases cond_some h_5 with⟨hc_11,h_5⟩ | ⟨hc_11,h_5⟩
   ·refine h_movb rfl hc_11 wz (h_far pl55_6 rfl 6 rfl wa (h_ldr 0 0 il ft sz3 ag3 rfl rfl (vI e_1.Days) rfl wa (h_op (vI d_2) wa rfl (h_op (vI (d_2.tmod 7)) wa rfl ?_))))
    obtain ⟨q_12,hz_13,h_5⟩:=bind_some h_5
    refine h_shr rfl rfl hz_13 wa (h_op (vI (andI .i64 q_12 1)) wa rfl (h_op (vB ((andI .i64 q_12 1) == 1)) wa rfl (h_op (vB ((andI .i64 q_12 1) == 1)) wz rfl ?_)))
    rcases cond_some h_5 with⟨hc_14,h_5⟩ | ⟨hc_14,h_5⟩
    ·refine h_movb rfl hc_14 wz (h_far pl55_7 rfl 7 rfl wa (h_ldr 0 0 il ft sz22 ag22 rfl rfl (vL eI e_1.Except) rfl wa (h_op (vI d_2) wa rfl ?_)))
     obtain ⟨r_15,hr_16,h_5⟩:=bind_some h_5
     refine h_call0 (slices_Contains_int_int_ok hr_16) rfl hb107 rfl rfl rfl rfl wa (h_op (vB (!r_15)) wa rfl (h_op (vB (!r_15)) wz rfl (h_op (vB (!r_15)) wz rfl (h_nil ?_))))
     obtain rfl:=some_inj h_5
     exact cu
    ·refine h_movb rfl hc_14 wz (h_skip wa (h_skip wa (h_skip wa (h_skip wa (h_skip wa (h_op (vB false) wz rfl (h_op (vB false) wz rfl (h_nil ?_))))))))
     obtain rfl:=some_inj h_5
     exact cu
   ·refine h_movb rfl hc_11 wz (h_skip wa (h_skip wa (h_skip wa (h_skip wa (h_skip wa (h_skip wa (h_skip wa (h_op (vB false) wz rfl (h_op (vB false) wz rfl (h_skip wa (h_skip wa (h_skip wa (h_skip wa (h_skip wa (h_op (vB false) wz rfl (h_op (vB false) wz rfl (h_nil ?_)))))))))))))))))
    obtain rfl:=some_inj h_5
    exact cu
  ·refine h_movb rfl hc_8 wz (h_skip wa (h_skip wa (h_skip wa (h_skip wa (h_skip wa (h_skip wa (h_skip wa (h_skip wa (h_op (vB false) wz rfl (h_op (vB false) wz rfl (h_skip wa (h_skip wa (h_skip wa (h_skip wa (h_skip wa (h_skip wa (h_skip wa (h_op (vB false) wz rfl (h_op (vB false) wz rfl (h_skip wa (h_skip wa (h_skip wa (h_skip wa ?_)))))))))))))))))))))))
   refine h_skip wa (h_op (vB false) wz rfl (h_op (vB false) wz rfl (h_nil ?_)))
   obtain rfl:=some_inj h_5
   exact cu
 ·rintro ⟨⟩ _ sl_ H_ hp_ hq_
  refine wH_at _ hp_ hq_ ?_
  obtain rfl:=some_inj hF
  exact wH_ret (fin0 (.inr rfl) [(vB v_4)] ⟨rfl,trivial⟩ rfl rfl rfl)
theorem ref_began_ok {e_1:Entry} {zone_2:Int} {atv_3:Int} {r:Int×Bool} (hF:ref_began e_1 zone_2 atv_3=some r) :
  FnM Tryz.prog 61 [(.d (.agg (Entry.enc e_1))),(vI zone_2),(vI atv_3)] [] (.tup [(vI r.1),(vB r.2)]) []:=by
 refine FnM.of_wH ⟨Tryz.prog,53,[],[]⟩ rfl Tryz.func61 rfl rfl (Nat.le_of_ble_eq_true rfl) (by kernel_rfl) ?_
 unfold ref_began at hF
 refine wH_seq (wH_region (h_box 0 (.inl rfl) [(vS e_1.Key),(vS e_1.Item),(vI e_1.Version),(vI e_1.First),(vI e_1.Last),(vI e_1.Every),(vI e_1.Days),(vL eI e_1.Except),(vI e_1.From),(vI e_1.To),(vI e_1.Prio),(vL eS e_1.Tags),(vB e_1.Gone)] rfl rfl wz (fun n_4=>h_op (vI 0) wz rfl (h_op (vB false) wz rfl (h_nil (wH_seq (wH_region (h_op (vI atv_3) wz rfl (h_op (vI zone_2) wz rfl (h_op (vI (w64 (zone_2 * 60000))) wz rfl (h_op (vI (w64 (atv_3 + (w64 (zone_2 * 60000))))) wz rfl ?_)))))))))))
 obtain ⟨r_5,hr_6,hF⟩:=bind_some hF
 refine h_call0 (ref_floor_ok hr_6) rfl hb82 rfl rfl rfl rfl wz (h_op (vI r_5) wz rfl (h_nil (wH_seq (wH_seq (wH_region (h_op (vI r_5) wz rfl (h_op (vI (w64 (r_5 - 1))) wz rfl (h_op (vI r_5) wz rfl (h_lit (([(w64 (r_5 - 1)),r_5]:List Int).map eI) es22 ez22 rfl rfl rfl rfl rfl wz (h_len un22 rfl wz (h_op (vI 0) wz rfl (h_nil ?_))))))))))))
 obtain ⟨o_15,hj_16,hF⟩:=bind_some hF
 obtain ⟨hn_11,hj_16⟩:=forL_some hj_16
 refine wH_join (β:=(Unit)) (fun (s_12:Unit)=>([]:List (Nat×V))) (fun (s_12:Unit)=>([(n_4,some (.cells 13 [(vS e_1.Key),(vS e_1.Item),(vI e_1.Version),(vI e_1.First),(vI e_1.Last),(vI e_1.Every),(vI e_1.Days),(vL eI e_1.Except),(vI e_1.From),(vI e_1.To),(vI e_1.Prio),(vL eS e_1.Tags),(vB e_1.Gone)]))]:Hp)) (fun p=>o_15 = .go p) ?_ ?_
 ·refine wH_block (wH_loop (β:=Nat×(List Int)×(Unit)) (fun p=>(fun (k_7:Nat) (l_8:List Int) (s_12:Unit)=>([(1,(vI zone_2)),(2,(vI atv_3)),(3,(.ref n_4 0 0)),(20,(vL eI ([(w64 (r_5 - 1)),r_5]:List Int))),(21,(vI (([(w64 (r_5 - 1)),r_5]:List Int).length:Int))),(22,(vI (k_7:Int)))]:List (Nat×V))) p.1 p.2.1 p.2.2) (fun p=>(fun (k_7:Nat) (l_8:List Int) (s_12:Unit)=>([(n_4,some (.cells 13 [(vS e_1.Key),(vS e_1.Item),(vI e_1.Version),(vI e_1.First),(vI e_1.Last),(vI e_1.Every),(vI e_1.Days),(vL eI e_1.Except),(vI e_1.From),(vI e_1.To),(vI e_1.Prio),(vL eS e_1.Tags),(vB e_1.Gone)]))]:Hp)) p.1 p.2.1 p.2.2) (fun p=>forR (fun k x s=>ref_began_L1 e_1 zone_2 atv_3 k x s) p.2.1 p.1 p.2.2=some o_15∧(([(w64 (r_5 - 1)),r_5]:List Int)).drop p.1=p.2.1) (fun p=>p.2.1.length) (0,([(w64 (r_5 - 1)),r_5]:List Int),()) ⟨hj_16,rfl⟩ rfl (pre_r rfl) ?_)
  rintro ⟨k_7,l_8,s_12⟩ ⟨hL_14,hD_10⟩
  dsimp only at hL_14 hD_10
  cases l_8 with
  | nil =>
   obtain rfl:=some_inj hL_14
   refine wH_seq (wH_region (h_op (vB (decide ((k_7:Int) < (([(w64 (r_5 - 1)),r_5]:List Int).length:Int)))) wz rfl (h_nil ?_)))
   refine wH_seq (wH_iff rfl (drop_nil hD_10) (wH_exit ?_))
   exact cut_mk (s_12) rfl rfl (pre_r rfl)
  | cons x_9 l_8 =>
   obtain ⟨c_,hc_13,hL_14⟩:=bind_some hL_14
   refine wH_seq (wH_region (h_op (vB (decide ((k_7:Int) < (([(w64 (r_5 - 1)),r_5]:List Int).length:Int)))) wz rfl (h_nil ?_)))
   refine wH_seq (wH_ift rfl (drop_cons hD_10) (wH_skip ?_))
   unfold ref_began_L1 at hc_13
   refine wH_seq (wH_block (wH_seq (wH_region (h_ia es22 rfl rfl (drop_idx hD_10) rfl wz (h_ldc sz3 ag3 rfl (vI x_9) rfl wz (h_op (vI x_9) wz rfl (h_nil (wH_seq (wH_region (h_ldr 0 0 il ft sz55 ag55 rfl rfl (.d (.agg (Entry.enc e_1))) rfl wz (h_op (vI zone_2) wz rfl (h_op (vI x_9) wz rfl ?_))))))))))))
   obtain ⟨r_17,hr_18,hc_13⟩:=bind_some hc_13
   refine h_call0 (ref_timeOf_ok hr_18) rfl hb83 rfl rfl rfl rfl wz (h_alloc 0 (.inl rfl) z65 rfl wz (fun n_19=>h_str 0 il ft 1 sz65 rfl rfl [(vI r_17.From),(vI r_17.To)] rfl wz (h_nil (wH_seq ?_))))
   obtain ⟨v_20,h_21,hc_13⟩:=bind_some hc_13
   refine wH_join (β:=Unit) (fun _=>([(1,(vI zone_2)),(2,(vI atv_3)),(3,(.ref n_4 0 0)),(11,(.ref n_19 0 0)),(20,(vL eI ([(w64 (r_5 - 1)),r_5]:List Int))),(21,(vI (([(w64 (r_5 - 1)),r_5]:List Int).length:Int))),(22,(vI (k_7:Int))),(49,(vB v_20))]:List (Nat×V))) (fun _=>([(n_4,some (.cells 13 [(vS e_1.Key),(vS e_1.Item),(vI e_1.Version),(vI e_1.First),(vI e_1.Last),(vI e_1.Every),(vI e_1.Days),(vL eI e_1.Except),(vI e_1.From),(vI e_1.To),(vI e_1.Prio),(vL eS e_1.Tags),(vB e_1.Gone)])),(n_19,some (.cells 2 [(vI r_17.From),(vI r_17.To)]))]:Hp)) (fun _=>True) ?_ ?_
   ·refine wH_region (h_far pl55_12 rfl 12 rfl wz (h_ldr 0 0 il ft sz4 ag4 rfl rfl (vB e_1.Gone) rfl wz (h_op (vB (!e_1.Gone)) wz rfl ?_)))
    rcases cond_some h_21 with⟨hc_22,h_21⟩ | ⟨hc_22,h_21⟩
    ·refine h_movb rfl hc_22 wz (h_ldr 0 0 il ft sz55 ag55 rfl rfl (.d (.agg (Entry.enc e_1))) rfl wa (h_op (vI x_9) wa rfl ?_))
     obtain ⟨r_23,hr_24,h_21⟩:=bind_some h_21
     refine h_call0 (ref_dayOf_ok hr_24) rfl hb84 rfl rfl rfl rfl wa (h_op (vB r_23) wz rfl ?_)
     rcases cond_some h_21 with⟨hc_25,h_21⟩ | ⟨hc_25,h_21⟩
     ·refine h_movb rfl hc_25 wz (h_far pl65_0 rfl 0 rfl wa (h_ldr 0 1 il ft sz3 ag3 rfl rfl (vI r_17.From) rfl wa (h_op (vI atv_3) wa rfl (h_op (vB (decide (r_17.From≤atv_3))) wa rfl (h_op (vB (decide (r_17.From≤atv_3))) wz rfl ?_)))))
      rcases cond_some h_21 with⟨hc_26,h_21⟩ | ⟨hc_26,h_21⟩
      ·refine h_movb rfl hc_26 wz (h_op (vI atv_3) wa rfl (h_far pl65_1 rfl 1 rfl wa (h_ldr 0 1 il ft sz3 ag3 rfl rfl (vI r_17.To) rfl wa (h_op (vB (decide (atv_3 < r_17.To))) wa rfl (h_op (vB (decide (atv_3 < r_17.To))) wz rfl (h_nil ?_))))))
       obtain rfl:=some_inj h_21
       exact cu
      ·refine h_movb rfl hc_26 wz (h_skip wa (h_skip wa (h_skip wa (h_skip wa (h_op (vB false) wz rfl (h_nil ?_))))))
       obtain rfl:=some_inj h_21
       exact cu
     ·refine h_movb rfl hc_25 wz (h_skip wa (h_skip wa (h_skip wa (h_skip wa (h_op (vB false) wz rfl (h_op (vB false) wz rfl (h_skip wa (h_skip wa (h_skip wa (h_skip wa (h_op (vB false) wz rfl (h_nil ?_))))))))))))
      obtain rfl:=some_inj h_21
      exact cu
    ·refine h_movb rfl hc_22 wz (h_skip wa (h_skip wa (h_skip wa (h_op (vB false) wz rfl (h_op (vB false) wz rfl (h_skip wa (h_skip wa (h_skip wa (h_skip wa (h_op (vB false) wz rfl (h_op (vB false) wz rfl (h_skip wa (h_skip wa (h_skip wa (h_skip wa (h_op (vB false) wz rfl (h_nil ?_)))))))))))))))))
     obtain rfl:=some_inj h_21
     exact cu
   ·rintro ⟨⟩ _ sl_ H_ hp_ hq_
    refine wH_at _ hp_ hq_ ?_
    rcases cond_some hc_13 with⟨hc_27,hc_13⟩ | ⟨hc_27,hc_13⟩
    ·refine wH_ift rfl hc_27 (wH_seq (wH_region (h_far pl65_0 rfl 0 rfl wz (h_ldr 0 1 il ft sz3 ag3 rfl rfl (vI r_17.From) rfl wz (h_op (vI r_17.From) wz rfl (h_op (vB true) wz rfl (h_nil ?_)))))))
     obtain rfl:=some_inj hc_13
     obtain rfl:=some_inj hL_14
     obtain rfl:=some_inj hF
     exact wH_ret (fin0 (.inr rfl) [(vI r_17.From),(vB true)] ⟨rfl,⟨rfl,trivial⟩⟩ rfl rfl rfl)
    ·refine wH_iff rfl hc_27 (wH_skip (wH_region (h_opw (w64_next hD_10 hn_11) wz rfl (h_op (vI ((k_7 + 1:Nat):Int)) wz rfl (h_nil ?_)))))
     obtain rfl:=some_inj hc_13
     exact loop_mk (k_7 + 1,l_8,()) ⟨hL_14,drop_next hD_10⟩ (Nat.lt_succ_self _) rfl (pre_r rfl)
 ·rintro s_12 ho_ sl_ H_ hp_ hq_
  subst ho_
  refine wH_at _ hp_ hq_ (wH_seq (wH_region (h_op (vI 0) wz rfl (h_op (vB false) wz rfl (h_nil ?_)))))
  obtain rfl:=some_inj hF
  exact wH_ret (fin0 (.inr rfl) [(vI 0),(vB false)] ⟨rfl,⟨rfl,trivial⟩⟩ rfl rfl rfl)
theorem slices_Index_string_string_ok {s_1:(List ByteArray)} {v_2:ByteArray} {r:Int} (hF:slices_Index_string_string s_1 v_2=some r) :
  FnM Tryz.prog 109 [(vL eS s_1),(vS v_2)] [] (vI r) []:=by
 refine FnM.of_wH ⟨Tryz.prog,19,[],[]⟩ rfl Tryz.func109 rfl rfl (Nat.le_of_ble_eq_true rfl) (by kernel_rfl) ?_
 unfold slices_Index_string_string at hF
 refine wH_seq (wH_region (h_op (vI 0) wz rfl (h_nil (wH_seq (wH_seq (wH_region (h_op (vL eS s_1) wz rfl (h_len un28 rfl wz (h_op (vI 0) wz rfl (h_nil ?_))))))))))
 obtain ⟨o_11,hj_12,hF⟩:=bind_some hF
 obtain ⟨hn_7,hj_12⟩:=forL_some hj_12
 refine wH_join (β:=(Unit)) (fun (s_8:Unit)=>([]:List (Nat×V))) (fun (s_8:Unit)=>([]:Hp)) (fun p=>o_11 = .go p) ?_ ?_
 ·refine wH_block (wH_loop (β:=Nat×(List ByteArray)×(Unit)) (fun p=>(fun (k_3:Nat) (l_4:List ByteArray) (s_8:Unit)=>([(0,(vL eS s_1)),(1,(vS v_2)),(7,(vI (s_1.length:Int))),(8,(vI (k_3:Int)))]:List (Nat×V))) p.1 p.2.1 p.2.2) (fun p=>(fun (k_3:Nat) (l_4:List ByteArray) (s_8:Unit)=>([]:Hp)) p.1 p.2.1 p.2.2) (fun p=>forR (fun k x s=>slices_Index_string_string_L1 v_2 k x s) p.2.1 p.1 p.2.2=some o_11∧(s_1).drop p.1=p.2.1) (fun p=>p.2.1.length) (0,s_1,()) ⟨hj_12,rfl⟩ rfl (pre_r rfl) ?_)
  rintro ⟨k_3,l_4,s_8⟩ ⟨hL_10,hD_6⟩
  dsimp only at hL_10 hD_6
  cases l_4 with
  | nil =>
   obtain rfl:=some_inj hL_10
   refine wH_seq (wH_region (h_op (vB (decide ((k_3:Int) < (s_1.length:Int)))) wz rfl (h_nil ?_)))
   refine wH_seq (wH_iff rfl (drop_nil hD_6) (wH_exit ?_))
   exact cut_mk (s_8) rfl rfl (pre_r rfl)
  | cons x_5 l_4 =>
   obtain ⟨c_,hc_9,hL_10⟩:=bind_some hL_10
   refine wH_seq (wH_region (h_op (vB (decide ((k_3:Int) < (s_1.length:Int)))) wz rfl (h_nil ?_)))
   refine wH_seq (wH_ift rfl (drop_cons hD_6) (wH_skip ?_))
   unfold slices_Index_string_string_L1 at hc_9
   refine wH_seq (wH_block (wH_seq (wH_region (h_op (vI (k_3:Int)) wz rfl (h_op (vI (k_3:Int)) wz rfl (h_nil (wH_seq (wH_region (h_op (vS v_2) wz rfl (h_op (vL eS s_1) wz rfl (h_op (vI (k_3:Int)) wz rfl (h_ia es28 rfl rfl (drop_idx hD_6) rfl wz (h_ldc sz9 ag9 rfl (vS x_5) rfl wz (h_op (vB (sEq v_2 x_5)) wz rfl (h_nil ?_)))))))))))))))
   rcases cond_some hc_9 with⟨hc_13,hc_9⟩ | ⟨hc_13,hc_9⟩
   ·refine wH_ift rfl hc_13 (wH_seq (wH_region (h_op (vI (k_3:Int)) wz rfl (h_op (vI (k_3:Int)) wz rfl (h_nil ?_)))))
    obtain rfl:=some_inj hc_9
    obtain rfl:=some_inj hL_10
    obtain rfl:=some_inj hF
    exact wH_ret (fin0 (.inr rfl) [(vI (k_3:Int))] ⟨rfl,trivial⟩ rfl rfl rfl)
   ·refine wH_iff rfl hc_13 (wH_skip (wH_region (h_opw (w64_next hD_6 hn_7) wz rfl (h_op (vI ((k_3 + 1:Nat):Int)) wz rfl (h_nil ?_)))))
    obtain rfl:=some_inj hc_9
    exact loop_mk (k_3 + 1,l_4,()) ⟨hL_10,drop_next hD_6⟩ (Nat.lt_succ_self _) rfl (pre_r rfl)
 ·rintro s_8 ho_ sl_ H_ hp_ hq_
  subst ho_
  refine wH_at _ hp_ hq_ (wH_seq (wH_region (h_op (vI (-1)) wz rfl (h_nil ?_))))
  obtain rfl:=some_inj hF
  exact wH_ret (fin0 (.inr rfl) [(vI (-1))] ⟨rfl,trivial⟩ rfl rfl rfl)
theorem slices_Contains_string_string_ok {s_1:(List ByteArray)} {v_2:ByteArray} {r:Bool} (hF:slices_Contains_string_string s_1 v_2=some r) :
  FnM Tryz.prog 87 [(vL eS s_1),(vS v_2)] [] (vB r) []:=by
 refine FnM.of_wH ⟨Tryz.prog,9,[],[]⟩ rfl Tryz.func87 rfl rfl (Nat.le_of_ble_eq_true rfl) (by kernel_rfl) ?_
 unfold slices_Contains_string_string at hF
 refine wH_seq (wH_region (h_op (vB false) wz rfl (h_nil (wH_seq (wH_region (h_op (vL eS s_1) wz rfl (h_op (vS v_2) wz rfl ?_)))))))
 obtain ⟨r_3,hr_4,hF⟩:=bind_some hF
 refine h_call0 (slices_Index_string_string_ok hr_4) rfl hb109 rfl rfl rfl rfl wz (h_op (vB (decide (r_3≥0))) wz rfl (h_op (vB (decide (r_3≥0))) wz rfl (h_nil ?_)))
 obtain rfl:=some_inj hF
 exact wH_ret (fin0 (.inr rfl) [(vB (decide (r_3≥0)))] ⟨rfl,trivial⟩ rfl rfl rfl)
theorem ref_FitsOf_1_ok {t_1:ByteArray} {p_2:Player} {r:Bool} (hF:ref_FitsOf_1 t_1 p_2=some r) :
  FnM Tryz.prog 86 [(vS t_1),(.ref (extN 0) 0 0)] [(.cells 4 [(vS p_2.Key),(vS p_2.Screen),(vI p_2.Zone),(vL eS p_2.Tags)])] (vB r) [some (.cells 4 [(vS p_2.Key),(vS p_2.Screen),(vI p_2.Zone),(vL eS p_2.Tags)])]:=by
 refine FnM.of_wH ⟨Tryz.prog,9,[],[]⟩ rfl Tryz.func86 rfl rfl (Nat.le_of_ble_eq_true rfl) (by kernel_rfl) ?_
 unfold ref_FitsOf_1 at hF
 refine wH_seq (wH_region (h_op (vB false) wz rfl (h_nil (wH_seq (wH_region (h_far pl30_3 rfl 3 rfl wz (h_ldr 0 0 il ft sz28 ag28 rfl rfl (vL eS p_2.Tags) rfl wz (h_op (vS t_1) wz rfl ?_))))))))
 obtain ⟨r_3,hr_4,hF⟩:=bind_some hF
 refine h_call0 (slices_Contains_string_string_ok hr_4) rfl hb87 rfl rfl rfl rfl wz (h_op (vB (!r_3)) wz rfl (h_op (vB (!r_3)) wz rfl (h_nil ?_)))
 obtain rfl:=some_inj hF
 exact wH_ret (finB (.inr rfl) [(vB (!r_3))] _ [0] [extN 0] ⟨rfl,trivial⟩ (.cons (co_data rfl rfl) (.nil)) (by kernel_rfl) ⟨(by kernel_rfl),trivial⟩ (by decide) (by kernel_rfl))
theorem slices_IndexFunc_string_string_ok {s_1:(List ByteArray)} {f_2:ByteArray→Option Bool} {r:Int} {gid:FuncId} {caps:List V} {Sin:List Box} (hfn:∀ x0 r,f_2 x0=some r→FnM Tryz.prog gid ([(vS x0)]++caps) Sin (vB r) (Sin.map some)) (hbF:hasBody Tryz.prog gid=true) (hcapF:caps.flatMap frz = []∧caps.map co0=caps) (hokF:okL Sin.length caps=true) (hsF:∀ b∈Sin,b.ok Sin.length=true) (hmF:∀ b∈Sin,b.mut=true) (hF:slices_IndexFunc_string_string s_1 f_2=some r) :
  FnM Tryz.prog 108 [(vL eS s_1),(.fn gid caps)] Sin (vI r) (Sin.map some):=by
 refine FnM.of_wH ⟨Tryz.prog,19,[],[]⟩ rfl Tryz.func108 rfl rfl (Nat.le_of_ble_eq_true rfl) (by kernel_rfl) ?_
 unfold slices_IndexFunc_string_string at hF
 refine wH_seq (wH_region (h_op (vI 0) wz rfl (h_nil (wH_seq (wH_seq (wH_region (h_op (vL eS s_1) wz rfl (h_len un28 rfl wz (h_op (vI 0) wz rfl (h_nil ?_))))))))))
 obtain ⟨o_11,hj_12,hF⟩:=bind_some hF
 obtain ⟨hn_7,hj_12⟩:=forL_some hj_12
 refine wH_join (β:=(Unit)) (fun (s_8:Unit)=>([]:List (Nat×V))) (fun (s_8:Unit)=>(initH 0 Sin)) (fun p=>o_11 = .go p) ?_ ?_
 ·refine wH_block (wH_loop (β:=Nat×(List ByteArray)×(Unit)) (fun p=>(fun (k_3:Nat) (l_4:List ByteArray) (s_8:Unit)=>([(0,(vL eS s_1)),(1,(.fn gid caps)),(7,(vI (s_1.length:Int))),(8,(vI (k_3:Int)))]:List (Nat×V))) p.1 p.2.1 p.2.2) (fun p=>(fun (k_3:Nat) (l_4:List ByteArray) (s_8:Unit)=>(initH 0 Sin)) p.1 p.2.1 p.2.2) (fun p=>forR (fun k x s=>slices_IndexFunc_string_string_L1 f_2 k x s) p.2.1 p.1 p.2.2=some o_11∧(s_1).drop p.1=p.2.1) (fun p=>p.2.1.length) (0,s_1,()) ⟨hj_12,rfl⟩ rfl (pre_self _) ?_)
  rintro ⟨k_3,l_4,s_8⟩ ⟨hL_10,hD_6⟩
  dsimp only at hL_10 hD_6
  cases l_4 with
  | nil =>
   obtain rfl:=some_inj hL_10
   refine wH_seq (wH_region (h_op (vB (decide ((k_3:Int) < (s_1.length:Int)))) wz rfl (h_nil ?_)))
   refine wH_seq (wH_iff rfl (drop_nil hD_6) (wH_exit ?_))
   exact cut_mk (s_8) rfl rfl (pre_self _)
  | cons x_5 l_4 =>
   obtain ⟨c_,hc_9,hL_10⟩:=bind_some hL_10
   refine wH_seq (wH_region (h_op (vB (decide ((k_3:Int) < (s_1.length:Int)))) wz rfl (h_nil ?_)))
   refine wH_seq (wH_ift rfl (drop_cons hD_6) (wH_skip ?_))
   unfold slices_IndexFunc_string_string_L1 at hc_9
   refine wH_seq (wH_block (wH_seq (wH_region (h_op (vI (k_3:Int)) wz rfl (h_op (vI (k_3:Int)) wz rfl (h_nil (wH_seq (wH_region (h_op (.fn gid caps) wz rfl (h_op (vL eS s_1) wz rfl (h_op (vI (k_3:Int)) wz rfl (h_ia es28 rfl rfl (drop_idx hD_6) rfl wz (h_ldc sz9 ag9 rfl (vS x_5) rfl wz ?_)))))))))))))
   obtain ⟨r_13,hr_14,hc_9⟩:=bind_some hc_9
   refine h_callS (hfn _ _ hr_14) rfl hbF rfl rfl hcapF hokF hsF hmF rfl wz rfl (h_nil ?_)
   rcases cond_some hc_9 with⟨hc_15,hc_9⟩ | ⟨hc_15,hc_9⟩
   ·refine wH_ift rfl hc_15 (wH_seq (wH_region (h_op (vI (k_3:Int)) wz rfl (h_op (vI (k_3:Int)) wz rfl (h_nil ?_)))))
    obtain rfl:=some_inj hc_9
    obtain rfl:=some_inj hL_10
    obtain rfl:=some_inj hF
    exact wH_ret (finS hsF (.inr rfl) [(vI (k_3:Int))] ⟨rfl,trivial⟩ rfl rfl rfl)
   ·refine wH_iff rfl hc_15 (wH_skip (wH_region (h_opw (w64_next hD_6 hn_7) wz rfl (h_op (vI ((k_3 + 1:Nat):Int)) wz rfl (h_nil ?_)))))
    obtain rfl:=some_inj hc_9
    exact loop_mk (k_3 + 1,l_4,()) ⟨hL_10,drop_next hD_6⟩ (Nat.lt_succ_self _) rfl (pre_self _)
 ·rintro s_8 ho_ sl_ H_ hp_ hq_
  subst ho_
  refine wH_at _ hp_ hq_ (wH_seq (wH_region (h_op (vI (-1)) wz rfl (h_nil ?_))))
  obtain rfl:=some_inj hF
  exact wH_ret (finS hsF (.inr rfl) [(vI (-1))] ⟨rfl,trivial⟩ rfl rfl rfl)
theorem slices_ContainsFunc_string_string_ok {s_1:(List ByteArray)} {f_2:ByteArray→Option Bool} {r:Bool} {gid:FuncId} {caps:List V} {Sin:List Box} (hfn:∀ x0 r,f_2 x0=some r→FnM Tryz.prog gid ([(vS x0)]++caps) Sin (vB r) (Sin.map some)) (hbF:hasBody Tryz.prog gid=true) (hcapF:caps.flatMap frz = []∧caps.map co0=caps) (hokF:okL Sin.length caps=true) (hsF:∀ b∈Sin,b.ok Sin.length=true) (hmF:∀ b∈Sin,b.mut=true) (hF:slices_ContainsFunc_string_string s_1 f_2=some r) :
  FnM Tryz.prog 85 [(vL eS s_1),(.fn gid caps)] Sin (vB r) (Sin.map some):=by
 refine FnM.of_wH ⟨Tryz.prog,9,[],[]⟩ rfl Tryz.func85 rfl rfl (Nat.le_of_ble_eq_true rfl) (by kernel_rfl) ?_
 unfold slices_ContainsFunc_string_string at hF
 refine wH_seq (wH_region (h_op (vB false) wz rfl (h_nil (wH_seq (wH_region (h_op (vL eS s_1) wz rfl (h_op (.fn gid caps) wz rfl ?_)))))))
 obtain ⟨r_3,hr_4,hF⟩:=bind_some hF
 refine h_callS (slices_IndexFunc_string_string_ok (gid:=gid) (caps:=caps) (Sin:=Sin) hfn hbF hcapF hokF hsF hmF hr_4) rfl hb108 rfl rfl ⟨rfl,rfl⟩ (by simp [okL,okV,hokF]) hsF hmF rfl wz rfl (h_op (vB (decide (r_3≥0))) wz rfl (h_op (vB (decide (r_3≥0))) wz rfl (h_nil ?_)))
 obtain rfl:=some_inj hF
 exact wH_ret (finS hsF (.inr rfl) [(vB (decide (r_3≥0)))] ⟨rfl,trivial⟩ rfl rfl rfl)
theorem ref_FitsOf_ok {e_1:Entry} {p_2:Player} {r:Bool} (hF:ref_FitsOf e_1 p_2=some r) :
  FnM Tryz.prog 62 [(.d (.agg (Entry.enc e_1))),(.d (.agg (Player.enc p_2)))] [] (vB r) []:=by
 refine FnM.of_wH ⟨Tryz.prog,10,[],[]⟩ rfl Tryz.func62 rfl rfl (Nat.le_of_ble_eq_true rfl) (by kernel_rfl) ?_
 unfold ref_FitsOf at hF
 refine wH_seq (wH_region (h_box 0 (.inl rfl) [(vS e_1.Key),(vS e_1.Item),(vI e_1.Version),(vI e_1.First),(vI e_1.Last),(vI e_1.Every),(vI e_1.Days),(vL eI e_1.Except),(vI e_1.From),(vI e_1.To),(vI e_1.Prio),(vL eS e_1.Tags),(vB e_1.Gone)] rfl rfl wz (fun n_3=>h_box 0 (.inl rfl) [(vS p_2.Key),(vS p_2.Screen),(vI p_2.Zone),(vL eS p_2.Tags)] rfl rfl wz (fun n_4=>h_op (vB false) wz rfl (h_nil (wH_seq (wH_region (h_far pl55_11 rfl 11 rfl wz (h_ldr 0 0 il ft sz28 ag28 rfl rfl (vL eS e_1.Tags) rfl wz (h_op (.fn 86 [(.ref n_4 0 0)]) wz rfl ?_))))))))))
 obtain ⟨r_5,hr_6,hF⟩:=bind_some hF
 refine h_callq 0 [1] il ft (slices_ContainsFunc_string_string_ok (gid:=86) (caps := [.ref (extN 0) 0 0]) (Sin := [(.cells 4 [(vS p_2.Key),(vS p_2.Screen),(vI p_2.Zone),(vL eS p_2.Tags)])]) (fun _ _ h_=>ref_FitsOf_1_ok h_) hb86 ⟨rfl,rfl⟩ (by kernel_rfl) (all_ok (by kernel_rfl)) (all_mut (by kernel_rfl)) hr_6) rfl hb85 rfl (by kernel_rfl) (by kernel_rfl) (by kernel_rfl) (by kernel_rfl) (by kernel_rfl) (by kernel_rfl) (by kernel_rfl) (by decide) (by kernel_rfl) wz (vB r_5) (by kernel_rfl) ([(n_3,some (.cells 13 [(vS e_1.Key),(vS e_1.Item),(vI e_1.Version),(vI e_1.First),(vI e_1.Last),(vI e_1.Every),(vI e_1.Days),(vL eI e_1.Except),(vI e_1.From),(vI e_1.To),(vI e_1.Prio),(vL eS e_1.Tags),(vB e_1.Gone)])),(n_4,some (.cells 4 [(vS p_2.Key),(vS p_2.Screen),(vI p_2.Zone),(vL eS p_2.Tags)]))]:Hp) (by kernel_rfl) (h_op (vB (!r_5)) wz rfl (h_op (vB (!r_5)) wz rfl (h_nil ?_)))
 obtain rfl:=some_inj hF
 exact wH_ret (fin0 (.inr rfl) [(vB (!r_5))] ⟨rfl,trivial⟩ rfl rfl rfl)
theorem slices_Compare_int_int_ok {s1_1:(List Int)} {s2_2:(List Int)} {r:Int} (hF:slices_Compare_int_int s1_1 s2_2=some r) :
  FnM Tryz.prog 65 [(vL eI s1_1),(vL eI s2_2)] [] (vI r) []:=by
 refine FnM.of_wH ⟨Tryz.prog,36,[],[]⟩ rfl Tryz.func65 rfl rfl (Nat.le_of_ble_eq_true rfl) (by kernel_rfl) ?_
 unfold slices_Compare_int_int at hF
 refine wH_seq (wH_region (h_op (vI 0) wz rfl (h_nil (wH_seq (wH_seq (wH_region (h_op (vL eI s1_1) wz rfl (h_len un22 rfl wz (h_op (vI 0) wz rfl (h_nil ?_))))))))))
 obtain ⟨o_11,hj_12,hF⟩:=bind_some hF
 obtain ⟨hn_7,hj_12⟩:=forL_some hj_12
 refine wH_join (β:=(Unit)) (fun (s_8:Unit)=>([(0,(vL eI s1_1)),(1,(vL eI s2_2))]:List (Nat×V))) (fun (s_8:Unit)=>([]:Hp)) (fun p=>o_11 = .go p) ?_ ?_
 ·refine wH_block (wH_loop (β:=Nat×(List Int)×(Unit)) (fun p=>(fun (k_3:Nat) (l_4:List Int) (s_8:Unit)=>([(0,(vL eI s1_1)),(1,(vL eI s2_2)),(9,(vL eI s1_1)),(10,(vI (s1_1.length:Int))),(11,(vI (k_3:Int)))]:List (Nat×V))) p.1 p.2.1 p.2.2) (fun p=>(fun (k_3:Nat) (l_4:List Int) (s_8:Unit)=>([]:Hp)) p.1 p.2.1 p.2.2) (fun p=>forR (fun k x s=>slices_Compare_int_int_L1 s2_2 k x s) p.2.1 p.1 p.2.2=some o_11∧(s1_1).drop p.1=p.2.1) (fun p=>p.2.1.length) (0,s1_1,()) ⟨hj_12,rfl⟩ rfl (pre_r rfl) ?_)
  rintro ⟨k_3,l_4,s_8⟩ ⟨hL_10,hD_6⟩
  dsimp only at hL_10 hD_6
  cases l_4 with
  | nil =>
   obtain rfl:=some_inj hL_10
   refine wH_seq (wH_region (h_op (vB (decide ((k_3:Int) < (s1_1.length:Int)))) wz rfl (h_nil ?_)))
   refine wH_seq (wH_iff rfl (drop_nil hD_6) (wH_exit ?_))
   exact cut_mk (s_8) rfl rfl (pre_r rfl)
  | cons x_5 l_4 =>
   obtain ⟨c_,hc_9,hL_10⟩:=bind_some hL_10
   refine wH_seq (wH_region (h_op (vB (decide ((k_3:Int) < (s1_1.length:Int)))) wz rfl (h_nil ?_)))
   refine wH_seq (wH_ift rfl (drop_cons hD_6) (wH_skip ?_))
   unfold slices_Compare_int_int_L1 at hc_9
   refine wH_seq (wH_block (wH_seq (wH_region (h_op (vI (k_3:Int)) wz rfl (h_ia es22 rfl rfl (drop_idx hD_6) rfl wz (h_ldc sz3 ag3 rfl (vI x_5) rfl wz (h_op (vI (k_3:Int)) wz rfl (h_op (vI x_5) wz rfl (h_nil (wH_seq (wH_seq (wH_region (h_op (vI (k_3:Int)) wz rfl (h_op (vL eI s2_2) wz rfl (h_len un22 rfl wz (h_op (vB (decide ((k_3:Int)≥(s2_2.length:Int)))) wz rfl (h_nil ?_)))))))))))))))))
   rcases cond_some hc_9 with⟨hc_13,hc_9⟩ | ⟨hc_13,hc_9⟩
   ·refine wH_ift rfl hc_13 (wH_seq (wH_region (h_op (vI 1) wz rfl (h_nil ?_))))
    obtain rfl:=some_inj hc_9
    obtain rfl:=some_inj hL_10
    obtain rfl:=some_inj hF
    exact wH_ret (fin0 (.inr rfl) [(vI 1)] ⟨rfl,trivial⟩ rfl rfl rfl)
   ·refine wH_iff rfl hc_13 (wH_skip (wH_seq (wH_region (h_op (vL eI s2_2) wz rfl (h_op (vI (k_3:Int)) wz rfl ?_)))))
    obtain ⟨y_14,hy_15,hc_9⟩:=bind_some hc_9
    refine h_ia es22 rfl rfl hy_15 rfl wz (h_ldc sz3 ag3 rfl (vI y_14) rfl wz (h_op (vI y_14) wz rfl (h_nil (wH_seq (wH_region (h_op (vI x_5) wz rfl (h_op (vI y_14) wz rfl ?_)))))))
    obtain ⟨r_16,hr_17,hc_9⟩:=bind_some hc_9
    refine h_call0 (cmp_Compare_int_ok hr_17) rfl hb50 rfl rfl rfl rfl wz (h_op (vI r_16) wz rfl (h_nil (wH_seq (wH_region (h_op (vI r_16) wz rfl (h_op (vB (r_16 != 0)) wz rfl (h_nil ?_)))))))
    rcases cond_some hc_9 with⟨hc_18,hc_9⟩ | ⟨hc_18,hc_9⟩
    ·refine wH_ift rfl hc_18 (wH_seq (wH_region (h_op (vI r_16) wz rfl (h_op (vI r_16) wz rfl (h_nil ?_)))))
     obtain rfl:=some_inj hc_9
     obtain rfl:=some_inj hL_10
     obtain rfl:=some_inj hF
     exact wH_ret (fin0 (.inr rfl) [(vI r_16)] ⟨rfl,trivial⟩ rfl rfl rfl)
    ·refine wH_iff rfl hc_18 (wH_skip (wH_region (h_opw (w64_next hD_6 hn_7) wz rfl (h_op (vI ((k_3 + 1:Nat):Int)) wz rfl (h_nil ?_)))))
     obtain rfl:=some_inj hc_9
     exact loop_mk (k_3 + 1,l_4,()) ⟨hL_10,drop_next hD_6⟩ (Nat.lt_succ_self _) rfl (pre_r rfl)
 ·rintro s_8 ho_ sl_ H_ hp_ hq_
  subst ho_
  refine wH_at _ hp_ hq_ (wH_seq (wH_seq (wH_region (h_op (vL eI s1_1) wz rfl (h_len un22 rfl wz (h_op (vL eI s2_2) wz rfl (h_len un22 rfl wz (h_op (vB (decide ((s1_1.length:Int) < (s2_2.length:Int)))) wz rfl (h_nil ?_)))))))))
  rcases cond_some hF with⟨hc_19,hF⟩ | ⟨hc_19,hF⟩
  ·refine wH_ift rfl hc_19 (wH_seq (wH_region (h_op (vI (-1)) wz rfl (h_nil ?_))))
   obtain rfl:=some_inj hF
   exact wH_ret (fin0 (.inr rfl) [(vI (-1))] ⟨rfl,trivial⟩ rfl rfl rfl)
  ·refine wH_iff rfl hc_19 (wH_skip (wH_seq (wH_region (h_op (vI 0) wz rfl (h_nil ?_)))))
   obtain rfl:=some_inj hF
   exact wH_ret (fin0 (.inr rfl) [(vI 0)] ⟨rfl,trivial⟩ rfl rfl rfl)
theorem ref_WhyOf_1_ok {a_1:Entry} {b_2:Entry} {p_3:Player} {p_4:Int} {r:Int} (hF:ref_WhyOf_1 a_1 b_2 p_3 p_4=some r) :
  FnM Tryz.prog 64 [(.d (.agg (Entry.enc a_1))),(.d (.agg (Entry.enc b_2))),(.ref (extN 0) 0 0),(.ref (extN 1) 0 0)] [(.cells 4 [(vS p_3.Key),(vS p_3.Screen),(vI p_3.Zone),(vL eS p_3.Tags)]),(.cells 1 [(vI p_4)])] (vI r) [some (.cells 4 [(vS p_3.Key),(vS p_3.Screen),(vI p_3.Zone),(vL eS p_3.Tags)]),some (.cells 1 [(vI p_4)])]:=by
 refine FnM.of_wH ⟨Tryz.prog,45,[],[]⟩ rfl Tryz.func64 rfl rfl (Nat.le_of_ble_eq_true rfl) (by kernel_rfl) ?_
 unfold ref_WhyOf_1 at hF
 refine wH_seq (wH_region (h_box 0 (.inl rfl) [(vS a_1.Key),(vS a_1.Item),(vI a_1.Version),(vI a_1.First),(vI a_1.Last),(vI a_1.Every),(vI a_1.Days),(vL eI a_1.Except),(vI a_1.From),(vI a_1.To),(vI a_1.Prio),(vL eS a_1.Tags),(vB a_1.Gone)] rfl rfl wz (fun n_5=>h_box 0 (.inl rfl) [(vS b_2.Key),(vS b_2.Item),(vI b_2.Version),(vI b_2.First),(vI b_2.Last),(vI b_2.Every),(vI b_2.Days),(vL eI b_2.Except),(vI b_2.From),(vI b_2.To),(vI b_2.Prio),(vL eS b_2.Tags),(vB b_2.Gone)] rfl rfl wz (fun n_6=>h_op (vI 0) wz rfl (h_nil (wH_seq (wH_region (h_ldr 0 2 il ft sz55 ag55 rfl rfl (.d (.agg (Entry.enc a_1))) rfl wz (h_far pl30_2 rfl 2 rfl wz (h_ldr 0 0 il ft sz3 ag3 rfl rfl (vI p_3.Zone) rfl wz (h_ldr 0 1 il ft sz3 ag3 rfl rfl (vI p_4) rfl wz ?_)))))))))))
 obtain ⟨r_7,hr_8,hF⟩:=bind_some hF
 refine h_call0 (ref_began_ok hr_8) rfl hb61 rfl rfl rfl rfl wz (h_op (.tup [(vI r_7.1),(vB r_7.2)]) wz rfl (h_op (vI r_7.1) wz rfl (h_op (vB r_7.2) wz rfl (h_op (vI r_7.1) wz rfl (h_op (vB r_7.2) wz rfl (h_nil (wH_seq (wH_region (h_ldr 0 3 il ft sz55 ag55 rfl rfl (.d (.agg (Entry.enc b_2))) rfl wz (h_far pl30_2 rfl 2 rfl wz (h_ldr 0 0 il ft sz3 ag3 rfl rfl (vI p_3.Zone) rfl wz (h_ldr 0 1 il ft sz3 ag3 rfl rfl (vI p_4) rfl wz ?_))))))))))))
 obtain ⟨r_9,hr_10,hF⟩:=bind_some hF
 refine h_call0 (ref_began_ok hr_10) rfl hb61 rfl rfl rfl rfl wz (h_op (.tup [(vI r_9.1),(vB r_9.2)]) wz rfl (h_op (vI r_9.1) wz rfl (h_op (vB r_9.2) wz rfl (h_op (vI r_9.1) wz rfl (h_op (vB r_9.2) wz rfl (h_nil (wH_seq (wH_seq (wH_region (h_far pl55_10 rfl 10 rfl wz (h_ldr 0 3 il ft sz3 ag3 rfl rfl (vI b_2.Prio) rfl wz (h_op (vI r_9.1) wz rfl (h_lit (([b_2.Prio,r_9.1]:List Int).map eI) es22 ez22 rfl rfl rfl rfl rfl wz (h_far pl55_10 rfl 10 rfl wz (h_ldr 0 2 il ft sz3 ag3 rfl rfl (vI a_1.Prio) rfl wz (h_op (vI r_7.1) wz rfl (h_lit (([a_1.Prio,r_7.1]:List Int).map eI) es22 ez22 rfl rfl rfl rfl rfl wz ?_)))))))))))))))))
 obtain ⟨r_11,hr_12,hF⟩:=bind_some hF
 refine h_call0 (slices_Compare_int_int_ok hr_12) rfl hb65 rfl rfl rfl rfl wz (h_op (vI r_11) wz rfl (h_nil (wH_at (H0:=([((extN 0),some (.cells 4 [(vS p_3.Key),(vS p_3.Screen),(vI p_3.Zone),(vL eS p_3.Tags)])),((extN 1),some (.cells 1 [(vI p_4)])),(n_5,some (.cells 13 [(vS a_1.Key),(vS a_1.Item),(vI a_1.Version),(vI a_1.First),(vI a_1.Last),(vI a_1.Every),(vI a_1.Days),(vL eI a_1.Except),(vI a_1.From),(vI a_1.To),(vI a_1.Prio),(vL eS a_1.Tags),(vB a_1.Gone)])),(n_6,some (.cells 13 [(vS b_2.Key),(vS b_2.Item),(vI b_2.Version),(vI b_2.First),(vI b_2.Last),(vI b_2.Every),(vI b_2.Days),(vL eI b_2.Except),(vI b_2.From),(vI b_2.To),(vI b_2.Prio),(vL eS b_2.Tags),(vB b_2.Gone)]))]:Hp)) ([(4,(.ref n_5 0 0)),(5,(.ref n_6 0 0)),(11,(vI r_11))]:List (Nat×V)) (by kernel_rfl) (pre_mk (by kernel_rfl)) (wH_seq (wH_region (h_op (vI r_11) wz rfl (h_op (vB (r_11 != 0)) wz rfl (h_nil ?_))))))))
 rcases cond_some hF with⟨hc_13,hF⟩ | ⟨hc_13,hF⟩
 ·refine wH_ift rfl hc_13 (wH_seq (wH_region (h_op (vI r_11) wz rfl (h_op (vI r_11) wz rfl (h_nil ?_)))))
  obtain rfl:=some_inj hF
  exact wH_ret (finB (.inr rfl) [(vI r_11)] _ [0,1] [extN 0,extN 1] ⟨rfl,trivial⟩ (.cons (co_data rfl rfl) (.nil)) (by kernel_rfl) ⟨(by kernel_rfl),⟨(by kernel_rfl),trivial⟩⟩ (by decide) (by kernel_rfl))
 ·refine wH_iff rfl hc_13 (wH_skip (wH_seq (wH_region (h_far pl55_0 rfl 0 rfl wz (h_ldr 0 3 il ft sz9 ag9 rfl rfl (vS b_2.Key) rfl wz (h_far pl55_0 rfl 0 rfl wz (h_ldr 0 2 il ft sz9 ag9 rfl rfl (vS a_1.Key) rfl wz ?_)))))))
  obtain ⟨r_14,hr_15,hF⟩:=bind_some hF
  refine h_call0 (strings_Compare_ok hr_15) rfl hb66 rfl rfl rfl rfl wz (h_op (vI r_14) wz rfl (h_nil ?_))
  obtain rfl:=some_inj hF
  exact wH_ret (finB (.inr rfl) [(vI r_14)] _ [0,1] [extN 0,extN 1] ⟨rfl,trivial⟩ (.cons (co_data rfl rfl) (.nil)) (by kernel_rfl) ⟨(by kernel_rfl),⟨(by kernel_rfl),trivial⟩⟩ (by decide) (by kernel_rfl))
theorem slices_insertionSortCmpFunc_api_Entry_v1_ok {data_1:(List Entry)} {a_2:Int} {b_3:Int} {cmp4_5:Player} {cmp4_6:Int} {r:(List Entry)} (hF:slices_insertionSortCmpFunc_api_Entry_v1 data_1 a_2 b_3 cmp4_5 cmp4_6=some r) :
  FnM Tryz.prog 110 [(dV (extN 2) 13 data_1),(vI a_2),(vI b_3),(.fn 64 [(.ref (extN 0) 0 0),(.ref (extN 1) 0 0)])] (([(.cells 4 [(vS cmp4_5.Key),(vS cmp4_5.Screen),(vI cmp4_5.Zone),(vL eS cmp4_5.Tags)]),(.cells 1 [(vI cmp4_6)])]:List Box)++gI 13 Entry.enc data_1) (.tup []) (([(.cells 4 [(vS cmp4_5.Key),(vS cmp4_5.Screen),(vI cmp4_5.Zone),(vL eS cmp4_5.Tags)]),(.cells 1 [(vI cmp4_6)])]:List Box).map some++gT data_1 (gB 13 Entry.enc r)):=by
 refine FnM.of_wHv ⟨Tryz.prog,53,[],[]⟩ rfl Tryz.func110 rfl rfl (Nat.le_of_ble_eq_true rfl) (by kernel_rfl) ?_
 unfold slices_insertionSortCmpFunc_api_Entry_v1 at hF
 refine wH_seq (wH_region (h_op (vI a_2) wz rfl (h_op (vI (w64 (a_2 + 1))) wz rfl (h_op (vI (w64 (a_2 + 1))) wz rfl (h_nil ?_)))))
 obtain ⟨o_15,hj_16,hF⟩:=bind_some hF
 obtain ⟨nq_54,hj_16⟩:=loopO_iter hj_16
 refine wH_join (β:=((List Entry)×Int)) (fun (s_12:(List Entry)×Int)=>([]:List (Nat×V))) (fun (s_12:(List Entry)×Int)=>([((extN 0),some (.cells 4 [(vS cmp4_5.Key),(vS cmp4_5.Screen),(vI cmp4_5.Zone),(vL eS cmp4_5.Tags)])),((extN 1),some (.cells 1 [(vI cmp4_6)])),((extN 2),gB 13 Entry.enc s_12.1)]:Hp)) (fun p=>o_15 = .go p) ?_ ?_
 ·refine wH_block (wH_loop (β:=Nat×((List Entry)×Int)) (fun p=>(fun (k_7:Nat) (s_12:(List Entry)×Int)=>([(0,(dV (extN 2) 13 s_12.1)),(1,(vI a_2)),(2,(vI b_3)),(3,(.fn 64 [(.ref (extN 0) 0 0),(.ref (extN 1) 0 0)])),(8,(vI s_12.2))]:List (Nat×V))) p.1 p.2) (fun p=>(fun (k_7:Nat) (s_12:(List Entry)×Int)=>([((extN 0),some (.cells 4 [(vS cmp4_5.Key),(vS cmp4_5.Screen),(vI cmp4_5.Zone),(vL eS cmp4_5.Tags)])),((extN 1),some (.cells 1 [(vI cmp4_6)])),((extN 2),gB 13 Entry.enc s_12.1)]:Hp)) p.1 p.2) (fun p=>iterN (fun s=>slices_insertionSortCmpFunc_api_Entry_v1_L2 b_3 a_2 cmp4_5 cmp4_6 s) p.1 p.2=some o_15) (fun p=>p.1) (nq_54,(data_1,(w64 (a_2 + 1)))) hj_16 rfl (pre_r rfl) ?_)
  rintro ⟨k_7,s_12⟩ hL_14
  dsimp only at hL_14
  cases k_7 with
  | zero=>cases hL_14
  | succ k_7 =>
   obtain ⟨c_,hc_13,hL_14⟩:=bind_some hL_14
   unfold slices_insertionSortCmpFunc_api_Entry_v1_L2 at hc_13
   refine wH_seq (wH_seq (wH_region (h_op (vI s_12.2) wz rfl (h_op (vI b_3) wz rfl (h_op (vB (decide (s_12.2 < b_3))) wz rfl (h_nil ?_))))))
   rcases cond_some hc_13 with⟨hc_17,hc_13⟩ | ⟨hc_17,hc_13⟩
   ·refine wH_ift rfl hc_17 (wH_skip (wH_seq (wH_block (wH_seq (wH_region (h_op (vI s_12.2) wz rfl (h_op (vI s_12.2) wz rfl (h_nil ?_))))))))
    obtain ⟨o_26,hj_27,hc_13⟩:=bind_some hc_13
    obtain ⟨nq_53,hj_27⟩:=loopO_iter hj_27
    refine wH_join (β:=((List Entry)×Int)) (fun (s_23:(List Entry)×Int)=>([(0,(dV (extN 2) 13 s_23.1)),(1,(vI a_2)),(2,(vI b_3)),(3,(.fn 64 [(.ref (extN 0) 0 0),(.ref (extN 1) 0 0)])),(8,(vI s_12.2))]:List (Nat×V))) (fun (s_23:(List Entry)×Int)=>([((extN 0),some (.cells 4 [(vS cmp4_5.Key),(vS cmp4_5.Screen),(vI cmp4_5.Zone),(vL eS cmp4_5.Tags)])),((extN 1),some (.cells 1 [(vI cmp4_6)])),((extN 2),gB 13 Entry.enc s_23.1)]:Hp)) (fun p=>o_26 = .go p) ?_ ?_
    ·refine wH_block (wH_loop (β:=Nat×((List Entry)×Int)) (fun p=>(fun (k_18:Nat) (s_23:(List Entry)×Int)=>([(0,(dV (extN 2) 13 s_23.1)),(1,(vI a_2)),(2,(vI b_3)),(3,(.fn 64 [(.ref (extN 0) 0 0),(.ref (extN 1) 0 0)])),(8,(vI s_12.2)),(9,(vI s_23.2))]:List (Nat×V))) p.1 p.2) (fun p=>(fun (k_18:Nat) (s_23:(List Entry)×Int)=>([((extN 0),some (.cells 4 [(vS cmp4_5.Key),(vS cmp4_5.Screen),(vI cmp4_5.Zone),(vL eS cmp4_5.Tags)])),((extN 1),some (.cells 1 [(vI cmp4_6)])),((extN 2),gB 13 Entry.enc s_23.1)]:Hp)) p.1 p.2) (fun p=>iterN (fun s=>slices_insertionSortCmpFunc_api_Entry_v1_L1 a_2 cmp4_5 cmp4_6 s) p.1 p.2=some o_26) (fun p=>p.1) (nq_53,(s_12.1,s_12.2)) hj_27 rfl (pre_r rfl) ?_)
     rintro ⟨k_18,s_23⟩ hL_25
     dsimp only at hL_25
     cases k_18 with
     | zero=>cases hL_25
     | succ k_18 =>
      obtain ⟨c_,hc_24,hL_25⟩:=bind_some hL_25
      unfold slices_insertionSortCmpFunc_api_Entry_v1_L1 at hc_24
      refine wH_seq (wH_seq ?_)
      obtain ⟨v_28,h_29,hc_24⟩:=bind_some hc_24
      refine wH_join (β:=Unit) (fun _=>([(0,(dV (extN 2) 13 s_23.1)),(1,(vI a_2)),(2,(vI b_3)),(3,(.fn 64 [(.ref (extN 0) 0 0),(.ref (extN 1) 0 0)])),(8,(vI s_12.2)),(9,(vI s_23.2)),(34,(vB v_28))]:List (Nat×V))) (fun _=>([((extN 0),some (.cells 4 [(vS cmp4_5.Key),(vS cmp4_5.Screen),(vI cmp4_5.Zone),(vL eS cmp4_5.Tags)])),((extN 1),some (.cells 1 [(vI cmp4_6)])),((extN 2),gB 13 Entry.enc s_23.1)]:Hp)) (fun _=>True) ?_ ?_
      ·refine wH_draws (h_op (vI s_23.2) wz rfl (h_op (vI a_2) wz rfl (h_op (vB (decide (s_23.2 > a_2))) wz rfl ?_)))
       rcases cond_some h_29 with⟨hc_30,h_29⟩ | ⟨hc_30,h_29⟩
       ·refine h_movb rfl hc_30 wz (h_op (.fn 64 [(.ref (extN 0) 0 0),(.ref (extN 1) 0 0)]) wa rfl (h_op (dV (extN 2) 13 s_23.1) wa rfl (h_op (vI s_23.2) wa rfl ?_)))
        obtain ⟨_,hi_31,h_29⟩:=bind_some h_29
        refine h_iavd es26 rfl rfl (inR_0 hi_31) (inR_lt hi_31) wa ?_
        obtain ⟨e_32,hy_33,h_29⟩:=bind_some h_29
        refine h_ldvg 8 2 (.inr (by kernel_rfl)) (fun _ _ ag=>trivial) sz55 ag55 rfl rfl hy_33 (.d (.agg (Entry.enc e_32))) rfl wa (h_op (dV (extN 2) 13 s_23.1) wa rfl (h_op (vI s_23.2) wa rfl (h_op (vI (w64 (s_23.2 - 1))) wa rfl ?_)))
        obtain ⟨_,hi_34,h_29⟩:=bind_some h_29
        refine h_iavd es26 rfl rfl (inR_0 hi_34) (inR_lt hi_34) wa ?_
        obtain ⟨e_35,hy_36,h_29⟩:=bind_some h_29
        refine h_ldvg 13 2 (.inr (by kernel_rfl)) (fun _ _ ag=>⟨.inl ⟨rfl,rfl⟩,trivial⟩) sz55 ag55 rfl rfl hy_36 (.d (.agg (Entry.enc e_35))) rfl wa ?_
        obtain ⟨r_37,hr_38,h_29⟩:=bind_some h_29
        refine h_callr 14 [0,1] (.inr (by kernel_rfl)) (fun _ _ ag=>by exact⟨.inl ⟨rfl,rfl⟩,⟨.inl ⟨rfl,rfl⟩,trivial⟩⟩) (ref_WhyOf_1_ok hr_38) rfl hb64 rfl (by kernel_rfl) (by kernel_rfl) (by kernel_rfl) (by kernel_rfl) (by kernel_rfl) (by kernel_rfl) (by decide) wa (vI r_37) (by kernel_rfl) (h_op (vB (decide (r_37 < 0))) wa rfl (h_op (vB (decide (r_37 < 0))) wz rfl (h_nil ?_)))
        obtain rfl:=some_inj h_29
        exact cu
       ·refine h_movb rfl hc_30 wz (h_skip wa (h_skip wa (h_skip wa (h_skip wa (h_skip wa (h_skip wa (h_skip wa (h_skip wa (h_skip wa (h_skip wa (h_skip wa (h_skip wa (h_op (vB false) wz rfl (h_nil ?_))))))))))))))
        obtain rfl:=some_inj h_29
        exact cu
      ·rintro ⟨⟩ _ sl_ H_ hp_ hq_
       refine wH_at _ hp_ hq_ ?_
       rcases cond_some hc_24 with⟨hc_40,hc_24⟩ | ⟨hc_40,hc_24⟩
       ·refine wH_ift rfl hc_40 (wH_skip (wH_seq (wH_block (wH_draws (h_op (dV (extN 2) 13 s_23.1) wz rfl (h_op (vI s_23.2) wz rfl (h_op (dV (extN 2) 13 s_23.1) wz rfl (h_op (vI s_23.2) wz rfl (h_op (vI (w64 (s_23.2 - 1))) wz rfl (h_op (dV (extN 2) 13 s_23.1) wz rfl (h_op (vI s_23.2) wz rfl (h_op (vI (w64 (s_23.2 - 1))) wz rfl ?_))))))))))))
        obtain ⟨_,hi_41,hc_24⟩:=bind_some hc_24
        refine h_iavd es26 rfl rfl (inR_0 hi_41) (inR_lt hi_41) wz ?_
        obtain ⟨e_42,hy_43,hc_24⟩:=bind_some hc_24
        refine h_ldvg 9 2 (.inr (by kernel_rfl)) (fun _ _ ag=>trivial) sz55 ag55 rfl rfl hy_43 (.d (.agg (Entry.enc e_42))) rfl wz (h_op (dV (extN 2) 13 s_23.1) wz rfl (h_op (vI s_23.2) wz rfl ?_))
        obtain ⟨_,hi_44,hc_24⟩:=bind_some hc_24
        refine h_iavd es26 rfl rfl (inR_0 hi_44) (inR_lt hi_44) wz ?_
        obtain ⟨e_45,hy_46,hc_24⟩:=bind_some hc_24
        refine h_ldvg 13 2 (.inr (by kernel_rfl)) (fun _ _ ag=>⟨.inl ⟨rfl,rfl⟩,trivial⟩) sz55 ag55 rfl rfl hy_46 (.d (.agg (Entry.enc e_45))) rfl wz ?_
        obtain ⟨_,hi_47,hc_24⟩:=bind_some hc_24
        refine h_iavd es26 rfl rfl (inR_0 hi_47) (inR_lt hi_47) wz ?_
        obtain ⟨e_48,hy_49,hc_24⟩:=bind_some hc_24
        refine h_stvg 15 (.inr (by kernel_rfl)) (fun _ _ ag=>⟨.inr (.inr (by kernel_rfl)),⟨.inr (.inr (by kernel_rfl)),trivial⟩⟩) 2 sz55 rfl rfl hy_49 e_42 rfl wz (h_re (v':=(dV (extN 2) 13 (s_23.1.set (0 + (s_23.2).toNat) e_42))) 0 rfl (dV_len (by simp)) (h_re (v':=(dV (extN 2) 13 (s_23.1.set (0 + (s_23.2).toNat) e_42))) 37 rfl (dV_len (by simp)) (h_re (v':=(dV (extN 2) 13 (s_23.1.set (0 + (s_23.2).toNat) e_42))) 39 rfl (dV_len (by simp)) (h_re (v':=(dV (extN 2) 13 (s_23.1.set (0 + (s_23.2).toNat) e_42))) 42 rfl (dV_len (by simp)) (h_re (v':=(dV (extN 2) 13 (s_23.1.set (0 + (s_23.2).toNat) e_42))) 47 rfl (dV_len (by simp)) ?_)))))
        obtain ⟨_,hi_50,hc_24⟩:=bind_some hc_24
        refine h_iavd es26 rfl rfl (inR_0 hi_50) (inR_lt hi_50) wz ?_
        obtain ⟨e_51,hy_52,hc_24⟩:=bind_some hc_24
        refine h_stvg 17 (.inr (by kernel_rfl)) (fun _ _ ag=>⟨.inr (.inr (by kernel_rfl)),⟨.inr (.inr (by kernel_rfl)),⟨.inr (.inr (by kernel_rfl)),trivial⟩⟩⟩) 2 sz55 rfl rfl hy_52 e_45 rfl wz (h_re (v':=(dV (extN 2) 13 ((s_23.1.set (0 + (s_23.2).toNat) e_42).set (0 + ((w64 (s_23.2 - 1))).toNat) e_45))) 0 rfl (dV_len (by simp)) (h_re (v':=(dV (extN 2) 13 ((s_23.1.set (0 + (s_23.2).toNat) e_42).set (0 + ((w64 (s_23.2 - 1))).toNat) e_45))) 37 rfl (dV_len (by simp)) (h_re (v':=(dV (extN 2) 13 ((s_23.1.set (0 + (s_23.2).toNat) e_42).set (0 + ((w64 (s_23.2 - 1))).toNat) e_45))) 39 rfl (dV_len (by simp)) (h_re (v':=(dV (extN 2) 13 ((s_23.1.set (0 + (s_23.2).toNat) e_42).set (0 + ((w64 (s_23.2 - 1))).toNat) e_45))) 42 rfl (dV_len (by simp)) (h_re (v':=(dV (extN 2) 13 ((s_23.1.set (0 + (s_23.2).toNat) e_42).set (0 + ((w64 (s_23.2 - 1))).toNat) e_45))) 47 rfl (dV_len (by simp)) (h_nil (wH_region (h_op (vI s_23.2) wz rfl (h_op (vI (w64 (s_23.2 - 1))) wz rfl (h_op (vI (w64 (s_23.2 - 1))) wz rfl (h_nil ?_)))))))))))
        obtain rfl:=some_inj hc_24
        exact loop_mk (k_18,(((s_23.1.set (0 + (s_23.2).toNat) e_42).set (0 + ((w64 (s_23.2 - 1))).toNat) e_45),(w64 (s_23.2 - 1)))) hL_25 (Nat.lt_succ_self _) rfl (pre_r rfl)
       ·refine wH_iff rfl hc_40 (wH_exit ?_)
        obtain rfl:=some_inj hc_24
        obtain rfl:=some_inj hL_25
        exact cut_mk ((s_23.1,s_23.2)) rfl rfl (pre_r rfl)
    ·rintro s_23 ho_ sl_ H_ hp_ hq_
     subst ho_
     refine wH_at _ hp_ hq_ (wH_region (h_op (vI s_12.2) wz rfl (h_op (vI (w64 (s_12.2 + 1))) wz rfl (h_op (vI (w64 (s_12.2 + 1))) wz rfl (h_nil ?_)))))
     obtain rfl:=some_inj hc_13
     exact loop_mk (k_7,(s_23.1,(w64 (s_12.2 + 1)))) hL_14 (Nat.lt_succ_self _) rfl (pre_r rfl)
   ·refine wH_iff rfl hc_17 (wH_exit ?_)
    obtain rfl:=some_inj hc_13
    obtain rfl:=some_inj hL_14
    exact cut_mk ((s_12.1,s_12.2)) rfl rfl (pre_r rfl)
 ·rintro s_12 ho_ sl_ H_ hp_ hq_
  subst ho_
  show finH _ _ _ _ _ _ _ _
  obtain rfl:=some_inj hF
  exact finH_at (H0:=([((extN 0),some (.cells 4 [(vS cmp4_5.Key),(vS cmp4_5.Screen),(vI cmp4_5.Zone),(vL eS cmp4_5.Tags)])),((extN 1),some (.cells 1 [(vI cmp4_6)])),((extN 2),gB 13 Entry.enc s_12.1)]:Hp)) (sl':=envS []) hq_ (finV (bs:=([(.cells 4 [(vS cmp4_5.Key),(vS cmp4_5.Screen),(vI cmp4_5.Zone),(vL eS cmp4_5.Tags)]),(.cells 1 [(vI cmp4_6)])]:List Box)) (os:=([(.cells 4 [(vS cmp4_5.Key),(vS cmp4_5.Screen),(vI cmp4_5.Zone),(vL eS cmp4_5.Tags)]),(.cells 1 [(vI cmp4_6)])]:List Box)) (xs:=data_1) (o:=gB 13 Entry.enc s_12.1) (.inl rfl) [] trivial rfl rfl rfl rfl rfl (by kernel_rfl) gB_ok rfl)
theorem slices_pdqsortCmpFunc_api_Entry_v1_ok {data_1:(List Entry)} {a_2:Int} {b_3:Int} {limit_4:Int} {cmp5_6:Player} {cmp5_7:Int} {r:(List Entry)} (hF:slices_pdqsortCmpFunc_api_Entry_v1 data_1 a_2 b_3 limit_4 cmp5_6 cmp5_7=some r) :
  FnM Tryz.prog 88 [(dV (extN 2) 13 data_1),(vI a_2),(vI b_3),(vI limit_4),(.fn 64 [(.ref (extN 0) 0 0),(.ref (extN 1) 0 0)])] (([(.cells 4 [(vS cmp5_6.Key),(vS cmp5_6.Screen),(vI cmp5_6.Zone),(vL eS cmp5_6.Tags)]),(.cells 1 [(vI cmp5_7)])]:List Box)++gI 13 Entry.enc data_1) (.tup []) (([(.cells 4 [(vS cmp5_6.Key),(vS cmp5_6.Screen),(vI cmp5_6.Zone),(vL eS cmp5_6.Tags)]),(.cells 1 [(vI cmp5_7)])]:List Box).map some++gT data_1 (gB 13 Entry.enc r)):=by
 refine FnM.of_wHv ⟨Tryz.prog,148,[],[]⟩ rfl Tryz.func88 rfl rfl (Nat.le_of_ble_eq_true rfl) (by kernel_rfl) ?_
 unfold slices_pdqsortCmpFunc_api_Entry_v1 at hF
 refine wH_seq (wH_region (h_op (vB true) wz rfl (h_nil (wH_seq (wH_region (h_op (vB true) wz rfl (h_nil ?_)))))))
 obtain ⟨o_16,hj_17,hF⟩:=bind_some hF
 obtain ⟨nq_23,hj_17⟩:=loopO_iter hj_17
 refine wH_join (β:=(Unit)) (fun (s_13:Unit)=>([]:List (Nat×V))) (fun (s_13:Unit)=>([((extN 0),some (.cells 4 [(vS cmp5_6.Key),(vS cmp5_6.Screen),(vI cmp5_6.Zone),(vL eS cmp5_6.Tags)])),((extN 1),some (.cells 1 [(vI cmp5_7)])),((extN 2),gB 13 Entry.enc data_1)]:Hp)) (fun p=>o_16 = .go p) ?_ ?_
 ·refine wH_block (wH_loop (β:=Nat×(Unit)) (fun p=>(fun (k_8:Nat) (s_13:Unit)=>([(0,(dV (extN 2) 13 data_1)),(1,(vI a_2)),(2,(vI b_3)),(3,(vI limit_4)),(4,(.fn 64 [(.ref (extN 0) 0 0),(.ref (extN 1) 0 0)])),(10,(vB true)),(11,(vB true))]:List (Nat×V))) p.1 p.2) (fun p=>(fun (k_8:Nat) (s_13:Unit)=>([((extN 0),some (.cells 4 [(vS cmp5_6.Key),(vS cmp5_6.Screen),(vI cmp5_6.Zone),(vL eS cmp5_6.Tags)])),((extN 1),some (.cells 1 [(vI cmp5_7)])),((extN 2),gB 13 Entry.enc data_1)]:Hp)) p.1 p.2) (fun p=>iterN (fun s=>slices_pdqsortCmpFunc_api_Entry_v1_L1 b_3 a_2 data_1 cmp5_6 cmp5_7 limit_4 s) p.1 p.2=some o_16) (fun p=>p.1) (nq_23,()) hj_17 rfl (pre_r rfl) ?_)
  rintro ⟨k_8,s_13⟩ hL_15
  dsimp only at hL_15
  cases k_8 with
  | zero=>cases hL_15
  | succ k_8 =>
   obtain ⟨c_,hc_14,hL_15⟩:=bind_some hL_15
   unfold slices_pdqsortCmpFunc_api_Entry_v1_L1 at hc_14
   refine wH_block (wH_seq (wH_region (h_op (vI b_3) wz rfl (h_op (vI a_2) wz rfl (h_op (vI (w64 (b_3 - a_2))) wz rfl (h_op (vI (w64 (b_3 - a_2))) wz rfl (h_nil (wH_seq (wH_seq (wH_region (h_op (vI (w64 (b_3 - a_2))) wz rfl (h_op (vB (decide ((w64 (b_3 - a_2))≤12))) wz rfl (h_nil ?_)))))))))))))
   rcases cond_some hc_14 with⟨hc_18,hc_14⟩ | ⟨hc_18,hc_14⟩
   ·refine wH_ift rfl hc_18 (wH_seq (wH_region (h_op (dV (extN 2) 13 data_1) wz rfl (h_op (vI a_2) wz rfl (h_op (vI b_3) wz rfl (h_op (.fn 64 [(.ref (extN 0) 0 0),(.ref (extN 1) 0 0)]) wz rfl ?_))))))
    obtain ⟨r_19,hr_20,hc_14⟩:=bind_some hc_14
    obtain ⟨_,hs_21,hc_14⟩:=bind_some hc_14
    replace hs_21:=sameL_eq hs_21
    refine h_callv 0 [0,1] 2 0 il ft (slices_insertionSortCmpFunc_api_Entry_v1_ok hr_20) rfl hb110 rfl rfl rfl (by kernel_rfl) rfl (.inr (.inl rfl)) rfl (by kernel_rfl) (by kernel_rfl) (by kernel_rfl) (by kernel_rfl) rfl (by decide) (by kernel_rfl) gB_ok (gB_ho hs_21) wz ([((extN 0),some (.cells 4 [(vS cmp5_6.Key),(vS cmp5_6.Screen),(vI cmp5_6.Zone),(vL eS cmp5_6.Tags)])),((extN 1),some (.cells 1 [(vI cmp5_7)])),((extN 2),gB 13 Entry.enc r_19)]:Hp) (by kernel_rfl) (h_re (v':=(dV (extN 2) 13 r_19)) 0 rfl (dV_len hs_21.symm) (h_re (v':=(dV (extN 2) 13 r_19)) 26 rfl (dV_len hs_21.symm) (h_nil ?_)))
    obtain rfl:=some_inj hc_14
    obtain rfl:=some_inj hL_15
    obtain rfl:=some_inj hF
    exact wH_ret (finV (bs:=([(.cells 4 [(vS cmp5_6.Key),(vS cmp5_6.Screen),(vI cmp5_6.Zone),(vL eS cmp5_6.Tags)]),(.cells 1 [(vI cmp5_7)])]:List Box)) (os:=([(.cells 4 [(vS cmp5_6.Key),(vS cmp5_6.Screen),(vI cmp5_6.Zone),(vL eS cmp5_6.Tags)]),(.cells 1 [(vI cmp5_7)])]:List Box)) (xs:=data_1) (o:=gB 13 Entry.enc r_19) (.inr rfl) [] trivial rfl rfl rfl rfl rfl (by kernel_rfl) gB_ok rfl)
   ·refine wH_iff rfl hc_18 (wH_skip (wH_seq (wH_seq (wH_region (h_op (vI limit_4) wz rfl (h_op (vB (limit_4 == 0)) wz rfl (h_nil ?_)))))))
    rcases cond_some hc_14 with⟨hc_22,hc_14⟩ | ⟨hc_22,hc_14⟩
    ·refine wH_ift rfl hc_22 (wH_seq (wH_region (h_op (dV (extN 2) 13 data_1) wz rfl (h_op (vI a_2) wz rfl (h_op (vI b_3) wz rfl (h_op (.fn 64 [(.ref (extN 0) 0 0),(.ref (extN 1) 0 0)]) wz rfl ?_))))))
     cases hc_14
    ·refine wH_iff rfl hc_22 (wH_skip (wH_seq (wH_seq (wH_region (h_op (vB true) wz rfl (h_op (vB false) wz rfl (h_nil (wH_iff rfl rfl (wH_skip (wH_seq (wH_region (h_op (dV (extN 2) 13 data_1) wz rfl (h_op (vI a_2) wz rfl (h_op (vI b_3) wz rfl (h_op (.fn 64 [(.ref (extN 0) 0 0),(.ref (extN 1) 0 0)]) wz rfl ?_)))))))))))))))
     cases hc_14
 ·rintro s_13 ho_ sl_ H_ hp_ hq_
  subst ho_
  show finH _ _ _ _ _ _ _ _
  obtain rfl:=some_inj hF
  exact finH_at (H0:=([((extN 0),some (.cells 4 [(vS cmp5_6.Key),(vS cmp5_6.Screen),(vI cmp5_6.Zone),(vL eS cmp5_6.Tags)])),((extN 1),some (.cells 1 [(vI cmp5_7)])),((extN 2),gB 13 Entry.enc data_1)]:Hp)) (sl':=envS []) hq_ (finV (bs:=([(.cells 4 [(vS cmp5_6.Key),(vS cmp5_6.Screen),(vI cmp5_6.Zone),(vL eS cmp5_6.Tags)]),(.cells 1 [(vI cmp5_7)])]:List Box)) (os:=([(.cells 4 [(vS cmp5_6.Key),(vS cmp5_6.Screen),(vI cmp5_6.Zone),(vL eS cmp5_6.Tags)]),(.cells 1 [(vI cmp5_7)])]:List Box)) (xs:=data_1) (o:=gB 13 Entry.enc data_1) (.inl rfl) [] trivial rfl rfl rfl rfl rfl (by kernel_rfl) gB_ok rfl)
theorem slices_SortFunc_api_Entry_api_Entry_v1_ok {x_1:(List Entry)} {cmp2_3:Player} {cmp2_4:Int} {r:(List Entry)} (hF:slices_SortFunc_api_Entry_api_Entry_v1 x_1 cmp2_3 cmp2_4=some r) :
  FnM Tryz.prog 63 [(dV (extN 2) 13 x_1),(.fn 64 [(.ref (extN 0) 0 0),(.ref (extN 1) 0 0)])] (([(.cells 4 [(vS cmp2_3.Key),(vS cmp2_3.Screen),(vI cmp2_3.Zone),(vL eS cmp2_3.Tags)]),(.cells 1 [(vI cmp2_4)])]:List Box)++gI 13 Entry.enc x_1) (.tup []) (([(.cells 4 [(vS cmp2_3.Key),(vS cmp2_3.Screen),(vI cmp2_3.Zone),(vL eS cmp2_3.Tags)]),(.cells 1 [(vI cmp2_4)])]:List Box).map some++gT x_1 (gB 13 Entry.enc r)):=by
 refine FnM.of_wHv ⟨Tryz.prog,14,[],[]⟩ rfl Tryz.func63 rfl rfl (Nat.le_of_ble_eq_true rfl) (by kernel_rfl) ?_
 unfold slices_SortFunc_api_Entry_api_Entry_v1 at hF
 refine wH_seq (wH_region (h_op (dV (extN 2) 13 x_1) wz rfl (h_lend un26 rfl wz (h_op (vI (x_1.length:Int)) wz rfl (h_nil (wH_region (h_op (dV (extN 2) 13 x_1) wz rfl (h_op (vI (x_1.length:Int)) wz rfl (h_op (vI (x_1.length:Int)) wz rfl (h_conv un3 un105 rfl wz ?_))))))))))
 obtain ⟨r_5,hr_6,hF⟩:=bind_some hF
 refine h_call0 (math_bits_Len_ok hr_6) rfl hb73 rfl rfl rfl rfl wz (h_op (.fn 64 [(.ref (extN 0) 0 0),(.ref (extN 1) 0 0)]) wz rfl ?_)
 obtain ⟨r_7,hr_8,hF⟩:=bind_some hF
 obtain ⟨_,hs_9,hF⟩:=bind_some hF
 replace hs_9:=sameL_eq hs_9
 refine h_callv 0 [0,1] 2 0 il ft (slices_pdqsortCmpFunc_api_Entry_v1_ok hr_8) rfl hb88 rfl rfl rfl (by kernel_rfl) rfl (.inr (.inl rfl)) rfl (by kernel_rfl) (by kernel_rfl) (by kernel_rfl) (by kernel_rfl) rfl (by decide) (by kernel_rfl) gB_ok (gB_ho hs_9) wz ([((extN 0),some (.cells 4 [(vS cmp2_3.Key),(vS cmp2_3.Screen),(vI cmp2_3.Zone),(vL eS cmp2_3.Tags)])),((extN 1),some (.cells 1 [(vI cmp2_4)])),((extN 2),gB 13 Entry.enc r_7)]:Hp) (by kernel_rfl) (h_re (v':=(dV (extN 2) 13 r_7)) 0 rfl (dV_len hs_9.symm) (h_re (v':=(dV (extN 2) 13 r_7)) 5 rfl (dV_len hs_9.symm) (h_re (v':=(dV (extN 2) 13 r_7)) 7 rfl (dV_len hs_9.symm) (h_nil ?_))))
 show finH _ _ _ _ _ _ _ _
 obtain rfl:=some_inj hF
 exact finV (bs:=([(.cells 4 [(vS cmp2_3.Key),(vS cmp2_3.Screen),(vI cmp2_3.Zone),(vL eS cmp2_3.Tags)]),(.cells 1 [(vI cmp2_4)])]:List Box)) (os:=([(.cells 4 [(vS cmp2_3.Key),(vS cmp2_3.Screen),(vI cmp2_3.Zone),(vL eS cmp2_3.Tags)]),(.cells 1 [(vI cmp2_4)])]:List Box)) (xs:=x_1) (o:=gB 13 Entry.enc r_7) (.inl rfl) [] trivial rfl rfl rfl rfl rfl (by kernel_rfl) gB_ok rfl
theorem ref_WhyOf_ok {l_1:(List Entry)} {p_2:Player} {atv_3:Int} {r:(List Entry)} (hF:ref_WhyOf l_1 p_2 atv_3=some r) :
  FnM Tryz.prog 39 [(vL Entry.enc l_1),(.d (.agg (Player.enc p_2))),(vI atv_3)] [] (vL Entry.enc r) []:=by
 refine FnM.of_wH ⟨Tryz.prog,41,[],[]⟩ rfl Tryz.func39 rfl rfl (Nat.le_of_ble_eq_true rfl) (by kernel_rfl) ?_
 unfold ref_WhyOf at hF
 refine wH_seq (wH_region (h_box 0 (.inl rfl) [(vS p_2.Key),(vS p_2.Screen),(vI p_2.Zone),(vL eS p_2.Tags)] rfl rfl wz (fun n_4=>h_box 0 (.inl rfl) [(vI atv_3)] rfl rfl wz (fun n_5=>h_op .nil wz rfl (h_nil (wH_seq (wH_region (h_op .nil wz rfl (h_nil (wH_seq (wH_seq (wH_region (h_op (vL Entry.enc l_1) wz rfl (h_len un26 rfl wz (h_op (vI 0) wz rfl (h_nil (wH_new (fun n_12 => ?_))))))))))))))))))
 obtain ⟨o_17,hj_18,hF⟩:=bind_some hF
 obtain ⟨hn_10,hj_18⟩:=forL_some hj_18
 refine wH_join (β:=((List Entry))×Nm) (fun p=>(fun (s_11:(List Entry)) (n_14:Nm)=>([(4,(.ref n_4 0 0)),(5,(.ref n_5 0 0)),(7,(gV n_14 13 s_11))]:List (Nat×V))) p.1 p.2) (fun p=>(fun (s_11:(List Entry)) (n_14:Nm)=>([(n_4,some (.cells 4 [(vS p_2.Key),(vS p_2.Screen),(vI p_2.Zone),(vL eS p_2.Tags)])),(n_5,some (.cells 1 [(vI atv_3)])),(n_14,gB 13 Entry.enc s_11)]:Hp)) p.1 p.2) (fun p=>o_17 = .go p.1) ?_ ?_
 ·refine wH_block (wH_loop (β:=Nat×(List Entry)×((List Entry))×Nm) (fun p=>(fun (k_6:Nat) (l_7:List Entry) (s_11:(List Entry)) (n_14:Nm)=>([(4,(.ref n_4 0 0)),(5,(.ref n_5 0 0)),(7,(gV n_14 13 s_11)),(12,(vL Entry.enc l_1)),(13,(vI (l_1.length:Int))),(14,(vI (k_6:Int)))]:List (Nat×V))) p.1 p.2.1 p.2.2.1 p.2.2.2) (fun p=>(fun (k_6:Nat) (l_7:List Entry) (s_11:(List Entry)) (n_14:Nm)=>([(n_4,some (.cells 4 [(vS p_2.Key),(vS p_2.Screen),(vI p_2.Zone),(vL eS p_2.Tags)])),(n_5,some (.cells 1 [(vI atv_3)])),(n_14,gB 13 Entry.enc s_11)]:Hp)) p.1 p.2.1 p.2.2.1 p.2.2.2) (fun p=>forR (fun k x s=>ref_WhyOf_L1 p_2 atv_3 k x s) p.2.1 p.1 p.2.2.1=some o_17∧(l_1).drop p.1=p.2.1) (fun p=>p.2.1.length) (0,l_1,([]:List Entry),n_12) ⟨hj_18,rfl⟩ rfl (pre_r rfl) ?_)
  rintro ⟨k_6,l_7,s_11,n_14⟩ ⟨hL_16,hD_9⟩
  dsimp only at hL_16 hD_9
  cases l_7 with
  | nil =>
   obtain rfl:=some_inj hL_16
   refine wH_seq (wH_region (h_op (vB (decide ((k_6:Int) < (l_1.length:Int)))) wz rfl (h_nil ?_)))
   refine wH_seq (wH_iff rfl (drop_nil hD_9) (wH_exit ?_))
   exact cut_mk (s_11,n_14) rfl rfl (pre_r rfl)
  | cons x_8 l_7 =>
   obtain ⟨c_,hc_15,hL_16⟩:=bind_some hL_16
   refine wH_seq (wH_region (h_op (vB (decide ((k_6:Int) < (l_1.length:Int)))) wz rfl (h_nil ?_)))
   refine wH_seq (wH_ift rfl (drop_cons hD_9) (wH_skip ?_))
   unfold ref_WhyOf_L1 at hc_15
   refine wH_seq (wH_block (wH_seq (wH_region (h_ia es26 rfl rfl (drop_idx hD_9) rfl wz (h_ldc sz55 ag55 rfl (.d (.agg (Entry.enc x_8))) rfl wz (h_alloc 0 (.inl rfl) z55 rfl wz (fun n_19=>h_str 0 il ft 3 sz55 rfl rfl [(vS x_8.Key),(vS x_8.Item),(vI x_8.Version),(vI x_8.First),(vI x_8.Last),(vI x_8.Every),(vI x_8.Days),(vL eI x_8.Except),(vI x_8.From),(vI x_8.To),(vI x_8.Prio),(vL eS x_8.Tags),(vB x_8.Gone)] rfl wz (h_nil (wH_seq (wH_region (h_ldr 0 3 il ft sz55 ag55 rfl rfl (.d (.agg (Entry.enc x_8))) rfl wz (h_far pl30_2 rfl 2 rfl wz (h_ldr 0 0 il ft sz3 ag3 rfl rfl (vI p_2.Zone) rfl wz (h_ldr 0 1 il ft sz3 ag3 rfl rfl (vI atv_3) rfl wz ?_))))))))))))))
   obtain ⟨r_20,hr_21,hc_15⟩:=bind_some hc_15
   refine h_call0 (ref_began_ok hr_21) rfl hb61 rfl rfl rfl rfl wz (h_op (.tup [(vI r_20.1),(vB r_20.2)]) wz rfl (h_op (vI r_20.1) wz rfl (h_op (vB r_20.2) wz rfl (h_op (vI r_20.1) wz rfl (h_op (vB r_20.2) wz rfl (h_nil (wH_seq ?_)))))))
   obtain ⟨v_22,h_23,hc_15⟩:=bind_some hc_15
   refine wH_join (β:=Unit) (fun _=>([(4,(.ref n_4 0 0)),(5,(.ref n_5 0 0)),(7,(gV n_14 13 s_11)),(9,(.ref n_19 0 0)),(12,(vL Entry.enc l_1)),(13,(vI (l_1.length:Int))),(14,(vI (k_6:Int))),(31,(vB v_22))]:List (Nat×V))) (fun _=>([(n_4,some (.cells 4 [(vS p_2.Key),(vS p_2.Screen),(vI p_2.Zone),(vL eS p_2.Tags)])),(n_5,some (.cells 1 [(vI atv_3)])),(n_14,gB 13 Entry.enc s_11),(n_19,some (.cells 13 [(vS x_8.Key),(vS x_8.Item),(vI x_8.Version),(vI x_8.First),(vI x_8.Last),(vI x_8.Every),(vI x_8.Days),(vL eI x_8.Except),(vI x_8.From),(vI x_8.To),(vI x_8.Prio),(vL eS x_8.Tags),(vB x_8.Gone)]))]:Hp)) (fun _=>True) ?_ ?_
   ·refine wH_region (h_op (vB r_20.2) wz rfl ?_)
    rcases cond_some h_23 with⟨hc_24,h_23⟩ | ⟨hc_24,h_23⟩
    ·refine h_movb rfl hc_24 wz (h_ldr 0 3 il ft sz55 ag55 rfl rfl (.d (.agg (Entry.enc x_8))) rfl wa (h_ldr 0 0 il ft sz30 ag30 rfl rfl (.d (.agg (Player.enc p_2))) rfl wa ?_))
     obtain ⟨r_25,hr_26,h_23⟩:=bind_some h_23
     refine h_call0 (ref_FitsOf_ok hr_26) rfl hb62 rfl rfl rfl rfl wa (h_op (vB r_25) wz rfl (h_nil ?_))
     obtain rfl:=some_inj h_23
     exact cu
    ·refine h_movb rfl hc_24 wz (h_skip wa (h_skip wa (h_skip wa (h_op (vB false) wz rfl (h_nil ?_)))))
     obtain rfl:=some_inj h_23
     exact cu
   ·rintro ⟨⟩ _ sl_ H_ hp_ hq_
    refine wH_at _ hp_ hq_ ?_
    obtain ⟨v_27,h_28,hc_15⟩:=bind_some hc_15
    refine wH_join (β:=Nm) (fun (n_29:Nm)=>([(4,(.ref n_4 0 0)),(5,(.ref n_5 0 0)),(7,(gV n_29 13 v_27)),(12,(vL Entry.enc l_1)),(13,(vI (l_1.length:Int))),(14,(vI (k_6:Int)))]:List (Nat×V))) (fun (n_29:Nm)=>([(n_4,some (.cells 4 [(vS p_2.Key),(vS p_2.Screen),(vI p_2.Zone),(vL eS p_2.Tags)])),(n_5,some (.cells 1 [(vI atv_3)])),(n_29,gB 13 Entry.enc v_27),(n_19,some (.cells 13 [(vS x_8.Key),(vS x_8.Item),(vI x_8.Version),(vI x_8.First),(vI x_8.Last),(vI x_8.Every),(vI x_8.Days),(vL eI x_8.Except),(vI x_8.From),(vI x_8.To),(vI x_8.Prio),(vL eS x_8.Tags),(vB x_8.Gone)]))]:Hp)) (fun _=>True) ?_ ?_
    ·rcases cond_some h_28 with⟨hc_30,h_28⟩ | ⟨hc_30,h_28⟩
     ·refine wH_ift rfl hc_30 (wH_region (h_op (gV n_14 13 s_11) wz rfl (h_ldr 0 3 il ft sz55 ag55 rfl rfl (.d (.agg (Entry.enc x_8))) rfl wz (h_lit (([x_8]:List Entry).map Entry.enc) es26 ez26 rfl rfl rfl rfl rfl wz ?_))))
      obtain ⟨a_31,hz_32,h_28⟩:=bind_some h_28
      refine h_appg 0 il ft (i:=2) el26 el26 sz55 z55 rfl (by decide) by55 (by decide) (fun _=>rfl) rfl rfl rfl hz_32 wz (fun n_33=>h_op (gV n_33 13 a_31) wz rfl (h_nil ?_))
      obtain rfl:=some_inj h_28
      exact cut_mk n_33 trivial rfl (pre_r rfl)
     ·refine wH_iff rfl hc_30 (wH_skip ?_)
      obtain rfl:=some_inj h_28
      exact cut_mk n_14 trivial rfl (pre_r rfl)
    ·rintro n_29 _ sl_ H_ hp_ hq_
     refine wH_at _ hp_ hq_ (wH_region (h_opw (w64_next hD_9 hn_10) wz rfl (h_op (vI ((k_6 + 1:Nat):Int)) wz rfl (h_nil ?_))))
     obtain rfl:=some_inj hc_15
     exact loop_mk (k_6 + 1,l_7,v_27,n_29) ⟨hL_16,drop_next hD_9⟩ (Nat.lt_succ_self _) rfl (pre_r rfl)
 ·rintro ⟨s_11,n_14⟩ ho_ sl_ H_ hp_ hq_
  subst ho_
  refine wH_at _ hp_ hq_ (wH_seq (wH_region (h_op (gV n_14 13 s_11) wz rfl (h_op (.fn 64 [(.ref n_4 0 0),(.ref n_5 0 0)]) wz rfl ?_))))
  obtain ⟨r_34,hr_35,hF⟩:=bind_some hF
  obtain ⟨_,hs_36,hF⟩:=bind_some hF
  replace hs_36:=sameL_eq hs_36
  refine h_callv 0 [0,1] 2 0 il ft (slices_SortFunc_api_Entry_api_Entry_v1_ok hr_35) rfl hb63 rfl rfl rfl (by kernel_rfl) rfl (.inl rfl) rfl (by kernel_rfl) (by kernel_rfl) (by kernel_rfl) (by kernel_rfl) rfl (by decide) (by kernel_rfl) gB_ok (gB_ho hs_36) wz ([(n_4,some (.cells 4 [(vS p_2.Key),(vS p_2.Screen),(vI p_2.Zone),(vL eS p_2.Tags)])),(n_5,some (.cells 1 [(vI atv_3)])),(n_14,gB 13 Entry.enc r_34)]:Hp) (by kernel_rfl) (h_re (v':=(gV n_14 13 r_34)) 37 rfl (gV_len hs_36.symm) (h_re (v':=(gV n_14 13 r_34)) 7 rfl (gV_len hs_36.symm) (h_nil (wH_seq (wH_region (h_op (gV n_14 13 r_34) wz rfl (h_op (gV n_14 13 r_34) wz rfl (h_nil (wH_frozg 2 rfl (wH_cog 6 2 rfl rfl (wH_cog 7 2 rfl rfl (wH_cog 37 2 rfl rfl (wH_cog 40 2 rfl rfl ?_)))))))))))))
  obtain rfl:=some_inj hF
  exact wH_ret (fin0 (.inr rfl) [(vL Entry.enc r_34)] ⟨rfl,trivial⟩ rfl rfl rfl)
end Go.Proofs.YtjhcehhmdmbleaaGreat.Law

