/-
 The machine computes these plain functions (written by a program of ours).
-/
import Derived.Test.YtjhcehhmdmbleaaGreatFacts
import Derived.Test.YtjhcehhmdmbleaaGreatDefs
import Derived.Test.YtjhcehhmdmbleaaGreatPf3
open Go Go.Eng Go.Proofs
namespace Go.Proofs.YtjhcehhmdmbleaaGreat.Law
set_option maxRecDepth 100000
set_option linter.unusedVariables false
set_option maxHeartbeats 1000000
theorem slices_IndexFunc_schedule_span_schedule_span_v1_ok {s_1:(List Span)} {f2_3:(List Int)} {f2_4:Int} {r:Int} (hF:slices_IndexFunc_schedule_span_schedule_span_v1 s_1 f2_3 f2_4=some r) :
  FnM Tryz.prog 78 [(vV (extN 2) 3 s_1),(.fn 53 [(.ref (extN 0) 0 0),(.ref (extN 1) 0 0)])] (([(.cells 1 [(vL eI f2_3)]),(.cells 1 [(vI f2_4)])]:List Box) ++ [(bV 3 Span.enc s_1)]) (vI r) ((([(.cells 1 [(vL eI f2_3)]),(.cells 1 [(vI f2_4)])]:List Box)).map some ++ [some (bV 3 Span.enc s_1)]):=by
 refine FnM.of_wH ⟨Tryz.prog,19,[],[]⟩ rfl Tryz.func78 rfl rfl (Nat.le_of_ble_eq_true rfl) (by kernel_rfl) ?_
 unfold slices_IndexFunc_schedule_span_schedule_span_v1 at hF
 refine wH_seq (wH_region (h_op (vI 0) wz rfl (h_nil (wH_seq (wH_seq (wH_region (h_op (vV (extN 2) 3 s_1) wz rfl (h_lenw un62 rfl wz (h_op (vI 0) wz rfl (h_nil ?_))))))))))
 obtain ⟨o_13,hj_14,hF⟩:=bind_some hF
 obtain ⟨hn_9,hj_14⟩:=forL_some hj_14
 refine wH_join (β:=(Unit)) (fun (s_10:Unit)=>([]:List (Nat×V))) (fun (s_10:Unit)=>([((extN 0),some (.cells 1 [(vL eI f2_3)])),((extN 1),some (.cells 1 [(vI f2_4)])),((extN 2),some (bV 3 Span.enc s_1))]:Hp)) (fun p=>o_13 = .go p) ?_ ?_
 ·refine wH_block (wH_loop (β:=Nat×(List Nat)×(Unit)) (fun p=>(fun (k_5:Nat) (l_6:List Nat) (s_10:Unit)=>([(0,(vV (extN 2) 3 s_1)),(1,(.fn 53 [(.ref (extN 0) 0 0),(.ref (extN 1) 0 0)])),(7,(vI (s_1.length:Int))),(8,(vI (k_5:Int)))]:List (Nat×V))) p.1 p.2.1 p.2.2) (fun p=>(fun (k_5:Nat) (l_6:List Nat) (s_10:Unit)=>([((extN 0),some (.cells 1 [(vL eI f2_3)])),((extN 1),some (.cells 1 [(vI f2_4)])),((extN 2),some (bV 3 Span.enc s_1))]:Hp)) p.1 p.2.1 p.2.2) (fun p=>forR (fun k x s=>slices_IndexFunc_schedule_span_schedule_span_v1_L1 s_1 f2_3 f2_4 k x s) p.2.1 p.1 p.2.2=some o_13∧((List.range ((s_1.length:Int)).toNat)).drop p.1=p.2.1) (fun p=>p.2.1.length) (0,(List.range ((s_1.length:Int)).toNat),()) ⟨hj_14,rfl⟩ rfl (pre_r rfl) ?_)
  rintro ⟨k_5,l_6,s_10⟩ ⟨hL_12,hD_8⟩
  dsimp only at hL_12 hD_8
  cases l_6 with
  | nil =>
   obtain rfl:=some_inj hL_12
   refine wH_seq (wH_region (h_op (vB (decide ((k_5:Int) < (s_1.length:Int)))) wz rfl (h_nil ?_)))
   refine wH_seq (wH_iff rfl (range_nil hD_8) (wH_exit ?_))
   exact cut_mk (s_10) rfl rfl (pre_r rfl)
  | cons x_7 l_6 =>
   obtain ⟨c_,hc_11,hL_12⟩:=bind_some hL_12
   refine wH_seq (wH_region (h_op (vB (decide ((k_5:Int) < (s_1.length:Int)))) wz rfl (h_nil ?_)))
   refine wH_seq (wH_ift rfl (range_cons hD_8) (wH_skip ?_))
   unfold slices_IndexFunc_schedule_span_schedule_span_v1_L1 at hc_11
   refine wH_seq (wH_block (wH_seq (wH_region (h_op (vI (k_5:Int)) wz rfl (h_op (vI (k_5:Int)) wz rfl (h_nil (wH_seq (wH_region (h_op (.fn 53 [(.ref (extN 0) 0 0),(.ref (extN 1) 0 0)]) wz rfl (h_op (vV (extN 2) 3 s_1) wz rfl (h_op (vI (k_5:Int)) wz rfl ?_)))))))))))
   obtain ⟨_,hi_15,hc_11⟩:=bind_some hc_11
   refine h_iav es62 rfl rfl (inR_0 hi_15) (inR_lt hi_15) wz ?_
   obtain ⟨e_16,hy_17,hc_11⟩:=bind_some hc_11
   refine h_ldv 0 2 il ft sz67 ag67 rfl rfl hy_17 (.d (.agg (Span.enc e_16))) rfl wz ?_
   obtain ⟨r_18,hr_19,hc_11⟩:=bind_some hc_11
   refine h_callq 0 [0,1] il ft (schedule_through_2_ok hr_19) rfl hb53 rfl (by kernel_rfl) (by kernel_rfl) (by kernel_rfl) (by kernel_rfl) (by kernel_rfl) (by kernel_rfl) (by kernel_rfl) (by decide) (by kernel_rfl) wz (vB r_18) (by kernel_rfl) ([((extN 0),some (.cells 1 [(vL eI f2_3)])),((extN 1),some (.cells 1 [(vI f2_4)])),((extN 2),some (bV 3 Span.enc s_1))]:Hp) (by kernel_rfl) (h_nil ?_)
   rcases cond_some hc_11 with⟨hc_21,hc_11⟩ | ⟨hc_21,hc_11⟩
   ·refine wH_ift rfl hc_21 (wH_seq (wH_region (h_op (vI (k_5:Int)) wz rfl (h_op (vI (k_5:Int)) wz rfl (h_nil ?_)))))
    obtain rfl:=some_inj hc_11
    obtain rfl:=some_inj hL_12
    obtain rfl:=some_inj hF
    exact wH_ret (finB (.inr rfl) [(vI (k_5:Int))] _ [0,1,2] [extN 0,extN 1,extN 2] ⟨rfl,trivial⟩ (.cons (co_data rfl rfl) (.nil)) (by kernel_rfl) ⟨(by kernel_rfl),⟨(by kernel_rfl),⟨(by kernel_rfl),trivial⟩⟩⟩ (by decide) (by kernel_rfl))
   ·refine wH_iff rfl hc_21 (wH_skip (wH_region (h_opw (w64_nextr hD_8 hn_9) wz rfl (h_op (vI ((k_5 + 1:Nat):Int)) wz rfl (h_nil ?_)))))
    obtain rfl:=some_inj hc_11
    exact loop_mk (k_5 + 1,l_6,()) ⟨hL_12,drop_next hD_8⟩ (Nat.lt_succ_self _) rfl (pre_r rfl)
 ·rintro s_10 ho_ sl_ H_ hp_ hq_
  subst ho_
  refine wH_at _ hp_ hq_ (wH_seq (wH_region (h_op (vI (-1)) wz rfl (h_nil ?_))))
  obtain rfl:=some_inj hF
  exact wH_ret (finB (.inr rfl) [(vI (-1))] _ [0,1,2] [extN 0,extN 1,extN 2] ⟨rfl,trivial⟩ (.cons (co_data rfl rfl) (.nil)) (by kernel_rfl) ⟨(by kernel_rfl),⟨(by kernel_rfl),⟨(by kernel_rfl),trivial⟩⟩⟩ (by decide) (by kernel_rfl))
theorem slices_DeleteFunc_schedule_span_schedule_span_v1_ok {s_1:(List Span)} {del2_3:(List Int)} {del2_4:Int} {r:(List Span)} (hF:slices_DeleteFunc_schedule_span_schedule_span_v1 s_1 del2_3 del2_4=some r) :
  FnM Tryz.prog 52 [(vV (extN 2) 3 s_1),(.fn 53 [(.ref (extN 0) 0 0),(.ref (extN 1) 0 0)])] (([(.cells 1 [(vL eI del2_3)]),(.cells 1 [(vI del2_4)])]:List Box) ++ [(bV 3 Span.enc s_1)]) (vV (extN 2) 3 r) ((([(.cells 1 [(vL eI del2_3)]),(.cells 1 [(vI del2_4)])]:List Box)).map some ++ [some (bV 3 Span.enc r)]):=by
 refine FnM.of_wH ⟨Tryz.prog,42,[],[]⟩ rfl Tryz.func52 rfl rfl (Nat.le_of_ble_eq_true rfl) (by kernel_rfl) ?_
 unfold slices_DeleteFunc_schedule_span_schedule_span_v1 at hF
 refine wH_seq (wH_region (h_op .nil wz rfl (h_nil (wH_seq (wH_region (h_op (vV (extN 2) 3 s_1) wz rfl (h_op (.fn 53 [(.ref (extN 0) 0 0),(.ref (extN 1) 0 0)]) wz rfl ?_)))))))
 obtain ⟨r_5,hr_6,hF⟩:=bind_some hF
 refine h_callvb 0 [0,1] 2 0 il ft (slices_IndexFunc_schedule_span_schedule_span_v1_ok hr_6) rfl hb78 rfl rfl rfl (by kernel_rfl) rfl rfl (by kernel_rfl) (by kernel_rfl) (by kernel_rfl) (by kernel_rfl) rfl (by decide) (by kernel_rfl) bV_ok wz (vI r_5) (by kernel_rfl) ([((extN 0),some (.cells 1 [(vL eI del2_3)])),((extN 1),some (.cells 1 [(vI del2_4)])),((extN 2),some (bV 3 Span.enc s_1))]:Hp) (by kernel_rfl) (h_op (vI r_5) wz rfl (h_nil (wH_seq (wH_seq (wH_region (h_op (vI r_5) wz rfl (h_op (vB (r_5 == (-1))) wz rfl (h_nil ?_))))))))
 rcases cond_some hF with⟨hc_7,hF⟩ | ⟨hc_7,hF⟩
 ·refine wH_ift rfl hc_7 (wH_seq (wH_region (h_op (vV (extN 2) 3 s_1) wz rfl (h_op (vV (extN 2) 3 s_1) wz rfl (h_nil ?_)))))
  obtain rfl:=some_inj hF
  exact wH_ret (finB (.inr rfl) [(vV (extN 2) 3 s_1)] _ [0,1,2] [extN 0,extN 1,extN 2] ⟨rfl,trivial⟩ (.cons (co_same' _) (.nil)) (by kernel_rfl) ⟨(by kernel_rfl),⟨(by kernel_rfl),⟨(by kernel_rfl),trivial⟩⟩⟩ (by decide) (by kernel_rfl))
 ·refine wH_iff rfl hc_7 (wH_skip (wH_seq (wH_seq (wH_region (h_op (vI r_5) wz rfl (h_op (vI (w64 (r_5 + 1))) wz rfl (h_op (vI (w64 (r_5 + 1))) wz rfl (h_nil ?_))))))))
  obtain ⟨o_16,hj_17,hF⟩:=bind_some hF
  obtain ⟨nq_34,hj_17⟩:=loopO_iter hj_17
  refine wH_join (β:=((List Span)×Int×Int)) (fun (s_13:(List Span)×Int×Int)=>([(0,(vV (extN 2) 3 s_13.1)),(5,(vI s_13.2.1))]:List (Nat×V))) (fun (s_13:(List Span)×Int×Int)=>([((extN 0),some (.cells 1 [(vL eI del2_3)])),((extN 1),some (.cells 1 [(vI del2_4)])),((extN 2),some (bV 3 Span.enc s_13.1))]:Hp)) (fun p=>o_16 = .go p) ?_ ?_
  ·refine wH_block (wH_loop (β:=Nat×((List Span)×Int×Int)) (fun p=>(fun (k_8:Nat) (s_13:(List Span)×Int×Int)=>([(0,(vV (extN 2) 3 s_13.1)),(1,(.fn 53 [(.ref (extN 0) 0 0),(.ref (extN 1) 0 0)])),(5,(vI s_13.2.1)),(6,(vI s_13.2.2))]:List (Nat×V))) p.1 p.2) (fun p=>(fun (k_8:Nat) (s_13:(List Span)×Int×Int)=>([((extN 0),some (.cells 1 [(vL eI del2_3)])),((extN 1),some (.cells 1 [(vI del2_4)])),((extN 2),some (bV 3 Span.enc s_13.1))]:Hp)) p.1 p.2) (fun p=>iterN (fun s=>slices_DeleteFunc_schedule_span_schedule_span_v1_L1 del2_3 del2_4 s) p.1 p.2=some o_16) (fun p=>p.1) (nq_34,(s_1,r_5,(w64 (r_5 + 1)))) hj_17 rfl (pre_r rfl) ?_)
   rintro ⟨k_8,s_13⟩ hL_15
   dsimp only at hL_15
   cases k_8 with
   | zero=>cases hL_15
   | succ k_8 =>
    obtain ⟨c_,hc_14,hL_15⟩:=bind_some hL_15
    unfold slices_DeleteFunc_schedule_span_schedule_span_v1_L1 at hc_14
    refine wH_seq (wH_seq (wH_region (h_op (vI s_13.2.2) wz rfl (h_op (vV (extN 2) 3 s_13.1) wz rfl (h_lenw un62 rfl wz (h_op (vB (decide (s_13.2.2 < (s_13.1.length:Int)))) wz rfl (h_nil ?_)))))))
    rcases cond_some hc_14 with⟨hc_18,hc_14⟩ | ⟨hc_18,hc_14⟩
    ·refine wH_ift rfl hc_18 (wH_skip (wH_seq (wH_block (wH_seq (wH_region (h_op (vV (extN 2) 3 s_13.1) wz rfl (h_op (vI s_13.2.2) wz rfl ?_)))))))
     obtain ⟨_,hi_19,hc_14⟩:=bind_some hc_14
     refine h_iav es62 rfl rfl (inR_0 hi_19) (inR_lt hi_19) wz ?_
     obtain ⟨e_20,hy_21,hc_14⟩:=bind_some hc_14
     refine h_ldv 0 2 il ft sz67 ag67 rfl rfl hy_21 (.d (.agg (Span.enc e_20))) rfl wz (h_alloc 0 (.inl rfl) z67 rfl wz (fun n_22=>h_str 0 il ft 3 sz67 rfl rfl [(.d (dP Entry.enc e_20.f_e)),(vI e_20.f_time.From),(vI e_20.f_time.To)] (stC_one rfl (one_cons (oneV_dP _ _) (one_cons rfl (one_cons rfl rfl))) rfl rfl) wz (h_nil (wH_seq (wH_region (h_op (.fn 53 [(.ref (extN 0) 0 0),(.ref (extN 1) 0 0)]) wz rfl (h_ldr 0 3 il ft sz67 ag67 rfl rfl (.d (.agg (Span.enc e_20))) rfl wz ?_)))))))
     obtain ⟨r_23,hr_24,hc_14⟩:=bind_some hc_14
     refine h_callq 0 [0,1] il ft (schedule_through_2_ok hr_24) rfl hb53 rfl (by kernel_rfl) (by kernel_rfl) (by kernel_rfl) (by kernel_rfl) (by kernel_rfl) (by kernel_rfl) (by kernel_rfl) (by decide) (by kernel_rfl) wz (vB r_23) (by kernel_rfl) ([((extN 0),some (.cells 1 [(vL eI del2_3)])),((extN 1),some (.cells 1 [(vI del2_4)])),((extN 2),some (bV 3 Span.enc s_13.1)),(n_22,some (.cells 3 [(.d (dP Entry.enc e_20.f_e)),(vI e_20.f_time.From),(vI e_20.f_time.To)]))]:Hp) (by kernel_rfl) (h_op (vB (!r_23)) wz rfl (h_nil ?_))
     obtain ⟨v_26,h_27,hc_14⟩:=bind_some hc_14
     refine wH_join (β:=Unit) (fun _=>([(0,(vV (extN 2) 3 v_26.1)),(1,(.fn 53 [(.ref (extN 0) 0 0),(.ref (extN 1) 0 0)])),(5,(vI v_26.2)),(6,(vI s_13.2.2))]:List (Nat×V))) (fun _=>([((extN 0),some (.cells 1 [(vL eI del2_3)])),((extN 1),some (.cells 1 [(vI del2_4)])),((extN 2),some (bV 3 Span.enc v_26.1)),(n_22,some (.cells 3 [(.d (dP Entry.enc e_20.f_e)),(vI e_20.f_time.From),(vI e_20.f_time.To)]))]:Hp)) (fun _=>True) ?_ ?_
     ·rcases cond_some h_27 with⟨hc_28,h_27⟩ | ⟨hc_28,h_27⟩
      ·refine wH_ift rfl hc_28 (wH_seq (wH_region (h_op (vV (extN 2) 3 s_13.1) wz rfl (h_op (vI s_13.2.1) wz rfl (h_ldr 0 3 il ft sz67 ag67 rfl rfl (.d (.agg (Span.enc e_20))) rfl wz ?_)))))
       obtain ⟨_,hi_29,h_27⟩:=bind_some h_27
       refine h_iav es62 rfl rfl (inR_0 hi_29) (inR_lt hi_29) wz ?_
       obtain ⟨e_30,hy_31,h_27⟩:=bind_some h_27
       refine h_stv 0 il ft 2 sz67 rfl rfl hy_31 e_20 (stD_one rfl rfl (one_cons (oneV_dP _ _) (one_cons rfl (one_cons rfl rfl))) rfl rfl) wz (h_re (v':=(vV (extN 2) 3 (s_13.1.set (0 + (s_13.2.1).toNat) e_20))) 0 rfl (vV_len (by simp)) (h_re (v':=(vV (extN 2) 3 (s_13.1.set (0 + (s_13.2.1).toNat) e_20))) 17 rfl (vV_len (by simp)) (h_re (v':=(vV (extN 2) 3 (s_13.1.set (0 + (s_13.2.1).toNat) e_20))) 22 rfl (vV_len (by simp)) (h_re (v':=(vV (extN 2) 3 (s_13.1.set (0 + (s_13.2.1).toNat) e_20))) 30 rfl (vV_len (by simp)) (h_nil (wH_region (h_op (vI s_13.2.1) wz rfl (h_op (vI (w64 (s_13.2.1 + 1))) wz rfl (h_op (vI (w64 (s_13.2.1 + 1))) wz rfl (h_nil ?_))))))))))
       obtain rfl:=some_inj h_27
       exact cu
      ·refine wH_iff rfl hc_28 (wH_skip ?_)
       obtain rfl:=some_inj h_27
       exact cu
     ·rintro ⟨⟩ _ sl_ H_ hp_ hq_
      refine wH_at _ hp_ hq_ (wH_region (h_op (vI s_13.2.2) wz rfl (h_op (vI (w64 (s_13.2.2 + 1))) wz rfl (h_op (vI (w64 (s_13.2.2 + 1))) wz rfl (h_nil ?_)))))
      obtain rfl:=some_inj hc_14
      exact loop_mk (k_8,(v_26.1,v_26.2,(w64 (s_13.2.2 + 1)))) hL_15 (Nat.lt_succ_self _) rfl (pre_r rfl)
    ·refine wH_iff rfl hc_18 (wH_exit ?_)
     obtain rfl:=some_inj hc_14
     obtain rfl:=some_inj hL_15
     exact cut_mk ((s_13.1,s_13.2.1,s_13.2.2)) rfl rfl (pre_r rfl)
  ·rintro s_13 ho_ sl_ H_ hp_ hq_
   subst ho_
   refine wH_at _ hp_ hq_ (wH_seq (wH_region (h_op (vV (extN 2) 3 s_13.1) wz rfl (h_op (vI s_13.2.1) wz rfl ?_))))
   obtain ⟨_,hr_32,hF⟩:=bind_some hF
   refine h_partTF un62 sz67 rfl rfl hr_32 wz (h_clear (i:=2) 0 il ft (⟨none,(⟨0,0⟩:Window)⟩:Span) el62 sz67 z67 rfl rfl rfl (by decide) rfl (subR_le hr_32) rfl wz (h_re (v':=(vV (extN 2) 3 (s_13.1.take ((s_13.2.1).toNat)++List.replicate (((s_13.1.length:Int)).toNat - (s_13.2.1).toNat) (⟨none,(⟨0,0⟩:Window)⟩:Span)++s_13.1.drop (((s_13.2.1).toNat) + (((s_13.1.length:Int)).toNat - (s_13.2.1).toNat))))) 0 rfl (vV_len (clear_len (subR_le hr_32))) (h_re (v':=(vV (extN 2) 3 (s_13.1.take ((s_13.2.1).toNat)++List.replicate (((s_13.1.length:Int)).toNat - (s_13.2.1).toNat) (⟨none,(⟨0,0⟩:Window)⟩:Span)++s_13.1.drop (((s_13.2.1).toNat) + (((s_13.1.length:Int)).toNat - (s_13.2.1).toNat))))) 36 rfl (vV_len (clear_len (subR_le hr_32))) (h_nil (wH_seq (wH_region (h_op (vV (extN 2) 3 (s_13.1.take ((s_13.2.1).toNat)++List.replicate (((s_13.1.length:Int)).toNat - (s_13.2.1).toNat) (⟨none,(⟨0,0⟩:Window)⟩:Span)++s_13.1.drop (((s_13.2.1).toNat) + (((s_13.1.length:Int)).toNat - (s_13.2.1).toNat)))) wz rfl (h_op (vI s_13.2.1) wz rfl ?_))))))))
   obtain ⟨_,hr_33,hF⟩:=bind_some hF
   refine h_partFT un62 sz67 rfl rfl hr_33 wz (h_op (.vs (extN 2) 3 0 ((s_13.2.1).toNat)) wz rfl (h_nil (wH_re (v':=(vV (extN 2) 3 ((s_13.1.take ((s_13.2.1).toNat)++List.replicate (((s_13.1.length:Int)).toNat - (s_13.2.1).toNat) (⟨none,(⟨0,0⟩:Window)⟩:Span)++s_13.1.drop (((s_13.2.1).toNat) + (((s_13.1.length:Int)).toNat - (s_13.2.1).toNat))).take ((s_13.2.1).toNat)))) 4 rfl (vV_take (subR_le hr_33)) (wH_shr 2 ((s_13.2.1).toNat) rfl ?_))))
   obtain rfl:=some_inj hF
   exact wH_ret (finB (.inr rfl) [(vV (extN 2) 3 ((s_13.1.take ((s_13.2.1).toNat)++List.replicate (((s_13.1.length:Int)).toNat - (s_13.2.1).toNat) (⟨none,(⟨0,0⟩:Window)⟩:Span)++s_13.1.drop (((s_13.2.1).toNat) + (((s_13.1.length:Int)).toNat - (s_13.2.1).toNat))).take ((s_13.2.1).toNat)))] _ [0,1,2] [extN 0,extN 1,extN 2] ⟨rfl,trivial⟩ (.cons (co_same' _) (.nil)) (by kernel_rfl) ⟨(by kernel_rfl),⟨(by kernel_rfl),⟨(by kernel_rfl),trivial⟩⟩⟩ (by decide) (by kernel_rfl))
theorem slices_IndexFunc_schedule_span_schedule_span_ok {s_1:(List Span)} {f_2:Span→Option Bool} {r:Int} {gid:FuncId} {caps:List V} {Sin:List Box} (hfn:∀ x0 r,f_2 x0=some r→FnM Tryz.prog gid ([(.d (.agg (Span.enc x0)))]++caps) Sin (vB r) (Sin.map some)) (hbF:hasBody Tryz.prog gid=true) (hcapF:caps.flatMap frz = []∧caps.map co0=caps) (hokF:okL Sin.length caps=true) (hsF:∀ b∈Sin,b.ok Sin.length=true) (hmF:∀ b∈Sin,b.mut=true) (hF:slices_IndexFunc_schedule_span_schedule_span s_1 f_2=some r) :
  FnM Tryz.prog 78 [(vL Span.enc s_1),(.fn gid caps)] Sin (vI r) (Sin.map some):=by
 refine FnM.of_wH ⟨Tryz.prog,19,[],[]⟩ rfl Tryz.func78 rfl rfl (Nat.le_of_ble_eq_true rfl) (by kernel_rfl) ?_
 unfold slices_IndexFunc_schedule_span_schedule_span at hF
 refine wH_seq (wH_region (h_op (vI 0) wz rfl (h_nil (wH_seq (wH_seq (wH_region (h_op (vL Span.enc s_1) wz rfl (h_len un62 rfl wz (h_op (vI 0) wz rfl (h_nil ?_))))))))))
 obtain ⟨o_11,hj_12,hF⟩:=bind_some hF
 obtain ⟨hn_7,hj_12⟩:=forL_some hj_12
 refine wH_join (β:=(Unit)) (fun (s_8:Unit)=>([]:List (Nat×V))) (fun (s_8:Unit)=>(initH 0 Sin)) (fun p=>o_11 = .go p) ?_ ?_
 ·refine wH_block (wH_loop (β:=Nat×(List Span)×(Unit)) (fun p=>(fun (k_3:Nat) (l_4:List Span) (s_8:Unit)=>([(0,(vL Span.enc s_1)),(1,(.fn gid caps)),(7,(vI (s_1.length:Int))),(8,(vI (k_3:Int)))]:List (Nat×V))) p.1 p.2.1 p.2.2) (fun p=>(fun (k_3:Nat) (l_4:List Span) (s_8:Unit)=>(initH 0 Sin)) p.1 p.2.1 p.2.2) (fun p=>forR (fun k x s=>slices_IndexFunc_schedule_span_schedule_span_L1 f_2 k x s) p.2.1 p.1 p.2.2=some o_11∧(s_1).drop p.1=p.2.1) (fun p=>p.2.1.length) (0,s_1,()) ⟨hj_12,rfl⟩ rfl (pre_self _) ?_)
  rintro ⟨k_3,l_4,s_8⟩ ⟨hL_10,hD_6⟩
  dsimp only at hL_10 hD_6
  cases l_4 with
  | nil =>
   obtain rfl:=some_inj hL_10
   refine wH_seq (wH_region (h_op (vB (decide ((k_3:Int) < (s_1.length:Int)))) wz rfl (h_nil ?_)))
   refine wH_seq (wH_iff rfl (drop_nil hD_6) (wH_exit ?_))
   exact cut_mk (s_8) rfl rfl (pre_self _)
  | cons x_5 l_4 =>
   obtain ⟨c_,hc_9,hL_10⟩:=bind_some hL_10
   refine wH_seq (wH_region (h_op (vB (decide ((k_3:Int) < (s_1.length:Int)))) wz rfl (h_nil ?_)))
   refine wH_seq (wH_ift rfl (drop_cons hD_6) (wH_skip ?_))
   unfold slices_IndexFunc_schedule_span_schedule_span_L1 at hc_9
   refine wH_seq (wH_block (wH_seq (wH_region (h_op (vI (k_3:Int)) wz rfl (h_op (vI (k_3:Int)) wz rfl (h_nil (wH_seq (wH_region (h_op (.fn gid caps) wz rfl (h_op (vL Span.enc s_1) wz rfl (h_op (vI (k_3:Int)) wz rfl (h_ia es62 rfl rfl (drop_idx hD_6) rfl wz (h_ldc sz67 ag67 rfl (.d (.agg (Span.enc x_5))) rfl wz ?_)))))))))))))
   obtain ⟨r_13,hr_14,hc_9⟩:=bind_some hc_9
   refine h_callS (hfn _ _ hr_14) rfl hbF rfl rfl hcapF hokF hsF hmF rfl wz rfl (h_nil ?_)
   rcases cond_some hc_9 with⟨hc_15,hc_9⟩ | ⟨hc_15,hc_9⟩
   ·refine wH_ift rfl hc_15 (wH_seq (wH_region (h_op (vI (k_3:Int)) wz rfl (h_op (vI (k_3:Int)) wz rfl (h_nil ?_)))))
    obtain rfl:=some_inj hc_9
    obtain rfl:=some_inj hL_10
    obtain rfl:=some_inj hF
    exact wH_ret (finS hsF (.inr rfl) [(vI (k_3:Int))] ⟨rfl,trivial⟩ rfl rfl rfl)
   ·refine wH_iff rfl hc_15 (wH_skip (wH_region (h_opw (w64_next hD_6 hn_7) wz rfl (h_op (vI ((k_3 + 1:Nat):Int)) wz rfl (h_nil ?_)))))
    obtain rfl:=some_inj hc_9
    exact loop_mk (k_3 + 1,l_4,()) ⟨hL_10,drop_next hD_6⟩ (Nat.lt_succ_self _) rfl (pre_self _)
 ·rintro s_8 ho_ sl_ H_ hp_ hq_
  subst ho_
  refine wH_at _ hp_ hq_ (wH_seq (wH_region (h_op (vI (-1)) wz rfl (h_nil ?_))))
  obtain rfl:=some_inj hF
  exact wH_ret (finS hsF (.inr rfl) [(vI (-1))] ⟨rfl,trivial⟩ rfl rfl rfl)
theorem slices_DeleteFunc_schedule_span_schedule_span_v2_ok {del2_3:(List Int)} {del2_4:Int} {r:Unit} (hF:slices_DeleteFunc_schedule_span_schedule_span_v2 del2_3 del2_4=some r) :
  FnM Tryz.prog 52 [.nil,(.fn 53 [(.ref (extN 0) 0 0),(.ref (extN 1) 0 0)])] [(.cells 1 [(vL eI del2_3)]),(.cells 1 [(vI del2_4)])] .nil [some (.cells 1 [(vL eI del2_3)]),some (.cells 1 [(vI del2_4)])]:=by
 refine FnM.of_wH ⟨Tryz.prog,42,[],[]⟩ rfl Tryz.func52 rfl rfl (Nat.le_of_ble_eq_true rfl) (by kernel_rfl) ?_
 unfold slices_DeleteFunc_schedule_span_schedule_span_v2 at hF
 refine wH_seq (wH_region (h_op .nil wz rfl (h_nil (wH_seq (wH_region (h_op .nil wz rfl (h_op (.fn 53 [(.ref (extN 0) 0 0),(.ref (extN 1) 0 0)]) wz rfl ?_)))))))
 obtain ⟨r_5,hr_6,hF⟩:=bind_some hF
 refine h_callq 0 [0,1] il ft (slices_IndexFunc_schedule_span_schedule_span_ok (gid:=53) (caps := [.ref (extN 0) 0 0,.ref (extN 1) 0 0]) (Sin := [(.cells 1 [(vL eI del2_3)]),(.cells 1 [(vI del2_4)])]) (fun _ _ h_=>schedule_through_2_ok h_) hb53 ⟨rfl,rfl⟩ (by kernel_rfl) (all_ok (by kernel_rfl)) (all_mut (by kernel_rfl)) hr_6) rfl hb78 rfl (by kernel_rfl) (by kernel_rfl) (by kernel_rfl) (by kernel_rfl) (by kernel_rfl) (by kernel_rfl) (by kernel_rfl) (by decide) (by kernel_rfl) wz (vI r_5) (by kernel_rfl) ([((extN 0),some (.cells 1 [(vL eI del2_3)])),((extN 1),some (.cells 1 [(vI del2_4)]))]:Hp) (by kernel_rfl) (h_op (vI r_5) wz rfl (h_nil (wH_seq (wH_seq (wH_region (h_op (vI r_5) wz rfl (h_op (vB (r_5 == (-1))) wz rfl (h_nil ?_))))))))
 rcases cond_some hF with⟨hc_8,hF⟩ | ⟨hc_8,hF⟩
 ·refine wH_ift rfl hc_8 (wH_seq (wH_region (h_op .nil wz rfl (h_op .nil wz rfl (h_nil ?_)))))
  obtain rfl:=some_inj hF
  exact wH_ret (finB (.inr rfl) [.nil] _ [0,1] [extN 0,extN 1] ⟨rfl,trivial⟩ (.cons (co_same' _) (.nil)) (by kernel_rfl) ⟨(by kernel_rfl),⟨(by kernel_rfl),trivial⟩⟩ (by decide) (by kernel_rfl))
 ·refine wH_iff rfl hc_8 (wH_skip (wH_seq (wH_seq (wH_region (h_op (vI r_5) wz rfl (h_op (vI (w64 (r_5 + 1))) wz rfl (h_op (vI (w64 (r_5 + 1))) wz rfl (h_nil ?_))))))))
  obtain ⟨o_17,hj_18,hF⟩:=bind_some hF
  obtain ⟨nq_20,hj_18⟩:=loopO_iter hj_18
  refine wH_join (β:=(Unit)) (fun (s_14:Unit)=>([(0,.nil),(5,(vI r_5))]:List (Nat×V))) (fun (s_14:Unit)=>([((extN 0),some (.cells 1 [(vL eI del2_3)])),((extN 1),some (.cells 1 [(vI del2_4)]))]:Hp)) (fun p=>o_17 = .go p) ?_ ?_
  ·refine wH_block (wH_loop (β:=Nat×(Unit)) (fun p=>(fun (k_9:Nat) (s_14:Unit)=>([(0,.nil),(1,(.fn 53 [(.ref (extN 0) 0 0),(.ref (extN 1) 0 0)])),(5,(vI r_5)),(6,(vI (w64 (r_5 + 1))))]:List (Nat×V))) p.1 p.2) (fun p=>(fun (k_9:Nat) (s_14:Unit)=>([((extN 0),some (.cells 1 [(vL eI del2_3)])),((extN 1),some (.cells 1 [(vI del2_4)]))]:Hp)) p.1 p.2) (fun p=>iterN (fun s=>slices_DeleteFunc_schedule_span_schedule_span_v2_L1 r_5 s) p.1 p.2=some o_17) (fun p=>p.1) (nq_20,()) hj_18 rfl (pre_r rfl) ?_)
   rintro ⟨k_9,s_14⟩ hL_16
   dsimp only at hL_16
   cases k_9 with
   | zero=>cases hL_16
   | succ k_9 =>
    obtain ⟨c_,hc_15,hL_16⟩:=bind_some hL_16
    unfold slices_DeleteFunc_schedule_span_schedule_span_v2_L1 at hc_15
    refine wH_seq (wH_seq (wH_region (h_op (vI (w64 (r_5 + 1))) wz rfl (h_op .nil wz rfl (h_lenn un62 rfl wz (h_op (vB (decide ((w64 (r_5 + 1)) < 0))) wz rfl (h_nil ?_)))))))
    rcases cond_some hc_15 with⟨hc_19,hc_15⟩ | ⟨hc_19,hc_15⟩
    ·refine wH_ift rfl hc_19 (wH_skip (wH_seq (wH_block (wH_seq (wH_region (h_op .nil wz rfl (h_op (vI (w64 (r_5 + 1))) wz rfl ?_)))))))
     cases hc_15
    ·refine wH_iff rfl hc_19 (wH_exit ?_)
     obtain rfl:=some_inj hc_15
     obtain rfl:=some_inj hL_16
     exact cut_mk (()) rfl rfl (pre_r rfl)
  ·rintro s_14 ho_ sl_ H_ hp_ hq_
   subst ho_
   refine wH_at _ hp_ hq_ (wH_seq (wH_region (h_op .nil wz rfl (h_op (vI r_5) wz rfl ?_))))
   cases hF
theorem slices_MinFunc_schedule_span_schedule_span_v1_ok {x_1:(List Span)} {r:Span} (hF:slices_MinFunc_schedule_span_schedule_span_v1 x_1=some r) :
  FnM Tryz.prog 54 [(dV (extN 0) 3 x_1),(.fn 48 [])] (([]:List Box)++gI 3 Span.enc x_1) (.d (.agg (Span.enc r))) (([]:List Box).map some++gT x_1 (gB 3 Span.enc x_1)):=by
 refine FnM.of_wHv ⟨Tryz.prog,33,[],[]⟩ rfl Tryz.func54 rfl rfl (Nat.le_of_ble_eq_true rfl) (by kernel_rfl) ?_
 unfold slices_MinFunc_schedule_span_schedule_span_v1 at hF
 refine wH_seq (wH_region (h_alloc 0 (.inl rfl) z67 rfl wz (fun n_3=>h_nil (wH_seq (wH_seq (wH_region (h_op (dV (extN 0) 3 x_1) wz rfl (h_lend un62 rfl wz (h_op (vB (decide ((x_1.length:Int) < 1))) wz rfl (h_nil ?_))))))))))
 obtain ⟨v_4,h_5,hF⟩:=bind_some hF
 refine wH_join (β:=Unit) (fun _=>([(0,(dV (extN 0) 3 x_1)),(1,(.fn 48 [])),(4,(.ref n_3 0 0))]:List (Nat×V))) (fun _=>([((extN 0),gB 3 Span.enc x_1),(n_3,some (.cells 3 [(.d .nilp),(vI 0),(vI 0)]))]:Hp)) (fun _=>True) ?_ ?_
 ·rcases cond_some h_5 with⟨hc_6,h_5⟩ | ⟨hc_6,h_5⟩
  ·refine wH_ift rfl hc_6 (wH_region ?_)
   cases h_5
  ·refine wH_iff rfl hc_6 (wH_skip ?_)
   obtain rfl:=some_inj h_5
   exact cu
 ·rintro ⟨⟩ _ sl_ H_ hp_ hq_
  refine wH_at _ hp_ hq_ (wH_seq (wH_region (h_op (dV (extN 0) 3 x_1) wz rfl ?_)))
  obtain ⟨_,hi_7,hF⟩:=bind_some hF
  refine h_iavd es62 rfl rfl (inR_0 hi_7) (inR_lt hi_7) wz ?_
  obtain ⟨e_8,hy_9,hF⟩:=bind_some hF
  refine h_ldvg 0 0 il ft sz67 ag67 rfl rfl hy_9 (.d (.agg (Span.enc e_8))) rfl wz (h_alloc 0 (.inl rfl) z67 rfl wz (fun n_10=>h_str 0 il ft 2 sz67 rfl rfl [(.d (dP Entry.enc e_8.f_e)),(vI e_8.f_time.From),(vI e_8.f_time.To)] (stC_one rfl (one_cons (oneV_dP _ _) (one_cons rfl (one_cons rfl rfl))) rfl rfl) wz (h_nil (wH_seq (wH_seq (wH_region (h_op (vI 1) wz rfl (h_nil ?_))))))))
  obtain ⟨o_19,hj_20,hF⟩:=bind_some hF
  obtain ⟨nq_33,hj_20⟩:=loopO_iter hj_20
  refine wH_join (β:=(Int×(Option Entry)×Int×Int)) (fun (s_16:Int×(Option Entry)×Int×Int)=>([(4,(.ref n_3 0 0)),(5,(.ref n_10 0 0))]:List (Nat×V))) (fun (s_16:Int×(Option Entry)×Int×Int)=>([((extN 0),gB 3 Span.enc x_1),(n_3,some (.cells 3 [(.d .nilp),(vI 0),(vI 0)])),(n_10,some (.cells 3 [(.d (dP Entry.enc s_16.2.1)),(vI s_16.2.2.1),(vI s_16.2.2.2)]))]:Hp)) (fun p=>o_19 = .go p) ?_ ?_
  ·refine wH_block (wH_loop (β:=Nat×(Int×(Option Entry)×Int×Int)) (fun p=>(fun (k_11:Nat) (s_16:Int×(Option Entry)×Int×Int)=>([(0,(dV (extN 0) 3 x_1)),(1,(.fn 48 [])),(4,(.ref n_3 0 0)),(5,(.ref n_10 0 0)),(6,(vI s_16.1))]:List (Nat×V))) p.1 p.2) (fun p=>(fun (k_11:Nat) (s_16:Int×(Option Entry)×Int×Int)=>([((extN 0),gB 3 Span.enc x_1),(n_3,some (.cells 3 [(.d .nilp),(vI 0),(vI 0)])),(n_10,some (.cells 3 [(.d (dP Entry.enc s_16.2.1)),(vI s_16.2.2.1),(vI s_16.2.2.2)]))]:Hp)) p.1 p.2) (fun p=>iterN (fun s=>slices_MinFunc_schedule_span_schedule_span_v1_L1 x_1 s) p.1 p.2=some o_19) (fun p=>p.1) (nq_33,(1,e_8.f_e,e_8.f_time.From,e_8.f_time.To)) hj_20 rfl (pre_r rfl) ?_)
   rintro ⟨k_11,s_16⟩ hL_18
   dsimp only at hL_18
   cases k_11 with
   | zero=>cases hL_18
   | succ k_11 =>
    obtain ⟨c_,hc_17,hL_18⟩:=bind_some hL_18
    unfold slices_MinFunc_schedule_span_schedule_span_v1_L1 at hc_17
    refine wH_seq (wH_seq (wH_region (h_op (vI s_16.1) wz rfl (h_op (dV (extN 0) 3 x_1) wz rfl (h_lend un62 rfl wz (h_op (vB (decide (s_16.1 < (x_1.length:Int)))) wz rfl (h_nil ?_)))))))
    rcases cond_some hc_17 with⟨hc_21,hc_17⟩ | ⟨hc_21,hc_17⟩
    ·refine wH_ift rfl hc_21 (wH_skip (wH_seq (wH_block (wH_seq (wH_draws (h_op (.fn 48 []) wz rfl (h_op (dV (extN 0) 3 x_1) wz rfl (h_op (vI s_16.1) wz rfl ?_))))))))
     obtain ⟨_,hi_22,hc_17⟩:=bind_some hc_17
     refine h_iavd es62 rfl rfl (inR_0 hi_22) (inR_lt hi_22) wz ?_
     obtain ⟨e_23,hy_24,hc_17⟩:=bind_some hc_17
     refine h_ldvg 4 0 (.inr (by kernel_rfl)) (fun _ _ ag=>trivial) sz67 ag67 rfl rfl hy_24 (.d (.agg (Span.enc e_23))) rfl wz (h_ldr 5 2 (.inr (by kernel_rfl)) (fun _ _ ag=>⟨.inl ⟨rfl,rfl⟩,trivial⟩) sz67 ag67 rfl rfl (.d (.agg (Span.enc (⟨s_16.2.1,(⟨s_16.2.2.1,s_16.2.2.2⟩:Window)⟩:Span)))) rfl wz ?_)
     obtain ⟨r_25,hr_26,hc_17⟩:=bind_some hc_17
     refine h_call0 (schedule_compare_ok hr_26) rfl hb48 rfl rfl rfl rfl wz (h_op (vB (decide (r_25 < 0))) wz rfl (h_nil ?_))
     obtain ⟨v_27,h_28,hc_17⟩:=bind_some hc_17
     refine wH_join (β:=Unit) (fun _=>([(0,(dV (extN 0) 3 x_1)),(1,(.fn 48 [])),(4,(.ref n_3 0 0)),(5,(.ref n_10 0 0)),(6,(vI s_16.1))]:List (Nat×V))) (fun _=>([((extN 0),gB 3 Span.enc x_1),(n_3,some (.cells 3 [(.d .nilp),(vI 0),(vI 0)])),(n_10,some (.cells 3 [(.d (dP Entry.enc v_27.1)),(vI v_27.2.1),(vI v_27.2.2)]))]:Hp)) (fun _=>True) ?_ ?_
     ·rcases cond_some h_28 with⟨hc_29,h_28⟩ | ⟨hc_29,h_28⟩
      ·refine wH_ift rfl hc_29 (wH_region (h_op (dV (extN 0) 3 x_1) wz rfl (h_op (vI s_16.1) wz rfl ?_)))
       obtain ⟨_,hi_30,h_28⟩:=bind_some h_28
       refine h_iavd es62 rfl rfl (inR_0 hi_30) (inR_lt hi_30) wz ?_
       obtain ⟨e_31,hy_32,h_28⟩:=bind_some h_28
       refine h_ldvg 0 0 il ft sz67 ag67 rfl rfl hy_32 (.d (.agg (Span.enc e_31))) rfl wz (h_str 0 il ft 2 sz67 rfl rfl [(.d (dP Entry.enc e_31.f_e)),(vI e_31.f_time.From),(vI e_31.f_time.To)] (stC_one rfl (one_cons (oneV_dP _ _) (one_cons rfl (one_cons rfl rfl))) rfl rfl) wz (h_nil ?_))
       obtain rfl:=some_inj h_28
       exact cu
      ·refine wH_iff rfl hc_29 (wH_skip ?_)
       obtain rfl:=some_inj h_28
       exact cu
     ·rintro ⟨⟩ _ sl_ H_ hp_ hq_
      refine wH_at _ hp_ hq_ (wH_region (h_op (vI s_16.1) wz rfl (h_op (vI (w64 (s_16.1 + 1))) wz rfl (h_op (vI (w64 (s_16.1 + 1))) wz rfl (h_nil ?_)))))
      obtain rfl:=some_inj hc_17
      exact loop_mk (k_11,((w64 (s_16.1 + 1)),v_27.1,v_27.2.1,v_27.2.2)) hL_18 (Nat.lt_succ_self _) rfl (pre_r rfl)
    ·refine wH_iff rfl hc_21 (wH_exit ?_)
     obtain rfl:=some_inj hc_17
     obtain rfl:=some_inj hL_18
     exact cut_mk ((s_16.1,s_16.2.1,s_16.2.2.1,s_16.2.2.2)) rfl rfl (pre_r rfl)
  ·rintro s_16 ho_ sl_ H_ hp_ hq_
   subst ho_
   refine wH_at _ hp_ hq_ (wH_seq (wH_region (h_ldr 0 2 il ft sz67 ag67 rfl rfl (.d (.agg (Span.enc (⟨s_16.2.1,(⟨s_16.2.2.1,s_16.2.2.2⟩:Window)⟩:Span)))) rfl wz (h_str 0 il ft 1 sz67 rfl rfl [(.d (dP Entry.enc s_16.2.1)),(vI s_16.2.2.1),(vI s_16.2.2.2)] (stC_one rfl (one_cons (oneV_dP _ _) (one_cons rfl (one_cons rfl rfl))) rfl rfl) wz (h_nil ?_)))))
   obtain rfl:=some_inj hF
   exact wH_ret (finV (bs:=([]:List Box)) (os:=([]:List Box)) (xs:=x_1) (o:=gB 3 Span.enc x_1) (.inr rfl) [(.d (.agg (Span.enc (⟨s_16.2.1,(⟨s_16.2.2.1,s_16.2.2.2⟩:Window)⟩:Span))))] ⟨⟨1,_,_,_,_,_,_,_,rfl,rfl,sz67,ag67,rfl⟩,trivial⟩ rfl rfl rfl rfl rfl (by kernel_rfl) gB_ok rfl)
theorem schedule_through_ok {l_1:(List Entry)} {p_2:Player} {wv_3:Window} {r:(List Slot_)} (hF:schedule_through l_1 p_2 wv_3=some r) :
  FnM Tryz.prog 29 [(vL Entry.enc l_1),(.d (.agg (Player.enc p_2))),(.d (.agg (Window.enc wv_3)))] [] (vL Slot_.enc r) []:=by
 refine FnM.of_wH ⟨Tryz.prog,111,[],[]⟩ rfl Tryz.func29 rfl rfl (Nat.le_of_ble_eq_true rfl) (by kernel_rfl) ?_
 unfold schedule_through at hF
 refine wH_seq (wH_region (h_box 0 (.inl rfl) [(vS p_2.Key),(vS p_2.Screen),(vI p_2.Zone),(vL eS p_2.Tags)] rfl rfl wz (fun n_4=>h_box 0 (.inl rfl) [(vI wv_3.From),(vI wv_3.To)] rfl rfl wz (fun n_5=>h_op .nil wz rfl (h_nil (wH_seq (wH_region (h_op (vL Entry.enc l_1) wz rfl (h_ldr 0 0 il ft sz30 ag30 rfl rfl (.d (.agg (Player.enc p_2))) rfl wz (h_ldr 0 1 il ft sz65 ag65 rfl rfl (.d (.agg (Window.enc wv_3))) rfl wz ?_))))))))))
 obtain ⟨r_6,hr_7,hF⟩:=bind_some hF
 refine h_callg [] (schedule_spans_okb hr_7) rfl hb46 rfl (by kernel_rfl) (by kernel_rfl) (by kernel_rfl) (by kernel_rfl) (by kernel_rfl) rfl (by decide) (by kernel_rfl) wz ([(n_4,some (.cells 4 [(vS p_2.Key),(vS p_2.Screen),(vI p_2.Zone),(vL eS p_2.Tags)])),(n_5,some (.cells 2 [(vI wv_3.From),(vI wv_3.To)]))]:Hp) (fun _=>by kernel_rfl) (fun n_9=>h_op (gV n_9 3 r_6) wz rfl (h_nil (wH_seq (wH_region (h_op (gV n_9 3 r_6) wz rfl ?_)))))
 obtain ⟨r_10,hr_11,hF⟩:=bind_some hF
 obtain ⟨_,hs_12,hF⟩:=bind_some hF
 replace hs_12:=sameL_eq hs_12
 refine h_callv 0 [] 2 0 il ft (slices_sort_by_schedule_through_1_ok hr_11) rfl hb47 rfl rfl rfl (by kernel_rfl) rfl (.inl rfl) rfl (by kernel_rfl) (by kernel_rfl) (by kernel_rfl) (by kernel_rfl) rfl (by decide) (by kernel_rfl) gB_ok (gB_ho hs_12) wz ([(n_4,some (.cells 4 [(vS p_2.Key),(vS p_2.Screen),(vI p_2.Zone),(vL eS p_2.Tags)])),(n_5,some (.cells 2 [(vI wv_3.From),(vI wv_3.To)])),(n_9,gB 3 Span.enc r_10)]:Hp) (by kernel_rfl) (h_re (v':=(gV n_9 3 r_10)) 18 rfl (gV_len hs_12.symm) (h_re (v':=(gV n_9 3 r_10)) 19 rfl (gV_len hs_12.symm) (h_re (v':=(gV n_9 3 r_10)) 7 rfl (gV_len hs_12.symm) (h_nil (wH_seq (wH_region (h_op (vL Entry.enc l_1) wz rfl (h_ldr 0 0 il ft sz30 ag30 rfl rfl (.d (.agg (Player.enc p_2))) rfl wz (h_ldr 0 1 il ft sz65 ag65 rfl rfl (.d (.agg (Window.enc wv_3))) rfl wz ?_)))))))))
 obtain ⟨r_13,hr_14,hF⟩:=bind_some hF
 refine h_call0 (schedule_Edges_ok hr_14) rfl hb51 rfl rfl rfl rfl wz (h_alloc 0 (.inl rfl) z22 rfl wz (fun n_15=>h_str 0 il ft 3 sz22 rfl rfl [(vL eI r_13)] rfl wz (h_nil (wH_seq (wH_region (h_op .nil wz rfl (h_nil (wH_seq (wH_region (h_op .nil wz rfl (h_nil (wH_seq (wH_region (h_op (vI 0) wz rfl (h_nil (wH_seq (wH_seq (wH_region (h_alloc 0 (.inl rfl) z3 rfl wz (fun n_16=>h_str 0 il ft 4 sz3 rfl rfl [(vI 0)] rfl wz (h_nil (wH_new (fun n_23=>wH_new (fun n_24 => ?_))))))))))))))))))))))))
 obtain ⟨o_35,hj_36,hF⟩:=bind_some hF
 obtain ⟨nq_101,hj_36⟩:=loopO_iter hj_36
 refine wH_join (β:=((List Slot_)×(List Span)×Int×Int)×Nm×Nm×Nm×Bool) (fun p=>(fun (s_22:(List Slot_)×(List Span)×Int×Int) (n_29:Nm) (n_30:Nm) (n_31:Nm) (gb_32:Bool)=>([(9,(gV n_30 3 s_22.1))]:List (Nat×V))) p.1 p.2.1 p.2.2.1 p.2.2.2.1 p.2.2.2.2) (fun p=>(fun (s_22:(List Slot_)×(List Span)×Int×Int) (n_29:Nm) (n_30:Nm) (n_31:Nm) (gb_32:Bool)=>([(n_4,some (.cells 4 [(vS p_2.Key),(vS p_2.Screen),(vI p_2.Zone),(vL eS p_2.Tags)])),(n_5,some (.cells 2 [(vI wv_3.From),(vI wv_3.To)])),(n_9,gB 3 Span.enc r_10),(n_15,some (.cells 1 [(vL eI r_13)])),(n_29,some (.cells 1 [(vI s_22.2.2.2)])),(n_30,gB 3 Slot_.enc s_22.1),(n_31,kB gb_32 3 Span.enc s_22.2.1)]:Hp)) p.1 p.2.1 p.2.2.1 p.2.2.2.1 p.2.2.2.2) (fun p=>o_35 = .go p.1) ?_ ?_
 ·refine wH_block (wH_loop (β:=Nat×((List Slot_)×(List Span)×Int×Int)×Nm×Nm×Nm×Bool) (fun p=>(fun (k_17:Nat) (s_22:(List Slot_)×(List Span)×Int×Int) (n_29:Nm) (n_30:Nm) (n_31:Nm) (gb_32:Bool)=>([(7,(gV n_9 3 r_10)),(8,(.ref n_15 0 0)),(9,(gV n_30 3 s_22.1)),(10,(kV gb_32 n_31 3 s_22.2.1)),(11,(vI s_22.2.2.1)),(12,(.ref n_29 0 0))]:List (Nat×V))) p.1 p.2.1 p.2.2.1 p.2.2.2.1 p.2.2.2.2.1 p.2.2.2.2.2) (fun p=>(fun (k_17:Nat) (s_22:(List Slot_)×(List Span)×Int×Int) (n_29:Nm) (n_30:Nm) (n_31:Nm) (gb_32:Bool)=>([(n_4,some (.cells 4 [(vS p_2.Key),(vS p_2.Screen),(vI p_2.Zone),(vL eS p_2.Tags)])),(n_5,some (.cells 2 [(vI wv_3.From),(vI wv_3.To)])),(n_9,gB 3 Span.enc r_10),(n_15,some (.cells 1 [(vL eI r_13)])),(n_29,some (.cells 1 [(vI s_22.2.2.2)])),(n_30,gB 3 Slot_.enc s_22.1),(n_31,kB gb_32 3 Span.enc s_22.2.1)]:Hp)) p.1 p.2.1 p.2.2.1 p.2.2.2.1 p.2.2.2.2.1 p.2.2.2.2.2) (fun p=>iterN (fun s=>schedule_through_L2 r_13 r_10 s) p.1 p.2.1=some o_35) (fun p=>p.1) (nq_101,(([]:List Slot_),([]:List Span),0,0),n_16,n_23,n_24,false) hj_36 rfl (pre_r rfl) ?_)
  rintro ⟨k_17,s_22,n_29,n_30,n_31,gb_32⟩ hL_34
  dsimp only at hL_34
  cases k_17 with
  | zero=>cases hL_34
  | succ k_17 =>
   obtain ⟨c_,hc_33,hL_34⟩:=bind_some hL_34
   unfold schedule_through_L2 at hc_33
   refine wH_seq (wH_seq (wH_region (h_ldr 0 4 il ft sz3 ag3 rfl rfl (vI s_22.2.2.2) rfl wz (h_op (vI (w64 (s_22.2.2.2 + 1))) wz rfl (h_ldr 0 3 il ft sz22 ag22 rfl rfl (vL eI r_13) rfl wz (h_len un22 rfl wz (h_op (vB (decide ((w64 (s_22.2.2.2 + 1)) < (r_13.length:Int)))) wz rfl (h_nil ?_))))))))
   rcases cond_some hc_33 with⟨hc_37,hc_33⟩ | ⟨hc_37,hc_33⟩
   ·refine wH_ift rfl hc_37 (wH_skip (wH_seq (wH_block (wH_seq ?_))))
    obtain ⟨o_48,hj_49,hc_33⟩:=bind_some hc_33
    obtain ⟨nq_100,hj_49⟩:=loopO_iter hj_49
    refine wH_join (β:=((List Span)×Int)×Nm) (fun p=>(fun (s_43:(List Span)×Int) (n_45:Nm)=>([(7,(gV n_9 3 r_10)),(8,(.ref n_15 0 0)),(9,(gV n_30 3 s_22.1)),(10,(kV gb_32 n_45 3 s_43.1)),(11,(vI s_43.2)),(12,(.ref n_29 0 0))]:List (Nat×V))) p.1 p.2) (fun p=>(fun (s_43:(List Span)×Int) (n_45:Nm)=>([(n_4,some (.cells 4 [(vS p_2.Key),(vS p_2.Screen),(vI p_2.Zone),(vL eS p_2.Tags)])),(n_5,some (.cells 2 [(vI wv_3.From),(vI wv_3.To)])),(n_9,gB 3 Span.enc r_10),(n_15,some (.cells 1 [(vL eI r_13)])),(n_29,some (.cells 1 [(vI s_22.2.2.2)])),(n_30,gB 3 Slot_.enc s_22.1),(n_45,kB gb_32 3 Span.enc s_43.1)]:Hp)) p.1 p.2) (fun p=>o_48 = .go p.1) ?_ ?_
    ·refine wH_block (wH_loop (β:=Nat×((List Span)×Int)×Nm) (fun p=>(fun (k_38:Nat) (s_43:(List Span)×Int) (n_45:Nm)=>([(7,(gV n_9 3 r_10)),(8,(.ref n_15 0 0)),(9,(gV n_30 3 s_22.1)),(10,(kV gb_32 n_45 3 s_43.1)),(11,(vI s_43.2)),(12,(.ref n_29 0 0))]:List (Nat×V))) p.1 p.2.1 p.2.2) (fun p=>(fun (k_38:Nat) (s_43:(List Span)×Int) (n_45:Nm)=>([(n_4,some (.cells 4 [(vS p_2.Key),(vS p_2.Screen),(vI p_2.Zone),(vL eS p_2.Tags)])),(n_5,some (.cells 2 [(vI wv_3.From),(vI wv_3.To)])),(n_9,gB 3 Span.enc r_10),(n_15,some (.cells 1 [(vL eI r_13)])),(n_29,some (.cells 1 [(vI s_22.2.2.2)])),(n_30,gB 3 Slot_.enc s_22.1),(n_45,kB gb_32 3 Span.enc s_43.1)]:Hp)) p.1 p.2.1 p.2.2) (fun p=>iterN (fun s=>schedule_through_L1 r_10 r_13 s_22 s) p.1 p.2.1=some o_48) (fun p=>p.1) (nq_100,(s_22.2.1,s_22.2.2.1),n_31) hj_49 rfl (pre_r rfl) ?_)
     rintro ⟨k_38,s_43,n_45⟩ hL_47
     dsimp only at hL_47
     cases k_38 with
     | zero=>cases hL_47
     | succ k_38 =>
      obtain ⟨c_,hc_46,hL_47⟩:=bind_some hL_47
      unfold schedule_through_L1 at hc_46
      refine wH_seq (wH_seq ?_)
      obtain ⟨v_50,h_51,hc_46⟩:=bind_some hc_46
      refine wH_join (β:=Unit) (fun _=>([(7,(gV n_9 3 r_10)),(8,(.ref n_15 0 0)),(9,(gV n_30 3 s_22.1)),(10,(kV gb_32 n_45 3 s_43.1)),(11,(vI s_43.2)),(12,(.ref n_29 0 0)),(48,(vB v_50))]:List (Nat×V))) (fun _=>([(n_4,some (.cells 4 [(vS p_2.Key),(vS p_2.Screen),(vI p_2.Zone),(vL eS p_2.Tags)])),(n_5,some (.cells 2 [(vI wv_3.From),(vI wv_3.To)])),(n_9,gB 3 Span.enc r_10),(n_15,some (.cells 1 [(vL eI r_13)])),(n_29,some (.cells 1 [(vI s_22.2.2.2)])),(n_30,gB 3 Slot_.enc s_22.1),(n_45,kB gb_32 3 Span.enc s_43.1)]:Hp)) (fun _=>True) ?_ ?_
      ·refine wH_draws (h_op (vI s_43.2) wz rfl (h_op (gV n_9 3 r_10) wz rfl (h_leng un62 rfl wz (h_op (vB (decide (s_43.2 < (r_10.length:Int)))) wz rfl ?_))))
       rcases cond_some h_51 with⟨hc_52,h_51⟩ | ⟨hc_52,h_51⟩
       ·refine h_movb rfl hc_52 wz (h_op (gV n_9 3 r_10) wa rfl (h_op (vI s_43.2) wa rfl ?_))
        obtain ⟨_,hi_53,h_51⟩:=bind_some h_51
        refine h_iavg es62 rfl rfl (inR_0 hi_53) (inR_lt hi_53) wa (h_far pl67_1 rfl 1 rfl wa (h_far pl65_0 rfl 1 rfl wa ?_))
        obtain ⟨e_54,hy_55,h_51⟩:=bind_some h_51
        refine h_ldvg 10 2 (.inr (by kernel_rfl)) (fun _ _ ag=>trivial) sz3 ag3 rfl rfl hy_55 (vI e_54.f_time.From) rfl wa (h_ldr 11 3 (.inr (by kernel_rfl)) (fun _ _ ag=>⟨.inl ⟨rfl,rfl⟩,trivial⟩) sz22 ag22 rfl rfl (vL eI r_13) rfl wa (h_ldr 12 4 (.inr (by kernel_rfl)) (fun _ _ ag=>⟨.inl ⟨rfl,rfl⟩,⟨.inl ⟨rfl,rfl⟩,trivial⟩⟩) sz3 ag3 rfl rfl (vI s_22.2.2.2) rfl wa ?_))
        obtain ⟨y_56,hy_57,h_51⟩:=bind_some h_51
        refine h_ia es22 rfl rfl hy_57 rfl wa (h_ldc sz3 ag3 rfl (vI y_56) rfl wa (h_op (vB (decide (e_54.f_time.From≤y_56))) wa rfl (h_op (vB (decide (e_54.f_time.From≤y_56))) wz rfl (h_nil ?_))))
        obtain rfl:=some_inj h_51
        exact cu
       ·refine h_movb rfl hc_52 wz (h_skip wa (h_skip wa (h_skip wa (h_skip wa (h_skip wa (h_skip wa (h_skip wa (h_skip wa (h_skip wa (h_skip wa (h_skip wa (h_op (vB false) wz rfl (h_nil ?_)))))))))))))
        obtain rfl:=some_inj h_51
        exact cu
      ·rintro ⟨⟩ _ sl_ H_ hp_ hq_
       refine wH_at _ hp_ hq_ ?_
       rcases cond_some hc_46 with⟨hc_58,hc_46⟩ | ⟨hc_58,hc_46⟩
       ·refine wH_ift rfl hc_58 (wH_skip (wH_seq (wH_block (wH_region (h_op (kV gb_32 n_45 3 s_43.1) wz rfl (h_op (gV n_9 3 r_10) wz rfl (h_op (vI s_43.2) wz rfl ?_)))))))
        obtain ⟨_,hi_59,hc_46⟩:=bind_some hc_46
        refine h_iavg es62 rfl rfl (inR_0 hi_59) (inR_lt hi_59) wz ?_
        obtain ⟨e_60,hy_61,hc_46⟩:=bind_some hc_46
        refine h_ldvg 0 2 il ft sz67 ag67 rfl rfl hy_61 (.d (.agg (Span.enc e_60))) rfl wz (h_lit (([e_60]:List Span).map Span.enc) es62 ez62 rfl (lit_cons rfl rfl (one_cons (oneV_dP _ _) (one_cons rfl (one_cons rfl rfl))) rfl) rfl rfl rfl wz ?_)
        obtain ⟨a_62,hz_63,hc_46⟩:=bind_some hc_46
        refine h_appk 0 il ft (i:=6) el62 el62 sz67 z67 rfl (by decide) by67 (by decide) (fun _=>rfl) rfl rfl rfl hz_63 wz (fun n_64=>h_op (kV gb_32 n_64 3 a_62) wz rfl (h_nil (wH_region (h_op (vI s_43.2) wz rfl (h_op (vI (w64 (s_43.2 + 1))) wz rfl (h_op (vI (w64 (s_43.2 + 1))) wz rfl (h_nil ?_)))))))
        obtain rfl:=some_inj hc_46
        exact loop_mk (k_38,(a_62,(w64 (s_43.2 + 1))),n_64) hL_47 (Nat.lt_succ_self _) rfl (pre_r rfl)
       ·refine wH_iff rfl hc_58 (wH_exit ?_)
        obtain rfl:=some_inj hc_46
        obtain rfl:=some_inj hL_47
        exact cut_mk ((s_43.1,s_43.2),n_45) rfl rfl (pre_r rfl)
    ·rintro ⟨s_43,n_45⟩ ho_ sl_ H_ hp_ hq_
     subst ho_
     refine wH_at _ hp_ hq_ (wH_seq (wH_region (h_op (kV gb_32 n_45 3 s_43.1) wz rfl (h_op (.fn 53 [(.ref n_15 0 0),(.ref n_29 0 0)]) wz rfl ?_))))
     obtain ⟨r_65,hr_66,hc_33⟩:=bind_some hc_33
     obtain ⟨_,hl_68,hc_33⟩:=bind_some hc_33
     obtain ⟨_,hr_67,hc_33⟩:=bind_some hc_33
     replace hl_68:=leL_le hl_68
     refine h_callcut [3,4] 6 0 (slices_DeleteFunc_schedule_span_schedule_span_v1_ok hr_66) (slices_DeleteFunc_schedule_span_schedule_span_v2_ok hr_67) hl_68 rfl hb52 rfl rfl rfl (by kernel_rfl) rfl rfl (by kernel_rfl) (by kernel_rfl) (by kernel_rfl) (by kernel_rfl) rfl (by decide) wz ([(n_4,some (.cells 4 [(vS p_2.Key),(vS p_2.Screen),(vI p_2.Zone),(vL eS p_2.Tags)])),(n_5,some (.cells 2 [(vI wv_3.From),(vI wv_3.To)])),(n_9,gB 3 Span.enc r_10),(n_15,some (.cells 1 [(vL eI r_13)])),(n_29,some (.cells 1 [(vI s_22.2.2.2)])),(n_30,gB 3 Slot_.enc s_22.1),(n_45,kB (gb_32 || !s_43.1.isEmpty) 3 Span.enc r_65)]:Hp) (by kernel_rfl) (h_op (kV (gb_32 || !s_43.1.isEmpty) n_45 3 r_65) wz rfl (h_nil (wH_seq (wH_region (h_op (vS (⟨#[]⟩:ByteArray)) wz rfl (h_nil (wH_seq (wH_seq (wH_region (h_op (kV (gb_32 || !s_43.1.isEmpty) n_45 3 r_65) wz rfl (h_lenk un62 rfl wz (h_op (vB (decide ((r_65.length:Int) > 0))) wz rfl (h_nil ?_)))))))))))))
     obtain ⟨v_69,h_70,hc_33⟩:=bind_some hc_33
     refine wH_join (β:=Unit) (fun _=>([(7,(gV n_9 3 r_10)),(8,(.ref n_15 0 0)),(9,(gV n_30 3 s_22.1)),(10,(kV (gb_32 || !s_43.1.isEmpty) n_45 3 r_65)),(11,(vI s_43.2)),(12,(.ref n_29 0 0)),(13,(vS v_69))]:List (Nat×V))) (fun _=>([(n_4,some (.cells 4 [(vS p_2.Key),(vS p_2.Screen),(vI p_2.Zone),(vL eS p_2.Tags)])),(n_5,some (.cells 2 [(vI wv_3.From),(vI wv_3.To)])),(n_9,gB 3 Span.enc r_10),(n_15,some (.cells 1 [(vL eI r_13)])),(n_29,some (.cells 1 [(vI s_22.2.2.2)])),(n_30,gB 3 Slot_.enc s_22.1),(n_45,kB (gb_32 || !s_43.1.isEmpty) 3 Span.enc r_65)]:Hp)) (fun _=>True) ?_ ?_
     ·rcases cond_some h_70 with⟨hc_71,h_70⟩ | ⟨hc_71,h_70⟩
      ·refine wH_ift rfl hc_71 (wH_region (h_op (kV (gb_32 || !s_43.1.isEmpty) n_45 3 r_65) wz rfl ?_))
       obtain ⟨_,hn_72,h_70⟩:=bind_some h_70
       replace hn_72:=neL_ne hn_72
       refine h_re (v':=(gV n_45 3 r_65)) 10 rfl (kV_gV hn_72) (h_re (v':=(gV n_45 3 r_65)) 60 rfl (kV_gV hn_72) (h_re (v':=(gV n_45 3 r_65)) 61 rfl (kV_gV hn_72) (h_re (v':=(gV n_45 3 r_65)) 64 rfl (kV_gV hn_72) (h_reH 6 rfl (kB_gB hn_72) ?_))))
       obtain ⟨r_73,hr_74,h_70⟩:=bind_some h_70
       refine h_callv 0 [] 6 0 il ft (slices_MinFunc_schedule_span_schedule_span_v1_ok hr_74) rfl hb54 rfl rfl rfl (by kernel_rfl) rfl (.inl rfl) rfl (by kernel_rfl) (by kernel_rfl) (by kernel_rfl) (by kernel_rfl) rfl (by decide) (by kernel_rfl) gB_ok (gB_ho rfl) wz ([(n_4,some (.cells 4 [(vS p_2.Key),(vS p_2.Screen),(vI p_2.Zone),(vL eS p_2.Tags)])),(n_5,some (.cells 2 [(vI wv_3.From),(vI wv_3.To)])),(n_9,gB 3 Span.enc r_10),(n_15,some (.cells 1 [(vL eI r_13)])),(n_29,some (.cells 1 [(vI s_22.2.2.2)])),(n_30,gB 3 Slot_.enc s_22.1),(n_45,gB 3 Span.enc r_65)]:Hp) (by kernel_rfl) (h_re (v':=(kV (gb_32 || !s_43.1.isEmpty) n_45 3 r_65)) 10 rfl (kV_gV hn_72).symm (h_re (v':=(kV (gb_32 || !s_43.1.isEmpty) n_45 3 r_65)) 60 rfl (kV_gV hn_72).symm (h_re (v':=(kV (gb_32 || !s_43.1.isEmpty) n_45 3 r_65)) 61 rfl (kV_gV hn_72).symm (h_re (v':=(kV (gb_32 || !s_43.1.isEmpty) n_45 3 r_65)) 64 rfl (kV_gV hn_72).symm (h_reH (b':=kB (gb_32 || !s_43.1.isEmpty) 3 Span.enc r_65) 6 rfl (kB_gB hn_72).symm (h_field fr67_0 rfl (.d (dP Entry.enc r_73.f_e)) rfl wz ?_))))))
       obtain ⟨y_75,hy_76,h_70⟩:=bind_some h_70
       refine h_re (v':=(.d (.ptr [.str y_75.Key,.str y_75.Item,.int .i64 y_75.Version,.int .i64 y_75.First,.int .i64 y_75.Last,.int .i64 y_75.Every,.int .i64 y_75.Days,dl eI y_75.Except,.int .i64 y_75.From,.int .i64 y_75.To,.int .i64 y_75.Prio,dl eS y_75.Tags,.bool y_75.Gone]))) 66 rfl (dP_some (enc:=Entry.enc) (y:=y_75) hy_76) (h_op (.d (.ptr [.str y_75.Key,.str y_75.Item,.int .i64 y_75.Version,.int .i64 y_75.First,.int .i64 y_75.Last,.int .i64 y_75.Every,.int .i64 y_75.Days,dl eI y_75.Except,.int .i64 y_75.From,.int .i64 y_75.To,.int .i64 y_75.Prio,dl eS y_75.Tags,.bool y_75.Gone])) wz rfl (h_fac pl55_0 rfl [.str y_75.Key,.str y_75.Item,.int .i64 y_75.Version,.int .i64 y_75.First,.int .i64 y_75.Last,.int .i64 y_75.Every,.int .i64 y_75.Days,dl eI y_75.Except,.int .i64 y_75.From,.int .i64 y_75.To,.int .i64 y_75.Prio,dl eS y_75.Tags,.bool y_75.Gone] rfl rfl wz (h_ldc sz9 ag9 rfl (vS y_75.Key) rfl wz (h_op (vS y_75.Key) wz rfl (h_nil ?_)))))
       obtain rfl:=some_inj h_70
       exact cu
      ·refine wH_iff rfl hc_71 (wH_skip ?_)
       obtain rfl:=some_inj h_70
       exact cu
     ·rintro ⟨⟩ _ sl_ H_ hp_ hq_
      refine wH_at _ hp_ hq_ (wH_seq (wH_region (h_op (gV n_30 3 s_22.1) wz rfl (h_leng un68 rfl wz (h_op (vI (w64 ((s_22.1.length:Int) - 1))) wz rfl (h_op (vI (w64 ((s_22.1.length:Int) - 1))) wz rfl (h_nil (wH_seq ?_))))))))
      obtain ⟨v_77,h_78,hc_33⟩:=bind_some hc_33
      refine wH_join (β:=Unit) (fun _=>([(7,(gV n_9 3 r_10)),(8,(.ref n_15 0 0)),(9,(gV n_30 3 s_22.1)),(10,(kV (gb_32 || !s_43.1.isEmpty) n_45 3 r_65)),(11,(vI s_43.2)),(12,(.ref n_29 0 0)),(13,(vS v_69)),(14,(vI (w64 ((s_22.1.length:Int) - 1)))),(83,(vB v_77))]:List (Nat×V))) (fun _=>([(n_4,some (.cells 4 [(vS p_2.Key),(vS p_2.Screen),(vI p_2.Zone),(vL eS p_2.Tags)])),(n_5,some (.cells 2 [(vI wv_3.From),(vI wv_3.To)])),(n_9,gB 3 Span.enc r_10),(n_15,some (.cells 1 [(vL eI r_13)])),(n_29,some (.cells 1 [(vI s_22.2.2.2)])),(n_30,gB 3 Slot_.enc s_22.1),(n_45,kB (gb_32 || !s_43.1.isEmpty) 3 Span.enc r_65)]:Hp)) (fun _=>True) ?_ ?_
      ·refine wH_region (h_op (vI (w64 ((s_22.1.length:Int) - 1))) wz rfl (h_op (vB (decide ((w64 ((s_22.1.length:Int) - 1))≥0))) wz rfl ?_))
       rcases cond_some h_78 with⟨hc_79,h_78⟩ | ⟨hc_79,h_78⟩
       ·refine h_movb rfl hc_79 wz (h_op (gV n_30 3 s_22.1) wa rfl (h_op (vI (w64 ((s_22.1.length:Int) - 1))) wa rfl ?_))
        obtain ⟨_,hi_80,h_78⟩:=bind_some h_78
        refine h_iavg es68 rfl rfl (inR_0 hi_80) (inR_lt hi_80) wa (h_far pl71_1 rfl 2 rfl wa ?_)
        obtain ⟨e_81,hy_82,h_78⟩:=bind_some h_78
        refine h_ldvg 0 5 il ft sz9 ag9 rfl rfl hy_82 (vS e_81.Entry) rfl wa (h_op (vS v_69) wa rfl (h_op (vB (sEq e_81.Entry v_69)) wa rfl (h_op (vB (sEq e_81.Entry v_69)) wz rfl (h_nil ?_))))
        obtain rfl:=some_inj h_78
        exact cu
       ·refine h_movb rfl hc_79 wz (h_skip wa (h_skip wa (h_skip wa (h_skip wa (h_skip wa (h_skip wa (h_skip wa (h_op (vB false) wz rfl (h_nil ?_)))))))))
        obtain rfl:=some_inj h_78
        exact cu
      ·rintro ⟨⟩ _ sl_ H_ hp_ hq_
       refine wH_at _ hp_ hq_ ?_
       obtain ⟨v_83,h_84,hc_33⟩:=bind_some hc_33
       refine wH_join (β:=Nm) (fun (n_85:Nm)=>([(7,(gV n_9 3 r_10)),(8,(.ref n_15 0 0)),(9,(gV n_85 3 v_83)),(10,(kV (gb_32 || !s_43.1.isEmpty) n_45 3 r_65)),(11,(vI s_43.2)),(12,(.ref n_29 0 0))]:List (Nat×V))) (fun (n_85:Nm)=>([(n_4,some (.cells 4 [(vS p_2.Key),(vS p_2.Screen),(vI p_2.Zone),(vL eS p_2.Tags)])),(n_5,some (.cells 2 [(vI wv_3.From),(vI wv_3.To)])),(n_9,gB 3 Span.enc r_10),(n_15,some (.cells 1 [(vL eI r_13)])),(n_29,some (.cells 1 [(vI s_22.2.2.2)])),(n_85,gB 3 Slot_.enc v_83),(n_45,kB (gb_32 || !s_43.1.isEmpty) 3 Span.enc r_65)]:Hp)) (fun _=>True) ?_ ?_
       ·rcases cond_some h_84 with⟨hc_86,h_84⟩ | ⟨hc_86,h_84⟩
        ·refine wH_ift rfl hc_86 (wH_region (h_op (gV n_30 3 s_22.1) wz rfl (h_op (vI (w64 ((s_22.1.length:Int) - 1))) wz rfl (h_ldr 0 3 il ft sz22 ag22 rfl rfl (vL eI r_13) rfl wz (h_ldr 0 4 il ft sz3 ag3 rfl rfl (vI s_22.2.2.2) rfl wz (h_op (vI (w64 (s_22.2.2.2 + 1))) wz rfl ?_))))))
         obtain ⟨y_87,hy_88,h_84⟩:=bind_some h_84
         refine h_ia es22 rfl rfl hy_88 rfl wz (h_ldc sz3 ag3 rfl (vI y_87) rfl wz ?_)
         obtain ⟨_,hi_89,h_84⟩:=bind_some h_84
         refine h_iavg es68 rfl rfl (inR_0 hi_89) (inR_lt hi_89) wz (h_far pl71_0 rfl 0 rfl wz (h_far pl65_1 rfl 1 rfl wz ?_))
         obtain ⟨e_90,hy_91,h_84⟩:=bind_some h_84
         refine h_stvg 0 il ft 5 sz3 rfl rfl hy_91 (⟨(⟨e_90.Time.From,y_87⟩:Window),e_90.Entry⟩:Slot_) rfl wz (h_re (v':=(gV n_30 3 (s_22.1.set (0 + ((w64 ((s_22.1.length:Int) - 1))).toNat) (⟨(⟨e_90.Time.From,y_87⟩:Window),e_90.Entry⟩:Slot_)))) 9 rfl (gV_len (by simp)) (h_re (v':=(gV n_30 3 (s_22.1.set (0 + ((w64 ((s_22.1.length:Int) - 1))).toNat) (⟨(⟨e_90.Time.From,y_87⟩:Window),e_90.Entry⟩:Slot_)))) 84 rfl (gV_len (by simp)) (h_nil ?_)))
         obtain rfl:=some_inj h_84
         exact cut_mk n_30 trivial rfl (pre_r rfl)
        ·refine wH_iff rfl hc_86 (wH_draws (h_op (gV n_30 3 s_22.1) wz rfl (h_ldr 1 3 (.inr (by kernel_rfl)) (fun _ _ ag=>trivial) sz22 ag22 rfl rfl (vL eI r_13) rfl wz (h_ldr 2 4 (.inr (by kernel_rfl)) (fun _ _ ag=>⟨.inl ⟨rfl,rfl⟩,trivial⟩) sz3 ag3 rfl rfl (vI s_22.2.2.2) rfl wz ?_))))
         obtain ⟨y_92,hy_93,h_84⟩:=bind_some h_84
         refine h_ia es22 rfl rfl hy_93 rfl wz (h_ldc sz3 ag3 rfl (vI y_92) rfl wz (h_ldr 5 3 (.inr (by kernel_rfl)) (fun _ _ ag=>⟨.inl ⟨rfl,rfl⟩,⟨.inl ⟨rfl,rfl⟩,trivial⟩⟩) sz22 ag22 rfl rfl (vL eI r_13) rfl wz (h_ldr 6 4 (.inr (by kernel_rfl)) (fun _ _ ag=>⟨.inl ⟨rfl,rfl⟩,⟨.inl ⟨rfl,rfl⟩,⟨.inl ⟨rfl,rfl⟩,trivial⟩⟩⟩) sz3 ag3 rfl rfl (vI s_22.2.2.2) rfl wz (h_op (vI (w64 (s_22.2.2.2 + 1))) wz rfl ?_))))
         obtain ⟨y_94,hy_95,h_84⟩:=bind_some h_84
         refine h_ia es22 rfl rfl hy_95 rfl wz (h_ldc sz3 ag3 rfl (vI y_94) rfl wz (h_op (.d (.agg (Window.enc (⟨y_92,y_94⟩:Window)))) wz (by kernel_rfl) (h_op (vS v_69) wz rfl (h_op (.d (.agg (Slot_.enc (⟨(⟨y_92,y_94⟩:Window),v_69⟩:Slot_)))) wz (by kernel_rfl) (h_lit (([(⟨(⟨y_92,y_94⟩:Window),v_69⟩:Slot_)]:List Slot_).map Slot_.enc) es68 ez68 rfl rfl rfl rfl rfl wz ?_)))))
         obtain ⟨a_96,hz_97,h_84⟩:=bind_some h_84
         refine h_appg 14 (.inr (by kernel_rfl)) (fun _ _ ag=>⟨.inr (.inl (dis1 (ag_ne ag (i:=5) (j:=3) rfl rfl (by decide)))),⟨.inr (.inl (dis1 (ag_ne ag (i:=5) (j:=4) rfl rfl (by decide)))),⟨.inr (.inl (dis1 (ag_ne ag (i:=5) (j:=3) rfl rfl (by decide)))),⟨.inr (.inl (dis1 (ag_ne ag (i:=5) (j:=4) rfl rfl (by decide)))),trivial⟩⟩⟩⟩) (i:=5) el68 el68 sz71 z71 rfl (by decide) by71 (by decide) (fun _=>rfl) rfl rfl rfl hz_97 wz (fun n_98=>h_op (gV n_98 3 a_96) wz rfl (h_nil ?_))
         obtain rfl:=some_inj h_84
         exact cut_mk n_98 trivial rfl (pre_r rfl)
       ·rintro n_85 _ sl_ H_ hp_ hq_
        refine wH_at _ hp_ hq_ (wH_seq (wH_seq (wH_region (h_ldr 0 4 il ft sz3 ag3 rfl rfl (vI s_22.2.2.2) rfl wz (h_nil (wH_region (h_alloc 0 (.inl rfl) z3 rfl wz (fun n_99=>h_str 0 il ft 7 sz3 rfl rfl [(vI s_22.2.2.2)] rfl wz (h_nil (wH_region (h_ldr 0 7 il ft sz3 ag3 rfl rfl (vI s_22.2.2.2) rfl wz (h_op (vI (w64 (s_22.2.2.2 + 1))) wz rfl (h_str 0 il ft 7 sz3 rfl rfl [(vI (w64 (s_22.2.2.2 + 1)))] rfl wz (h_nil ?_))))))))))))))
        obtain rfl:=some_inj hc_33
        exact loop_mk (k_17,(v_83,r_65,s_43.2,(w64 (s_22.2.2.2 + 1))),n_99,n_85,n_45,(gb_32 || !s_43.1.isEmpty)) hL_34 (Nat.lt_succ_self _) rfl (pre_is [0,1,2,3,7,5,6] (by decide) rfl)
   ·refine wH_iff rfl hc_37 (wH_exit ?_)
    obtain rfl:=some_inj hc_33
    obtain rfl:=some_inj hL_34
    exact cut_mk ((s_22.1,s_22.2.1,s_22.2.2.1,s_22.2.2.2),n_29,n_30,n_31,gb_32) rfl rfl (pre_r rfl)
 ·rintro ⟨s_22,n_29,n_30,n_31,gb_32⟩ ho_ sl_ H_ hp_ hq_
  subst ho_
  refine wH_at _ hp_ hq_ (wH_seq (wH_region (h_op (gV n_30 3 s_22.1) wz rfl (h_op (gV n_30 3 s_22.1) wz rfl (h_nil (wH_frozg 5 rfl (wH_cog 6 5 rfl rfl (wH_cog 9 5 rfl rfl (wH_cog 110 5 rfl rfl ?_)))))))))
  obtain rfl:=some_inj hF
  exact wH_ret (fin0 (.inr rfl) [(vL Slot_.enc s_22.1)] ⟨rfl,trivial⟩ rfl rfl rfl)
theorem schedule_Next_ok {l_1:(List Entry)} {p_2:Player} {atv_3:Int} {r:Int×Int} (hF:schedule_Next l_1 p_2 atv_3=some r) :
  FnM Tryz.prog 11 [(vL Entry.enc l_1),(.d (.agg (Player.enc p_2))),(vI atv_3)] [] (.tup [(vI r.1),(vI r.2)]) []:=by
 refine FnM.of_wH ⟨Tryz.prog,34,[],[]⟩ rfl Tryz.func11 rfl rfl (Nat.le_of_ble_eq_true rfl) (by kernel_rfl) ?_
 unfold schedule_Next at hF
 refine wH_seq (wH_region (h_box 0 (.inl rfl) [(vS p_2.Key),(vS p_2.Screen),(vI p_2.Zone),(vL eS p_2.Tags)] rfl rfl wz (fun n_4=>h_op (vI 0) wz rfl (h_op (vI 0) wz rfl (h_nil (wH_seq (wH_seq (wH_region (h_op (vL Entry.enc l_1) wz rfl (h_ldr 0 0 il ft sz30 ag30 rfl rfl (.d (.agg (Player.enc p_2))) rfl wz (h_op (vI atv_3) wz rfl ?_)))))))))))
 obtain ⟨r_5,hr_6,hF⟩:=bind_some hF
 refine h_call0 (schedule_momentFault_ok hr_6) rfl hb27 rfl rfl rfl rfl wz (h_op (vI r_5) wz rfl (h_nil (wH_seq (wH_region (h_op (vI r_5) wz rfl (h_op (vB (r_5 != 0)) wz rfl (h_nil ?_)))))))
 rcases cond_some hF with⟨hc_7,hF⟩ | ⟨hc_7,hF⟩
 ·refine wH_ift rfl hc_7 (wH_seq (wH_region (h_op (vI r_5) wz rfl (h_op (vI 0) wz rfl (h_op (vI r_5) wz rfl (h_nil ?_))))))
  obtain rfl:=some_inj hF
  exact wH_ret (fin0 (.inr rfl) [(vI 0),(vI r_5)] ⟨rfl,⟨rfl,trivial⟩⟩ rfl rfl rfl)
 ·refine wH_iff rfl hc_7 (wH_skip (wH_seq (wH_region (h_op (vL Entry.enc l_1) wz rfl (h_ldr 0 0 il ft sz30 ag30 rfl rfl (.d (.agg (Player.enc p_2))) rfl wz (h_op (vI atv_3) wz rfl (h_op (vI atv_3) wz rfl (h_op (vI (w64 (atv_3 + 34560000000))) wz rfl (h_op (vI (w64 ((w64 (atv_3 + 34560000000)) + 1))) wz rfl (h_minmax (vI (minI (w64 ((w64 (atv_3 + 34560000000)) + 1)) 345686400000)) rfl (.inl rfl) wz (h_op (.d (.agg (Window.enc (⟨atv_3,(minI (w64 ((w64 (atv_3 + 34560000000)) + 1)) 345686400000)⟩:Window)))) wz (by kernel_rfl) ?_)))))))))))
  obtain ⟨r_8,hr_9,hF⟩:=bind_some hF
  refine h_call0 (schedule_through_ok hr_9) rfl hb29 rfl rfl rfl rfl wz (h_op (vL Slot_.enc r_8) wz rfl (h_nil (wH_seq (wH_seq (wH_region (h_op (vL Slot_.enc r_8) wz rfl (h_len un68 rfl wz (h_op (vB (decide ((r_8.length:Int) < 2))) wz rfl (h_nil ?_)))))))))
  rcases cond_some hF with⟨hc_10,hF⟩ | ⟨hc_10,hF⟩
  ·refine wH_ift rfl hc_10 (wH_seq (wH_region (h_op (vI (-1)) wz rfl (h_op (vI 0) wz rfl (h_nil ?_)))))
   obtain rfl:=some_inj hF
   exact wH_ret (fin0 (.inr rfl) [(vI (-1)),(vI 0)] ⟨rfl,⟨rfl,trivial⟩⟩ rfl rfl rfl)
  ·refine wH_iff rfl hc_10 (wH_skip (wH_seq (wH_region (h_op (vL Slot_.enc r_8) wz rfl ?_))))
   obtain ⟨y_11,hy_12,hF⟩:=bind_some hF
   refine h_ia es68 rfl rfl hy_12 rfl wz (h_fac pl71_0 rfl [.int .i64 y_11.Time.From,.int .i64 y_11.Time.To,.str y_11.Entry] rfl rfl wz (h_fac pl65_0 rfl [.int .i64 y_11.Time.From,.int .i64 y_11.Time.To,.str y_11.Entry] rfl rfl wz (h_ldc sz3 ag3 rfl (vI y_11.Time.From) rfl wz (h_op (vI y_11.Time.From) wz rfl (h_op (vI 0) wz rfl (h_nil (wH_at (H0:=([(n_4,some (.cells 4 [(vS p_2.Key),(vS p_2.Screen),(vI p_2.Zone),(vL eS p_2.Tags)]))]:Hp)) ([(6,(vI y_11.Time.From)),(7,(vI 0))]:List (Nat×V)) (by kernel_rfl) (pre_mk (by kernel_rfl)) ?_)))))))
   obtain rfl:=some_inj hF
   exact wH_ret (fin0 (.inr rfl) [(vI y_11.Time.From),(vI 0)] ⟨rfl,⟨rfl,trivial⟩⟩ rfl rfl rfl)
theorem ref_in_ok {n_1:Int} {low_2:Int} {high_3:Int} {r:Bool} (hF:ref_in n_1 low_2 high_3=some r) :
  FnM Tryz.prog 32 [(vI n_1),(vI low_2),(vI high_3)] [] (vB r) []:=by
 refine FnM.of_wH ⟨Tryz.prog,15,[],[]⟩ rfl Tryz.func32 rfl rfl (Nat.le_of_ble_eq_true rfl) (by kernel_rfl) ?_
 unfold ref_in at hF
 refine wH_seq (wH_region (h_op (vB false) wz rfl (h_nil (wH_seq ?_))))
 obtain ⟨v_4,h_5,hF⟩:=bind_some hF
 refine wH_join (β:=Unit) (fun _=>([(6,(vB v_4))]:List (Nat×V))) (fun _=>([]:Hp)) (fun _=>True) ?_ ?_
 ·refine wH_region (h_op (vI low_2) wz rfl (h_op (vI n_1) wz rfl (h_op (vB (decide (low_2≤n_1))) wz rfl ?_)))
  rcases cond_some h_5 with⟨hc_6,h_5⟩ | ⟨hc_6,h_5⟩
  ·refine h_movb rfl hc_6 wz (h_op (vI n_1) wa rfl (h_op (vI high_3) wa rfl (h_op (vB (decide (n_1≤high_3))) wa rfl (h_op (vB (decide (n_1≤high_3))) wz rfl (h_op (vB (decide (n_1≤high_3))) wz rfl (h_nil ?_))))))
   obtain rfl:=some_inj h_5
   exact cu
  ·refine h_movb rfl hc_6 wz (h_skip wa (h_skip wa (h_skip wa (h_op (vB false) wz rfl (h_op (vB false) wz rfl (h_nil ?_))))))
   obtain rfl:=some_inj h_5
   exact cu
 ·rintro ⟨⟩ _ sl_ H_ hp_ hq_
  refine wH_at _ hp_ hq_ ?_
  obtain rfl:=some_inj hF
  exact wH_ret (fin0 (.inr rfl) [(vB v_4)] ⟨rfl,trivial⟩ rfl rfl rfl)
theorem internal_stringslite_IndexByte_ok {s_1:ByteArray} {c_2:Int} {r:Int} (hF:internal_stringslite_IndexByte s_1 c_2=some r) :
  FnM Tryz.prog 105 [(vS s_1),(.d (.int .u8 c_2))] [] (vI r) []:=by
 refine FnM.of_wH ⟨Tryz.prog,8,[],[]⟩ rfl Tryz.func105 rfl rfl (Nat.le_of_ble_eq_true rfl) (by kernel_rfl) ?_
 unfold internal_stringslite_IndexByte at hF
 refine wH_seq (wH_region (h_op (vI 0) wz rfl (h_nil (wH_seq (wH_region (h_op (vS s_1) wz rfl (h_op (.d (.int .u8 c_2)) wz rfl (h_ext (ext_ixB (f:=136) Tryz.func136 rfl rfl (by kernel_rfl) (by kernel_rfl) _ _) rfl nb136 rfl wz (h_op (vI (ixB s_1 c_2)) wz rfl (h_nil ?_))))))))))
 obtain rfl:=some_inj hF
 exact wH_ret (fin0 (.inr rfl) [(vI (ixB s_1 c_2))] ⟨rfl,trivial⟩ rfl rfl rfl)
theorem strings_IndexByte_ok {s_1:ByteArray} {c_2:Int} {r:Int} (hF:strings_IndexByte s_1 c_2=some r) :
  FnM Tryz.prog 79 [(vS s_1),(.d (.int .u8 c_2))] [] (vI r) []:=by
 refine FnM.of_wH ⟨Tryz.prog,8,[],[]⟩ rfl Tryz.func79 rfl rfl (Nat.le_of_ble_eq_true rfl) (by kernel_rfl) ?_
 unfold strings_IndexByte at hF
 refine wH_seq (wH_region (h_op (vI 0) wz rfl (h_nil (wH_seq (wH_region (h_op (vS s_1) wz rfl (h_op (.d (.int .u8 c_2)) wz rfl ?_)))))))
 obtain ⟨r_3,hr_4,hF⟩:=bind_some hF
 refine h_call0 (internal_stringslite_IndexByte_ok hr_4) rfl hb105 rfl rfl rfl rfl wz (h_op (vI r_3) wz rfl (h_nil ?_))
 obtain rfl:=some_inj hF
 exact wH_ret (fin0 (.inr rfl) [(vI r_3)] ⟨rfl,trivial⟩ rfl rfl rfl)
theorem ref_only_ok {s_1:ByteArray} {somev_2:ByteArray} {r:Bool} (hF:ref_only s_1 somev_2=some r) :
  FnM Tryz.prog 55 [(vS s_1),(vS somev_2)] [] (vB r) []:=by
 refine FnM.of_wH ⟨Tryz.prog,18,[],[]⟩ rfl Tryz.func55 rfl rfl (Nat.le_of_ble_eq_true rfl) (by kernel_rfl) ?_
 unfold ref_only at hF
 refine wH_seq (wH_region (h_op (vB false) wz rfl (h_nil (wH_seq (wH_seq (wH_region (h_op (vS s_1) wz rfl (h_lens un9 rfl wz (h_op (vI 0) wz rfl (h_nil ?_))))))))))
 obtain ⟨o_11,hj_12,hF⟩:=bind_some hF
 obtain ⟨hn_7,hj_12⟩:=forL_some hj_12
 refine wH_join (β:=(Unit)) (fun (s_8:Unit)=>([]:List (Nat×V))) (fun (s_8:Unit)=>([]:Hp)) (fun p=>o_11 = .go p) ?_ ?_
 ·refine wH_block (wH_loop (β:=Nat×(List Nat)×(Unit)) (fun p=>(fun (k_3:Nat) (l_4:List Nat) (s_8:Unit)=>([(0,(vS s_1)),(1,(vS somev_2)),(7,(vI (s_1.size:Int))),(8,(vI (k_3:Int)))]:List (Nat×V))) p.1 p.2.1 p.2.2) (fun p=>(fun (k_3:Nat) (l_4:List Nat) (s_8:Unit)=>([]:Hp)) p.1 p.2.1 p.2.2) (fun p=>forR (fun k x s=>ref_only_L1 s_1 somev_2 k x s) p.2.1 p.1 p.2.2=some o_11∧((List.range ((s_1.size:Int)).toNat)).drop p.1=p.2.1) (fun p=>p.2.1.length) (0,(List.range ((s_1.size:Int)).toNat),()) ⟨hj_12,rfl⟩ rfl (pre_r rfl) ?_)
  rintro ⟨k_3,l_4,s_8⟩ ⟨hL_10,hD_6⟩
  dsimp only at hL_10 hD_6
  cases l_4 with
  | nil =>
   obtain rfl:=some_inj hL_10
   refine wH_seq (wH_region (h_op (vB (decide ((k_3:Int) < (s_1.size:Int)))) wz rfl (h_nil ?_)))
   refine wH_seq (wH_iff rfl (range_nil hD_6) (wH_exit ?_))
   exact cut_mk (s_8) rfl rfl (pre_r rfl)
  | cons x_5 l_4 =>
   obtain ⟨c_,hc_9,hL_10⟩:=bind_some hL_10
   refine wH_seq (wH_region (h_op (vB (decide ((k_3:Int) < (s_1.size:Int)))) wz rfl (h_nil ?_)))
   refine wH_seq (wH_ift rfl (range_cons hD_6) (wH_skip ?_))
   unfold ref_only_L1 at hc_9
   refine wH_seq (wH_block (wH_seq (wH_region (h_op (vI (k_3:Int)) wz rfl (h_op (vI (k_3:Int)) wz rfl (h_nil (wH_seq (wH_region (h_op (vS somev_2) wz rfl (h_op (vS s_1) wz rfl (h_op (vI (k_3:Int)) wz rfl ?_)))))))))))
   obtain ⟨b_13,hy_14,hc_9⟩:=bind_some hc_9
   refine h_idxs un9 rfl rfl hy_14 wz ?_
   obtain ⟨r_15,hr_16,hc_9⟩:=bind_some hc_9
   refine h_call0 (strings_IndexByte_ok hr_16) rfl hb79 rfl rfl rfl rfl wz (h_op (vB (decide (r_15 < 0))) wz rfl (h_nil ?_))
   rcases cond_some hc_9 with⟨hc_17,hc_9⟩ | ⟨hc_17,hc_9⟩
   ·refine wH_ift rfl hc_17 (wH_seq (wH_region (h_op (vB false) wz rfl (h_nil ?_))))
    obtain rfl:=some_inj hc_9
    obtain rfl:=some_inj hL_10
    obtain rfl:=some_inj hF
    exact wH_ret (fin0 (.inr rfl) [(vB false)] ⟨rfl,trivial⟩ rfl rfl rfl)
   ·refine wH_iff rfl hc_17 (wH_skip (wH_region (h_opw (w64_nextr hD_6 hn_7) wz rfl (h_op (vI ((k_3 + 1:Nat):Int)) wz rfl (h_nil ?_)))))
    obtain rfl:=some_inj hc_9
    exact loop_mk (k_3 + 1,l_4,()) ⟨hL_10,drop_next hD_6⟩ (Nat.lt_succ_self _) rfl (pre_r rfl)
 ·rintro s_8 ho_ sl_ H_ hp_ hq_
  subst ho_
  refine wH_at _ hp_ hq_ (wH_seq (wH_region (h_op (vB true) wz rfl (h_nil ?_))))
  obtain rfl:=some_inj hF
  exact wH_ret (fin0 (.inr rfl) [(vB true)] ⟨rfl,trivial⟩ rfl rfl rfl)
theorem ref_Key_ok {s_1:ByteArray} {r:Bool} (hF:ref_Key s_1=some r) :
  FnM Tryz.prog 31 [(vS s_1)] [] (vB r) []:=by
 refine FnM.of_wH ⟨Tryz.prog,15,[],[]⟩ rfl Tryz.func31 rfl rfl (Nat.le_of_ble_eq_true rfl) (by kernel_rfl) ?_
 unfold ref_Key at hF
 refine wH_seq (wH_region (h_op (vB false) wz rfl (h_nil (wH_seq ?_))))
 obtain ⟨v_2,h_3,hF⟩:=bind_some hF
 refine wH_join (β:=Unit) (fun _=>([(2,(vB v_2))]:List (Nat×V))) (fun _=>([]:Hp)) (fun _=>True) ?_ ?_
 ·refine wH_region (h_op (vS s_1) wz rfl (h_lens un9 rfl wz ?_))
  obtain ⟨r_4,hr_5,h_3⟩:=bind_some h_3
  refine h_call0 (ref_in_ok hr_5) rfl hb32 rfl rfl rfl rfl wz ?_
  rcases cond_some h_3 with⟨hc_6,h_3⟩ | ⟨hc_6,h_3⟩
  ·refine h_movb rfl hc_6 wz (h_op (vS s_1) wa rfl ?_)
   obtain ⟨y_7,hy_8,h_3⟩:=bind_some h_3
   refine h_subFalseTrue un9 rfl rfl hy_8 wa ?_
   obtain ⟨r_9,hr_10,h_3⟩:=bind_some h_3
   refine h_call0 (ref_only_ok hr_10) rfl hb55 rfl rfl rfl rfl wa (h_op (vB r_9) wz rfl ?_)
   rcases cond_some h_3 with⟨hc_11,h_3⟩ | ⟨hc_11,h_3⟩
   ·refine h_movb rfl hc_11 wz (h_op (vS s_1) wa rfl ?_)
    obtain ⟨r_12,hr_13,h_3⟩:=bind_some h_3
    refine h_call0 (ref_only_ok hr_13) rfl hb55 rfl rfl rfl rfl wa (h_op (vB r_12) wz rfl (h_op (vB r_12) wz rfl (h_nil ?_)))
    obtain rfl:=some_inj h_3
    exact cu
   ·refine h_movb rfl hc_11 wz (h_skip wa (h_skip wa (h_op (vB false) wz rfl (h_op (vB false) wz rfl (h_nil ?_)))))
    obtain rfl:=some_inj h_3
    exact cu
  ·refine h_movb rfl hc_6 wz (h_skip wa (h_skip wa (h_skip wa (h_op (vB false) wz rfl (h_op (vB false) wz rfl (h_skip wa (h_skip wa (h_op (vB false) wz rfl (h_op (vB false) wz rfl (h_nil ?_))))))))))
   obtain rfl:=some_inj h_3
   exact cu
 ·rintro ⟨⟩ _ sl_ H_ hp_ hq_
  refine wH_at _ hp_ hq_ ?_
  obtain rfl:=some_inj hF
  exact wH_ret (fin0 (.inr rfl) [(vB v_2)] ⟨rfl,trivial⟩ rfl rfl rfl)
theorem ref_risingFault_ok {l_1:(List ByteArray)} {r:Int} (hF:ref_risingFault l_1=some r) :
  FnM Tryz.prog 56 [(vL eS l_1)] [] (vI r) []:=by
 refine FnM.of_wH ⟨Tryz.prog,27,[],[]⟩ rfl Tryz.func56 rfl rfl (Nat.le_of_ble_eq_true rfl) (by kernel_rfl) ?_
 unfold ref_risingFault at hF
 refine wH_seq (wH_region (h_op (vI 0) wz rfl (h_nil (wH_seq (wH_seq (wH_region (h_op (vL eS l_1) wz rfl (h_len un28 rfl wz (h_op (vI 0) wz rfl (h_nil ?_))))))))))
 obtain ⟨o_10,hj_11,hF⟩:=bind_some hF
 obtain ⟨hn_6,hj_11⟩:=forL_some hj_11
 refine wH_join (β:=(Unit)) (fun (s_7:Unit)=>([]:List (Nat×V))) (fun (s_7:Unit)=>([]:Hp)) (fun p=>o_10 = .go p) ?_ ?_
 ·refine wH_block (wH_loop (β:=Nat×(List ByteArray)×(Unit)) (fun p=>(fun (k_2:Nat) (l_3:List ByteArray) (s_7:Unit)=>([(0,(vL eS l_1)),(5,(vL eS l_1)),(6,(vI (l_1.length:Int))),(7,(vI (k_2:Int)))]:List (Nat×V))) p.1 p.2.1 p.2.2) (fun p=>(fun (k_2:Nat) (l_3:List ByteArray) (s_7:Unit)=>([]:Hp)) p.1 p.2.1 p.2.2) (fun p=>forR (fun k x s=>ref_risingFault_L1 l_1 k x s) p.2.1 p.1 p.2.2=some o_10∧(l_1).drop p.1=p.2.1) (fun p=>p.2.1.length) (0,l_1,()) ⟨hj_11,rfl⟩ rfl (pre_r rfl) ?_)
  rintro ⟨k_2,l_3,s_7⟩ ⟨hL_9,hD_5⟩
  dsimp only at hL_9 hD_5
  cases l_3 with
  | nil =>
   obtain rfl:=some_inj hL_9
   refine wH_seq (wH_region (h_op (vB (decide ((k_2:Int) < (l_1.length:Int)))) wz rfl (h_nil ?_)))
   refine wH_seq (wH_iff rfl (drop_nil hD_5) (wH_exit ?_))
   exact cut_mk (s_7) rfl rfl (pre_r rfl)
  | cons x_4 l_3 =>
   obtain ⟨c_,hc_8,hL_9⟩:=bind_some hL_9
   refine wH_seq (wH_region (h_op (vB (decide ((k_2:Int) < (l_1.length:Int)))) wz rfl (h_nil ?_)))
   refine wH_seq (wH_ift rfl (drop_cons hD_5) (wH_skip ?_))
   unfold ref_risingFault_L1 at hc_8
   refine wH_seq (wH_block (wH_seq (wH_region (h_op (vI (k_2:Int)) wz rfl (h_ia es28 rfl rfl (drop_idx hD_5) rfl wz (h_ldc sz9 ag9 rfl (vS x_4) rfl wz (h_op (vI (k_2:Int)) wz rfl (h_op (vS x_4) wz rfl (h_nil (wH_seq (wH_seq (wH_region (h_op (vS x_4) wz rfl ?_)))))))))))))
   obtain ⟨r_12,hr_13,hc_8⟩:=bind_some hc_8
   refine h_call0 (ref_Key_ok hr_13) rfl hb31 rfl rfl rfl rfl wz (h_op (vB (!r_12)) wz rfl (h_nil ?_))
   rcases cond_some hc_8 with⟨hc_14,hc_8⟩ | ⟨hc_14,hc_8⟩
   ·refine wH_ift rfl hc_14 (wH_seq (wH_region (h_op (vI 5) wz rfl (h_nil ?_))))
    obtain rfl:=some_inj hc_8
    obtain rfl:=some_inj hL_9
    obtain rfl:=some_inj hF
    exact wH_ret (fin0 (.inr rfl) [(vI 5)] ⟨rfl,trivial⟩ rfl rfl rfl)
   ·refine wH_iff rfl hc_14 (wH_skip (wH_seq ?_))
    obtain ⟨v_15,h_16,hc_8⟩:=bind_some hc_8
    refine wH_join (β:=Unit) (fun _=>([(0,(vL eS l_1)),(5,(vL eS l_1)),(6,(vI (l_1.length:Int))),(7,(vI (k_2:Int))),(25,(vB v_15))]:List (Nat×V))) (fun _=>([]:Hp)) (fun _=>True) ?_ ?_
    ·refine wH_region (h_op (vI (k_2:Int)) wz rfl (h_op (vB (decide ((k_2:Int) > 0))) wz rfl ?_))
     rcases cond_some h_16 with⟨hc_17,h_16⟩ | ⟨hc_17,h_16⟩
     ·refine h_movb rfl hc_17 wz (h_op (vS x_4) wa rfl (h_op (vL eS l_1) wa rfl (h_op (vI (k_2:Int)) wa rfl (h_op (vI (w64 ((k_2:Int) - 1))) wa rfl ?_))))
      obtain ⟨y_18,hy_19,h_16⟩:=bind_some h_16
      refine h_ia es28 rfl rfl hy_19 rfl wa (h_ldc sz9 ag9 rfl (vS y_18) rfl wa (h_op (vB (sLe x_4 y_18)) wa rfl (h_op (vB (sLe x_4 y_18)) wz rfl (h_nil ?_))))
      obtain rfl:=some_inj h_16
      exact cu
     ·refine h_movb rfl hc_17 wz (h_skip wa (h_skip wa (h_skip wa (h_skip wa (h_skip wa (h_skip wa (h_skip wa (h_op (vB false) wz rfl (h_nil ?_)))))))))
      obtain rfl:=some_inj h_16
      exact cu
    ·rintro ⟨⟩ _ sl_ H_ hp_ hq_
     refine wH_at _ hp_ hq_ ?_
     rcases cond_some hc_8 with⟨hc_20,hc_8⟩ | ⟨hc_20,hc_8⟩
     ·refine wH_ift rfl hc_20 (wH_seq (wH_region (h_op (vI 7) wz rfl (h_nil ?_))))
      obtain rfl:=some_inj hc_8
      obtain rfl:=some_inj hL_9
      obtain rfl:=some_inj hF
      exact wH_ret (fin0 (.inr rfl) [(vI 7)] ⟨rfl,trivial⟩ rfl rfl rfl)
     ·refine wH_iff rfl hc_20 (wH_skip (wH_region (h_opw (w64_next hD_5 hn_6) wz rfl (h_op (vI ((k_2 + 1:Nat):Int)) wz rfl (h_nil ?_)))))
      obtain rfl:=some_inj hc_8
      exact loop_mk (k_2 + 1,l_3,()) ⟨hL_9,drop_next hD_5⟩ (Nat.lt_succ_self _) rfl (pre_r rfl)
 ·rintro s_7 ho_ sl_ H_ hp_ hq_
  subst ho_
  refine wH_at _ hp_ hq_ (wH_seq (wH_region (h_op (vI 0) wz rfl (h_nil ?_))))
  obtain rfl:=some_inj hF
  exact wH_ret (fin0 (.inr rfl) [(vI 0)] ⟨rfl,trivial⟩ rfl rfl rfl)
theorem ref_TagsFault_ok {l_1:(List ByteArray)} {r:Int} (hF:ref_TagsFault l_1=some r) :
  FnM Tryz.prog 33 [(vL eS l_1)] [] (vI r) []:=by
 refine FnM.of_wH ⟨Tryz.prog,8,[],[]⟩ rfl Tryz.func33 rfl rfl (Nat.le_of_ble_eq_true rfl) (by kernel_rfl) ?_
 unfold ref_TagsFault at hF
 refine wH_seq (wH_region (h_op (vI 0) wz rfl (h_nil (wH_seq (wH_seq (wH_region (h_op (vL eS l_1) wz rfl (h_len un28 rfl wz (h_op (vB (decide ((l_1.length:Int) > 20))) wz rfl (h_nil ?_))))))))))
 rcases cond_some hF with⟨hc_2,hF⟩ | ⟨hc_2,hF⟩
 ·refine wH_ift rfl hc_2 (wH_seq (wH_region (h_op (vI 2) wz rfl (h_nil ?_))))
  obtain rfl:=some_inj hF
  exact wH_ret (fin0 (.inr rfl) [(vI 2)] ⟨rfl,trivial⟩ rfl rfl rfl)
 ·refine wH_iff rfl hc_2 (wH_skip (wH_seq (wH_region (h_op (vL eS l_1) wz rfl ?_))))
  obtain ⟨r_3,hr_4,hF⟩:=bind_some hF
  refine h_call0 (ref_risingFault_ok hr_4) rfl hb56 rfl rfl rfl rfl wz (h_op (vI r_3) wz rfl (h_nil ?_))
  obtain rfl:=some_inj hF
  exact wH_ret (fin0 (.inr rfl) [(vI r_3)] ⟨rfl,trivial⟩ rfl rfl rfl)
theorem ref_entryFault_ok {e_1:Entry} {r:Int} (hF:ref_entryFault e_1=some r) :
  FnM Tryz.prog 30 [(.d (.agg (Entry.enc e_1)))] [] (vI r) []:=by
 refine FnM.of_wH ⟨Tryz.prog,94,[],[]⟩ rfl Tryz.func30 rfl rfl (Nat.le_of_ble_eq_true rfl) (by kernel_rfl) ?_
 unfold ref_entryFault at hF
 refine wH_seq (wH_region (h_box 0 (.inl rfl) [(vS e_1.Key),(vS e_1.Item),(vI e_1.Version),(vI e_1.First),(vI e_1.Last),(vI e_1.Every),(vI e_1.Days),(vL eI e_1.Except),(vI e_1.From),(vI e_1.To),(vI e_1.Prio),(vL eS e_1.Tags),(vB e_1.Gone)] rfl rfl wz (fun n_2=>h_op (vI 0) wz rfl (h_nil (wH_seq (wH_block (wH_seq ?_)))))))
 obtain ⟨v_3,h_4,hF⟩:=bind_some hF
 refine wH_join (β:=Unit) (fun _=>([(1,(.ref n_2 0 0)),(5,(vB v_3))]:List (Nat×V))) (fun _=>([(n_2,some (.cells 13 [(vS e_1.Key),(vS e_1.Item),(vI e_1.Version),(vI e_1.First),(vI e_1.Last),(vI e_1.Every),(vI e_1.Days),(vL eI e_1.Except),(vI e_1.From),(vI e_1.To),(vI e_1.Prio),(vL eS e_1.Tags),(vB e_1.Gone)]))]:Hp)) (fun _=>True) ?_ ?_
 ·refine wH_region (h_far pl55_0 rfl 0 rfl wz (h_ldr 0 0 il ft sz9 ag9 rfl rfl (vS e_1.Key) rfl wz ?_))
  obtain ⟨r_5,hr_6,h_4⟩:=bind_some h_4
  refine h_call0 (ref_Key_ok hr_6) rfl hb31 rfl rfl rfl rfl wz (h_op (vB (!r_5)) wz rfl ?_)
  rcases cond_some h_4 with⟨hc_7,h_4⟩ | ⟨hc_7,h_4⟩
  ·refine h_movb rfl hc_7 wz (h_skip wa (h_skip wa (h_skip wa (h_skip wa (h_op (vB true) wz rfl (h_op (vB true) wz rfl (h_nil ?_)))))))
   obtain rfl:=some_inj h_4
   exact cu
  ·refine h_movb rfl hc_7 wz (h_far pl55_1 rfl 1 rfl wa (h_ldr 0 0 il ft sz9 ag9 rfl rfl (vS e_1.Item) rfl wa ?_))
   obtain ⟨r_8,hr_9,h_4⟩:=bind_some h_4
   refine h_call0 (ref_Key_ok hr_9) rfl hb31 rfl rfl rfl rfl wa (h_op (vB (!r_8)) wa rfl (h_op (vB (!r_8)) wz rfl (h_op (vB (!r_8)) wz rfl (h_nil ?_))))
   obtain rfl:=some_inj h_4
   exact cu
 ·rintro ⟨⟩ _ sl_ H_ hp_ hq_
  refine wH_at _ hp_ hq_ ?_
  rcases cond_some hF with⟨hc_10,hF⟩ | ⟨hc_10,hF⟩
  ·refine wH_ift rfl hc_10 (wH_seq (wH_region (h_op (vI 5) wz rfl (h_nil ?_))))
   obtain rfl:=some_inj hF
   exact wH_ret (fin0 (.inr rfl) [(vI 5)] ⟨rfl,trivial⟩ rfl rfl rfl)
  ·refine wH_iff rfl hc_10 (wH_seq ?_)
   obtain ⟨v_11,h_12,hF⟩:=bind_some hF
   refine wH_join (β:=Unit) (fun _=>([(1,(.ref n_2 0 0)),(16,(vB v_11))]:List (Nat×V))) (fun _=>([(n_2,some (.cells 13 [(vS e_1.Key),(vS e_1.Item),(vI e_1.Version),(vI e_1.First),(vI e_1.Last),(vI e_1.Every),(vI e_1.Days),(vL eI e_1.Except),(vI e_1.From),(vI e_1.To),(vI e_1.Prio),(vL eS e_1.Tags),(vB e_1.Gone)]))]:Hp)) (fun _=>True) ?_ ?_
   ·refine wH_region (h_far pl55_2 rfl 2 rfl wz (h_ldr 0 0 il ft sz3 ag3 rfl rfl (vI e_1.Version) rfl wz ?_))
    obtain ⟨r_13,hr_14,h_12⟩:=bind_some h_12
    refine h_call0 (ref_in_ok hr_14) rfl hb32 rfl rfl rfl rfl wz (h_op (vB (!r_13)) wz rfl ?_)
    rcases cond_some h_12 with⟨hc_15,h_12⟩ | ⟨hc_15,h_12⟩
    ·refine h_movb rfl hc_15 wz (h_skip wa (h_skip wa (h_skip wa (h_skip wa (h_skip wa (h_skip wa (h_op (vB true) wz rfl (h_op (vB true) wz rfl (h_skip wa (h_skip wa (h_skip wa (h_op (vB true) wz rfl (h_op (vB true) wz rfl (h_skip wa (h_skip wa (h_skip wa (h_skip wa (h_op (vB true) wz rfl (h_op (vB true) wz rfl (h_skip wa (h_skip wa (h_skip wa (h_skip wa ?_)))))))))))))))))))))))
     refine h_op (vB true) wz rfl (h_op (vB true) wz rfl (h_nil ?_))
     obtain rfl:=some_inj h_12
     exact cu
    ·refine h_movb rfl hc_15 wz (h_far pl55_3 rfl 3 rfl wa (h_ldr 0 0 il ft sz3 ag3 rfl rfl (vI e_1.First) rfl wa (h_far pl55_4 rfl 4 rfl wa (h_ldr 0 0 il ft sz3 ag3 rfl rfl (vI e_1.Last) rfl wa ?_))))
     obtain ⟨r_16,hr_17,h_12⟩:=bind_some h_12
     refine h_call0 (ref_in_ok hr_17) rfl hb32 rfl rfl rfl rfl wa (h_op (vB (!r_16)) wa rfl (h_op (vB (!r_16)) wz rfl ?_))
     rcases cond_some h_12 with⟨hc_18,h_12⟩ | ⟨hc_18,h_12⟩
     ·refine h_movb rfl hc_18 wz (h_skip wa (h_skip wa (h_skip wa (h_op (vB true) wz rfl (h_op (vB true) wz rfl (h_skip wa (h_skip wa (h_skip wa (h_skip wa (h_op (vB true) wz rfl (h_op (vB true) wz rfl (h_skip wa (h_skip wa (h_skip wa (h_skip wa (h_op (vB true) wz rfl (h_op (vB true) wz rfl (h_nil ?_))))))))))))))))))
      obtain rfl:=some_inj h_12
      exact cu
     ·refine h_movb rfl hc_18 wz (h_far pl55_4 rfl 4 rfl wa (h_ldr 0 0 il ft sz3 ag3 rfl rfl (vI e_1.Last) rfl wa (h_op (vB (decide (e_1.Last > 4000))) wa rfl (h_op (vB (decide (e_1.Last > 4000))) wz rfl ?_))))
      rcases cond_some h_12 with⟨hc_19,h_12⟩ | ⟨hc_19,h_12⟩
      ·refine h_movb rfl hc_19 wz (h_skip wa (h_skip wa (h_skip wa (h_skip wa (h_op (vB true) wz rfl (h_op (vB true) wz rfl (h_skip wa (h_skip wa (h_skip wa (h_skip wa (h_op (vB true) wz rfl (h_op (vB true) wz rfl (h_nil ?_)))))))))))))
       obtain rfl:=some_inj h_12
       exact cu
      ·refine h_movb rfl hc_19 wz (h_far pl55_5 rfl 5 rfl wa (h_ldr 0 0 il ft sz3 ag3 rfl rfl (vI e_1.Every) rfl wa ?_))
       obtain ⟨r_20,hr_21,h_12⟩:=bind_some h_12
       refine h_call0 (ref_in_ok hr_21) rfl hb32 rfl rfl rfl rfl wa (h_op (vB (!r_20)) wa rfl (h_op (vB (!r_20)) wz rfl ?_))
       rcases cond_some h_12 with⟨hc_22,h_12⟩ | ⟨hc_22,h_12⟩
       ·refine h_movb rfl hc_22 wz (h_skip wa (h_skip wa (h_skip wa (h_skip wa (h_op (vB true) wz rfl (h_op (vB true) wz rfl (h_nil ?_)))))))
        obtain rfl:=some_inj h_12
        exact cu
       ·refine h_movb rfl hc_22 wz (h_far pl55_6 rfl 6 rfl wa (h_ldr 0 0 il ft sz3 ag3 rfl rfl (vI e_1.Days) rfl wa ?_))
        obtain ⟨r_23,hr_24,h_12⟩:=bind_some h_12
        refine h_call0 (ref_in_ok hr_24) rfl hb32 rfl rfl rfl rfl wa (h_op (vB (!r_23)) wa rfl (h_op (vB (!r_23)) wz rfl (h_op (vB (!r_23)) wz rfl (h_nil ?_))))
        obtain rfl:=some_inj h_12
        exact cu
   ·rintro ⟨⟩ _ sl_ H_ hp_ hq_
    refine wH_at _ hp_ hq_ ?_
    rcases cond_some hF with⟨hc_25,hF⟩ | ⟨hc_25,hF⟩
    ·refine wH_ift rfl hc_25 (wH_seq (wH_region (h_op (vI 1) wz rfl (h_nil ?_))))
     obtain rfl:=some_inj hF
     exact wH_ret (fin0 (.inr rfl) [(vI 1)] ⟨rfl,trivial⟩ rfl rfl rfl)
    ·refine wH_iff rfl hc_25 (wH_seq (wH_region (h_far pl55_7 rfl 7 rfl wz (h_ldr 0 0 il ft sz22 ag22 rfl rfl (vL eI e_1.Except) rfl wz (h_len un22 rfl wz (h_op (vB (decide ((e_1.Except.length:Int) > 100))) wz rfl (h_op (vB (decide ((e_1.Except.length:Int) > 100))) wz rfl (h_nil ?_))))))))
     rcases cond_some hF with⟨hc_26,hF⟩ | ⟨hc_26,hF⟩
     ·refine wH_ift rfl hc_26 (wH_seq (wH_region (h_op (vI 2) wz rfl (h_nil ?_))))
      obtain rfl:=some_inj hF
      exact wH_ret (fin0 (.inr rfl) [(vI 2)] ⟨rfl,trivial⟩ rfl rfl rfl)
     ·refine wH_iff rfl hc_26 (wH_skip (wH_seq (wH_seq (wH_region (h_far pl55_7 rfl 7 rfl wz (h_ldr 0 0 il ft sz22 ag22 rfl rfl (vL eI e_1.Except) rfl wz (h_len un22 rfl wz (h_op (vI 0) wz rfl (h_nil ?_)))))))))
      obtain ⟨o_35,hj_36,hF⟩:=bind_some hF
      obtain ⟨hn_31,hj_36⟩:=forL_some hj_36
      refine wH_join (β:=(Unit)) (fun (s_32:Unit)=>([(1,(.ref n_2 0 0))]:List (Nat×V))) (fun (s_32:Unit)=>([(n_2,some (.cells 13 [(vS e_1.Key),(vS e_1.Item),(vI e_1.Version),(vI e_1.First),(vI e_1.Last),(vI e_1.Every),(vI e_1.Days),(vL eI e_1.Except),(vI e_1.From),(vI e_1.To),(vI e_1.Prio),(vL eS e_1.Tags),(vB e_1.Gone)]))]:Hp)) (fun p=>o_35 = .go p) ?_ ?_
      ·refine wH_block (wH_loop (β:=Nat×(List Int)×(Unit)) (fun p=>(fun (k_27:Nat) (l_28:List Int) (s_32:Unit)=>([(1,(.ref n_2 0 0)),(52,(vL eI e_1.Except)),(53,(vI (e_1.Except.length:Int))),(54,(vI (k_27:Int)))]:List (Nat×V))) p.1 p.2.1 p.2.2) (fun p=>(fun (k_27:Nat) (l_28:List Int) (s_32:Unit)=>([(n_2,some (.cells 13 [(vS e_1.Key),(vS e_1.Item),(vI e_1.Version),(vI e_1.First),(vI e_1.Last),(vI e_1.Every),(vI e_1.Days),(vL eI e_1.Except),(vI e_1.From),(vI e_1.To),(vI e_1.Prio),(vL eS e_1.Tags),(vB e_1.Gone)]))]:Hp)) p.1 p.2.1 p.2.2) (fun p=>forR (fun k x s=>ref_entryFault_L1 e_1 k x s) p.2.1 p.1 p.2.2=some o_35∧(e_1.Except).drop p.1=p.2.1) (fun p=>p.2.1.length) (0,e_1.Except,()) ⟨hj_36,rfl⟩ rfl (pre_r rfl) ?_)
       rintro ⟨k_27,l_28,s_32⟩ ⟨hL_34,hD_30⟩
       dsimp only at hL_34 hD_30
       cases l_28 with
       | nil =>
        obtain rfl:=some_inj hL_34
        refine wH_seq (wH_region (h_op (vB (decide ((k_27:Int) < (e_1.Except.length:Int)))) wz rfl (h_nil ?_)))
        refine wH_seq (wH_iff rfl (drop_nil hD_30) (wH_exit ?_))
        exact cut_mk (s_32) rfl rfl (pre_r rfl)
       | cons x_29 l_28 =>
        obtain ⟨c_,hc_33,hL_34⟩:=bind_some hL_34
        refine wH_seq (wH_region (h_op (vB (decide ((k_27:Int) < (e_1.Except.length:Int)))) wz rfl (h_nil ?_)))
        refine wH_seq (wH_ift rfl (drop_cons hD_30) (wH_skip ?_))
        unfold ref_entryFault_L1 at hc_33
        refine wH_seq (wH_block (wH_seq (wH_region (h_op (vI (k_27:Int)) wz rfl (h_ia es22 rfl rfl (drop_idx hD_30) rfl wz (h_ldc sz3 ag3 rfl (vI x_29) rfl wz (h_op (vI (k_27:Int)) wz rfl (h_op (vI x_29) wz rfl (h_nil (wH_seq (wH_seq (wH_region (h_op (vI x_29) wz rfl ?_)))))))))))))
        obtain ⟨r_37,hr_38,hc_33⟩:=bind_some hc_33
        refine h_call0 (ref_in_ok hr_38) rfl hb32 rfl rfl rfl rfl wz (h_op (vB (!r_37)) wz rfl (h_nil ?_))
        rcases cond_some hc_33 with⟨hc_39,hc_33⟩ | ⟨hc_39,hc_33⟩
        ·refine wH_ift rfl hc_39 (wH_seq (wH_region (h_op (vI 1) wz rfl (h_nil ?_))))
         obtain rfl:=some_inj hc_33
         obtain rfl:=some_inj hL_34
         obtain rfl:=some_inj hF
         exact wH_ret (fin0 (.inr rfl) [(vI 1)] ⟨rfl,trivial⟩ rfl rfl rfl)
        ·refine wH_iff rfl hc_39 (wH_skip (wH_seq ?_))
         obtain ⟨v_40,h_41,hc_33⟩:=bind_some hc_33
         refine wH_join (β:=Unit) (fun _=>([(1,(.ref n_2 0 0)),(52,(vL eI e_1.Except)),(53,(vI (e_1.Except.length:Int))),(54,(vI (k_27:Int))),(73,(vB v_40))]:List (Nat×V))) (fun _=>([(n_2,some (.cells 13 [(vS e_1.Key),(vS e_1.Item),(vI e_1.Version),(vI e_1.First),(vI e_1.Last),(vI e_1.Every),(vI e_1.Days),(vL eI e_1.Except),(vI e_1.From),(vI e_1.To),(vI e_1.Prio),(vL eS e_1.Tags),(vB e_1.Gone)]))]:Hp)) (fun _=>True) ?_ ?_
         ·refine wH_region (h_op (vI (k_27:Int)) wz rfl (h_op (vB (decide ((k_27:Int) > 0))) wz rfl ?_))
          rcases cond_some h_41 with⟨hc_42,h_41⟩ | ⟨hc_42,h_41⟩
          ·refine h_movb rfl hc_42 wz (h_op (vI x_29) wa rfl (h_far pl55_7 rfl 7 rfl wa (h_ldr 0 0 il ft sz22 ag22 rfl rfl (vL eI e_1.Except) rfl wa (h_op (vI (k_27:Int)) wa rfl (h_op (vI (w64 ((k_27:Int) - 1))) wa rfl ?_)))))
           obtain ⟨y_43,hy_44,h_41⟩:=bind_some h_41
           refine h_ia es22 rfl rfl hy_44 rfl wa (h_ldc sz3 ag3 rfl (vI y_43) rfl wa (h_op (vB (decide (x_29≤y_43))) wa rfl (h_op (vB (decide (x_29≤y_43))) wz rfl (h_nil ?_))))
           obtain rfl:=some_inj h_41
           exact cu
          ·refine h_movb rfl hc_42 wz (h_skip wa (h_skip wa (h_skip wa (h_skip wa (h_skip wa (h_skip wa (h_skip wa (h_skip wa (h_op (vB false) wz rfl (h_nil ?_))))))))))
           obtain rfl:=some_inj h_41
           exact cu
         ·rintro ⟨⟩ _ sl_ H_ hp_ hq_
          refine wH_at _ hp_ hq_ ?_
          rcases cond_some hc_33 with⟨hc_45,hc_33⟩ | ⟨hc_45,hc_33⟩
          ·refine wH_ift rfl hc_45 (wH_seq (wH_region (h_op (vI 7) wz rfl (h_nil ?_))))
           obtain rfl:=some_inj hc_33
           obtain rfl:=some_inj hL_34
           obtain rfl:=some_inj hF
           exact wH_ret (fin0 (.inr rfl) [(vI 7)] ⟨rfl,trivial⟩ rfl rfl rfl)
          ·refine wH_iff rfl hc_45 (wH_skip (wH_region (h_opw (w64_next hD_30 hn_31) wz rfl (h_op (vI ((k_27 + 1:Nat):Int)) wz rfl (h_nil ?_)))))
           obtain rfl:=some_inj hc_33
           exact loop_mk (k_27 + 1,l_28,()) ⟨hL_34,drop_next hD_30⟩ (Nat.lt_succ_self _) rfl (pre_r rfl)
      ·rintro s_32 ho_ sl_ H_ hp_ hq_
       subst ho_
       refine wH_at _ hp_ hq_ (wH_seq (wH_seq ?_))
       obtain ⟨v_46,h_47,hF⟩:=bind_some hF
       refine wH_join (β:=Unit) (fun _=>([(1,(.ref n_2 0 0)),(90,(vB v_46))]:List (Nat×V))) (fun _=>([(n_2,some (.cells 13 [(vS e_1.Key),(vS e_1.Item),(vI e_1.Version),(vI e_1.First),(vI e_1.Last),(vI e_1.Every),(vI e_1.Days),(vL eI e_1.Except),(vI e_1.From),(vI e_1.To),(vI e_1.Prio),(vL eS e_1.Tags),(vB e_1.Gone)]))]:Hp)) (fun _=>True) ?_ ?_
       ·refine wH_region (h_far pl55_8 rfl 8 rfl wz (h_ldr 0 0 il ft sz3 ag3 rfl rfl (vI e_1.From) rfl wz ?_))
        obtain ⟨r_48,hr_49,h_47⟩:=bind_some h_47
        refine h_call0 (ref_in_ok hr_49) rfl hb32 rfl rfl rfl rfl wz (h_op (vB (!r_48)) wz rfl ?_)
        rcases cond_some h_47 with⟨hc_50,h_47⟩ | ⟨hc_50,h_47⟩
        ·refine h_movb rfl hc_50 wz (h_skip wa (h_skip wa (h_skip wa (h_skip wa (h_op (vB true) wz rfl (h_op (vB true) wz rfl (h_skip wa (h_skip wa (h_skip wa (h_skip wa (h_op (vB true) wz rfl (h_nil ?_))))))))))))
         obtain rfl:=some_inj h_47
         exact cu
        ·refine h_movb rfl hc_50 wz (h_far pl55_9 rfl 9 rfl wa (h_ldr 0 0 il ft sz3 ag3 rfl rfl (vI e_1.To) rfl wa ?_))
         obtain ⟨r_51,hr_52,h_47⟩:=bind_some h_47
         refine h_call0 (ref_in_ok hr_52) rfl hb32 rfl rfl rfl rfl wa (h_op (vB (!r_51)) wa rfl (h_op (vB (!r_51)) wz rfl ?_))
         rcases cond_some h_47 with⟨hc_53,h_47⟩ | ⟨hc_53,h_47⟩
         ·refine h_movb rfl hc_53 wz (h_skip wa (h_skip wa (h_skip wa (h_skip wa (h_op (vB true) wz rfl (h_nil ?_))))))
          obtain rfl:=some_inj h_47
          exact cu
         ·refine h_movb rfl hc_53 wz (h_far pl55_10 rfl 10 rfl wa (h_ldr 0 0 il ft sz3 ag3 rfl rfl (vI e_1.Prio) rfl wa ?_))
          obtain ⟨r_54,hr_55,h_47⟩:=bind_some h_47
          refine h_call0 (ref_in_ok hr_55) rfl hb32 rfl rfl rfl rfl wa (h_op (vB (!r_54)) wa rfl (h_op (vB (!r_54)) wz rfl (h_nil ?_)))
          obtain rfl:=some_inj h_47
          exact cu
       ·rintro ⟨⟩ _ sl_ H_ hp_ hq_
        refine wH_at _ hp_ hq_ ?_
        rcases cond_some hF with⟨hc_56,hF⟩ | ⟨hc_56,hF⟩
        ·refine wH_ift rfl hc_56 (wH_seq (wH_region (h_op (vI 1) wz rfl (h_nil ?_))))
         obtain rfl:=some_inj hF
         exact wH_ret (fin0 (.inr rfl) [(vI 1)] ⟨rfl,trivial⟩ rfl rfl rfl)
        ·refine wH_iff rfl hc_56 (wH_skip (wH_seq (wH_region (h_far pl55_11 rfl 11 rfl wz (h_ldr 0 0 il ft sz28 ag28 rfl rfl (vL eS e_1.Tags) rfl wz ?_)))))
         obtain ⟨r_57,hr_58,hF⟩:=bind_some hF
         refine h_call0 (ref_TagsFault_ok hr_58) rfl hb33 rfl rfl rfl rfl wz (h_op (vI r_57) wz rfl (h_nil ?_))
         obtain rfl:=some_inj hF
         exact wH_ret (fin0 (.inr rfl) [(vI r_57)] ⟨rfl,trivial⟩ rfl rfl rfl)
theorem ref_EntriesFault_ok {l_1:(List Entry)} {r:Int} (hF:ref_EntriesFault l_1=some r) :
  FnM Tryz.prog 13 [(vL Entry.enc l_1)] [] (vI r) []:=by
 refine FnM.of_wH ⟨Tryz.prog,28,[],[]⟩ rfl Tryz.func13 rfl rfl (Nat.le_of_ble_eq_true rfl) (by kernel_rfl) ?_
 unfold ref_EntriesFault at hF
 refine wH_seq (wH_region (h_op (vI 0) wz rfl (h_nil (wH_seq (wH_seq (wH_region (h_op (vL Entry.enc l_1) wz rfl (h_len un26 rfl wz (h_op (vB (decide ((l_1.length:Int) > 200))) wz rfl (h_nil ?_))))))))))
 rcases cond_some hF with⟨hc_2,hF⟩ | ⟨hc_2,hF⟩
 ·refine wH_ift rfl hc_2 (wH_seq (wH_region (h_op (vI 2) wz rfl (h_nil ?_))))
  obtain rfl:=some_inj hF
  exact wH_ret (fin0 (.inr rfl) [(vI 2)] ⟨rfl,trivial⟩ rfl rfl rfl)
 ·refine wH_iff rfl hc_2 (wH_skip (wH_seq (wH_region (h_op (vS (⟨#[]⟩:ByteArray)) wz rfl (h_nil (wH_seq (wH_seq (wH_region (h_op (vL Entry.enc l_1) wz rfl (h_len un26 rfl wz (h_op (vI 0) wz rfl (h_nil ?_))))))))))))
  obtain ⟨o_11,hj_12,hF⟩:=bind_some hF
  obtain ⟨hn_7,hj_12⟩:=forL_some hj_12
  refine wH_join (β:=(ByteArray)) (fun (s_8:ByteArray)=>([]:List (Nat×V))) (fun (s_8:ByteArray)=>([]:Hp)) (fun p=>o_11 = .go p) ?_ ?_
  ·refine wH_block (wH_loop (β:=Nat×(List Entry)×(ByteArray)) (fun p=>(fun (k_3:Nat) (l_4:List Entry) (s_8:ByteArray)=>([(3,(vS s_8)),(10,(vL Entry.enc l_1)),(11,(vI (l_1.length:Int))),(12,(vI (k_3:Int)))]:List (Nat×V))) p.1 p.2.1 p.2.2) (fun p=>(fun (k_3:Nat) (l_4:List Entry) (s_8:ByteArray)=>([]:Hp)) p.1 p.2.1 p.2.2) (fun p=>forR (fun k x s=>ref_EntriesFault_L1 k x s) p.2.1 p.1 p.2.2=some o_11∧(l_1).drop p.1=p.2.1) (fun p=>p.2.1.length) (0,l_1,(⟨#[]⟩:ByteArray)) ⟨hj_12,rfl⟩ rfl (pre_r rfl) ?_)
   rintro ⟨k_3,l_4,s_8⟩ ⟨hL_10,hD_6⟩
   dsimp only at hL_10 hD_6
   cases l_4 with
   | nil =>
    obtain rfl:=some_inj hL_10
    refine wH_seq (wH_region (h_op (vB (decide ((k_3:Int) < (l_1.length:Int)))) wz rfl (h_nil ?_)))
    refine wH_seq (wH_iff rfl (drop_nil hD_6) (wH_exit ?_))
    exact cut_mk (s_8) rfl rfl (pre_r rfl)
   | cons x_5 l_4 =>
    obtain ⟨c_,hc_9,hL_10⟩:=bind_some hL_10
    refine wH_seq (wH_region (h_op (vB (decide ((k_3:Int) < (l_1.length:Int)))) wz rfl (h_nil ?_)))
    refine wH_seq (wH_ift rfl (drop_cons hD_6) (wH_skip ?_))
    unfold ref_EntriesFault_L1 at hc_9
    refine wH_seq (wH_block (wH_seq (wH_region (h_ia es26 rfl rfl (drop_idx hD_6) rfl wz (h_ldc sz55 ag55 rfl (.d (.agg (Entry.enc x_5))) rfl wz (h_alloc 0 (.inl rfl) z55 rfl wz (fun n_13=>h_str 0 il ft 0 sz55 rfl rfl [(vS x_5.Key),(vS x_5.Item),(vI x_5.Version),(vI x_5.First),(vI x_5.Last),(vI x_5.Every),(vI x_5.Days),(vL eI x_5.Except),(vI x_5.From),(vI x_5.To),(vI x_5.Prio),(vL eS x_5.Tags),(vB x_5.Gone)] rfl wz (h_nil (wH_seq (wH_seq (wH_region (h_ldr 0 0 il ft sz55 ag55 rfl rfl (.d (.agg (Entry.enc x_5))) rfl wz ?_))))))))))))
    obtain ⟨r_14,hr_15,hc_9⟩:=bind_some hc_9
    refine h_call0 (ref_entryFault_ok hr_15) rfl hb30 rfl rfl rfl rfl wz (h_op (vI r_14) wz rfl (h_nil (wH_seq (wH_region (h_op (vI r_14) wz rfl (h_op (vB (r_14 != 0)) wz rfl (h_nil ?_)))))))
    rcases cond_some hc_9 with⟨hc_16,hc_9⟩ | ⟨hc_16,hc_9⟩
    ·refine wH_ift rfl hc_16 (wH_seq (wH_region (h_op (vI r_14) wz rfl (h_op (vI r_14) wz rfl (h_nil ?_)))))
     obtain rfl:=some_inj hc_9
     obtain rfl:=some_inj hL_10
     obtain rfl:=some_inj hF
     exact wH_ret (fin0 (.inr rfl) [(vI r_14)] ⟨rfl,trivial⟩ rfl rfl rfl)
    ·refine wH_iff rfl hc_16 (wH_skip (wH_seq (wH_seq (wH_region (h_far pl55_0 rfl 0 rfl wz (h_ldr 0 0 il ft sz9 ag9 rfl rfl (vS x_5.Key) rfl wz (h_op (vS s_8) wz rfl (h_op (vB (sLe x_5.Key s_8)) wz rfl (h_nil ?_)))))))))
     rcases cond_some hc_9 with⟨hc_17,hc_9⟩ | ⟨hc_17,hc_9⟩
     ·refine wH_ift rfl hc_17 (wH_seq (wH_region (h_op (vI 7) wz rfl (h_nil ?_))))
      obtain rfl:=some_inj hc_9
      obtain rfl:=some_inj hL_10
      obtain rfl:=some_inj hF
      exact wH_ret (fin0 (.inr rfl) [(vI 7)] ⟨rfl,trivial⟩ rfl rfl rfl)
     ·refine wH_iff rfl hc_17 (wH_skip (wH_region (h_far pl55_0 rfl 0 rfl wz (h_ldr 0 0 il ft sz9 ag9 rfl rfl (vS x_5.Key) rfl wz (h_op (vS x_5.Key) wz rfl (h_nil (wH_region (h_opw (w64_next hD_6 hn_7) wz rfl (h_op (vI ((k_3 + 1:Nat):Int)) wz rfl (h_nil ?_))))))))))
      obtain rfl:=some_inj hc_9
      exact loop_mk (k_3 + 1,l_4,x_5.Key) ⟨hL_10,drop_next hD_6⟩ (Nat.lt_succ_self _) rfl (pre_r rfl)
  ·rintro s_8 ho_ sl_ H_ hp_ hq_
   subst ho_
   refine wH_at _ hp_ hq_ (wH_seq (wH_region (h_op (vI 0) wz rfl (h_nil ?_))))
   obtain rfl:=some_inj hF
   exact wH_ret (fin0 (.inr rfl) [(vI 0)] ⟨rfl,trivial⟩ rfl rfl rfl)
theorem ref_PlayerFault_ok {p_1:Player} {r:Int} (hF:ref_PlayerFault p_1=some r) :
  FnM Tryz.prog 14 [(.d (.agg (Player.enc p_1)))] [] (vI r) []:=by
 refine FnM.of_wH ⟨Tryz.prog,22,[],[]⟩ rfl Tryz.func14 rfl rfl (Nat.le_of_ble_eq_true rfl) (by kernel_rfl) ?_
 unfold ref_PlayerFault at hF
 refine wH_seq (wH_region (h_box 0 (.inl rfl) [(vS p_1.Key),(vS p_1.Screen),(vI p_1.Zone),(vL eS p_1.Tags)] rfl rfl wz (fun n_2=>h_op (vI 0) wz rfl (h_nil (wH_seq (wH_block (wH_seq ?_)))))))
 obtain ⟨v_3,h_4,hF⟩:=bind_some hF
 refine wH_join (β:=Unit) (fun _=>([(1,(.ref n_2 0 0)),(3,(vB v_3))]:List (Nat×V))) (fun _=>([(n_2,some (.cells 4 [(vS p_1.Key),(vS p_1.Screen),(vI p_1.Zone),(vL eS p_1.Tags)]))]:Hp)) (fun _=>True) ?_ ?_
 ·refine wH_region (h_far pl30_0 rfl 0 rfl wz (h_ldr 0 0 il ft sz9 ag9 rfl rfl (vS p_1.Key) rfl wz ?_))
  obtain ⟨r_5,hr_6,h_4⟩:=bind_some h_4
  refine h_call0 (ref_Key_ok hr_6) rfl hb31 rfl rfl rfl rfl wz (h_op (vB (!r_5)) wz rfl ?_)
  rcases cond_some h_4 with⟨hc_7,h_4⟩ | ⟨hc_7,h_4⟩
  ·refine h_movb rfl hc_7 wz (h_skip wa (h_skip wa (h_skip wa (h_skip wa (h_op (vB true) wz rfl (h_op (vB true) wz rfl (h_nil ?_)))))))
   obtain rfl:=some_inj h_4
   exact cu
  ·refine h_movb rfl hc_7 wz (h_far pl30_1 rfl 1 rfl wa (h_ldr 0 0 il ft sz9 ag9 rfl rfl (vS p_1.Screen) rfl wa ?_))
   obtain ⟨r_8,hr_9,h_4⟩:=bind_some h_4
   refine h_call0 (ref_Key_ok hr_9) rfl hb31 rfl rfl rfl rfl wa (h_op (vB (!r_8)) wa rfl (h_op (vB (!r_8)) wz rfl (h_op (vB (!r_8)) wz rfl (h_nil ?_))))
   obtain rfl:=some_inj h_4
   exact cu
 ·rintro ⟨⟩ _ sl_ H_ hp_ hq_
  refine wH_at _ hp_ hq_ ?_
  rcases cond_some hF with⟨hc_10,hF⟩ | ⟨hc_10,hF⟩
  ·refine wH_ift rfl hc_10 (wH_seq (wH_region (h_op (vI 5) wz rfl (h_nil ?_))))
   obtain rfl:=some_inj hF
   exact wH_ret (fin0 (.inr rfl) [(vI 5)] ⟨rfl,trivial⟩ rfl rfl rfl)
  ·refine wH_iff rfl hc_10 (wH_seq (wH_region (h_far pl30_2 rfl 2 rfl wz (h_ldr 0 0 il ft sz3 ag3 rfl rfl (vI p_1.Zone) rfl wz ?_))))
   obtain ⟨r_11,hr_12,hF⟩:=bind_some hF
   refine h_call0 (ref_in_ok hr_12) rfl hb32 rfl rfl rfl rfl wz (h_op (vB (!r_11)) wz rfl (h_op (vB (!r_11)) wz rfl (h_nil ?_)))
   rcases cond_some hF with⟨hc_13,hF⟩ | ⟨hc_13,hF⟩
   ·refine wH_ift rfl hc_13 (wH_seq (wH_region (h_op (vI 1) wz rfl (h_nil ?_))))
    obtain rfl:=some_inj hF
    exact wH_ret (fin0 (.inr rfl) [(vI 1)] ⟨rfl,trivial⟩ rfl rfl rfl)
   ·refine wH_iff rfl hc_13 (wH_skip (wH_seq (wH_region (h_far pl30_3 rfl 3 rfl wz (h_ldr 0 0 il ft sz28 ag28 rfl rfl (vL eS p_1.Tags) rfl wz ?_)))))
    obtain ⟨r_14,hr_15,hF⟩:=bind_some hF
    refine h_call0 (ref_TagsFault_ok hr_15) rfl hb33 rfl rfl rfl rfl wz (h_op (vI r_14) wz rfl (h_nil ?_))
    obtain rfl:=some_inj hF
    exact wH_ret (fin0 (.inr rfl) [(vI r_14)] ⟨rfl,trivial⟩ rfl rfl rfl)
theorem ref_Moment_ok {atv_1:Int} {r:Bool} (hF:ref_Moment atv_1=some r) :
  FnM Tryz.prog 35 [(vI atv_1)] [] (vB r) []:=by
 refine FnM.of_wH ⟨Tryz.prog,5,[],[]⟩ rfl Tryz.func35 rfl rfl (Nat.le_of_ble_eq_true rfl) (by kernel_rfl) ?_
 unfold ref_Moment at hF
 refine wH_seq (wH_region (h_op (vB false) wz rfl (h_nil (wH_seq (wH_region (h_op (vI atv_1) wz rfl ?_))))))
 obtain ⟨r_2,hr_3,hF⟩:=bind_some hF
 refine h_call0 (ref_in_ok hr_3) rfl hb32 rfl rfl rfl rfl wz (h_op (vB r_2) wz rfl (h_nil ?_))
 obtain rfl:=some_inj hF
 exact wH_ret (fin0 (.inr rfl) [(vB r_2)] ⟨rfl,trivial⟩ rfl rfl rfl)
theorem law_when_ok {is_1:Bool} {e_2:Int} {r:Int} (hF:law_when is_1 e_2=some r) :
  FnM Tryz.prog 34 [(vB is_1),(vI e_2)] [] (vI r) []:=by
 refine FnM.of_wH ⟨Tryz.prog,7,[],[]⟩ rfl Tryz.func34 rfl rfl (Nat.le_of_ble_eq_true rfl) (by kernel_rfl) ?_
 unfold law_when at hF
 refine wH_seq (wH_region (h_op (vI 0) wz rfl (h_nil (wH_seq (wH_seq (wH_region (h_op (vB is_1) wz rfl (h_nil ?_))))))))
 rcases cond_some hF with⟨hc_3,hF⟩ | ⟨hc_3,hF⟩
 ·refine wH_ift rfl hc_3 (wH_seq (wH_region (h_op (vI e_2) wz rfl (h_op (vI e_2) wz rfl (h_nil ?_)))))
  obtain rfl:=some_inj hF
  exact wH_ret (fin0 (.inr rfl) [(vI e_2)] ⟨rfl,trivial⟩ rfl rfl rfl)
 ·refine wH_iff rfl hc_3 (wH_skip (wH_seq (wH_region (h_op (vI 0) wz rfl (h_nil ?_)))))
  obtain rfl:=some_inj hF
  exact wH_ret (fin0 (.inr rfl) [(vI 0)] ⟨rfl,trivial⟩ rfl rfl rfl)
theorem law_momentFault_ok {atv_1:Int} {r:Int} (hF:law_momentFault atv_1=some r) :
  FnM Tryz.prog 15 [(vI atv_1)] [] (vI r) []:=by
 refine FnM.of_wH ⟨Tryz.prog,7,[],[]⟩ rfl Tryz.func15 rfl rfl (Nat.le_of_ble_eq_true rfl) (by kernel_rfl) ?_
 unfold law_momentFault at hF
 refine wH_seq (wH_region (h_op (vI 0) wz rfl (h_nil (wH_seq (wH_region (h_op (vI atv_1) wz rfl ?_))))))
 obtain ⟨r_2,hr_3,hF⟩:=bind_some hF
 refine h_call0 (ref_Moment_ok hr_3) rfl hb35 rfl rfl rfl rfl wz (h_op (vB (!r_2)) wz rfl ?_)
 obtain ⟨r_4,hr_5,hF⟩:=bind_some hF
 refine h_call0 (law_when_ok hr_5) rfl hb34 rfl rfl rfl rfl wz (h_op (vI r_4) wz rfl (h_nil ?_))
 obtain rfl:=some_inj hF
 exact wH_ret (fin0 (.inr rfl) [(vI r_4)] ⟨rfl,trivial⟩ rfl rfl rfl)
end Go.Proofs.YtjhcehhmdmbleaaGreat.Law

