/-
 The machine computes these plain functions (written by a program of ours).
-/
import Derived.Test.YtipjpkpmkijdoabFacts
import Derived.Test.YtipjpkpmkijdoabDefs
import Derived.Test.YtipjpkpmkijdoabPf2
open Go Go.Eng Go.Proofs
namespace Go.Proofs.Ytipjpkpmkijdoab.Law
set_option maxRecDepth 100000
set_option linter.unusedVariables false
set_option maxHeartbeats 1000000
theorem booking_suits_ok {c_1:Campaign} {s_2:Spot} {r:Bool} (hF:booking_suits c_1 s_2=some r) :
  FnM Try.prog 34 [(.d (.agg (Campaign.enc c_1))),(.d (.agg (Spot.enc s_2)))] [] (vB r) []:=by
 refine FnM.of_wH ⟨Try.prog,42,[],[]⟩ rfl Try.func34 rfl rfl (Nat.le_of_ble_eq_true rfl) (by kernel_rfl) ?_
 unfold booking_suits at hF
 refine wH_sr (h_box 0 (.inl rfl) (Campaign.v c_1) rfl rfl wz (fun n_3=>h_box 0 (.inl rfl) (Spot.v s_2) rfl rfl wz (fun n_4=>h_opz (vB false) (h_nil (wH_seq (wH_seq ?_))))))
 obtain ⟨v_5,h_6,hF⟩:=bind_some hF
 refine wH_joinU [(2,(.ref n_3 0 0)),(3,(.ref n_4 0 0)),(24,(vB v_5))] [(n_3,some (.cells 8 (Campaign.v c_1))),(n_4,some (.cells 5 (Spot.v s_2)))] ?_ ?_
 ·refine wH_region (h_far pl69_1 rfl 1 rfl wz (h_far pl34_0 rfl 1 rfl wz (h_ldr 0 1 il ft sz3 ag3 rfl rfl (vI s_2.Time.From) rfl wz (h_far pl37_2 rfl 2 rfl wz (h_far pl34_0 rfl 2 rfl wz (h_ldr 0 0 il ft sz3 ag3 rfl rfl (vI c_1.Time.From) rfl wz (h_opz (vB (decide (s_2.Time.From < c_1.Time.From))) ?_)))))))
  rcases cond_some h_6 with⟨hc_7,h_6⟩ | ⟨hc_7,h_6⟩
  ·refine h_movb rfl hc_7 wz (h_skipz (h_skipz (h_skipz (h_skipz (h_skipz (h_skipz (h_skipz (h_opz (vB true) (h_nil ?_)))))))))
   obtain rfl:=some_inj h_6
   exact cu
  ·refine h_movb rfl hc_7 wz (h_far pl69_1 rfl 1 rfl wa (h_far pl34_1 rfl 2 rfl wa (h_ldr 0 1 il ft sz3 ag3 rfl rfl (vI s_2.Time.To) rfl wa (h_far pl37_2 rfl 2 rfl wa (h_far pl34_1 rfl 3 rfl wa (h_ldr 0 0 il ft sz3 ag3 rfl rfl (vI c_1.Time.To) rfl wa (h_op (vB (decide (s_2.Time.To > c_1.Time.To))) wa rfl (h_opz (vB (decide (s_2.Time.To > c_1.Time.To))) (h_nil ?_)))))))))
   obtain rfl:=some_inj h_6
   exact cu
 ·rintro ⟨⟩ _ sl_ H_ hp_ hq_
  refine wH_at _ hp_ hq_ ?_
  rcases cond_some hF with⟨hc_8,hF⟩ | ⟨hc_8,hF⟩
  ·refine wH_ift rfl hc_8 (wH_sr (h_opz (vB false) (h_nil ?_)))
   obtain rfl:=some_inj hF
   exact wH_ret (fin0r [(vB false)] ⟨rfl,trivial⟩)
  ·refine wH_iff rfl hc_8 (wH_skip (wH_seq (wH_sr (h_far pl37_3 rfl 4 rfl wz (h_ldr 0 0 il ft sz35 ag35 rfl rfl (vL eS c_1.Tags) rfl wz (h_len un35 rfl wz (h_opz (vI 0) (h_nil ?_))))))))
   obtain ⟨o_17,hj_18,hF⟩:=bind_some hF
   obtain ⟨hn_13,hj_18⟩:=forL_some hj_18
   refine wH_loopF0 (fun (s_14:Unit) => []) (fun (s_14:Unit) => [(n_3,some (.cells 8 (Campaign.v c_1))),(n_4,some (.cells 5 (Spot.v s_2)))]) (fun (k_9:Nat)=>(fun (s_14:Unit) => [(3,(.ref n_4 0 0)),(26,(vL eS c_1.Tags)),(27,(vI (c_1.Tags.length:Int))),(28,(vI (k_9:Int)))])) (fun k x s=>booking_suits_L1 s_2 k x s) o_17 c_1.Tags () hj_18 rfl (pre_r rfl) ?_ ?_
   ·rintro ⟨k_9,l_10,s_14⟩ ⟨hL_16,hD_12⟩
    dsimp only at hL_16 hD_12
    cases l_10 with
    | nil =>
     obtain rfl:=some_inj hL_16
     refine wH_sr (h_opz (vB (decide ((k_9:Int) < (c_1.Tags.length:Int)))) (h_nil ?_))
     refine wH_seq (wH_iff rfl (drop_nil hD_12) (wH_exit ?_))
     exact cut_mk (s_14) rfl rfl (pre_r rfl)
    | cons x_11 l_10 =>
     obtain ⟨c_,hc_15,hL_16⟩:=bind_some hL_16
     refine wH_sr (h_opz (vB (decide ((k_9:Int) < (c_1.Tags.length:Int)))) (h_nil ?_))
     refine wH_seq (wH_ift rfl (drop_cons hD_12) (wH_skip ?_))
     unfold booking_suits_L1 at hc_15
     refine wH_seq (wH_block (wH_sr (h_ia es35 rfl rfl (drop_idx hD_12) rfl wz (h_ldc sz9 ag9 rfl (vS x_11) rfl wz (h_opz (vS x_11) (h_nil (wH_sr (h_far pl69_3 rfl 4 rfl wz (h_ldr 0 1 il ft sz35 ag35 rfl rfl (vL eS s_2.Tags) rfl wz (h_opz (vS x_11) ?_))))))))))
     obtain ⟨r_19,hr_20,hc_15⟩:=bind_some hc_15
     refine h_call0 (slices_BinarySearch_string_string_ok hr_20) rfl hb58 rfl rfl rfl rfl wz (h_opz (.tup [(vI r_19.1),(vB r_19.2)]) (h_opz (vI r_19.1) (h_opz (vB r_19.2) (h_opz (vI r_19.1) (h_opz (vB r_19.2) (h_nil (wH_sr (h_opz (vB r_19.2) (h_opz (vB (!r_19.2)) (h_nil ?_))))))))))
     rcases cond_some hc_15 with⟨hc_21,hc_15⟩ | ⟨hc_21,hc_15⟩
     ·refine wH_ift rfl hc_21 (wH_sr (h_opz (vB false) (h_nil ?_)))
      obtain rfl:=some_inj hc_15
      obtain rfl:=some_inj hL_16
      obtain rfl:=some_inj hF
      exact wH_ret (fin0r [(vB false)] ⟨rfl,trivial⟩)
     ·refine wH_iff rfl hc_21 (wH_skip (wH_region (h_opw (w64_next hD_12 hn_13) wz rfl (h_opz (vI ((k_9 + 1:Nat):Int)) (h_nil ?_)))))
      obtain rfl:=some_inj hc_15
      exact loop_mk (k_9 + 1,l_10,()) ⟨hL_16,drop_next hD_12⟩ (Nat.lt_succ_self _) rfl (pre_r rfl)
   ·rintro s_14 ho_ sl_ H_ hp_ hq_
    subst ho_
    refine wH_at _ hp_ hq_ (wH_sr (h_opz (vB true) (h_nil ?_)))
    obtain rfl:=some_inj hF
    exact wH_ret (fin0r [(vB true)] ⟨rfl,trivial⟩)
theorem booking_web_spot_ok {wv_1:Web} {k_2:Int} {r:Int} (hF:booking_web_spot wv_1 k_2=some r) :
  FnM Try.prog 69 [(.ref (extN 0) 0 0),(vI k_2)] (gridIn 2 1 eI [(vI wv_1.f_camps)] wv_1.f_can) (vI r) (gridOut 2 1 eI [(vI wv_1.f_camps)] wv_1.f_can):=by
 refine FnM.of_wHg (cs := [(vI wv_1.f_camps)]) ⟨Try.prog,12,[],[]⟩ rfl Try.func69 rfl rfl (Nat.le_of_ble_eq_true rfl) (by kernel_rfl) ?_
 unfold booking_web_spot at hF
 refine wH_sr (h_opz (vI 0) (h_nil (wH_sr (h_opz (.ref (extN 0) 0 0) (h_opz (.ref (extN 0) 0 0) (h_far pl98_1 rfl 1 rfl wz (h_ldr 0 0 il ft sz3 ag3 rfl rfl (vI wv_1.f_camps) rfl wz (h_opz (vI (w64 (2 + wv_1.f_camps))) (h_opz (vI k_2) (h_opz (vI (w64 ((w64 (2 + wv_1.f_camps)) + k_2))) (h_opz (vI (w64 ((w64 (2 + wv_1.f_camps)) + k_2))) (h_nil ?_))))))))))))
 obtain rfl:=some_inj hF
 exact wH_ret (finGr (k:=2) (cs := [(vI wv_1.f_camps)]) (cs' := [(vI wv_1.f_camps)]) (rows:=wv_1.f_can) (rows':=wv_1.f_can) ([]:Hp) (.inr rfl) [(vI (w64 ((w64 (2 + wv_1.f_camps)) + k_2)))] ⟨rfl,trivial⟩ rfl rfl rfl rfl rfl rfl)
theorem booking_newWeb_ok {spots_1:(List Spot)} {l_2:(List Campaign)} {r:Web} (hF:booking_newWeb spots_1 l_2=some r) :
  FnM Try.prog 55 [(vL Spot.enc spots_1),(vL Campaign.enc l_2)] [] (.ref (extN 0) 0 0) (gridOut 2 1 eI [(vI r.f_camps)] r.f_can):=by
 refine FnM.of_wH ⟨Try.prog,110,[],[]⟩ rfl Try.func55 rfl rfl (Nat.le_of_ble_eq_true rfl) (by kernel_rfl) ?_
 unfold booking_newWeb at hF
 refine wH_sr (h_opz (.d .nilp) (h_nil (wH_sr (h_opz (vL Spot.enc spots_1) (h_len un26 rfl wz (h_opz (vI (w64 (2 + (spots_1.length:Int)))) (h_opz (vL Campaign.enc l_2) (h_len un27 rfl wz (h_opz (vI (w64 ((w64 (2 + (spots_1.length:Int))) + (l_2.length:Int)))) (h_opz (vI (w64 ((w64 (2 + (spots_1.length:Int))) + (l_2.length:Int)))) (h_nil (wH_sr (h_opz (vI (w64 ((w64 (2 + (spots_1.length:Int))) + (l_2.length:Int)))) ?_)))))))))))))
 obtain ⟨m_3,hm_4,hF⟩:=bind_some hF
 obtain ⟨_,hz_5,hF⟩:=bind_some hF
 refine h_mkgrid (α:=Int) (enc:=eI) (sz:=1) 0 (.inl rfl) el96 sz22 z22 by22 rfl rfl hm_4 (nzI_ne hz_5) wz (fun n_6 ns_7=>h_opz (vL Campaign.enc l_2) (h_len un27 rfl wz (h_op (.agg [(.vs n_6 1 0 m_3),(vI (l_2.length:Int))]) wz (by kernel_rfl) (h_box 0 (.inl rfl) [(.vs n_6 1 0 m_3),(vI (l_2.length:Int))] rfl rfl wz (fun n_8=>h_ahead (C0:=([(n_6,some (.cells 1 (gCells 1 ns_7 (List.replicate m_3 ([]:List Int)))))]:Hp)) (T:=(gRows 1 eI ns_7 (List.replicate m_3 ([]:List Int)))) (X:=([(n_8,some (.cells 2 [(.vs n_6 1 0 m_3),(vI (l_2.length:Int))]))]:Hp)) (h_opz (.ref n_8 0 0) (h_nil (wH_seq (wH_sr (h_opz (.ref n_8 0 0) (h_opz (.ref n_8 0 0) (h_far pl98_0 rfl 0 rfl wz (h_ldr 0 1 il ft sz96 ag96 rfl rfl (.vs n_6 1 0 m_3) rfl wz (h_lenp un96 rfl wz (h_opz (vI 0) (h_nil ?_))))))))))))))))
 obtain ⟨o_19,hj_20,hF⟩:=bind_some hF
 obtain ⟨hn_13,hj_20⟩:=forL_some hj_20
 refine wH_loopF (σ:=(List (List Int))) (N:=(Nat→Nm)) (fun p=>(fun (s_14:(List (List Int))) (ns_16:(Nat→Nm))=>([(0,(vL Spot.enc spots_1)),(1,(vL Campaign.enc l_2)),(6,(.ref n_8 0 0))]:List (Nat×V))) p.1 p.2) (fun p=>(fun (s_14:(List (List Int))) (ns_16:(Nat→Nm))=>(([(n_6,some (.cells 1 (gCells 1 ns_16 s_14))),(n_8,some (.cells 2 [(.vs n_6 1 0 m_3),(vI (l_2.length:Int))]))]:Hp)++(gRows 1 eI ns_16 s_14))) p.1 p.2) (fun (k_9:Nat)=>(fun p=>(fun (s_14:(List (List Int))) (ns_16:(Nat→Nm))=>([(0,(vL Spot.enc spots_1)),(1,(vL Campaign.enc l_2)),(5,(vI (w64 ((w64 (2 + (spots_1.length:Int))) + (l_2.length:Int))))),(6,(.ref n_8 0 0)),(30,(vI ((m_3:Nat):Int))),(31,(vI (k_9:Int)))]:List (Nat×V))) p.1 p.2)) (fun k x s=>booking_newWeb_L1 spots_1 l_2 m_3 k x s) o_19 (List.range (((m_3:Nat):Int)).toNat) ((List.replicate m_3 ([]:List Int)),ns_7) hj_20 rfl (pre_tl (C1:=([(n_6,some (.cells 1 (gCells 1 ns_7 (List.replicate m_3 ([]:List Int))))),(n_8,some (.cells 2 [(.vs n_6 1 0 m_3),(vI (l_2.length:Int))]))]:Hp)) (T:=(gRows 1 eI ns_7 (List.replicate m_3 ([]:List Int)))) [0,1] (by decide) rfl rfl) ?_ ?_
 ·rintro ⟨k_9,l_10,s_14,ns_16⟩ ⟨hL_18,hD_12⟩
  dsimp only at hL_18 hD_12
  cases l_10 with
  | nil =>
   obtain rfl:=some_inj hL_18
   refine wH_sr (h_opz (vB (decide ((k_9:Int) < ((m_3:Nat):Int)))) (h_nil ?_))
   refine wH_seq (wH_iff rfl (range_nil hD_12) (wH_exit ?_))
   exact cut_mk (s_14,ns_16) rfl rfl (pre_tl (C1:=([(n_6,some (.cells 1 (gCells 1 ns_16 s_14))),(n_8,some (.cells 2 [(.vs n_6 1 0 m_3),(vI (l_2.length:Int))]))]:Hp)) (T:=(gRows 1 eI ns_16 s_14)) [0,1] (by decide) rfl rfl)
  | cons x_11 l_10 =>
   obtain ⟨c_,hc_17,hL_18⟩:=bind_some hL_18
   refine wH_sr (h_opz (vB (decide ((k_9:Int) < ((m_3:Nat):Int)))) (h_nil ?_))
   refine wH_seq (wH_ift rfl (range_cons hD_12) (wH_skip ?_))
   unfold booking_newWeb_L1 at hc_17
   refine wH_seq (wH_block (wH_sr (h_opz (vI (k_9:Int)) (h_opz (vI (k_9:Int)) (h_nil (wH_draws (h_opz (.ref n_8 0 0) (h_opz (.ref n_8 0 0) (h_far pl98_0 rfl 0 rfl wz (h_ldr 3 1 (.inr (by kernel_rfl)) (fun _ _ ag=>trivial) sz96 ag96 rfl rfl (.vs n_6 1 0 m_3) rfl wz (h_opz (vI (k_9:Int)) (h_opz (vI (w64 ((w64 (2 + (spots_1.length:Int))) + (l_2.length:Int)))) ?_))))))))))))
   obtain ⟨m_21,hm_22,hc_17⟩:=bind_some hc_17
   refine h_mkslice (enc:=eI) 6 (.inr (by kernel_rfl)) 0 el22 sz3 z3 by3 rfl rfl (by decide) rfl rfl rfl hm_22 wz (fun n_23=>h_ahead (C0:=([(n_6,some (.cells 1 (gCells 1 ns_16 s_14))),(n_8,some (.cells 2 [(.vs n_6 1 0 m_3),(vI (l_2.length:Int))]))]:Hp)) (T:=(gRows 1 eI ns_16 s_14)) (X:=([(n_23,some (bV 1 eI (List.replicate m_21 (0:Int))))]:Hp)) ?_)
   obtain ⟨_,hi_24,hc_17⟩:=bind_some hc_17
   refine h_iav es96 rfl rfl (inN_0 hi_24) (inN_lt hi_24) wz ?_
   obtain ⟨_,hn_25,hc_17⟩:=bind_some hc_17
   replace hn_25:=neL_ne hn_25
   refine h_re (v':=(gV n_23 1 (List.replicate m_21 (0:Int)))) 40 rfl (vV_gV hn_25) (h_reH 2 rfl (gB_cons hn_25).symm ?_)
   obtain ⟨r_26,hr_27,hc_17⟩:=bind_some hc_17
   refine h_gst 8 0 (.inr (by kernel_rfl)) (fun _ _ ag=>⟨.inr (.inr (by kernel_rfl)),⟨.inr (.inr (by kernel_rfl)),trivial⟩⟩) sz22 rfl rfl rfl (get_lt hr_27) wz (h_eqH (H0:=(([(n_6,some (.cells 1 (gCells 1 (nset ns_16 (0 + ((k_9:Int)).toNat) n_23) (s_14.set (0 + ((k_9:Int)).toNat) (List.replicate m_21 (0:Int)))))),(n_8,some (.cells 2 [(.vs n_6 1 0 m_3),(vI (l_2.length:Int))]))]:Hp) ++ [(n_23,gB 1 eI (List.replicate m_21 (0:Int)))]++(gRows 1 eI ns_16 s_14))) rfl (h_rowin (get_lt hr_27) (h_nil (wH_region (h_opw (w64_nextr hD_12 hn_13) wz rfl (h_opz (vI ((k_9 + 1:Nat):Int)) (h_nil ?_)))))))
   obtain rfl:=some_inj hc_17
   exact loop_mk (k_9 + 1,l_10,(s_14.set (0 + ((k_9:Int)).toNat) (List.replicate m_21 (0:Int))),(nset ns_16 (0 + ((k_9:Int)).toNat) n_23)) ⟨hL_18,drop_next hD_12⟩ (Nat.lt_succ_self _) rfl (pre_tl (C1:=([(n_6,some (.cells 1 (gCells 1 (nset ns_16 (0 + ((k_9:Int)).toNat) n_23) (s_14.set (0 + ((k_9:Int)).toNat) (List.replicate m_21 (0:Int)))))),(n_8,some (.cells 2 [(.vs n_6 1 0 m_3),(vI (l_2.length:Int))]))]:Hp)) (T:=(gRows 1 eI (nset ns_16 (0 + ((k_9:Int)).toNat) n_23) (s_14.set (0 + ((k_9:Int)).toNat) (List.replicate m_21 (0:Int))))) [0,1] (by decide) rfl rfl)
 ·rintro ⟨s_14,ns_16⟩ ho_ sl_ H_ hp_ hq_
  subst ho_
  refine wH_at _ hp_ hq_ (wH_seq (wH_sr (h_opz (vL Campaign.enc l_2) (h_len un27 rfl wz (h_opz (vI 0) (h_nil ?_))))))
  obtain ⟨o_36,hj_37,hF⟩:=bind_some hF
  obtain ⟨hn_32,hj_37⟩:=forL_some hj_37
  refine wH_loopF0 (fun (s_33:(List (List Int))) => [(0,(vL Spot.enc spots_1)),(6,(.ref n_8 0 0))]) (fun (s_33:(List (List Int)))=>(([(n_6,some (.cells 1 (gCells 1 ns_16 s_33))),(n_8,some (.cells 2 [(.vs n_6 1 0 m_3),(vI (l_2.length:Int))]))]:Hp)++(gRows 1 eI ns_16 s_33))) (fun (k_28:Nat)=>(fun (s_33:(List (List Int))) => [(0,(vL Spot.enc spots_1)),(6,(.ref n_8 0 0)),(43,(vL Campaign.enc l_2)),(44,(vI (l_2.length:Int))),(45,(vI (k_28:Int)))])) (fun k x s=>booking_newWeb_L3 m_3 l_2 spots_1 k x s) o_36 l_2 s_14 hj_37 rfl (pre_tl (C1:=([(n_6,some (.cells 1 (gCells 1 ns_16 s_14))),(n_8,some (.cells 2 [(.vs n_6 1 0 m_3),(vI (l_2.length:Int))]))]:Hp)) (T:=(gRows 1 eI ns_16 s_14)) [0,1] (by decide) rfl rfl) ?_ ?_
  ·rintro ⟨k_28,l_29,s_33⟩ ⟨hL_35,hD_31⟩
   dsimp only at hL_35 hD_31
   cases l_29 with
   | nil =>
    obtain rfl:=some_inj hL_35
    refine wH_sr (h_opz (vB (decide ((k_28:Int) < (l_2.length:Int)))) (h_nil ?_))
    refine wH_seq (wH_iff rfl (drop_nil hD_31) (wH_exit ?_))
    exact cut_mk (s_33) rfl rfl (pre_tl (C1:=([(n_6,some (.cells 1 (gCells 1 ns_16 s_33))),(n_8,some (.cells 2 [(.vs n_6 1 0 m_3),(vI (l_2.length:Int))]))]:Hp)) (T:=(gRows 1 eI ns_16 s_33)) [0,1] (by decide) rfl rfl)
   | cons x_30 l_29 =>
    obtain ⟨c_,hc_34,hL_35⟩:=bind_some hL_35
    refine wH_sr (h_opz (vB (decide ((k_28:Int) < (l_2.length:Int)))) (h_nil ?_))
    refine wH_seq (wH_ift rfl (drop_cons hD_31) (wH_skip ?_))
    unfold booking_newWeb_L3 at hc_34
    refine wH_seq (wH_block (wH_sr (h_opz (vI (k_28:Int)) (h_ia es27 rfl rfl (drop_idx hD_31) rfl wz (h_ldc sz37 ag37 rfl (.d (.agg (Campaign.enc x_30))) rfl wz (h_alloc 0 (.inl rfl) z37 rfl wz (fun n_38=>h_ahead (C0:=([(n_6,some (.cells 1 (gCells 1 ns_16 s_33))),(n_8,some (.cells 2 [(.vs n_6 1 0 m_3),(vI (l_2.length:Int))]))]:Hp)) (T:=(gRows 1 eI ns_16 s_33)) (X:=([(n_38,some (.cells 8 [(vS (⟨#[]⟩:ByteArray)),(vS (⟨#[]⟩:ByteArray)),(vI 0),(vI 0),.nil,(vI 0),(vI 0),(vI 0)]))]:Hp)) (h_opz (vI (k_28:Int)) (h_str 0 il ft 2 sz37 rfl rfl (Campaign.v x_30) rfl wz (h_nil (wH_seq (wH_draws (h_opz (.ref n_8 0 0) (h_opz (.ref n_8 0 0) (h_far pl98_0 rfl 0 rfl wz (h_ldr 3 1 (.inr (by kernel_rfl)) (fun _ _ ag=>trivial) sz96 ag96 rfl rfl (.vs n_6 1 0 m_3) rfl wz ?_))))))))))))))))
    obtain ⟨_,hi_39,hc_34⟩:=bind_some hc_34
    refine h_iav es96 rfl rfl (inN_0 hi_39) (inN_lt hi_39) wz ?_
    obtain ⟨r_40,hr_41,hc_34⟩:=bind_some hc_34
    refine h_grow 5 0 (.inr (by kernel_rfl)) (fun _ _ ag=>⟨.inl ⟨rfl,rfl⟩,trivial⟩) sz22 ag22 rfl rfl hr_41 wz (h_opz (.ref n_8 0 0) (h_opz (vI (k_28:Int)) ?_))
    obtain ⟨_,hn_44,hc_34⟩:=bind_some hc_34
    obtain ⟨_,hm_45,hc_34⟩:=bind_some hc_34
    obtain ⟨r_42,hr_43,hc_34⟩:=bind_some hc_34
    refine h_eqH (H0:=(([(n_6,some (.cells 1 (gCells 1 ns_16 s_33))),(n_8,some (.cells 2 [(.vs n_6 1 0 m_3),(vI (l_2.length:Int))])),(n_38,some (.cells 8 (Campaign.v x_30)))]:Hp)++(gRows 1 eI ns_16 s_33))) rfl (h_callGo 8 1 0 (.inr (by kernel_rfl)) (fun _ _ ag=>by exact⟨.inl ⟨rfl,rfl⟩,⟨.inl ⟨rfl,rfl⟩,trivial⟩⟩) (booking_web_camp_ok hr_43) rfl hb68 rfl rfl (by decide) (lenE_eq hm_45) (neR_ne hn_44) rfl (by kernel_rfl) (fun _=>by kernel_rfl) (by kernel_rfl) (by kernel_rfl) wz (h_far pl37_4 rfl 5 rfl wz (h_ldr 10 2 (.inr (by kernel_rfl)) (fun _ _ ag=>⟨.inl ⟨rfl,rfl⟩,⟨.inl ⟨rfl,rfl⟩,⟨.inl ⟨rfl,rfl⟩,trivial⟩⟩⟩) sz3 ag3 rfl rfl (vI x_30.Goal) rfl wz ?_)))
    obtain ⟨_,hi_46,hc_34⟩:=bind_some hc_34
    refine h_iavg es22 rfl rfl (inR_0 hi_46) (inR_lt hi_46) wz ?_
    obtain ⟨r_47,hr_48,hc_34⟩:=bind_some hc_34
    obtain ⟨e_49,hy_50,hc_34⟩:=bind_some hc_34
    refine h_eqH (H0:=(([(n_6,some (.cells 1 (gCells 1 ns_16 s_33))),(n_8,some (.cells 2 [(.vs n_6 1 0 m_3),(vI (l_2.length:Int))])),(n_38,some (.cells 8 (Campaign.v x_30)))]:Hp)++(gRows 1 eI ns_16 s_33))) rfl (h_gwr 12 (.inr (by kernel_rfl)) (fun _ _ ag=>⟨.inr (.inr (by kernel_rfl)),⟨.inr (.inr (by kernel_rfl)),⟨.inr (.inr (by kernel_rfl)),⟨.inr (.inr (by kernel_rfl)),trivial⟩⟩⟩⟩) sz3 rfl hr_48 hy_50 x_30.Goal rfl wz (h_reH (b':=some (.cells 1 (gCells 1 ns_16 (s_33.set (0 + (0:Int).toNat) (r_47.set (0 + (r_42).toNat) x_30.Goal))))) 0 rfl (gBox_wr hr_48) (h_nil (wH_sr (h_opz (vL Spot.enc spots_1) (h_len un26 rfl wz (h_opz (vI 0) (h_nil ?_))))))))
    obtain ⟨o_59,hj_60,hc_34⟩:=bind_some hc_34
    obtain ⟨hn_55,hj_60⟩:=forL_some hj_60
    refine wH_loopF0 (fun (s_56:(List (List Int))) => [(0,(vL Spot.enc spots_1)),(6,(.ref n_8 0 0)),(43,(vL Campaign.enc l_2)),(44,(vI (l_2.length:Int))),(45,(vI (k_28:Int)))]) (fun (s_56:(List (List Int)))=>(([(n_6,some (.cells 1 (gCells 1 ns_16 s_56))),(n_8,some (.cells 2 [(.vs n_6 1 0 m_3),(vI (l_2.length:Int))])),(n_38,some (.cells 8 (Campaign.v x_30)))]:Hp)++(gRows 1 eI ns_16 s_56))) (fun (k_51:Nat)=>(fun (s_56:(List (List Int))) => [(0,(vL Spot.enc spots_1)),(6,(.ref n_8 0 0)),(8,(vI (k_28:Int))),(9,(.ref n_38 0 0)),(43,(vL Campaign.enc l_2)),(44,(vI (l_2.length:Int))),(45,(vI (k_28:Int))),(62,(vL Spot.enc spots_1)),(63,(vI (spots_1.length:Int))),(64,(vI (k_51:Int)))])) (fun k x s=>booking_newWeb_L2 x_30 m_3 l_2 k_28 k x s) o_59 spots_1 (s_33.set (0 + (0:Int).toNat) (r_47.set (0 + (r_42).toNat) x_30.Goal)) hj_60 rfl (pre_tl (C1:=([(n_6,some (.cells 1 (gCells 1 ns_16 (s_33.set (0 + (0:Int).toNat) (r_47.set (0 + (r_42).toNat) x_30.Goal))))),(n_8,some (.cells 2 [(.vs n_6 1 0 m_3),(vI (l_2.length:Int))])),(n_38,some (.cells 8 (Campaign.v x_30)))]:Hp)) (T:=(gRows 1 eI ns_16 (s_33.set (0 + (0:Int).toNat) (r_47.set (0 + (r_42).toNat) x_30.Goal)))) [0,1,2] (by decide) rfl rfl) ?_ ?_
    ·rintro ⟨k_51,l_52,s_56⟩ ⟨hL_58,hD_54⟩
     dsimp only at hL_58 hD_54
     cases l_52 with
     | nil =>
      obtain rfl:=some_inj hL_58
      refine wH_sr (h_opz (vB (decide ((k_51:Int) < (spots_1.length:Int)))) (h_nil ?_))
      refine wH_seq (wH_iff rfl (drop_nil hD_54) (wH_exit ?_))
      exact cut_mk (s_56) rfl rfl (pre_tl (C1:=([(n_6,some (.cells 1 (gCells 1 ns_16 s_56))),(n_8,some (.cells 2 [(.vs n_6 1 0 m_3),(vI (l_2.length:Int))])),(n_38,some (.cells 8 (Campaign.v x_30)))]:Hp)) (T:=(gRows 1 eI ns_16 s_56)) [0,1,2] (by decide) rfl rfl)
     | cons x_53 l_52 =>
      obtain ⟨c_,hc_57,hL_58⟩:=bind_some hL_58
      refine wH_sr (h_opz (vB (decide ((k_51:Int) < (spots_1.length:Int)))) (h_nil ?_))
      refine wH_seq (wH_ift rfl (drop_cons hD_54) (wH_skip ?_))
      unfold booking_newWeb_L2 at hc_57
      refine wH_seq (wH_block (wH_sr (h_opz (vI (k_51:Int)) (h_ia es26 rfl rfl (drop_idx hD_54) rfl wz (h_ldc sz69 ag69 rfl (.d (.agg (Spot.enc x_53))) rfl wz (h_alloc 0 (.inl rfl) z69 rfl wz (fun n_61=>h_ahead (C0:=([(n_6,some (.cells 1 (gCells 1 ns_16 s_56))),(n_8,some (.cells 2 [(.vs n_6 1 0 m_3),(vI (l_2.length:Int))])),(n_38,some (.cells 8 (Campaign.v x_30)))]:Hp)) (T:=(gRows 1 eI ns_16 s_56)) (X:=([(n_61,some (.cells 5 [(vS (⟨#[]⟩:ByteArray)),(vI 0),(vI 0),(vI 0),.nil]))]:Hp)) (h_opz (vI (k_51:Int)) (h_str 0 il ft 3 sz69 rfl rfl (Spot.v x_53) rfl wz (h_nil (wH_sr (h_ldr 0 2 il ft sz37 ag37 rfl rfl (.d (.agg (Campaign.enc x_30))) rfl wz (h_ldr 0 3 il ft sz69 ag69 rfl rfl (.d (.agg (Spot.enc x_53))) rfl wz ?_)))))))))))))
      obtain ⟨r_62,hr_63,hc_57⟩:=bind_some hc_57
      refine h_call0 (booking_suits_ok hr_63) rfl hb34 rfl rfl rfl rfl wz (h_nil ?_)
      obtain ⟨v_64,h_65,hc_57⟩:=bind_some hc_57
      refine wH_joinU [(0,(vL Spot.enc spots_1)),(6,(.ref n_8 0 0)),(8,(vI (k_28:Int))),(9,(.ref n_38 0 0)),(43,(vL Campaign.enc l_2)),(44,(vI (l_2.length:Int))),(45,(vI (k_28:Int))),(62,(vL Spot.enc spots_1)),(63,(vI (spots_1.length:Int))),(64,(vI (k_51:Int)))] (([(n_6,some (.cells 1 (gCells 1 ns_16 v_64))),(n_8,some (.cells 2 [(.vs n_6 1 0 m_3),(vI (l_2.length:Int))])),(n_38,some (.cells 8 (Campaign.v x_30))),(n_61,some (.cells 5 (Spot.v x_53)))]:Hp)++(gRows 1 eI ns_16 v_64)) ?_ ?_
      ·rcases cond_some h_65 with⟨hc_66,h_65⟩ | ⟨hc_66,h_65⟩
       ·refine wH_ift rfl hc_66 (wH_draws (h_opz (.ref n_8 0 0) (h_opz (.ref n_8 0 0) (h_far pl98_0 rfl 0 rfl wz (h_ldr 3 1 (.inr (by kernel_rfl)) (fun _ _ ag=>trivial) sz96 ag96 rfl rfl (.vs n_6 1 0 m_3) rfl wz (h_opz (.ref n_8 0 0) (h_opz (vI (k_28:Int)) ?_)))))))
        obtain ⟨_,hn_69,h_65⟩:=bind_some h_65
        obtain ⟨_,hm_70,h_65⟩:=bind_some h_65
        obtain ⟨r_67,hr_68,h_65⟩:=bind_some h_65
        refine h_eqH (H0:=(([(n_6,some (.cells 1 (gCells 1 ns_16 s_56))),(n_8,some (.cells 2 [(.vs n_6 1 0 m_3),(vI (l_2.length:Int))])),(n_38,some (.cells 8 (Campaign.v x_30))),(n_61,some (.cells 5 (Spot.v x_53)))]:Hp)++(gRows 1 eI ns_16 s_56))) rfl (h_callGo 6 1 0 (.inr (by kernel_rfl)) (fun _ _ ag=>by exact⟨.inl ⟨rfl,rfl⟩,trivial⟩) (booking_web_camp_ok hr_68) rfl hb68 rfl rfl (by decide) (lenE_eq hm_70) (neR_ne hn_69) rfl (by kernel_rfl) (fun _=>by kernel_rfl) (by kernel_rfl) (by kernel_rfl) wz ?_)
        obtain ⟨_,hi_71,h_65⟩:=bind_some h_65
        refine h_iav es96 rfl rfl (inN_0 hi_71) (inN_lt hi_71) wz ?_
        obtain ⟨r_72,hr_73,h_65⟩:=bind_some h_65
        refine h_grow 8 0 (.inr (by kernel_rfl)) (fun _ _ ag=>⟨.inl ⟨rfl,rfl⟩,⟨.inl ⟨rfl,rfl⟩,trivial⟩⟩) sz22 ag22 rfl rfl hr_73 wz (h_opz (.ref n_8 0 0) (h_opz (vI (k_51:Int)) ?_))
        obtain ⟨_,hn_76,h_65⟩:=bind_some h_65
        obtain ⟨_,hm_77,h_65⟩:=bind_some h_65
        obtain ⟨r_74,hr_75,h_65⟩:=bind_some h_65
        refine h_eqH (H0:=(([(n_6,some (.cells 1 (gCells 1 ns_16 s_56))),(n_8,some (.cells 2 [(.vs n_6 1 0 m_3),(vI (l_2.length:Int))])),(n_38,some (.cells 8 (Campaign.v x_30))),(n_61,some (.cells 5 (Spot.v x_53)))]:Hp)++(gRows 1 eI ns_16 s_56))) rfl (h_callGo 11 1 0 (.inr (by kernel_rfl)) (fun _ _ ag=>by exact⟨.inl ⟨rfl,rfl⟩,⟨.inl ⟨rfl,rfl⟩,⟨.inl ⟨rfl,rfl⟩,trivial⟩⟩⟩) (booking_web_spot_ok hr_75) rfl hb69 rfl rfl (by decide) (lenE_eq hm_77) (neR_ne hn_76) rfl (by kernel_rfl) (fun _=>by kernel_rfl) (by kernel_rfl) (by kernel_rfl) wz (h_far pl37_5 rfl 6 rfl wz (h_ldr 13 2 (.inr (by kernel_rfl)) (fun _ _ ag=>⟨.inl ⟨rfl,rfl⟩,⟨.inl ⟨rfl,rfl⟩,⟨.inl ⟨rfl,rfl⟩,⟨.inl ⟨rfl,rfl⟩,trivial⟩⟩⟩⟩) sz3 ag3 rfl rfl (vI x_30.Most) rfl wz ?_)))
        obtain ⟨_,hi_78,h_65⟩:=bind_some h_65
        refine h_iavg es22 rfl rfl (inR_0 hi_78) (inR_lt hi_78) wz ?_
        obtain ⟨r_79,hr_80,h_65⟩:=bind_some h_65
        obtain ⟨e_81,hy_82,h_65⟩:=bind_some h_65
        refine h_eqH (H0:=(([(n_6,some (.cells 1 (gCells 1 ns_16 s_56))),(n_8,some (.cells 2 [(.vs n_6 1 0 m_3),(vI (l_2.length:Int))])),(n_38,some (.cells 8 (Campaign.v x_30))),(n_61,some (.cells 5 (Spot.v x_53)))]:Hp)++(gRows 1 eI ns_16 s_56))) rfl (h_gwr 15 (.inr (by kernel_rfl)) (fun _ _ ag=>⟨.inr (.inr (by kernel_rfl)),⟨.inr (.inr (by kernel_rfl)),⟨.inr (.inr (by kernel_rfl)),⟨.inr (.inr (by kernel_rfl)),⟨.inr (.inr (by kernel_rfl)),trivial⟩⟩⟩⟩⟩) sz3 rfl hr_80 hy_82 x_30.Most rfl wz (h_reH (b':=some (.cells 1 (gCells 1 ns_16 (s_56.set (0 + (r_67).toNat) (r_79.set (0 + (r_74).toNat) x_30.Most))))) 0 rfl (gBox_wr hr_80) (h_nil ?_)))
        obtain rfl:=some_inj h_65
        exact cut_mk () trivial rfl (pre_tl (C1:=([(n_6,some (.cells 1 (gCells 1 ns_16 (s_56.set (0 + (r_67).toNat) (r_79.set (0 + (r_74).toNat) x_30.Most))))),(n_8,some (.cells 2 [(.vs n_6 1 0 m_3),(vI (l_2.length:Int))])),(n_38,some (.cells 8 (Campaign.v x_30))),(n_61,some (.cells 5 (Spot.v x_53)))]:Hp)) (T:=(gRows 1 eI ns_16 (s_56.set (0 + (r_67).toNat) (r_79.set (0 + (r_74).toNat) x_30.Most)))) [0,1,2,3] (by decide) rfl rfl)
       ·refine wH_iff rfl hc_66 (wH_skip ?_)
        obtain rfl:=some_inj h_65
        exact cut_mk () trivial rfl (pre_tl (C1:=([(n_6,some (.cells 1 (gCells 1 ns_16 s_56))),(n_8,some (.cells 2 [(.vs n_6 1 0 m_3),(vI (l_2.length:Int))])),(n_38,some (.cells 8 (Campaign.v x_30))),(n_61,some (.cells 5 (Spot.v x_53)))]:Hp)) (T:=(gRows 1 eI ns_16 s_56)) [0,1,2,3] (by decide) rfl rfl)
      ·rintro ⟨⟩ _ sl_ H_ hp_ hq_
       refine wH_at _ hp_ hq_ (wH_region (h_opw (w64_next hD_54 hn_55) wz rfl (h_opz (vI ((k_51 + 1:Nat):Int)) (h_nil ?_))))
       obtain rfl:=some_inj hc_57
       exact loop_mk (k_51 + 1,l_52,v_64) ⟨hL_58,drop_next hD_54⟩ (Nat.lt_succ_self _) rfl (pre_tl (C1:=([(n_6,some (.cells 1 (gCells 1 ns_16 v_64))),(n_8,some (.cells 2 [(.vs n_6 1 0 m_3),(vI (l_2.length:Int))])),(n_38,some (.cells 8 (Campaign.v x_30))),(n_61,some (.cells 5 (Spot.v x_53)))]:Hp)) (T:=(gRows 1 eI ns_16 v_64)) [0,1,2] (by decide) rfl rfl)
    ·rintro s_56 ho_ sl_ H_ hp_ hq_
     subst ho_
     refine wH_at _ hp_ hq_ (wH_region (h_opw (w64_next hD_31 hn_32) wz rfl (h_opz (vI ((k_28 + 1:Nat):Int)) (h_nil ?_))))
     obtain rfl:=some_inj hc_34
     exact loop_mk (k_28 + 1,l_29,s_56) ⟨hL_35,drop_next hD_31⟩ (Nat.lt_succ_self _) rfl (pre_tl (C1:=([(n_6,some (.cells 1 (gCells 1 ns_16 s_56))),(n_8,some (.cells 2 [(.vs n_6 1 0 m_3),(vI (l_2.length:Int))])),(n_38,some (.cells 8 (Campaign.v x_30)))]:Hp)) (T:=(gRows 1 eI ns_16 s_56)) [0,1] (by decide) rfl rfl)
  ·rintro s_33 ho_ sl_ H_ hp_ hq_
   subst ho_
   refine wH_at _ hp_ hq_ (wH_seq (wH_sr (h_opz (vL Spot.enc spots_1) (h_len un26 rfl wz (h_opz (vI 0) (h_nil ?_))))))
   obtain ⟨o_91,hj_92,hF⟩:=bind_some hF
   obtain ⟨hn_87,hj_92⟩:=forL_some hj_92
   refine wH_loopF0 (fun (s_88:(List (List Int))) => [(6,(.ref n_8 0 0))]) (fun (s_88:(List (List Int)))=>(([(n_6,some (.cells 1 (gCells 1 ns_16 s_88))),(n_8,some (.cells 2 [(.vs n_6 1 0 m_3),(vI (l_2.length:Int))]))]:Hp)++(gRows 1 eI ns_16 s_88))) (fun (k_83:Nat)=>(fun (s_88:(List (List Int))) => [(6,(.ref n_8 0 0)),(89,(vL Spot.enc spots_1)),(90,(vI (spots_1.length:Int))),(91,(vI (k_83:Int)))])) (fun k x s=>booking_newWeb_L4 m_3 l_2 k x s) o_91 spots_1 s_33 hj_92 rfl (pre_tl (C1:=([(n_6,some (.cells 1 (gCells 1 ns_16 s_33))),(n_8,some (.cells 2 [(.vs n_6 1 0 m_3),(vI (l_2.length:Int))]))]:Hp)) (T:=(gRows 1 eI ns_16 s_33)) [0,1] (by decide) rfl rfl) ?_ ?_
   ·rintro ⟨k_83,l_84,s_88⟩ ⟨hL_90,hD_86⟩
    dsimp only at hL_90 hD_86
    cases l_84 with
    | nil =>
     obtain rfl:=some_inj hL_90
     refine wH_sr (h_opz (vB (decide ((k_83:Int) < (spots_1.length:Int)))) (h_nil ?_))
     refine wH_seq (wH_iff rfl (drop_nil hD_86) (wH_exit ?_))
     exact cut_mk (s_88) rfl rfl (pre_tl (C1:=([(n_6,some (.cells 1 (gCells 1 ns_16 s_88))),(n_8,some (.cells 2 [(.vs n_6 1 0 m_3),(vI (l_2.length:Int))]))]:Hp)) (T:=(gRows 1 eI ns_16 s_88)) [0,1] (by decide) rfl rfl)
    | cons x_85 l_84 =>
     obtain ⟨c_,hc_89,hL_90⟩:=bind_some hL_90
     refine wH_sr (h_opz (vB (decide ((k_83:Int) < (spots_1.length:Int)))) (h_nil ?_))
     refine wH_seq (wH_ift rfl (drop_cons hD_86) (wH_skip ?_))
     unfold booking_newWeb_L4 at hc_89
     refine wH_seq (wH_block (wH_sr (h_opz (vI (k_83:Int)) (h_ia es26 rfl rfl (drop_idx hD_86) rfl wz (h_ldc sz69 ag69 rfl (.d (.agg (Spot.enc x_85))) rfl wz (h_alloc 0 (.inl rfl) z69 rfl wz (fun n_93=>h_ahead (C0:=([(n_6,some (.cells 1 (gCells 1 ns_16 s_88))),(n_8,some (.cells 2 [(.vs n_6 1 0 m_3),(vI (l_2.length:Int))]))]:Hp)) (T:=(gRows 1 eI ns_16 s_88)) (X:=([(n_93,some (.cells 5 [(vS (⟨#[]⟩:ByteArray)),(vI 0),(vI 0),(vI 0),.nil]))]:Hp)) (h_opz (vI (k_83:Int)) (h_str 0 il ft 2 sz69 rfl rfl (Spot.v x_85) rfl wz (h_nil (wH_draws (h_opz (.ref n_8 0 0) (h_opz (.ref n_8 0 0) (h_far pl98_0 rfl 0 rfl wz (h_ldr 3 1 (.inr (by kernel_rfl)) (fun _ _ ag=>trivial) sz96 ag96 rfl rfl (.vs n_6 1 0 m_3) rfl wz (h_opz (.ref n_8 0 0) (h_opz (vI (k_83:Int)) ?_)))))))))))))))))
     obtain ⟨_,hn_96,hc_89⟩:=bind_some hc_89
     obtain ⟨_,hm_97,hc_89⟩:=bind_some hc_89
     obtain ⟨r_94,hr_95,hc_89⟩:=bind_some hc_89
     refine h_eqH (H0:=(([(n_6,some (.cells 1 (gCells 1 ns_16 s_88))),(n_8,some (.cells 2 [(.vs n_6 1 0 m_3),(vI (l_2.length:Int))])),(n_93,some (.cells 5 (Spot.v x_85)))]:Hp)++(gRows 1 eI ns_16 s_88))) rfl (h_callGo 6 1 0 (.inr (by kernel_rfl)) (fun _ _ ag=>by exact⟨.inl ⟨rfl,rfl⟩,trivial⟩) (booking_web_spot_ok hr_95) rfl hb69 rfl rfl (by decide) (lenE_eq hm_97) (neR_ne hn_96) rfl (by kernel_rfl) (fun _=>by kernel_rfl) (by kernel_rfl) (by kernel_rfl) wz ?_)
     obtain ⟨_,hi_98,hc_89⟩:=bind_some hc_89
     refine h_iav es96 rfl rfl (inN_0 hi_98) (inN_lt hi_98) wz ?_
     obtain ⟨r_99,hr_100,hc_89⟩:=bind_some hc_89
     refine h_grow 8 0 (.inr (by kernel_rfl)) (fun _ _ ag=>⟨.inl ⟨rfl,rfl⟩,⟨.inl ⟨rfl,rfl⟩,trivial⟩⟩) sz22 ag22 rfl rfl hr_100 wz (h_far pl69_2 rfl 3 rfl wz (h_ldr 10 2 (.inr (by kernel_rfl)) (fun _ _ ag=>⟨.inl ⟨rfl,rfl⟩,⟨.inl ⟨rfl,rfl⟩,⟨.inl ⟨rfl,rfl⟩,trivial⟩⟩⟩) sz3 ag3 rfl rfl (vI x_85.Room) rfl wz ?_))
     obtain ⟨_,hi_101,hc_89⟩:=bind_some hc_89
     refine h_iavg es22 rfl rfl (inR_0 hi_101) (inR_lt hi_101) wz ?_
     obtain ⟨r_102,hr_103,hc_89⟩:=bind_some hc_89
     obtain ⟨e_104,hy_105,hc_89⟩:=bind_some hc_89
     refine h_eqH (H0:=(([(n_6,some (.cells 1 (gCells 1 ns_16 s_88))),(n_8,some (.cells 2 [(.vs n_6 1 0 m_3),(vI (l_2.length:Int))])),(n_93,some (.cells 5 (Spot.v x_85)))]:Hp)++(gRows 1 eI ns_16 s_88))) rfl (h_gwr 12 (.inr (by kernel_rfl)) (fun _ _ ag=>⟨.inr (.inr (by kernel_rfl)),⟨.inr (.inr (by kernel_rfl)),⟨.inr (.inr (by kernel_rfl)),⟨.inr (.inr (by kernel_rfl)),trivial⟩⟩⟩⟩) sz3 rfl hr_103 hy_105 x_85.Room rfl wz (h_reH (b':=some (.cells 1 (gCells 1 ns_16 (s_88.set (0 + (r_94).toNat) (r_102.set (0 + (1:Int).toNat) x_85.Room))))) 0 rfl (gBox_wr hr_103) (h_nil (wH_region (h_opw (w64_next hD_86 hn_87) wz rfl (h_opz (vI ((k_83 + 1:Nat):Int)) (h_nil ?_)))))))
     obtain rfl:=some_inj hc_89
     exact loop_mk (k_83 + 1,l_84,(s_88.set (0 + (r_94).toNat) (r_102.set (0 + (1:Int).toNat) x_85.Room))) ⟨hL_90,drop_next hD_86⟩ (Nat.lt_succ_self _) rfl (pre_tl (C1:=([(n_6,some (.cells 1 (gCells 1 ns_16 (s_88.set (0 + (r_94).toNat) (r_102.set (0 + (1:Int).toNat) x_85.Room))))),(n_8,some (.cells 2 [(.vs n_6 1 0 m_3),(vI (l_2.length:Int))])),(n_93,some (.cells 5 (Spot.v x_85)))]:Hp)) (T:=(gRows 1 eI ns_16 (s_88.set (0 + (r_94).toNat) (r_102.set (0 + (1:Int).toNat) x_85.Room)))) [0,1] (by decide) rfl rfl)
   ·rintro s_88 ho_ sl_ H_ hp_ hq_
    subst ho_
    refine wH_at _ hp_ hq_ (wH_sr (h_opz (.ref n_8 0 0) (h_opz (.ref n_8 0 0) (h_nil ?_))))
    obtain ⟨_,hk_,hF⟩:=bind_some hF
    obtain rfl:=some_inj hF
    exact wH_ret (finGrN 1 0 (.inr rfl) rfl rfl (lenE_eq hk_) (by decide) rfl rfl rfl)
theorem booking_web_way_ok {wv_1:Web} {fromv_2:Int} {tov_3:Int} {r:(List Int)×Bool} (hF:booking_web_way wv_1 fromv_2 tov_3=some r) :
  FnM Try.prog 70 [(.ref (extN 0) 0 0),(vI fromv_2),(vI tov_3)] (gridIn 2 1 eI [(vI wv_1.f_camps)] wv_1.f_can) (.tup [(vL eI r.1),(vB r.2)]) (gridOut 2 1 eI [(vI wv_1.f_camps)] wv_1.f_can):=by
 refine FnM.of_wHg (cs := [(vI wv_1.f_camps)]) ⟨Try.prog,87,[33],[]⟩ rfl Try.func70 rfl rfl (Nat.le_of_ble_eq_true rfl) (by kernel_rfl) ?_
 unfold booking_web_way at hF
 refine wH_sr (h_opz .nil (h_opz (vB false) (h_nil (wH_sr (h_opz (.ref (extN 0) 0 0) (h_opz (.ref (extN 0) 0 0) (h_far pl98_0 rfl 0 rfl wz (h_ldr 0 0 il ft sz96 ag96 rfl rfl (.vs (extN 1) 1 0 wv_1.f_can.length) rfl wz (h_lenp un96 rfl wz ?_)))))))))
 obtain ⟨m_4,hm_5,hF⟩:=bind_some hF
 refine h_mkslice (enc:=eI) 0 (.inl rfl) 0 el22 sz3 z3 by3 rfl rfl (by decide) rfl rfl rfl hm_5 wz (fun n_6=>h_ahead (C0:=([((extN 0),some (.cells 2 [(.vs (extN 1) 1 0 wv_1.f_can.length),(vI wv_1.f_camps)])),((extN 1),some (.cells 1 (gCells 1 ext2 wv_1.f_can)))]:Hp)) (T:=(gRows 1 eI ext2 wv_1.f_can)) (X:=([(n_6,some (bV 1 eI (List.replicate m_4 (0:Int))))]:Hp)) (h_opz (vV n_6 1 (List.replicate m_4 (0:Int))) (h_nil (wH_seq (wH_sr (h_opz (vV n_6 1 (List.replicate m_4 (0:Int))) (h_lenw un22 rfl wz (h_opz (vI 0) (h_nil ?_)))))))))
 obtain ⟨o_15,hj_16,hF⟩:=bind_some hF
 obtain ⟨hn_11,hj_16⟩:=forL_some hj_16
 refine wH_loopF0 (fun (s_12:(List Int)) => [(0,(.ref (extN 0) 0 0)),(1,(vI fromv_2)),(2,(vI tov_3)),(8,(vV n_6 1 s_12))]) (fun (s_12:(List Int))=>(([((extN 0),some (.cells 2 [(.vs (extN 1) 1 0 wv_1.f_can.length),(vI wv_1.f_camps)])),((extN 1),some (.cells 1 (gCells 1 ext2 wv_1.f_can))),(n_6,some (bV 1 eI s_12))]:Hp)++(gRows 1 eI ext2 wv_1.f_can))) (fun (k_7:Nat)=>(fun (s_12:(List Int)) => [(0,(.ref (extN 0) 0 0)),(1,(vI fromv_2)),(2,(vI tov_3)),(8,(vV n_6 1 s_12)),(20,(vI ((List.replicate m_4 (0:Int)).length:Int))),(21,(vI (k_7:Int)))])) (fun k x s=>booking_web_way_L1 k x s) o_15 (List.range (((List.replicate m_4 (0:Int)).length:Int)).toNat) (List.replicate m_4 (0:Int)) hj_16 rfl (pre_tl (C1:=([((extN 0),some (.cells 2 [(.vs (extN 1) 1 0 wv_1.f_can.length),(vI wv_1.f_camps)])),((extN 1),some (.cells 1 (gCells 1 ext2 wv_1.f_can))),(n_6,some (bV 1 eI (List.replicate m_4 (0:Int))))]:Hp)) (T:=(gRows 1 eI ext2 wv_1.f_can)) [0,1,2] (by decide) rfl rfl) ?_ ?_
 ·rintro ⟨k_7,l_8,s_12⟩ ⟨hL_14,hD_10⟩
  dsimp only at hL_14 hD_10
  cases l_8 with
  | nil =>
   obtain rfl:=some_inj hL_14
   refine wH_sr (h_opz (vB (decide ((k_7:Int) < ((List.replicate m_4 (0:Int)).length:Int)))) (h_nil ?_))
   refine wH_seq (wH_iff rfl (range_nil hD_10) (wH_exit ?_))
   exact cut_mk (s_12) rfl rfl (pre_tl (C1:=([((extN 0),some (.cells 2 [(.vs (extN 1) 1 0 wv_1.f_can.length),(vI wv_1.f_camps)])),((extN 1),some (.cells 1 (gCells 1 ext2 wv_1.f_can))),(n_6,some (bV 1 eI s_12))]:Hp)) (T:=(gRows 1 eI ext2 wv_1.f_can)) [0,1,2] (by decide) rfl rfl)
  | cons x_9 l_8 =>
   obtain ⟨c_,hc_13,hL_14⟩:=bind_some hL_14
   refine wH_sr (h_opz (vB (decide ((k_7:Int) < ((List.replicate m_4 (0:Int)).length:Int)))) (h_nil ?_))
   refine wH_seq (wH_ift rfl (range_cons hD_10) (wH_skip ?_))
   unfold booking_web_way_L1 at hc_13
   refine wH_seq (wH_block (wH_sr (h_opz (vI (k_7:Int)) (h_opz (vI (k_7:Int)) (h_nil (wH_region (h_opz (vV n_6 1 s_12) (h_opz (vI (k_7:Int)) ?_))))))))
   obtain ⟨_,hi_17,hc_13⟩:=bind_some hc_13
   refine h_iav es22 rfl rfl (inR_0 hi_17) (inR_lt hi_17) wz ?_
   obtain ⟨e_18,hy_19,hc_13⟩:=bind_some hc_13
   refine h_stv 0 il ft 2 sz3 rfl rfl hy_19 (-1) rfl wz (h_re (v':=(vV n_6 1 (s_12.set (0 + ((k_7:Int)).toNat) (-1)))) 8 rfl (vV_len (by simp)) (h_re (v':=(vV n_6 1 (s_12.set (0 + ((k_7:Int)).toNat) (-1)))) 24 rfl (vV_len (by simp)) (h_nil (wH_region (h_opw (w64_nextr hD_10 hn_11) wz rfl (h_opz (vI ((k_7 + 1:Nat):Int)) (h_nil ?_)))))))
   obtain rfl:=some_inj hc_13
   exact loop_mk (k_7 + 1,l_8,(s_12.set (0 + ((k_7:Int)).toNat) (-1))) ⟨hL_14,drop_next hD_10⟩ (Nat.lt_succ_self _) rfl (pre_tl (C1:=([((extN 0),some (.cells 2 [(.vs (extN 1) 1 0 wv_1.f_can.length),(vI wv_1.f_camps)])),((extN 1),some (.cells 1 (gCells 1 ext2 wv_1.f_can))),(n_6,some (bV 1 eI (s_12.set (0 + ((k_7:Int)).toNat) (-1))))]:Hp)) (T:=(gRows 1 eI ext2 wv_1.f_can)) [0,1,2] (by decide) rfl rfl)
 ·rintro s_12 ho_ sl_ H_ hp_ hq_
  subst ho_
  refine wH_at _ hp_ hq_ (wH_sr (h_opz (vV n_6 1 s_12) (h_opz (vI fromv_2) (h_opz (vI fromv_2) ?_))))
  obtain ⟨_,hi_20,hF⟩:=bind_some hF
  refine h_iav es22 rfl rfl (inR_0 hi_20) (inR_lt hi_20) wz ?_
  obtain ⟨e_21,hy_22,hF⟩:=bind_some hF
  refine h_stv 0 il ft 2 sz3 rfl rfl hy_22 fromv_2 rfl wz (h_re (v':=(vV n_6 1 (s_12.set (0 + (fromv_2).toNat) fromv_2))) 8 rfl (vV_len (by simp)) (h_re (v':=(vV n_6 1 (s_12.set (0 + (fromv_2).toNat) fromv_2))) 28 rfl (vV_len (by simp)) (h_nil (wH_seq (wH_sr (h_opz (vI fromv_2) (h_litv 0 (.inl rfl) (([fromv_2]:List Int).map eI) es22 ez22 rfl rfl rfl rfl rfl wz (fun n_23=>h_ahead (C0:=([((extN 0),some (.cells 2 [(.vs (extN 1) 1 0 wv_1.f_can.length),(vI wv_1.f_camps)])),((extN 1),some (.cells 1 (gCells 1 ext2 wv_1.f_can))),(n_6,some (bV 1 eI (s_12.set (0 + (fromv_2).toNat) fromv_2)))]:Hp)) (T:=(gRows 1 eI ext2 wv_1.f_can)) (X:=([(n_23,some (bV 1 eI ([fromv_2]:List Int)))]:Hp)) (h_opz (vV n_23 1 ([fromv_2]:List Int)) (h_nil ?_))))))))))
  obtain ⟨o_34,hj_35,hF⟩:=bind_some hF
  obtain ⟨nq_90,hj_35⟩:=loopO_iter hj_35
  refine wH_loopI (σ:=(List Int)×(List Int)×Nat) (N:=Nm) (fun p=>(fun (s_29:(List Int)×(List Int)×Nat) (n_31:Nm)=>([(2,(vI tov_3)),(8,(vV n_6 1 s_29.1))]:List (Nat×V))) p.1 p.2) (fun p=>(fun (s_29:(List Int)×(List Int)×Nat) (n_31:Nm)=>(([((extN 0),some (.cells 2 [(.vs (extN 1) 1 0 wv_1.f_can.length),(vI wv_1.f_camps)])),((extN 1),some (.cells 1 (gCells 1 ext2 wv_1.f_can))),(n_6,some (bV 1 eI s_29.1)),(n_31,some (bV 1 eI s_29.2.1))]:Hp)++(gRows 1 eI ext2 wv_1.f_can))) p.1 p.2) (fun (k_24:Nat)=>(fun p=>(fun (s_29:(List Int)×(List Int)×Nat) (n_31:Nm)=>([(0,(.ref (extN 0) 0 0)),(2,(vI tov_3)),(8,(vV n_6 1 s_29.1)),(10,(qV n_31 1 s_29.2.1 s_29.2.2))]:List (Nat×V))) p.1 p.2)) (fun s=>booking_web_way_L3 tov_3 wv_1 s) o_34 nq_90 (((s_12.set (0 + (fromv_2).toNat) fromv_2),([fromv_2]:List Int),0),n_23) hj_35 rfl (pre_tl (C1:=([((extN 0),some (.cells 2 [(.vs (extN 1) 1 0 wv_1.f_can.length),(vI wv_1.f_camps)])),((extN 1),some (.cells 1 (gCells 1 ext2 wv_1.f_can))),(n_6,some (bV 1 eI (s_12.set (0 + (fromv_2).toNat) fromv_2))),(n_23,some (bV 1 eI ([fromv_2]:List Int)))]:Hp)) (T:=(gRows 1 eI ext2 wv_1.f_can)) [0,1,2,3] (by decide) rfl rfl) ?_ ?_
  ·rintro ⟨k_24,s_29,n_31⟩ hL_33
   dsimp only at hL_33
   cases k_24 with
   | zero=>cases hL_33
   | succ k_24 =>
    obtain ⟨c_,hc_32,hL_33⟩:=bind_some hL_33
    unfold booking_web_way_L3 at hc_32
    refine wH_seq (wH_seq ?_)
    obtain ⟨v_36,h_37,hc_32⟩:=bind_some hc_32
    refine wH_joinU [(0,(.ref (extN 0) 0 0)),(2,(vI tov_3)),(8,(vV n_6 1 s_29.1)),(10,(qV n_31 1 s_29.2.1 s_29.2.2)),(43,(vB v_36))] (([((extN 0),some (.cells 2 [(.vs (extN 1) 1 0 wv_1.f_can.length),(vI wv_1.f_camps)])),((extN 1),some (.cells 1 (gCells 1 ext2 wv_1.f_can))),(n_6,some (bV 1 eI s_29.1)),(n_31,some (bV 1 eI s_29.2.1))]:Hp)++(gRows 1 eI ext2 wv_1.f_can)) ?_ ?_
    ·refine wH_region (h_opz (qV n_31 1 s_29.2.1 s_29.2.2) (h_lenp un22 rfl wz (h_opz (vB (decide ((((s_29.2.1.length - s_29.2.2):Nat):Int) > 0))) ?_)))
     rcases cond_some h_37 with⟨hc_38,h_37⟩ | ⟨hc_38,h_37⟩
     ·refine h_movb rfl hc_38 wz (h_op (vV n_6 1 s_29.1) wa rfl (h_op (vI tov_3) wa rfl ?_))
      obtain ⟨_,hi_39,h_37⟩:=bind_some h_37
      refine h_iav es22 rfl rfl (inR_0 hi_39) (inR_lt hi_39) wa ?_
      obtain ⟨e_40,hy_41,h_37⟩:=bind_some h_37
      refine h_ldv 0 2 il ft sz3 ag3 rfl rfl hy_41 (vI e_40) rfl wa (h_op (vB (decide (e_40 < 0))) wa rfl (h_opz (vB (decide (e_40 < 0))) (h_nil ?_)))
      obtain rfl:=some_inj h_37
      exact cut_mk () trivial rfl (pre_tl (C1:=([((extN 0),some (.cells 2 [(.vs (extN 1) 1 0 wv_1.f_can.length),(vI wv_1.f_camps)])),((extN 1),some (.cells 1 (gCells 1 ext2 wv_1.f_can))),(n_6,some (bV 1 eI s_29.1)),(n_31,some (bV 1 eI s_29.2.1))]:Hp)) (T:=(gRows 1 eI ext2 wv_1.f_can)) [0,1,2,3] (by decide) rfl rfl)
     ·refine h_movb rfl hc_38 wz (h_skipz (h_skipz (h_skipz (h_skipz (h_skipz (h_opz (vB false) (h_nil ?_)))))))
      obtain rfl:=some_inj h_37
      exact cut_mk () trivial rfl (pre_tl (C1:=([((extN 0),some (.cells 2 [(.vs (extN 1) 1 0 wv_1.f_can.length),(vI wv_1.f_camps)])),((extN 1),some (.cells 1 (gCells 1 ext2 wv_1.f_can))),(n_6,some (bV 1 eI s_29.1)),(n_31,some (bV 1 eI s_29.2.1))]:Hp)) (T:=(gRows 1 eI ext2 wv_1.f_can)) [0,1,2,3] (by decide) rfl rfl)
    ·rintro ⟨⟩ _ sl_ H_ hp_ hq_
     refine wH_at _ hp_ hq_ ?_
     rcases cond_some hc_32 with⟨hc_42,hc_32⟩ | ⟨hc_42,hc_32⟩
     ·refine wH_ift rfl hc_42 (wH_skip (wH_seq (wH_block (wH_seq (wH_draws (h_opz (.ref (extN 0) 0 0) (h_opz (.ref (extN 0) 0 0) (h_far pl98_0 rfl 0 rfl wz (h_ldr 3 0 (.inr (by kernel_rfl)) (fun _ _ ag=>trivial) sz96 ag96 rfl rfl (.vs (extN 1) 1 0 wv_1.f_can.length) rfl wz (h_opz (qV n_31 1 s_29.2.1 s_29.2.2) ?_))))))))))
      obtain ⟨_,hi_43,hc_32⟩:=bind_some hc_32
      refine h_iav es22 rfl rfl (inN_0 hi_43) (inN_lt hi_43) wz ?_
      obtain ⟨e_44,hy_45,hc_32⟩:=bind_some hc_32
      refine h_ldv 6 3 (.inr (by kernel_rfl)) (fun _ _ ag=>⟨.inl ⟨rfl,rfl⟩,trivial⟩) sz3 ag3 rfl rfl hy_45 (vI e_44) rfl wz ?_
      obtain ⟨_,hi_46,hc_32⟩:=bind_some hc_32
      refine h_iav es96 rfl rfl (inN_0 hi_46) (inN_lt hi_46) wz ?_
      obtain ⟨r_47,hr_48,hc_32⟩:=bind_some hc_32
      refine h_grow 8 1 (.inr (by kernel_rfl)) (fun _ _ ag=>⟨.inl ⟨rfl,rfl⟩,⟨.inl ⟨rfl,rfl⟩,trivial⟩⟩) sz22 ag22 rfl rfl hr_48 wz (h_leng un22 rfl wz (h_opz (vI 0) (h_nil ?_)))
      obtain ⟨o_59,hj_60,hc_32⟩:=bind_some hc_32
      obtain ⟨hn_53,hj_60⟩:=forL_some hj_60
      refine wH_loopF (σ:=(List Int)×(List Int)×Nat) (N:=Nm) (fun p=>(fun (s_54:(List Int)×(List Int)×Nat) (n_56:Nm)=>([(0,(.ref (extN 0) 0 0)),(2,(vI tov_3)),(8,(vV n_6 1 s_54.1)),(10,(qV n_56 1 s_54.2.1 s_54.2.2))]:List (Nat×V))) p.1 p.2) (fun p=>(fun (s_54:(List Int)×(List Int)×Nat) (n_56:Nm)=>(([((extN 0),some (.cells 2 [(.vs (extN 1) 1 0 wv_1.f_can.length),(vI wv_1.f_camps)])),((extN 1),some (.cells 1 (gCells 1 ext2 wv_1.f_can))),(n_6,some (bV 1 eI s_54.1)),(n_56,some (bV 1 eI s_54.2.1))]:Hp)++(gRows 1 eI ext2 wv_1.f_can))) p.1 p.2) (fun (k_49:Nat)=>(fun p=>(fun (s_54:(List Int)×(List Int)×Nat) (n_56:Nm)=>([(0,(.ref (extN 0) 0 0)),(2,(vI tov_3)),(8,(vV n_6 1 s_54.1)),(10,(qV n_56 1 s_54.2.1 s_54.2.2)),(54,(gV (ext2 (0 + (e_44).toNat)) 1 r_47)),(55,(vI (r_47.length:Int))),(56,(vI (k_49:Int)))]:List (Nat×V))) p.1 p.2)) (fun k x s=>booking_web_way_L2 r_47 wv_1 e_44 k x s) o_59 (List.range ((r_47.length:Int)).toNat) ((s_29.1,s_29.2.1,s_29.2.2),n_31) hj_60 rfl (pre_tl (C1:=([((extN 0),some (.cells 2 [(.vs (extN 1) 1 0 wv_1.f_can.length),(vI wv_1.f_camps)])),((extN 1),some (.cells 1 (gCells 1 ext2 wv_1.f_can))),(n_6,some (bV 1 eI s_29.1)),(n_31,some (bV 1 eI s_29.2.1))]:Hp)) (T:=(gRows 1 eI ext2 wv_1.f_can)) [0,1,2,3] (by decide) rfl rfl) ?_ ?_
      ·rintro ⟨k_49,l_50,s_54,n_56⟩ ⟨hL_58,hD_52⟩
       dsimp only at hL_58 hD_52
       cases l_50 with
       | nil =>
        obtain rfl:=some_inj hL_58
        refine wH_sr (h_opz (vB (decide ((k_49:Int) < (r_47.length:Int)))) (h_nil ?_))
        refine wH_seq (wH_iff rfl (range_nil hD_52) (wH_exit ?_))
        exact cut_mk (s_54,n_56) rfl rfl (pre_tl (C1:=([((extN 0),some (.cells 2 [(.vs (extN 1) 1 0 wv_1.f_can.length),(vI wv_1.f_camps)])),((extN 1),some (.cells 1 (gCells 1 ext2 wv_1.f_can))),(n_6,some (bV 1 eI s_54.1)),(n_56,some (bV 1 eI s_54.2.1))]:Hp)) (T:=(gRows 1 eI ext2 wv_1.f_can)) [0,1,2,3] (by decide) rfl rfl)
       | cons x_51 l_50 =>
        obtain ⟨c_,hc_57,hL_58⟩:=bind_some hL_58
        refine wH_sr (h_opz (vB (decide ((k_49:Int) < (r_47.length:Int)))) (h_nil ?_))
        refine wH_seq (wH_ift rfl (range_cons hD_52) (wH_skip ?_))
        unfold booking_web_way_L2 at hc_57
        refine wH_seq (wH_block (wH_sr (h_opz (vI (k_49:Int)) ?_)))
        obtain ⟨_,hi_61,hc_57⟩:=bind_some hc_57
        refine h_iavg es22 rfl rfl (inR_0 hi_61) (inR_lt hi_61) wz ?_
        obtain ⟨r_62,hr_63,hc_57⟩:=bind_some hc_57
        obtain ⟨e_64,hy_65,hc_57⟩:=bind_some hc_57
        refine h_eqH (H0:=(([((extN 0),some (.cells 2 [(.vs (extN 1) 1 0 wv_1.f_can.length),(vI wv_1.f_camps)])),((extN 1),some (.cells 1 (gCells 1 ext2 wv_1.f_can))),(n_6,some (bV 1 eI s_54.1)),(n_56,some (bV 1 eI s_54.2.1))]:Hp)++(gRows 1 eI ext2 wv_1.f_can))) rfl (h_gld 0 il ft sz3 ag3 rfl hr_63 hy_65 (vI e_64) rfl wz (h_opz (vI (k_49:Int)) (h_opz (vI e_64) (h_nil (wH_seq ?_)))))
        obtain ⟨v_66,h_67,hc_57⟩:=bind_some hc_57
        refine wH_joinU [(0,(.ref (extN 0) 0 0)),(2,(vI tov_3)),(8,(vV n_6 1 s_54.1)),(10,(qV n_56 1 s_54.2.1 s_54.2.2)),(11,(vI (k_49:Int))),(54,(gV (ext2 (0 + (e_44).toNat)) 1 r_47)),(55,(vI (r_47.length:Int))),(56,(vI (k_49:Int))),(69,(vB v_66))] (([((extN 0),some (.cells 2 [(.vs (extN 1) 1 0 wv_1.f_can.length),(vI wv_1.f_camps)])),((extN 1),some (.cells 1 (gCells 1 ext2 wv_1.f_can))),(n_6,some (bV 1 eI s_54.1)),(n_56,some (bV 1 eI s_54.2.1))]:Hp)++(gRows 1 eI ext2 wv_1.f_can)) ?_ ?_
        ·refine wH_region (h_opz (vI e_64) (h_opz (vB (decide (e_64 > 0))) ?_))
         rcases cond_some h_67 with⟨hc_68,h_67⟩ | ⟨hc_68,h_67⟩
         ·refine h_movb rfl hc_68 wz (h_op (vV n_6 1 s_54.1) wa rfl (h_op (vI (k_49:Int)) wa rfl ?_))
          obtain ⟨_,hi_69,h_67⟩:=bind_some h_67
          refine h_iav es22 rfl rfl (inR_0 hi_69) (inR_lt hi_69) wa ?_
          obtain ⟨e_70,hy_71,h_67⟩:=bind_some h_67
          refine h_ldv 0 2 il ft sz3 ag3 rfl rfl hy_71 (vI e_70) rfl wa (h_op (vB (decide (e_70 < 0))) wa rfl (h_opz (vB (decide (e_70 < 0))) (h_nil ?_)))
          obtain rfl:=some_inj h_67
          exact cut_mk () trivial rfl (pre_tl (C1:=([((extN 0),some (.cells 2 [(.vs (extN 1) 1 0 wv_1.f_can.length),(vI wv_1.f_camps)])),((extN 1),some (.cells 1 (gCells 1 ext2 wv_1.f_can))),(n_6,some (bV 1 eI s_54.1)),(n_56,some (bV 1 eI s_54.2.1))]:Hp)) (T:=(gRows 1 eI ext2 wv_1.f_can)) [0,1,2,3] (by decide) rfl rfl)
         ·refine h_movb rfl hc_68 wz (h_skipz (h_skipz (h_skipz (h_skipz (h_skipz (h_opz (vB false) (h_nil ?_)))))))
          obtain rfl:=some_inj h_67
          exact cut_mk () trivial rfl (pre_tl (C1:=([((extN 0),some (.cells 2 [(.vs (extN 1) 1 0 wv_1.f_can.length),(vI wv_1.f_camps)])),((extN 1),some (.cells 1 (gCells 1 ext2 wv_1.f_can))),(n_6,some (bV 1 eI s_54.1)),(n_56,some (bV 1 eI s_54.2.1))]:Hp)) (T:=(gRows 1 eI ext2 wv_1.f_can)) [0,1,2,3] (by decide) rfl rfl)
        ·rintro ⟨⟩ _ sl_ H_ hp_ hq_
         refine wH_at _ hp_ hq_ ?_
         obtain ⟨v_72,h_73,hc_57⟩:=bind_some hc_57
         refine wH_join (β:=Nm) (fun (n_74:Nm)=>([(0,(.ref (extN 0) 0 0)),(2,(vI tov_3)),(8,(vV n_6 1 v_72.1)),(10,(qV n_74 1 v_72.2.1 v_72.2.2)),(54,(gV (ext2 (0 + (e_44).toNat)) 1 r_47)),(55,(vI (r_47.length:Int))),(56,(vI (k_49:Int)))]:List (Nat×V))) (fun (n_74:Nm)=>(([((extN 0),some (.cells 2 [(.vs (extN 1) 1 0 wv_1.f_can.length),(vI wv_1.f_camps)])),((extN 1),some (.cells 1 (gCells 1 ext2 wv_1.f_can))),(n_6,some (bV 1 eI v_72.1)),(n_74,some (bV 1 eI v_72.2.1))]:Hp)++(gRows 1 eI ext2 wv_1.f_can))) (fun _=>True) ?_ ?_
         ·rcases cond_some h_73 with⟨hc_75,h_73⟩ | ⟨hc_75,h_73⟩
          ·refine wH_ift rfl hc_75 (wH_sr (h_opz (vV n_6 1 s_54.1) (h_opz (vI (k_49:Int)) (h_opz (qV n_56 1 s_54.2.1 s_54.2.2) ?_))))
           obtain ⟨_,hi_76,h_73⟩:=bind_some h_73
           refine h_iav es22 rfl rfl (inN_0 hi_76) (inN_lt hi_76) wz ?_
           obtain ⟨e_77,hy_78,h_73⟩:=bind_some h_73
           refine h_ldv 0 3 il ft sz3 ag3 rfl rfl hy_78 (vI e_77) rfl wz ?_
           obtain ⟨_,hi_79,h_73⟩:=bind_some h_73
           refine h_iav es22 rfl rfl (inR_0 hi_79) (inR_lt hi_79) wz ?_
           obtain ⟨e_80,hy_81,h_73⟩:=bind_some h_73
           refine h_stv 0 il ft 2 sz3 rfl rfl hy_81 e_77 rfl wz (h_re (v':=(vV n_6 1 (s_54.1.set (0 + ((k_49:Int)).toNat) e_77))) 8 rfl (vV_len (by simp)) (h_re (v':=(vV n_6 1 (s_54.1.set (0 + ((k_49:Int)).toNat) e_77))) 70 rfl (vV_len (by simp)) (h_nil (wH_region (h_opz (qV n_56 1 s_54.2.1 s_54.2.2) (h_opz (vI (k_49:Int)) (h_lit (([(k_49:Int)]:List Int).map eI) es22 ez22 rfl rfl rfl rfl rfl wz ?_)))))))
           obtain ⟨_,hk_85,h_73⟩:=bind_some h_73
           obtain ⟨a_82,hz_83,h_73⟩:=bind_some h_73
           refine h_appq 0 il ft (i:=3) el22 el22 sz3 z3 rfl (by decide) by3 (by decide) (fun _=>rfl) rfl (leN_le hk_85) rfl rfl (List.cons_ne_nil _ _) hz_83 wz (fun n_84=>h_opz (vV n_84 1 a_82) (h_nil ?_))
           obtain rfl:=some_inj h_73
           exact cut_mk n_84 trivial rfl (pre_tl (C1:=([((extN 0),some (.cells 2 [(.vs (extN 1) 1 0 wv_1.f_can.length),(vI wv_1.f_camps)])),((extN 1),some (.cells 1 (gCells 1 ext2 wv_1.f_can))),(n_6,some (bV 1 eI (s_54.1.set (0 + ((k_49:Int)).toNat) e_77))),(n_84,some (bV 1 eI a_82))]:Hp)) (T:=(gRows 1 eI ext2 wv_1.f_can)) [0,1,2,3] (by decide) rfl rfl)
          ·refine wH_iff rfl hc_75 (wH_skip ?_)
           obtain rfl:=some_inj h_73
           exact cut_mk n_56 trivial rfl (pre_tl (C1:=([((extN 0),some (.cells 2 [(.vs (extN 1) 1 0 wv_1.f_can.length),(vI wv_1.f_camps)])),((extN 1),some (.cells 1 (gCells 1 ext2 wv_1.f_can))),(n_6,some (bV 1 eI s_54.1)),(n_56,some (bV 1 eI s_54.2.1))]:Hp)) (T:=(gRows 1 eI ext2 wv_1.f_can)) [0,1,2,3] (by decide) rfl rfl)
         ·rintro n_74 _ sl_ H_ hp_ hq_
          refine wH_at _ hp_ hq_ (wH_region (h_opw (w64_nextr hD_52 hn_53) wz rfl (h_opz (vI ((k_49 + 1:Nat):Int)) (h_nil ?_))))
          obtain rfl:=some_inj hc_57
          exact loop_mk (k_49 + 1,l_50,(v_72.1,v_72.2.1,v_72.2.2),n_74) ⟨hL_58,drop_next hD_52⟩ (Nat.lt_succ_self _) rfl (pre_tl (C1:=([((extN 0),some (.cells 2 [(.vs (extN 1) 1 0 wv_1.f_can.length),(vI wv_1.f_camps)])),((extN 1),some (.cells 1 (gCells 1 ext2 wv_1.f_can))),(n_6,some (bV 1 eI v_72.1)),(n_74,some (bV 1 eI v_72.2.1))]:Hp)) (T:=(gRows 1 eI ext2 wv_1.f_can)) [0,1,2,3] (by decide) rfl rfl)
      ·rintro ⟨s_54,n_56⟩ ho_ sl_ H_ hp_ hq_
       subst ho_
       refine wH_at _ hp_ hq_ (wH_region (h_opz (qV n_56 1 s_54.2.1 s_54.2.2) ?_))
       obtain ⟨_,hl_86,hc_32⟩:=bind_some hc_32
       refine h_qpop (n:=n_56) (xs:=s_54.2.1) (k:=s_54.2.2) un22 sz3 rfl (ltN_lt hl_86) wz (h_opz (qV n_56 1 s_54.2.1 (s_54.2.2 + 1)) (h_nil ?_))
       obtain rfl:=some_inj hc_32
       exact loop_mk (k_24,(s_54.1,s_54.2.1,(s_54.2.2 + 1)),n_56) hL_33 (Nat.lt_succ_self _) rfl (pre_tl (C1:=([((extN 0),some (.cells 2 [(.vs (extN 1) 1 0 wv_1.f_can.length),(vI wv_1.f_camps)])),((extN 1),some (.cells 1 (gCells 1 ext2 wv_1.f_can))),(n_6,some (bV 1 eI s_54.1)),(n_56,some (bV 1 eI s_54.2.1))]:Hp)) (T:=(gRows 1 eI ext2 wv_1.f_can)) [0,1,2,3] (by decide) rfl rfl)
     ·refine wH_iff rfl hc_42 (wH_exit ?_)
      obtain rfl:=some_inj hc_32
      obtain rfl:=some_inj hL_33
      exact cut_mk ((s_29.1,s_29.2.1,s_29.2.2),n_31) rfl rfl (pre_tl (C1:=([((extN 0),some (.cells 2 [(.vs (extN 1) 1 0 wv_1.f_can.length),(vI wv_1.f_camps)])),((extN 1),some (.cells 1 (gCells 1 ext2 wv_1.f_can))),(n_6,some (bV 1 eI s_29.1)),(n_31,some (bV 1 eI s_29.2.1))]:Hp)) (T:=(gRows 1 eI ext2 wv_1.f_can)) [0,1,2,3] (by decide) rfl rfl)
  ·rintro ⟨s_29,n_31⟩ ho_ sl_ H_ hp_ hq_
   subst ho_
   refine wH_at _ hp_ hq_ (wH_seq (wH_draws (h_opz (vV n_6 1 s_29.1) (h_opz (vV n_6 1 s_29.1) (h_opz (vI tov_3) ?_)))))
   obtain ⟨_,hi_87,hF⟩:=bind_some hF
   refine h_iav es22 rfl rfl (inR_0 hi_87) (inR_lt hi_87) wz ?_
   obtain ⟨e_88,hy_89,hF⟩:=bind_some hF
   refine h_ldv 4 2 (.inr (by kernel_rfl)) (fun _ _ ag=>trivial) sz3 ag3 rfl rfl hy_89 (vI e_88) rfl wz (h_opz (vB (decide (e_88≥0))) (h_opz (vV n_6 1 s_29.1) (h_opz (vB (decide (e_88≥0))) (h_nil (wH_froz 2 rfl (wH_co 6 2 rfl rfl (wH_co 8 2 rfl rfl (wH_co 81 2 rfl rfl (wH_co 82 2 rfl rfl ?_)))))))))
   obtain rfl:=some_inj hF
   exact wH_ret (finGr (k:=2) (cs := [(vI wv_1.f_camps)]) (cs' := [(vI wv_1.f_camps)]) (rows:=wv_1.f_can) (rows':=wv_1.f_can) ([(n_6,some (bF 1 eI s_29.1)),(n_31,some (bV 1 eI s_29.2.1))]:Hp) (.inr rfl) [(vL eI s_29.1),(vB (decide (e_88≥0)))] ⟨rfl,⟨rfl,trivial⟩⟩ rfl rfl rfl rfl rfl rfl)
theorem booking_web_flow_ok {wv_1:Web} {fromv_2:Int} {tov_3:Int} {most_4:Int} {r:Int×Web} (hF:booking_web_flow wv_1 fromv_2 tov_3 most_4=some r) :
  FnM Try.prog 56 [(.ref (extN 0) 0 0),(vI fromv_2),(vI tov_3),(vI most_4)] (gridIn 2 1 eI [(vI wv_1.f_camps)] wv_1.f_can) (vI r.1) (gridOut 2 1 eI [(vI r.2.f_camps)] r.2.f_can):=by
 refine FnM.of_wHg (cs := [(vI wv_1.f_camps)]) ⟨Try.prog,97,[],[]⟩ rfl Try.func56 rfl rfl (Nat.le_of_ble_eq_true rfl) (by kernel_rfl) ?_
 unfold booking_web_flow at hF
 refine wH_sr (h_opz (vI 0) (h_nil (wH_sr (h_opz (vI 0) (h_nil (wH_seq ?_))))))
 obtain ⟨o_13,hj_14,hF⟩:=bind_some hF
 obtain ⟨nq_89,hj_14⟩:=loopO_iter hj_14
 refine wH_loopI0 (fun (s_10:(List (List Int))×Int) => [(9,(vI s_10.2))]) (fun (s_10:(List (List Int))×Int)=>(([((extN 0),some (.cells 2 [(.vs (extN 1) 1 0 wv_1.f_can.length),(vI wv_1.f_camps)])),((extN 1),some (.cells 1 (gCells 1 ext2 s_10.1)))]:Hp)++(gRows 1 eI ext2 s_10.1))) (fun (k_5:Nat)=>(fun (s_10:(List (List Int))×Int) => [(0,(.ref (extN 0) 0 0)),(1,(vI fromv_2)),(2,(vI tov_3)),(3,(vI most_4)),(9,(vI s_10.2))])) (fun s=>booking_web_flow_L3 most_4 wv_1 fromv_2 tov_3 s) o_13 nq_89 (wv_1.f_can,0) hj_14 rfl (pre_tl (C1:=([((extN 0),some (.cells 2 [(.vs (extN 1) 1 0 wv_1.f_can.length),(vI wv_1.f_camps)])),((extN 1),some (.cells 1 (gCells 1 ext2 wv_1.f_can)))]:Hp)) (T:=(gRows 1 eI ext2 wv_1.f_can)) [0,1] (by decide) rfl rfl) ?_ ?_
 ·rintro ⟨k_5,s_10⟩ hL_12
  dsimp only at hL_12
  cases k_5 with
  | zero=>cases hL_12
  | succ k_5 =>
   obtain ⟨c_,hc_11,hL_12⟩:=bind_some hL_12
   unfold booking_web_flow_L3 at hc_11
   refine wH_seq (wH_sr (h_opz (vI s_10.2) (h_opz (vI most_4) (h_opz (vB (decide (s_10.2 < most_4))) (h_nil ?_)))))
   rcases cond_some hc_11 with⟨hc_15,hc_11⟩ | ⟨hc_15,hc_11⟩
   ·refine wH_ift rfl hc_15 (wH_skip (wH_block (wH_sr (h_opz (.ref (extN 0) 0 0) (h_opz (vI fromv_2) (h_opz (vI tov_3) ?_))))))
    obtain ⟨_,hn_18,hc_11⟩:=bind_some hc_11
    obtain ⟨_,hm_19,hc_11⟩:=bind_some hc_11
    obtain ⟨r_16,hr_17,hc_11⟩:=bind_some hc_11
    refine h_eqH (H0:=(([((extN 0),some (.cells 2 [(.vs (extN 1) 1 0 wv_1.f_can.length),(vI wv_1.f_camps)])),((extN 1),some (.cells 1 (gCells 1 ext2 s_10.1)))]:Hp)++(gRows 1 eI ext2 s_10.1))) rfl (h_callGo 0 0 1 il ft (booking_web_way_ok hr_17) rfl hb70 rfl rfl (by decide) (lenE_eq hm_19) (neR_ne hn_18) rfl (by kernel_rfl) (fun _=>by kernel_rfl) (by kernel_rfl) (by kernel_rfl) wz (h_opz (.tup [(vL eI r_16.1),(vB r_16.2)]) (h_opz (vL eI r_16.1) (h_opz (vB r_16.2) (h_opz (vL eI r_16.1) (h_opz (vB r_16.2) (h_nil (wH_seq (wH_sr (h_opz (vB r_16.2) (h_opz (vB (!r_16.2)) (h_nil ?_))))))))))))
    rcases cond_some hc_11 with⟨hc_20,hc_11⟩ | ⟨hc_20,hc_11⟩
    ·refine wH_ift rfl hc_20 (wH_exit ?_)
     obtain rfl:=some_inj hc_11
     obtain rfl:=some_inj hL_12
     exact cut_mk ((s_10.1,s_10.2)) rfl rfl (pre_tl (C1:=([((extN 0),some (.cells 2 [(.vs (extN 1) 1 0 wv_1.f_can.length),(vI wv_1.f_camps)])),((extN 1),some (.cells 1 (gCells 1 ext2 s_10.1)))]:Hp)) (T:=(gRows 1 eI ext2 s_10.1)) [0,1] (by decide) rfl rfl)
    ·refine wH_iff rfl hc_20 (wH_skip (wH_sr (h_opz (vI most_4) (h_opz (vI s_10.2) (h_opz (vI (w64 (most_4 - s_10.2))) (h_opz (vI (w64 (most_4 - s_10.2))) (h_nil (wH_seq (wH_sr (h_opz (vI tov_3) (h_opz (vI tov_3) (h_nil ?_))))))))))))
     obtain ⟨o_29,hj_30,hc_11⟩:=bind_some hc_11
     obtain ⟨nq_88,hj_30⟩:=loopO_iter hj_30
     refine wH_loopI0 (fun (s_26:Int×Int) => [(0,(.ref (extN 0) 0 0)),(1,(vI fromv_2)),(2,(vI tov_3)),(3,(vI most_4)),(9,(vI s_10.2)),(10,(vL eI r_16.1)),(12,(vI s_26.1))]) (fun (s_26:Int×Int)=>(([((extN 0),some (.cells 2 [(.vs (extN 1) 1 0 wv_1.f_can.length),(vI wv_1.f_camps)])),((extN 1),some (.cells 1 (gCells 1 ext2 s_10.1)))]:Hp)++(gRows 1 eI ext2 s_10.1))) (fun (k_21:Nat)=>(fun (s_26:Int×Int) => [(0,(.ref (extN 0) 0 0)),(1,(vI fromv_2)),(2,(vI tov_3)),(3,(vI most_4)),(9,(vI s_10.2)),(10,(vL eI r_16.1)),(12,(vI s_26.1)),(13,(vI s_26.2))])) (fun s=>booking_web_flow_L1 fromv_2 r_16 wv_1 s_10 s) o_29 nq_88 ((w64 (most_4 - s_10.2)),tov_3) hj_30 rfl (pre_tl (C1:=([((extN 0),some (.cells 2 [(.vs (extN 1) 1 0 wv_1.f_can.length),(vI wv_1.f_camps)])),((extN 1),some (.cells 1 (gCells 1 ext2 s_10.1)))]:Hp)) (T:=(gRows 1 eI ext2 s_10.1)) [0,1] (by decide) rfl rfl) ?_ ?_
     ·rintro ⟨k_21,s_26⟩ hL_28
      dsimp only at hL_28
      cases k_21 with
      | zero=>cases hL_28
      | succ k_21 =>
       obtain ⟨c_,hc_27,hL_28⟩:=bind_some hL_28
       unfold booking_web_flow_L1 at hc_27
       refine wH_seq (wH_sr (h_opz (vI s_26.2) (h_opz (vI fromv_2) (h_opz (vB (s_26.2 != fromv_2)) (h_nil ?_)))))
       rcases cond_some hc_27 with⟨hc_31,hc_27⟩ | ⟨hc_31,hc_27⟩
       ·refine wH_ift rfl hc_31 (wH_skip (wH_seq (wH_block (wH_draws (h_opz (vI s_26.1) (h_opz (.ref (extN 0) 0 0) (h_opz (.ref (extN 0) 0 0) (h_far pl98_0 rfl 0 rfl wz (h_ldr 4 0 (.inr (by kernel_rfl)) (fun _ _ ag=>trivial) sz96 ag96 rfl rfl (.vs (extN 1) 1 0 wv_1.f_can.length) rfl wz (h_opz (vL eI r_16.1) (h_opz (vI s_26.2) ?_)))))))))))
        obtain ⟨y_32,hy_33,hc_27⟩:=bind_some hc_27
        refine h_ia es22 rfl rfl hy_33 rfl wz (h_ldc sz3 ag3 rfl (vI y_32) rfl wz ?_)
        obtain ⟨_,hi_34,hc_27⟩:=bind_some hc_27
        refine h_iav es96 rfl rfl (inN_0 hi_34) (inN_lt hi_34) wz ?_
        obtain ⟨r_35,hr_36,hc_27⟩:=bind_some hc_27
        refine h_grow 10 1 (.inr (by kernel_rfl)) (fun _ _ ag=>⟨.inl ⟨rfl,rfl⟩,trivial⟩) sz22 ag22 rfl rfl hr_36 wz (h_opz (vI s_26.2) ?_)
        obtain ⟨_,hi_37,hc_27⟩:=bind_some hc_27
        refine h_iavg es22 rfl rfl (inR_0 hi_37) (inR_lt hi_37) wz ?_
        obtain ⟨r_38,hr_39,hc_27⟩:=bind_some hc_27
        obtain ⟨e_40,hy_41,hc_27⟩:=bind_some hc_27
        refine h_eqH (H0:=(([((extN 0),some (.cells 2 [(.vs (extN 1) 1 0 wv_1.f_can.length),(vI wv_1.f_camps)])),((extN 1),some (.cells 1 (gCells 1 ext2 s_10.1)))]:Hp)++(gRows 1 eI ext2 s_10.1))) rfl (h_gld 13 (.inr (by kernel_rfl)) (fun _ _ ag=>⟨.inl ⟨rfl,rfl⟩,⟨.inl ⟨rfl,rfl⟩,trivial⟩⟩) sz3 ag3 rfl hr_39 hy_41 (vI e_40) rfl wz (h_minmax (vI (minI s_26.1 e_40)) rfl (.inl rfl) wz (h_opz (vI (minI s_26.1 e_40)) (h_nil (wH_region (h_opz (vL eI r_16.1) (h_opz (vI s_26.2) ?_)))))))
        obtain ⟨y_42,hy_43,hc_27⟩:=bind_some hc_27
        refine h_ia es22 rfl rfl hy_43 rfl wz (h_ldc sz3 ag3 rfl (vI y_42) rfl wz (h_opz (vI y_42) (h_nil ?_)))
        obtain rfl:=some_inj hc_27
        exact loop_mk (k_21,((minI s_26.1 e_40),y_42)) hL_28 (Nat.lt_succ_self _) rfl (pre_tl (C1:=([((extN 0),some (.cells 2 [(.vs (extN 1) 1 0 wv_1.f_can.length),(vI wv_1.f_camps)])),((extN 1),some (.cells 1 (gCells 1 ext2 s_10.1)))]:Hp)) (T:=(gRows 1 eI ext2 s_10.1)) [0,1] (by decide) rfl rfl)
       ·refine wH_iff rfl hc_31 (wH_exit ?_)
        obtain rfl:=some_inj hc_27
        obtain rfl:=some_inj hL_28
        exact cut_mk ((s_26.1,s_26.2)) rfl rfl (pre_tl (C1:=([((extN 0),some (.cells 2 [(.vs (extN 1) 1 0 wv_1.f_can.length),(vI wv_1.f_camps)])),((extN 1),some (.cells 1 (gCells 1 ext2 s_10.1)))]:Hp)) (T:=(gRows 1 eI ext2 s_10.1)) [0,1] (by decide) rfl rfl)
     ·rintro s_26 ho_ sl_ H_ hp_ hq_
      subst ho_
      refine wH_at _ hp_ hq_ (wH_seq (wH_sr (h_opz (vI tov_3) (h_opz (vI tov_3) (h_nil ?_)))))
      obtain ⟨o_52,hj_53,hc_11⟩:=bind_some hc_11
      obtain ⟨nq_87,hj_53⟩:=loopO_iter hj_53
      refine wH_loopI0 (fun (s_49:(List (List Int))×Int) => [(0,(.ref (extN 0) 0 0)),(1,(vI fromv_2)),(2,(vI tov_3)),(3,(vI most_4)),(9,(vI s_10.2)),(12,(vI s_26.1))]) (fun (s_49:(List (List Int))×Int)=>(([((extN 0),some (.cells 2 [(.vs (extN 1) 1 0 wv_1.f_can.length),(vI wv_1.f_camps)])),((extN 1),some (.cells 1 (gCells 1 ext2 s_49.1)))]:Hp)++(gRows 1 eI ext2 s_49.1))) (fun (k_44:Nat)=>(fun (s_49:(List (List Int))×Int) => [(0,(.ref (extN 0) 0 0)),(1,(vI fromv_2)),(2,(vI tov_3)),(3,(vI most_4)),(9,(vI s_10.2)),(10,(vL eI r_16.1)),(12,(vI s_26.1)),(14,(vI s_49.2))])) (fun s=>booking_web_flow_L2 fromv_2 r_16 wv_1 s_26 s) o_52 nq_87 (s_10.1,tov_3) hj_53 rfl (pre_tl (C1:=([((extN 0),some (.cells 2 [(.vs (extN 1) 1 0 wv_1.f_can.length),(vI wv_1.f_camps)])),((extN 1),some (.cells 1 (gCells 1 ext2 s_10.1)))]:Hp)) (T:=(gRows 1 eI ext2 s_10.1)) [0,1] (by decide) rfl rfl) ?_ ?_
      ·rintro ⟨k_44,s_49⟩ hL_51
       dsimp only at hL_51
       cases k_44 with
       | zero=>cases hL_51
       | succ k_44 =>
        obtain ⟨c_,hc_50,hL_51⟩:=bind_some hL_51
        unfold booking_web_flow_L2 at hc_50
        refine wH_seq (wH_sr (h_opz (vI s_49.2) (h_opz (vI fromv_2) (h_opz (vB (s_49.2 != fromv_2)) (h_nil ?_)))))
        rcases cond_some hc_50 with⟨hc_54,hc_50⟩ | ⟨hc_54,hc_50⟩
        ·refine wH_ift rfl hc_54 (wH_skip (wH_seq (wH_block (wH_seq (wH_draws (h_opz (.ref (extN 0) 0 0) (h_opz (.ref (extN 0) 0 0) (h_far pl98_0 rfl 0 rfl wz (h_ldr 3 0 (.inr (by kernel_rfl)) (fun _ _ ag=>trivial) sz96 ag96 rfl rfl (.vs (extN 1) 1 0 wv_1.f_can.length) rfl wz (h_opz (vL eI r_16.1) (h_opz (vI s_49.2) ?_)))))))))))
         obtain ⟨y_55,hy_56,hc_50⟩:=bind_some hc_50
         refine h_ia es22 rfl rfl hy_56 rfl wz (h_ldc sz3 ag3 rfl (vI y_55) rfl wz ?_)
         obtain ⟨_,hi_57,hc_50⟩:=bind_some hc_50
         refine h_iav es96 rfl rfl (inN_0 hi_57) (inN_lt hi_57) wz ?_
         obtain ⟨r_58,hr_59,hc_50⟩:=bind_some hc_50
         refine h_grow 9 1 (.inr (by kernel_rfl)) (fun _ _ ag=>⟨.inl ⟨rfl,rfl⟩,trivial⟩) sz22 ag22 rfl rfl hr_59 wz (h_opz (vI s_49.2) ?_)
         obtain ⟨_,hi_60,hc_50⟩:=bind_some hc_50
         refine h_iavg es22 rfl rfl (inR_0 hi_60) (inR_lt hi_60) wz ?_
         obtain ⟨r_61,hr_62,hc_50⟩:=bind_some hc_50
         obtain ⟨e_63,hy_64,hc_50⟩:=bind_some hc_50
         refine h_eqH (H0:=(([((extN 0),some (.cells 2 [(.vs (extN 1) 1 0 wv_1.f_can.length),(vI wv_1.f_camps)])),((extN 1),some (.cells 1 (gCells 1 ext2 s_49.1)))]:Hp)++(gRows 1 eI ext2 s_49.1))) rfl (h_gld 12 (.inr (by kernel_rfl)) (fun _ _ ag=>⟨.inl ⟨rfl,rfl⟩,⟨.inl ⟨rfl,rfl⟩,trivial⟩⟩) sz3 ag3 rfl hr_62 hy_64 (vI e_63) rfl wz (h_opz (vI s_26.1) (h_opz (vI (w64 (e_63 - s_26.1))) ?_)))
         obtain ⟨_,hi_65,hc_50⟩:=bind_some hc_50
         refine h_iavg es22 rfl rfl (inR_0 hi_65) (inR_lt hi_65) wz ?_
         obtain ⟨r_66,hr_67,hc_50⟩:=bind_some hc_50
         obtain ⟨e_68,hy_69,hc_50⟩:=bind_some hc_50
         refine h_eqH (H0:=(([((extN 0),some (.cells 2 [(.vs (extN 1) 1 0 wv_1.f_can.length),(vI wv_1.f_camps)])),((extN 1),some (.cells 1 (gCells 1 ext2 s_49.1)))]:Hp)++(gRows 1 eI ext2 s_49.1))) rfl (h_gwr 16 (.inr (by kernel_rfl)) (fun _ _ ag=>⟨.inr (.inr (by kernel_rfl)),⟨.inr (.inr (by kernel_rfl)),⟨.inr (.inr (by kernel_rfl)),trivial⟩⟩⟩) sz3 rfl hr_67 hy_69 (w64 (e_63 - s_26.1)) rfl wz (h_reH (b':=some (.cells 1 (gCells 1 ext2 (s_49.1.set (0 + (y_55).toNat) (r_66.set (0 + (s_49.2).toNat) (w64 (e_63 - s_26.1))))))) 1 rfl (gBox_wr hr_67) (h_nil (wH_draws (h_opz (.ref (extN 0) 0 0) (h_opz (.ref (extN 0) 0 0) (h_far pl98_0 rfl 0 rfl wz (h_ldr 3 0 (.inr (by kernel_rfl)) (fun _ _ ag=>trivial) sz96 ag96 rfl rfl (.vs (extN 1) 1 0 wv_1.f_can.length) rfl wz (h_opz (vI s_49.2) ?_)))))))))
         obtain ⟨_,hi_70,hc_50⟩:=bind_some hc_50
         refine h_iav es96 rfl rfl (inN_0 hi_70) (inN_lt hi_70) wz ?_
         obtain ⟨r_71,hr_72,hc_50⟩:=bind_some hc_50
         refine h_grow 6 1 (.inr (by kernel_rfl)) (fun _ _ ag=>⟨.inl ⟨rfl,rfl⟩,trivial⟩) sz22 ag22 rfl rfl hr_72 wz (h_opz (vL eI r_16.1) (h_opz (vI s_49.2) ?_))
         obtain ⟨y_73,hy_74,hc_50⟩:=bind_some hc_50
         refine h_ia es22 rfl rfl hy_74 rfl wz (h_ldc sz3 ag3 rfl (vI y_73) rfl wz ?_)
         obtain ⟨_,hi_75,hc_50⟩:=bind_some hc_50
         refine h_iavg es22 rfl rfl (inR_0 hi_75) (inR_lt hi_75) wz ?_
         obtain ⟨r_76,hr_77,hc_50⟩:=bind_some hc_50
         obtain ⟨e_78,hy_79,hc_50⟩:=bind_some hc_50
         refine h_eqH (H0:=(([((extN 0),some (.cells 2 [(.vs (extN 1) 1 0 wv_1.f_can.length),(vI wv_1.f_camps)])),((extN 1),some (.cells 1 (gCells 1 ext2 (s_49.1.set (0 + (y_55).toNat) (r_66.set (0 + (s_49.2).toNat) (w64 (e_63 - s_26.1)))))))]:Hp)++(gRows 1 eI ext2 (s_49.1.set (0 + (y_55).toNat) (r_66.set (0 + (s_49.2).toNat) (w64 (e_63 - s_26.1))))))) rfl (h_gld 12 (.inr (by kernel_rfl)) (fun _ _ ag=>⟨.inl ⟨rfl,rfl⟩,⟨.inl ⟨rfl,rfl⟩,trivial⟩⟩) sz3 ag3 rfl hr_77 hy_79 (vI e_78) rfl wz (h_opz (vI s_26.1) (h_opz (vI (w64 (e_78 + s_26.1))) ?_)))
         obtain ⟨_,hi_80,hc_50⟩:=bind_some hc_50
         refine h_iavg es22 rfl rfl (inR_0 hi_80) (inR_lt hi_80) wz ?_
         obtain ⟨r_81,hr_82,hc_50⟩:=bind_some hc_50
         obtain ⟨e_83,hy_84,hc_50⟩:=bind_some hc_50
         refine h_eqH (H0:=(([((extN 0),some (.cells 2 [(.vs (extN 1) 1 0 wv_1.f_can.length),(vI wv_1.f_camps)])),((extN 1),some (.cells 1 (gCells 1 ext2 (s_49.1.set (0 + (y_55).toNat) (r_66.set (0 + (s_49.2).toNat) (w64 (e_63 - s_26.1)))))))]:Hp)++(gRows 1 eI ext2 (s_49.1.set (0 + (y_55).toNat) (r_66.set (0 + (s_49.2).toNat) (w64 (e_63 - s_26.1))))))) rfl (h_gwr 16 (.inr (by kernel_rfl)) (fun _ _ ag=>⟨.inr (.inr (by kernel_rfl)),⟨.inr (.inr (by kernel_rfl)),⟨.inr (.inr (by kernel_rfl)),trivial⟩⟩⟩) sz3 rfl hr_82 hy_84 (w64 (e_78 + s_26.1)) rfl wz (h_reH (b':=some (.cells 1 (gCells 1 ext2 ((s_49.1.set (0 + (y_55).toNat) (r_66.set (0 + (s_49.2).toNat) (w64 (e_63 - s_26.1)))).set (0 + (s_49.2).toNat) (r_81.set (0 + (y_73).toNat) (w64 (e_78 + s_26.1))))))) 1 rfl (gBox_wr hr_82) (h_nil (wH_at (H0:=(([((extN 0),some (.cells 2 [(.vs (extN 1) 1 0 wv_1.f_can.length),(vI wv_1.f_camps)])),((extN 1),some (.cells 1 (gCells 1 ext2 ((s_49.1.set (0 + (y_55).toNat) (r_66.set (0 + (s_49.2).toNat) (w64 (e_63 - s_26.1)))).set (0 + (s_49.2).toNat) (r_81.set (0 + (y_73).toNat) (w64 (e_78 + s_26.1)))))))]:Hp)++(gRows 1 eI ext2 ((s_49.1.set (0 + (y_55).toNat) (r_66.set (0 + (s_49.2).toNat) (w64 (e_63 - s_26.1)))).set (0 + (s_49.2).toNat) (r_81.set (0 + (y_73).toNat) (w64 (e_78 + s_26.1))))))) ([(0,(.ref (extN 0) 0 0)),(1,(vI fromv_2)),(2,(vI tov_3)),(3,(vI most_4)),(9,(vI s_10.2)),(10,(vL eI r_16.1)),(12,(vI s_26.1)),(14,(vI s_49.2))]:List (Nat×V)) (by kernel_rfl) (pre_tl (C1:=([((extN 0),some (.cells 2 [(.vs (extN 1) 1 0 wv_1.f_can.length),(vI wv_1.f_camps)])),((extN 1),some (.cells 1 (gCells 1 ext2 ((s_49.1.set (0 + (y_55).toNat) (r_66.set (0 + (s_49.2).toNat) (w64 (e_63 - s_26.1)))).set (0 + (s_49.2).toNat) (r_81.set (0 + (y_73).toNat) (w64 (e_78 + s_26.1)))))))]:Hp)) (T:=(gRows 1 eI ext2 ((s_49.1.set (0 + (y_55).toNat) (r_66.set (0 + (s_49.2).toNat) (w64 (e_63 - s_26.1)))).set (0 + (s_49.2).toNat) (r_81.set (0 + (y_73).toNat) (w64 (e_78 + s_26.1)))))) [0,1] (by decide) (by kernel_rfl) (by kernel_rfl)) (wH_region (h_opz (vL eI r_16.1) (h_opz (vI s_49.2) ?_)))))))
         obtain ⟨y_85,hy_86,hc_50⟩:=bind_some hc_50
         refine h_ia es22 rfl rfl hy_86 rfl wz (h_ldc sz3 ag3 rfl (vI y_85) rfl wz (h_opz (vI y_85) (h_nil ?_)))
         obtain rfl:=some_inj hc_50
         exact loop_mk (k_44,(((s_49.1.set (0 + (y_55).toNat) (r_66.set (0 + (s_49.2).toNat) (w64 (e_63 - s_26.1)))).set (0 + (s_49.2).toNat) (r_81.set (0 + (y_73).toNat) (w64 (e_78 + s_26.1)))),y_85)) hL_51 (Nat.lt_succ_self _) rfl (pre_tl (C1:=([((extN 0),some (.cells 2 [(.vs (extN 1) 1 0 wv_1.f_can.length),(vI wv_1.f_camps)])),((extN 1),some (.cells 1 (gCells 1 ext2 ((s_49.1.set (0 + (y_55).toNat) (r_66.set (0 + (s_49.2).toNat) (w64 (e_63 - s_26.1)))).set (0 + (s_49.2).toNat) (r_81.set (0 + (y_73).toNat) (w64 (e_78 + s_26.1)))))))]:Hp)) (T:=(gRows 1 eI ext2 ((s_49.1.set (0 + (y_55).toNat) (r_66.set (0 + (s_49.2).toNat) (w64 (e_63 - s_26.1)))).set (0 + (s_49.2).toNat) (r_81.set (0 + (y_73).toNat) (w64 (e_78 + s_26.1)))))) [0,1] (by decide) rfl rfl)
        ·refine wH_iff rfl hc_54 (wH_exit ?_)
         obtain rfl:=some_inj hc_50
         obtain rfl:=some_inj hL_51
         exact cut_mk ((s_49.1,s_49.2)) rfl rfl (pre_tl (C1:=([((extN 0),some (.cells 2 [(.vs (extN 1) 1 0 wv_1.f_can.length),(vI wv_1.f_camps)])),((extN 1),some (.cells 1 (gCells 1 ext2 s_49.1)))]:Hp)) (T:=(gRows 1 eI ext2 s_49.1)) [0,1] (by decide) rfl rfl)
      ·rintro s_49 ho_ sl_ H_ hp_ hq_
       subst ho_
       refine wH_at _ hp_ hq_ (wH_region (h_opz (vI s_10.2) (h_opz (vI s_26.1) (h_opz (vI (w64 (s_10.2 + s_26.1))) (h_opz (vI (w64 (s_10.2 + s_26.1))) (h_nil ?_))))))
       obtain rfl:=some_inj hc_11
       exact loop_mk (k_5,(s_49.1,(w64 (s_10.2 + s_26.1)))) hL_12 (Nat.lt_succ_self _) rfl (pre_tl (C1:=([((extN 0),some (.cells 2 [(.vs (extN 1) 1 0 wv_1.f_can.length),(vI wv_1.f_camps)])),((extN 1),some (.cells 1 (gCells 1 ext2 s_49.1)))]:Hp)) (T:=(gRows 1 eI ext2 s_49.1)) [0,1] (by decide) rfl rfl)
   ·refine wH_iff rfl hc_15 (wH_exit ?_)
    obtain rfl:=some_inj hc_11
    obtain rfl:=some_inj hL_12
    exact cut_mk ((s_10.1,s_10.2)) rfl rfl (pre_tl (C1:=([((extN 0),some (.cells 2 [(.vs (extN 1) 1 0 wv_1.f_can.length),(vI wv_1.f_camps)])),((extN 1),some (.cells 1 (gCells 1 ext2 s_10.1)))]:Hp)) (T:=(gRows 1 eI ext2 s_10.1)) [0,1] (by decide) rfl rfl)
 ·rintro s_10 ho_ sl_ H_ hp_ hq_
  subst ho_
  refine wH_at _ hp_ hq_ (wH_sr (h_opz (vI s_10.2) (h_opz (vI s_10.2) (h_nil ?_))))
  obtain ⟨_,hk_,hF⟩:=bind_some hF
  obtain rfl:=some_inj hF
  exact wH_ret (finGr (k:=2) (cs := [(vI wv_1.f_camps)]) (cs' := [(vI wv_1.f_camps)]) (rows:=wv_1.f_can) (rows':=s_10.1) ([]:Hp) (.inr rfl) [(vI s_10.2)] ⟨rfl,trivial⟩ rfl rfl rfl rfl (sameL_eq hk_) rfl)
theorem booking_most_ok {spots_1:(List Spot)} {l_2:(List Campaign)} {r:Int} (hF:booking_most spots_1 l_2=some r) :
  FnM Try.prog 29 [(vL Spot.enc spots_1),(vL Campaign.enc l_2)] [] (vI r) []:=by
 refine FnM.of_wH ⟨Try.prog,9,[],[]⟩ rfl Try.func29 rfl rfl (Nat.le_of_ble_eq_true rfl) (by kernel_rfl) ?_
 unfold booking_most at hF
 refine wH_sr (h_opz (vI 0) (h_nil (wH_sr (h_opz (vL Spot.enc spots_1) (h_opz (vL Campaign.enc l_2) ?_)))))
 obtain ⟨r_3,hr_4,hF⟩:=bind_some hF
 obtain ⟨_,hn_8,hF⟩:=bind_some hF
 refine h_callGn (booking_newWeb_ok hr_4) rfl hb55 (neR_ne hn_8) rfl (by kernel_rfl) (by kernel_rfl) (by kernel_rfl) wz (fun n_5 n_6 ns_7 => ?_)
 obtain ⟨_,hn_11,hF⟩:=bind_some hF
 obtain ⟨_,hm_12,hF⟩:=bind_some hF
 obtain ⟨r_9,hr_10,hF⟩:=bind_some hF
 obtain ⟨_,hs_13,hF⟩:=bind_some hF
 refine h_eqH (H0:=(([(n_5,some (.cells 2 [(.vs n_6 1 0 r_3.f_can.length),(vI r_3.f_camps)])),(n_6,some (.cells 1 (gCells 1 ns_7 r_3.f_can)))]:Hp)++(gRows 1 eI ns_7 r_3.f_can))) rfl (h_callGr 0 0 1 il ft (booking_web_flow_ok hr_10) rfl hb56 rfl rfl (by decide) (lenE_eq hm_12) (neR_ne hn_11) (sameL_eq hs_13) rfl rfl (by kernel_rfl) (fun _=>by kernel_rfl) (by kernel_rfl) (by kernel_rfl) wz (h_opz (vI r_9.1) (h_nil ?_)))
 obtain rfl:=some_inj hF
 exact wH_ret (fin0r [(vI r_9.1)] ⟨rfl,trivial⟩)
theorem slices_Clone_api_Campaign_api_Campaign_okb {s_1:(List Campaign)} {r:(List Campaign)} (hF:slices_Clone_api_Campaign_api_Campaign s_1=some r) :
  FnM Try.prog 30 [(vL Campaign.enc s_1)] [] (gV (extN 0) 8 r) (([]:List Box).map some++gO 8 Campaign.enc r):=by
 refine FnM.of_wH ⟨Try.prog,8,[],[]⟩ rfl Try.func30 rfl rfl (Nat.le_of_ble_eq_true rfl) (by kernel_rfl) ?_
 unfold slices_Clone_api_Campaign_api_Campaign at hF
 refine wH_sr (h_opz .nil (h_nil (wH_seq (wH_sr (h_opz (vL Campaign.enc s_1) (h_nileq un27 rfl wz (fun b_2 hb_3=>h_nil ?_)))))))
 cases b_2 with
 | true =>
  refine wH_ift rfl rfl ?_
  obtain rfl:=hb_3 rfl
  replace hF:=clone_nil hF
  refine wH_sr (h_opz .nil (h_nil (wH_new (fun n_4 => ?_))))
  obtain rfl:=some_inj hF
  exact wH_ret (finG (outs:=([]:List Box)) (.inr rfl) 0 rfl rfl rfl (by kernel_rfl) (by kernel_rfl))
 | false =>
  refine wH_iff rfl rfl (wH_skip (wH_sr (h_lit0 es27 ez27 rfl wz (h_opz (vL Campaign.enc s_1) ?_))))
  obtain ⟨a_5,hz_6,hF⟩:=bind_some hF
  refine h_appn 0 (.inl rfl) el27 el27 sz37 z37 rfl (by decide) by37 (by decide) (fun _=>rfl) rfl rfl hz_6 wz (fun n_7=>h_opz (gV n_7 8 a_5) (h_nil ?_))
  obtain rfl:=some_inj hF
  exact wH_ret (finG (outs:=([]:List Box)) (.inr rfl) 0 rfl rfl rfl (by kernel_rfl) (by kernel_rfl))
theorem booking_Left_ok {spots_1:(List Spot)} {l_2:(List Campaign)} {c_3:Campaign} {r:Int×Int} (hF:booking_Left spots_1 l_2 c_3=some r) :
  FnM Try.prog 7 [(vL Spot.enc spots_1),(vL Campaign.enc l_2),(.d (.agg (Campaign.enc c_3)))] [] (.tup [(vI r.1),(vI r.2)]) []:=by
 refine FnM.of_wH ⟨Try.prog,43,[],[]⟩ rfl Try.func7 rfl rfl (Nat.le_of_ble_eq_true rfl) (by kernel_rfl) ?_
 unfold booking_Left at hF
 refine wH_sr (h_box 0 (.inl rfl) (Campaign.v c_3) rfl rfl wz (fun n_4=>h_opz (vI 0) (h_opz (vI 0) (h_nil (wH_seq (wH_sr (h_opz (vL Spot.enc spots_1) (h_opz (vL Campaign.enc l_2) ?_))))))))
 obtain ⟨r_5,hr_6,hF⟩:=bind_some hF
 refine h_call0 (booking_checkBoth_ok hr_6) rfl hb25 rfl rfl rfl rfl wz (h_opz (vI r_5) (h_nil (wH_sr (h_opz (vI r_5) (h_opz (vB (r_5 != 0)) (h_nil ?_))))))
 rcases cond_some hF with⟨hc_7,hF⟩ | ⟨hc_7,hF⟩
 ·refine wH_ift rfl hc_7 (wH_sr (h_opz (vI r_5) (h_opz (vI 0) (h_opz (vI r_5) (h_nil ?_)))))
  obtain rfl:=some_inj hF
  exact wH_ret (fin0r [(vI 0),(vI r_5)] ⟨rfl,⟨rfl,trivial⟩⟩)
 ·refine wH_iff rfl hc_7 (wH_skip (wH_seq (wH_sr (h_ldr 0 0 il ft sz37 ag37 rfl rfl (.d (.agg (Campaign.enc c_3))) rfl wz (h_lit (([c_3]:List Campaign).map Campaign.enc) es27 ez27 rfl rfl rfl rfl rfl wz ?_)))))
  obtain ⟨r_8,hr_9,hF⟩:=bind_some hF
  refine h_call0 (booking_CheckCampaigns_ok hr_9) rfl hb26 rfl rfl rfl rfl wz (h_opz (vI r_8) (h_nil (wH_sr (h_opz (vI r_8) (h_opz (vB (r_8 != 0)) (h_nil ?_))))))
  rcases cond_some hF with⟨hc_10,hF⟩ | ⟨hc_10,hF⟩
  ·refine wH_ift rfl hc_10 (wH_sr (h_opz (vI r_8) (h_opz (vI 0) (h_opz (vI r_8) (h_nil ?_)))))
   obtain rfl:=some_inj hF
   exact wH_ret (fin0r [(vI 0),(vI r_8)] ⟨rfl,⟨rfl,trivial⟩⟩)
  ·refine wH_iff rfl hc_10 (wH_skip (wH_seq (wH_sr (h_opz (vL Campaign.enc l_2) (h_opz (.fn 27 [(.ref n_4 0 0)]) ?_)))))
   obtain ⟨r_11,hr_12,hF⟩:=bind_some hF
   refine h_callq 0 [0] il ft (slices_ContainsFunc_api_Campaign_api_Campaign_ok (gid:=27) (caps := [.ref (extN 0) 0 0]) (Sin := [(.cells 8 (Campaign.v c_3))]) (fun _ _ h_=>booking_Left_1_ok h_) hb27 ⟨rfl,rfl⟩ (by kernel_rfl) (all_ok (by kernel_rfl)) (all_mut (by kernel_rfl)) hr_12) rfl hb13 rfl (by kernel_rfl) (by kernel_rfl) (by kernel_rfl) (by kernel_rfl) (by kernel_rfl) (by kernel_rfl) (by kernel_rfl) (by decide) (by kernel_rfl) wz (vB r_11) (by kernel_rfl) ([(n_4,some (.cells 8 (Campaign.v c_3)))]:Hp) (by kernel_rfl) (h_nil ?_)
   rcases cond_some hF with⟨hc_14,hF⟩ | ⟨hc_14,hF⟩
   ·refine wH_ift rfl hc_14 (wH_sr (h_opz (vI 0) (h_opz (vI 6) (h_nil ?_))))
    obtain rfl:=some_inj hF
    exact wH_ret (fin0r [(vI 0),(vI 6)] ⟨rfl,⟨rfl,trivial⟩⟩)
   ·refine wH_iff rfl hc_14 (wH_skip (wH_sr (h_opz (vL Campaign.enc l_2) ?_)))
    obtain ⟨r_15,hr_16,hF⟩:=bind_some hF
    refine h_call0 (booking_goals_ok hr_16) rfl hb28 rfl rfl rfl rfl wz (h_opz (vI r_15) (h_nil (wH_seq (wH_sr (h_opz (vL Spot.enc spots_1) (h_opz (vL Campaign.enc l_2) ?_))))))
    obtain ⟨r_17,hr_18,hF⟩:=bind_some hF
    refine h_call0 (booking_most_ok hr_18) rfl hb29 rfl rfl rfl rfl wz (h_opz (vI r_15) (h_opz (vB (decide (r_17 < r_15))) (h_nil ?_)))
    rcases cond_some hF with⟨hc_19,hF⟩ | ⟨hc_19,hF⟩
    ·refine wH_ift rfl hc_19 (wH_sr (h_opz (vI 0) (h_opz (vI 12) (h_nil ?_))))
     obtain rfl:=some_inj hF
     exact wH_ret (fin0r [(vI 0),(vI 12)] ⟨rfl,⟨rfl,trivial⟩⟩)
    ·refine wH_iff rfl hc_19 (wH_skip (wH_sr (h_far pl37_4 rfl 5 rfl wz (h_str 0 il ft 0 sz3 rfl rfl [(vS c_3.Key),(vS c_3.Class),(vI c_3.Time.From),(vI c_3.Time.To),(vL eS c_3.Tags),(vI 1000000),(vI c_3.Most),(vI c_3.Cents)] rfl wz (h_nil (wH_seq (wH_draws (h_opz (vL Spot.enc spots_1) (h_opz (vL Campaign.enc l_2) ?_)))))))))
     obtain ⟨r_20,hr_21,hF⟩:=bind_some hF
     refine h_callgq 2 (.inr (by kernel_rfl)) (slices_Clone_api_Campaign_api_Campaign_okb hr_21) rfl hb30 (by kernel_rfl) (by kernel_rfl) (by kernel_rfl) wz (fun n_22=>h_ldr 3 0 (.inr (by kernel_rfl)) (fun _ _ ag=>⟨.inr (.inl (dis1 (ag_ne ag (i:=0) (j:=1) rfl rfl (by decide)))),trivial⟩) sz37 ag37 rfl rfl (.d (.agg (Campaign.enc (⟨c_3.Key,c_3.Class,c_3.Time,c_3.Tags,1000000,c_3.Most,c_3.Cents⟩:Campaign)))) rfl wz (h_lit (([(⟨c_3.Key,c_3.Class,c_3.Time,c_3.Tags,1000000,c_3.Most,c_3.Cents⟩:Campaign)]:List Campaign).map Campaign.enc) es27 ez27 rfl rfl rfl rfl rfl wz ?_))
     obtain ⟨a_23,hz_24,hF⟩:=bind_some hF
     refine h_appg 5 (.inr (by kernel_rfl)) (fun _ _ ag=>⟨.inr (.inr (by kernel_rfl)),⟨.inr (.inr (by kernel_rfl)),trivial⟩⟩) (i:=1) el27 el27 sz37 z37 rfl (by decide) by37 (by decide) (fun _=>rfl) rfl rfl rfl hz_24 wz (fun n_25 => ?_)
     obtain ⟨r_26,hr_27,hF⟩:=bind_some hF
     refine h_callv (bs := []) (os := []) 6 [] 1 1 (.inr (by kernel_rfl)) (fun _ _ ag=>by exact⟨.inr (.inr (by kernel_rfl)),⟨.inr (.inr (by kernel_rfl)),⟨.inr (.inr (by kernel_rfl)),trivial⟩⟩⟩) (FnM.unfz (args := [(vL Spot.enc spots_1),(dV (extN 0) 8 a_23)]) (po:=1) (enc:=Campaign.enc) (booking_most_ok hr_27) rfl rfl) rfl hb29 rfl rfl rfl (by kernel_rfl) rfl (.inl rfl) rfl (by kernel_rfl) (by kernel_rfl) (by kernel_rfl) (by kernel_rfl) rfl (by decide) (by kernel_rfl) gB_ok (gB_ho rfl) wz ([(n_4,some (.cells 8 [(vS c_3.Key),(vS c_3.Class),(vI c_3.Time.From),(vI c_3.Time.To),(vL eS c_3.Tags),(vI 1000000),(vI c_3.Most),(vI c_3.Cents)])),(n_25,gB 8 Campaign.enc a_23)]:Hp) (by kernel_rfl) (h_opz (vI r_15) (h_opz (vI (w64 (r_26 - r_15))) (h_opz (vI (w64 (r_26 - r_15))) (h_opz (vI 0) (h_nil (wH_at (H0:=([(n_4,some (.cells 8 [(vS c_3.Key),(vS c_3.Class),(vI c_3.Time.From),(vI c_3.Time.To),(vL eS c_3.Tags),(vI 1000000),(vI c_3.Most),(vI c_3.Cents)])),(n_25,gB 8 Campaign.enc a_23)]:Hp)) ([(6,(vI (w64 (r_26 - r_15)))),(7,(vI 0))]:List (Nat×V)) (by kernel_rfl) (pre_mk (by kernel_rfl)) ?_))))))
     obtain rfl:=some_inj hF
     exact wH_ret (fin0r [(vI (w64 (r_26 - r_15))),(vI 0)] ⟨rfl,⟨rfl,trivial⟩⟩)
theorem slices_Clone_api_Spot_api_Spot_okb {s_1:(List Spot)} {r:(List Spot)} (hF:slices_Clone_api_Spot_api_Spot s_1=some r) :
  FnM Try.prog 31 [(vL Spot.enc s_1)] [] (gV (extN 0) 5 r) (([]:List Box).map some++gO 5 Spot.enc r):=by
 refine FnM.of_wH ⟨Try.prog,8,[],[]⟩ rfl Try.func31 rfl rfl (Nat.le_of_ble_eq_true rfl) (by kernel_rfl) ?_
 unfold slices_Clone_api_Spot_api_Spot at hF
 refine wH_sr (h_opz .nil (h_nil (wH_seq (wH_sr (h_opz (vL Spot.enc s_1) (h_nileq un26 rfl wz (fun b_2 hb_3=>h_nil ?_)))))))
 cases b_2 with
 | true =>
  refine wH_ift rfl rfl ?_
  obtain rfl:=hb_3 rfl
  replace hF:=clone_nil hF
  refine wH_sr (h_opz .nil (h_nil (wH_new (fun n_4 => ?_))))
  obtain rfl:=some_inj hF
  exact wH_ret (finG (outs:=([]:List Box)) (.inr rfl) 0 rfl rfl rfl (by kernel_rfl) (by kernel_rfl))
 | false =>
  refine wH_iff rfl rfl (wH_skip (wH_sr (h_lit0 es26 ez26 rfl wz (h_opz (vL Spot.enc s_1) ?_))))
  obtain ⟨a_5,hz_6,hF⟩:=bind_some hF
  refine h_appn 0 (.inl rfl) el26 el26 sz69 z69 rfl (by decide) by69 (by decide) (fun _=>rfl) rfl rfl hz_6 wz (fun n_7=>h_opz (gV n_7 5 a_5) (h_nil ?_))
  obtain rfl:=some_inj hF
  exact wH_ret (finG (outs:=([]:List Box)) (.inr rfl) 0 rfl rfl rfl (by kernel_rfl) (by kernel_rfl))
theorem booking_Tight_ok {spots_1:(List Spot)} {l_2:(List Campaign)} {r:(List ByteArray)×Int} (hF:booking_Tight spots_1 l_2=some r) :
  FnM Try.prog 8 [(vL Spot.enc spots_1),(vL Campaign.enc l_2)] [] (.tup [(vL eS r.1),(vI r.2)]) []:=by
 refine FnM.of_wH ⟨Try.prog,53,[],[]⟩ rfl Try.func8 rfl rfl (Nat.le_of_ble_eq_true rfl) (by kernel_rfl) ?_
 unfold booking_Tight at hF
 refine wH_sr (h_opz .nil (h_opz (vI 0) (h_nil (wH_seq (wH_sr (h_opz (vL Spot.enc spots_1) (h_opz (vL Campaign.enc l_2) ?_)))))))
 obtain ⟨r_3,hr_4,hF⟩:=bind_some hF
 refine h_call0 (booking_checkBoth_ok hr_4) rfl hb25 rfl rfl rfl rfl wz (h_opz (vI r_3) (h_nil (wH_sr (h_opz (vI r_3) (h_opz (vB (r_3 != 0)) (h_nil ?_))))))
 rcases cond_some hF with⟨hc_5,hF⟩ | ⟨hc_5,hF⟩
 ·refine wH_ift rfl hc_5 (wH_sr (h_opz (vI r_3) (h_opz .nil (h_opz (vI r_3) (h_nil ?_)))))
  obtain rfl:=some_inj hF
  exact wH_ret (fin0r [.nil,(vI r_3)] ⟨rfl,⟨rfl,trivial⟩⟩)
 ·refine wH_iff rfl hc_5 (wH_skip (wH_sr (h_opz (vL Spot.enc spots_1) (h_opz (vL Campaign.enc l_2) ?_))))
  obtain ⟨r_6,hr_7,hF⟩:=bind_some hF
  refine h_call0 (booking_most_ok hr_7) rfl hb29 rfl rfl rfl rfl wz (h_opz (vI r_6) (h_nil (wH_sr (h_opz .nil (h_nil (wH_seq (wH_sr (h_opz (vL Spot.enc spots_1) (h_len un26 rfl wz (h_opz (vI 0) (h_nil (wH_new (fun n_14 => ?_)))))))))))))
  obtain ⟨o_19,hj_20,hF⟩:=bind_some hF
  obtain ⟨hn_12,hj_20⟩:=forL_some hj_20
  refine wH_loopF (σ:=(List ByteArray)) (N:=Nm) (fun p=>(fun (s_13:(List ByteArray)) (n_16:Nm)=>([(8,(gV n_16 1 s_13))]:List (Nat×V))) p.1 p.2) (fun p=>(fun (s_13:(List ByteArray)) (n_16:Nm)=>([(n_16,gB 1 eS s_13)]:Hp)) p.1 p.2) (fun (k_8:Nat)=>(fun p=>(fun (s_13:(List ByteArray)) (n_16:Nm)=>([(0,(vL Spot.enc spots_1)),(1,(vL Campaign.enc l_2)),(7,(vI r_6)),(8,(gV n_16 1 s_13)),(21,(vL Spot.enc spots_1)),(22,(vI (spots_1.length:Int))),(23,(vI (k_8:Int)))]:List (Nat×V))) p.1 p.2)) (fun k x s=>booking_Tight_L1 spots_1 l_2 r_6 k x s) o_19 spots_1 (([]:List ByteArray),n_14) hj_20 rfl (pre_r rfl) ?_ ?_
  ·rintro ⟨k_8,l_9,s_13,n_16⟩ ⟨hL_18,hD_11⟩
   dsimp only at hL_18 hD_11
   cases l_9 with
   | nil =>
    obtain rfl:=some_inj hL_18
    refine wH_sr (h_opz (vB (decide ((k_8:Int) < (spots_1.length:Int)))) (h_nil ?_))
    refine wH_seq (wH_iff rfl (drop_nil hD_11) (wH_exit ?_))
    exact cut_mk (s_13,n_16) rfl rfl (pre_r rfl)
   | cons x_10 l_9 =>
    obtain ⟨c_,hc_17,hL_18⟩:=bind_some hL_18
    refine wH_sr (h_opz (vB (decide ((k_8:Int) < (spots_1.length:Int)))) (h_nil ?_))
    refine wH_seq (wH_ift rfl (drop_cons hD_11) (wH_skip ?_))
    unfold booking_Tight_L1 at hc_17
    refine wH_seq (wH_block (wH_sr (h_opz (vI (k_8:Int)) (h_ia es26 rfl rfl (drop_idx hD_11) rfl wz (h_ldc sz69 ag69 rfl (.d (.agg (Spot.enc x_10))) rfl wz (h_alloc 0 (.inl rfl) z69 rfl wz (fun n_21=>h_opz (vI (k_8:Int)) (h_str 0 il ft 1 sz69 rfl rfl (Spot.v x_10) rfl wz (h_nil (wH_seq (wH_sr (h_far pl69_2 rfl 3 rfl wz (h_ldr 0 1 il ft sz3 ag3 rfl rfl (vI x_10.Room) rfl wz (h_opz (vB (x_10.Room == 0)) (h_nil ?_)))))))))))))))
    rcases cond_some hc_17 with⟨hc_22,hc_17⟩ | ⟨hc_22,hc_17⟩
    ·refine wH_ift rfl hc_22 (wH_exit (wH_region (h_opw (w64_next hD_11 hn_12) wz rfl (h_opz (vI ((k_8 + 1:Nat):Int)) (h_nil ?_)))))
     obtain rfl:=some_inj hc_17
     exact loop_mk (k_8 + 1,l_9,s_13,n_16) ⟨hL_18,drop_next hD_11⟩ (Nat.lt_succ_self _) rfl (pre_r rfl)
    ·refine wH_iff rfl hc_22 (wH_skip (wH_sr (h_opz (vL Spot.enc spots_1) ?_)))
     obtain ⟨r_23,hr_24,hc_17⟩:=bind_some hc_17
     refine h_callg [] (slices_Clone_api_Spot_api_Spot_okb hr_24) rfl hb31 rfl (by kernel_rfl) (by kernel_rfl) (by kernel_rfl) (by kernel_rfl) (by kernel_rfl) rfl (by decide) (by kernel_rfl) wz ([(n_16,gB 1 eS s_13),(n_21,some (.cells 5 (Spot.v x_10)))]:Hp) (fun _=>by kernel_rfl) (fun n_26=>h_opz (gV n_26 5 r_23) (h_nil (wH_sr (h_opz (gV n_26 5 r_23) (h_opz (vI (k_8:Int)) ?_)))))
     obtain ⟨_,hi_27,hc_17⟩:=bind_some hc_17
     refine h_iavg es26 rfl rfl (inR_0 hi_27) (inR_lt hi_27) wz (h_far pl69_2 rfl 3 rfl wz ?_)
     obtain ⟨e_28,hy_29,hc_17⟩:=bind_some hc_17
     refine h_ldvg 0 2 il ft sz3 ag3 rfl rfl hy_29 (vI e_28.Room) rfl wz (h_opz (vI (w64 (e_28.Room - 1))) ?_)
     obtain ⟨_,hi_30,hc_17⟩:=bind_some hc_17
     refine h_iavg es26 rfl rfl (inR_0 hi_30) (inR_lt hi_30) wz (h_far pl69_2 rfl 3 rfl wz ?_)
     obtain ⟨e_31,hy_32,hc_17⟩:=bind_some hc_17
     refine h_stvg 0 il ft 2 sz3 rfl rfl hy_32 (⟨e_31.Key,e_31.Time,(w64 (e_28.Room - 1)),e_31.Tags⟩:Spot) rfl wz (h_re (v':=(gV n_26 5 (r_23.set (0 + ((k_8:Int)).toNat) (⟨e_31.Key,e_31.Time,(w64 (e_28.Room - 1)),e_31.Tags⟩:Spot)))) 11 rfl (gV_len (by simp)) (h_re (v':=(gV n_26 5 (r_23.set (0 + ((k_8:Int)).toNat) (⟨e_31.Key,e_31.Time,(w64 (e_28.Room - 1)),e_31.Tags⟩:Spot)))) 32 rfl (gV_len (by simp)) (h_re (v':=(gV n_26 5 (r_23.set (0 + ((k_8:Int)).toNat) (⟨e_31.Key,e_31.Time,(w64 (e_28.Room - 1)),e_31.Tags⟩:Spot)))) 33 rfl (gV_len (by simp)) (h_nil (wH_seq (wH_frozg 2 rfl (wH_cog 11 2 rfl rfl (wH_cog 32 2 rfl rfl (wH_cog 33 2 rfl rfl (wH_region (h_opz (vL Spot.enc (r_23.set (0 + ((k_8:Int)).toNat) (⟨e_31.Key,e_31.Time,(w64 (e_28.Room - 1)),e_31.Tags⟩:Spot))) (h_opz (vL Campaign.enc l_2) ?_))))))))))))
     obtain ⟨r_33,hr_34,hc_17⟩:=bind_some hc_17
     refine h_call0 (booking_most_ok hr_34) rfl hb29 rfl rfl rfl rfl wz (h_opz (vI r_6) (h_opz (vB (decide (r_33 < r_6))) (h_nil ?_)))
     obtain ⟨v_35,h_36,hc_17⟩:=bind_some hc_17
     refine wH_join (β:=Nm) (fun (n_37:Nm)=>([(0,(vL Spot.enc spots_1)),(1,(vL Campaign.enc l_2)),(7,(vI r_6)),(8,(gV n_37 1 v_35)),(21,(vL Spot.enc spots_1)),(22,(vI (spots_1.length:Int))),(23,(vI (k_8:Int)))]:List (Nat×V))) (fun (n_37:Nm)=>([(n_37,gB 1 eS v_35),(n_21,some (.cells 5 (Spot.v x_10))),(n_26,gF 5 Spot.enc (r_23.set (0 + ((k_8:Int)).toNat) (⟨e_31.Key,e_31.Time,(w64 (e_28.Room - 1)),e_31.Tags⟩:Spot)))]:Hp)) (fun _=>True) ?_ ?_
     ·rcases cond_some h_36 with⟨hc_38,h_36⟩ | ⟨hc_38,h_36⟩
      ·refine wH_ift rfl hc_38 (wH_region (h_opz (gV n_16 1 s_13) (h_far pl69_0 rfl 0 rfl wz (h_ldr 0 1 il ft sz9 ag9 rfl rfl (vS x_10.Key) rfl wz (h_lit (([x_10.Key]:List ByteArray).map eS) es35 ez35 rfl rfl rfl rfl rfl wz ?_)))))
       obtain ⟨a_39,hz_40,h_36⟩:=bind_some h_36
       refine h_appg 0 il ft (i:=0) el35 el35 sz9 z9 rfl (by decide) by9 (by decide) (fun _=>rfl) rfl rfl rfl hz_40 wz (fun n_41=>h_opz (gV n_41 1 a_39) (h_nil ?_))
       obtain rfl:=some_inj h_36
       exact cut_mk n_41 trivial rfl (pre_r rfl)
      ·refine wH_iff rfl hc_38 (wH_skip ?_)
       obtain rfl:=some_inj h_36
       exact cut_mk n_16 trivial rfl (pre_r rfl)
     ·rintro n_37 _ sl_ H_ hp_ hq_
      refine wH_at _ hp_ hq_ (wH_region (h_opw (w64_next hD_11 hn_12) wz rfl (h_opz (vI ((k_8 + 1:Nat):Int)) (h_nil ?_))))
      obtain rfl:=some_inj hc_17
      exact loop_mk (k_8 + 1,l_9,v_35,n_37) ⟨hL_18,drop_next hD_11⟩ (Nat.lt_succ_self _) rfl (pre_r rfl)
  ·rintro ⟨s_13,n_16⟩ ho_ sl_ H_ hp_ hq_
   subst ho_
   refine wH_at _ hp_ hq_ (wH_sr (h_opz (gV n_16 1 s_13) (h_opz (gV n_16 1 s_13) (h_opz (vI 0) (h_nil (wH_frozg 0 rfl (wH_cog 4 0 rfl rfl (wH_cog 8 0 rfl rfl (wH_cog 52 0 rfl rfl ?_)))))))))
   obtain rfl:=some_inj hF
   exact wH_ret (fin0r [(vL eS s_13),(vI 0)] ⟨rfl,⟨rfl,trivial⟩⟩)
theorem booking_Rivals_1_ok {s_1:Spot} {p_2:Campaign} {p_3:Campaign} {r:Bool} (hF:booking_Rivals_1 s_1 p_2 p_3=some r) :
  FnM Try.prog 33 [(.d (.agg (Spot.enc s_1))),(.ref (extN 0) 0 0),(.ref (extN 1) 0 0)] [(.cells 8 (Campaign.v p_2)),(.cells 8 (Campaign.v p_3))] (vB r) [some (.cells 8 (Campaign.v p_2)),some (.cells 8 (Campaign.v p_3))]:=by
 refine FnM.of_wH ⟨Try.prog,13,[],[]⟩ rfl Try.func33 rfl rfl (Nat.le_of_ble_eq_true rfl) (by kernel_rfl) ?_
 unfold booking_Rivals_1 at hF
 refine wH_sr (h_box 0 (.inl rfl) (Spot.v s_1) rfl rfl wz (fun n_4=>h_opz (vB false) (h_nil (wH_seq ?_))))
 obtain ⟨v_5,h_6,hF⟩:=bind_some hF
 refine wH_joinU [(4,(vB v_5))] [((extN 0),some (.cells 8 (Campaign.v p_2))),((extN 1),some (.cells 8 (Campaign.v p_3))),(n_4,some (.cells 5 (Spot.v s_1)))] ?_ ?_
 ·refine wH_region (h_ldr 0 0 il ft sz37 ag37 rfl rfl (.d (.agg (Campaign.enc p_2))) rfl wz (h_ldr 0 2 il ft sz69 ag69 rfl rfl (.d (.agg (Spot.enc s_1))) rfl wz ?_))
  obtain ⟨r_7,hr_8,h_6⟩:=bind_some h_6
  refine h_call0 (booking_suits_ok hr_8) rfl hb34 rfl rfl rfl rfl wz ?_
  rcases cond_some h_6 with⟨hc_9,h_6⟩ | ⟨hc_9,h_6⟩
  ·refine h_movb rfl hc_9 wz (h_ldr 0 1 il ft sz37 ag37 rfl rfl (.d (.agg (Campaign.enc p_3))) rfl wa (h_ldr 0 2 il ft sz69 ag69 rfl rfl (.d (.agg (Spot.enc s_1))) rfl wa ?_))
   obtain ⟨r_10,hr_11,h_6⟩:=bind_some h_6
   refine h_call0 (booking_suits_ok hr_11) rfl hb34 rfl rfl rfl rfl wa (h_opz (vB r_10) (h_opz (vB r_10) (h_nil ?_)))
   obtain rfl:=some_inj h_6
   exact cu
  ·refine h_movb rfl hc_9 wz (h_skipz (h_skipz (h_skipz (h_opz (vB false) (h_opz (vB false) (h_nil ?_))))))
   obtain rfl:=some_inj h_6
   exact cu
 ·rintro ⟨⟩ _ sl_ H_ hp_ hq_
  refine wH_at _ hp_ hq_ ?_
  obtain rfl:=some_inj hF
  exact wH_ret (finB (.inr rfl) [(vB v_5)] _ [0,1] [extN 0,extN 1] ⟨rfl,trivial⟩ (.cons (co_data rfl rfl) (.nil)) (by kernel_rfl) ⟨(by kernel_rfl),⟨(by kernel_rfl),trivial⟩⟩ (by decide) (by kernel_rfl))
theorem slices_IndexFunc_api_Spot_api_Spot_ok {s_1:(List Spot)} {f_2:Spot→Option Bool} {r:Int} {gid:FuncId} {caps:List V} {Sin:List Box} (hfn:∀ x0 r,f_2 x0=some r→FnM Try.prog gid ([(.d (.agg (Spot.enc x0)))]++caps) Sin (vB r) (Sin.map some)) (hbF:hasBody Try.prog gid=true) (hcapF:caps.flatMap frz = []∧caps.map co0=caps) (hokF:okL Sin.length caps=true) (hsF:∀ b∈Sin,b.ok Sin.length=true) (hmF:∀ b∈Sin,b.mut=true) (hF:slices_IndexFunc_api_Spot_api_Spot s_1 f_2=some r) :
  FnM Try.prog 57 [(vL Spot.enc s_1),(.fn gid caps)] Sin (vI r) (Sin.map some):=by
 refine FnM.of_wH ⟨Try.prog,19,[],[]⟩ rfl Try.func57 rfl rfl (Nat.le_of_ble_eq_true rfl) (by kernel_rfl) ?_
 unfold slices_IndexFunc_api_Spot_api_Spot at hF
 refine wH_sr (h_opz (vI 0) (h_nil (wH_seq (wH_sr (h_opz (vL Spot.enc s_1) (h_len un26 rfl wz (h_opz (vI 0) (h_nil ?_))))))))
 obtain ⟨o_11,hj_12,hF⟩:=bind_some hF
 obtain ⟨hn_7,hj_12⟩:=forL_some hj_12
 refine wH_loopF0 (fun (s_8:Unit) => []) (fun (s_8:Unit)=>(initH 0 Sin)) (fun (k_3:Nat)=>(fun (s_8:Unit) => [(0,(vL Spot.enc s_1)),(1,(.fn gid caps)),(7,(vI (s_1.length:Int))),(8,(vI (k_3:Int)))])) (fun k x s=>slices_IndexFunc_api_Spot_api_Spot_L1 f_2 k x s) o_11 s_1 () hj_12 rfl (pre_self _) ?_ ?_
 ·rintro ⟨k_3,l_4,s_8⟩ ⟨hL_10,hD_6⟩
  dsimp only at hL_10 hD_6
  cases l_4 with
  | nil =>
   obtain rfl:=some_inj hL_10
   refine wH_sr (h_opz (vB (decide ((k_3:Int) < (s_1.length:Int)))) (h_nil ?_))
   refine wH_seq (wH_iff rfl (drop_nil hD_6) (wH_exit ?_))
   exact cut_mk (s_8) rfl rfl (pre_self _)
  | cons x_5 l_4 =>
   obtain ⟨c_,hc_9,hL_10⟩:=bind_some hL_10
   refine wH_sr (h_opz (vB (decide ((k_3:Int) < (s_1.length:Int)))) (h_nil ?_))
   refine wH_seq (wH_ift rfl (drop_cons hD_6) (wH_skip ?_))
   unfold slices_IndexFunc_api_Spot_api_Spot_L1 at hc_9
   refine wH_seq (wH_block (wH_sr (h_opz (vI (k_3:Int)) (h_opz (vI (k_3:Int)) (h_nil (wH_sr (h_opz (.fn gid caps) (h_opz (vL Spot.enc s_1) (h_opz (vI (k_3:Int)) (h_ia es26 rfl rfl (drop_idx hD_6) rfl wz (h_ldc sz69 ag69 rfl (.d (.agg (Spot.enc x_5))) rfl wz ?_)))))))))))
   obtain ⟨r_13,hr_14,hc_9⟩:=bind_some hc_9
   refine h_callS (hfn _ _ hr_14) rfl hbF rfl rfl hcapF hokF hsF hmF rfl wz rfl (h_nil ?_)
   rcases cond_some hc_9 with⟨hc_15,hc_9⟩ | ⟨hc_15,hc_9⟩
   ·refine wH_ift rfl hc_15 (wH_sr (h_opz (vI (k_3:Int)) (h_opz (vI (k_3:Int)) (h_nil ?_))))
    obtain rfl:=some_inj hc_9
    obtain rfl:=some_inj hL_10
    obtain rfl:=some_inj hF
    exact wH_ret (finS hsF (.inr rfl) [(vI (k_3:Int))] ⟨rfl,trivial⟩ rfl rfl rfl)
   ·refine wH_iff rfl hc_15 (wH_skip (wH_region (h_opw (w64_next hD_6 hn_7) wz rfl (h_opz (vI ((k_3 + 1:Nat):Int)) (h_nil ?_)))))
    obtain rfl:=some_inj hc_9
    exact loop_mk (k_3 + 1,l_4,()) ⟨hL_10,drop_next hD_6⟩ (Nat.lt_succ_self _) rfl (pre_self _)
 ·rintro s_8 ho_ sl_ H_ hp_ hq_
  subst ho_
  refine wH_at _ hp_ hq_ (wH_sr (h_opz (vI (-1)) (h_nil ?_)))
  obtain rfl:=some_inj hF
  exact wH_ret (finS hsF (.inr rfl) [(vI (-1))] ⟨rfl,trivial⟩ rfl rfl rfl)
theorem slices_ContainsFunc_api_Spot_api_Spot_ok {s_1:(List Spot)} {f_2:Spot→Option Bool} {r:Bool} {gid:FuncId} {caps:List V} {Sin:List Box} (hfn:∀ x0 r,f_2 x0=some r→FnM Try.prog gid ([(.d (.agg (Spot.enc x0)))]++caps) Sin (vB r) (Sin.map some)) (hbF:hasBody Try.prog gid=true) (hcapF:caps.flatMap frz = []∧caps.map co0=caps) (hokF:okL Sin.length caps=true) (hsF:∀ b∈Sin,b.ok Sin.length=true) (hmF:∀ b∈Sin,b.mut=true) (hF:slices_ContainsFunc_api_Spot_api_Spot s_1 f_2=some r) :
  FnM Try.prog 32 [(vL Spot.enc s_1),(.fn gid caps)] Sin (vB r) (Sin.map some):=by
 refine FnM.of_wH ⟨Try.prog,9,[],[]⟩ rfl Try.func32 rfl rfl (Nat.le_of_ble_eq_true rfl) (by kernel_rfl) ?_
 unfold slices_ContainsFunc_api_Spot_api_Spot at hF
 refine wH_sr (h_opz (vB false) (h_nil (wH_sr (h_opz (vL Spot.enc s_1) (h_opz (.fn gid caps) ?_)))))
 obtain ⟨r_3,hr_4,hF⟩:=bind_some hF
 refine h_callS (slices_IndexFunc_api_Spot_api_Spot_ok (gid:=gid) (caps:=caps) (Sin:=Sin) hfn hbF hcapF hokF hsF hmF hr_4) rfl hb57 rfl rfl ⟨rfl,rfl⟩ (by simp [okL,okV,hokF]) hsF hmF rfl wz rfl (h_opz (vB (decide (r_3≥0))) (h_opz (vB (decide (r_3≥0))) (h_nil ?_)))
 obtain rfl:=some_inj hF
 exact wH_ret (finS hsF (.inr rfl) [(vB (decide (r_3≥0)))] ⟨rfl,trivial⟩ rfl rfl rfl)
end Go.Proofs.Ytipjpkpmkijdoab.Law

