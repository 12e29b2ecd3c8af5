/-
 The machine computes these plain functions (written by a program of ours).
-/
import Derived.Test.YthcdokkcamcnmabFacts
import Derived.Test.YthcdokkcamcnmabDefs
import Derived.Test.YthcdokkcamcnmabPf2
open Go Go.Eng Go.Proofs
namespace Go.Proofs.Ythcdokkcamcnmab.Law
set_option maxRecDepth 100000
set_option linter.unusedVariables false
set_option maxHeartbeats 1000000
theorem slices_insertionSortCmpFunc_api_Tally_v2_ok {data_1:(List Tally)} {a_2:Int} {b_3:Int} {r:(List Tally)} (hF:slices_insertionSortCmpFunc_api_Tally_v2 data_1 a_2 b_3=some r) :
  FnM Try.prog 66 [(dV (extN 0) 5 data_1),(vI a_2),(vI b_3),(.fn 47 [])] (([]:List Box)++gI 5 Tally.enc data_1) (.tup []) (([]:List Box).map some++gT data_1 (gB 5 Tally.enc r)):=by
 refine FnM.of_wHv ⟨Try.prog,53,[],[]⟩ rfl Try.func66 rfl rfl (Nat.le_of_ble_eq_true rfl) (by kernel_rfl) ?_
 unfold slices_insertionSortCmpFunc_api_Tally_v2 at hF
 refine wH_sr (h_opz (vI a_2) (h_opz (vI (w64 (a_2 + 1))) (h_opz (vI (w64 (a_2 + 1))) (h_nil ?_))))
 obtain ⟨o_13,hj_14,hF⟩:=bind_some hF
 obtain ⟨nq_51,hj_14⟩:=loopO_iter hj_14
 refine wH_loopI0 (fun (s_10:(List Tally)×Int) => []) (fun (s_10:(List Tally)×Int) => [((extN 0),gB 5 Tally.enc s_10.1)]) (fun (k_5:Nat)=>(fun (s_10:(List Tally)×Int) => [(0,(dV (extN 0) 5 s_10.1)),(1,(vI a_2)),(2,(vI b_3)),(3,(.fn 47 [])),(8,(vI s_10.2))])) (fun s=>slices_insertionSortCmpFunc_api_Tally_v2_L2 b_3 a_2 s) o_13 nq_51 (data_1,(w64 (a_2 + 1))) hj_14 rfl (pre_r rfl) ?_ ?_
 ·rintro ⟨k_5,s_10⟩ hL_12
  dsimp only at hL_12
  cases k_5 with
  | zero=>cases hL_12
  | succ k_5 =>
   obtain ⟨c_,hc_11,hL_12⟩:=bind_some hL_12
   unfold slices_insertionSortCmpFunc_api_Tally_v2_L2 at hc_11
   refine wH_seq (wH_sr (h_opz (vI s_10.2) (h_opz (vI b_3) (h_opz (vB (decide (s_10.2 < b_3))) (h_nil ?_)))))
   rcases cond_some hc_11 with⟨hc_15,hc_11⟩ | ⟨hc_15,hc_11⟩
   ·refine wH_ift rfl hc_15 (wH_skip (wH_seq (wH_block (wH_sr (h_opz (vI s_10.2) (h_opz (vI s_10.2) (h_nil ?_)))))))
    obtain ⟨o_24,hj_25,hc_11⟩:=bind_some hc_11
    obtain ⟨nq_50,hj_25⟩:=loopO_iter hj_25
    refine wH_loopI0 (fun (s_21:(List Tally)×Int) => [(0,(dV (extN 0) 5 s_21.1)),(1,(vI a_2)),(2,(vI b_3)),(3,(.fn 47 [])),(8,(vI s_10.2))]) (fun (s_21:(List Tally)×Int) => [((extN 0),gB 5 Tally.enc s_21.1)]) (fun (k_16:Nat)=>(fun (s_21:(List Tally)×Int) => [(0,(dV (extN 0) 5 s_21.1)),(1,(vI a_2)),(2,(vI b_3)),(3,(.fn 47 [])),(8,(vI s_10.2)),(9,(vI s_21.2))])) (fun s=>slices_insertionSortCmpFunc_api_Tally_v2_L1 a_2 s) o_24 nq_50 (s_10.1,s_10.2) hj_25 rfl (pre_r rfl) ?_ ?_
    ·rintro ⟨k_16,s_21⟩ hL_23
     dsimp only at hL_23
     cases k_16 with
     | zero=>cases hL_23
     | succ k_16 =>
      obtain ⟨c_,hc_22,hL_23⟩:=bind_some hL_23
      unfold slices_insertionSortCmpFunc_api_Tally_v2_L1 at hc_22
      refine wH_seq (wH_seq ?_)
      obtain ⟨v_26,h_27,hc_22⟩:=bind_some hc_22
      refine wH_joinU [(0,(dV (extN 0) 5 s_21.1)),(1,(vI a_2)),(2,(vI b_3)),(3,(.fn 47 [])),(8,(vI s_10.2)),(9,(vI s_21.2)),(34,(vB v_26))] [((extN 0),gB 5 Tally.enc s_21.1)] ?_ ?_
      ·refine wH_draws (h_opz (vI s_21.2) (h_opz (vI a_2) (h_opz (vB (decide (s_21.2 > a_2))) ?_)))
       rcases cond_some h_27 with⟨hc_28,h_27⟩ | ⟨hc_28,h_27⟩
       ·refine h_movb rfl hc_28 wz (h_op (.fn 47 []) wa rfl (h_op (dV (extN 0) 5 s_21.1) wa rfl (h_op (vI s_21.2) wa rfl ?_)))
        obtain ⟨_,hi_29,h_27⟩:=bind_some h_27
        refine h_iavd es34 rfl rfl (inR_0 hi_29) (inR_lt hi_29) wa ?_
        obtain ⟨e_30,hy_31,h_27⟩:=bind_some h_27
        refine h_ldvg 8 0 (.inr (by kernel_rfl)) (fun _ _ ag=>trivial) sz55 ag55 rfl rfl hy_31 (.d (.agg (Tally.enc e_30))) rfl wa (h_op (dV (extN 0) 5 s_21.1) wa rfl (h_op (vI s_21.2) wa rfl (h_op (vI (w64 (s_21.2 - 1))) wa rfl ?_)))
        obtain ⟨_,hi_32,h_27⟩:=bind_some h_27
        refine h_iavd es34 rfl rfl (inR_0 hi_32) (inR_lt hi_32) wa ?_
        obtain ⟨e_33,hy_34,h_27⟩:=bind_some h_27
        refine h_ldvg 13 0 (.inr (by kernel_rfl)) (fun _ _ ag=>⟨.inl ⟨rfl,rfl⟩,trivial⟩) sz55 ag55 rfl rfl hy_34 (.d (.agg (Tally.enc e_33))) rfl wa ?_
        obtain ⟨r_35,hr_36,h_27⟩:=bind_some h_27
        refine h_call0 (ref_CountsOf_2_ok hr_36) rfl hb47 rfl rfl rfl rfl wa (h_op (vB (decide (r_35 < 0))) wa rfl (h_opz (vB (decide (r_35 < 0))) (h_nil ?_)))
        obtain rfl:=some_inj h_27
        exact cu
       ·refine h_movb rfl hc_28 wz (h_skipz (h_skipz (h_skipz (h_skipz (h_skipz (h_skipz (h_skipz (h_skipz (h_skipz (h_skipz (h_skipz (h_skipz (h_opz (vB false) (h_nil ?_))))))))))))))
        obtain rfl:=some_inj h_27
        exact cu
      ·rintro ⟨⟩ _ sl_ H_ hp_ hq_
       refine wH_at _ hp_ hq_ ?_
       rcases cond_some hc_22 with⟨hc_37,hc_22⟩ | ⟨hc_37,hc_22⟩
       ·refine wH_ift rfl hc_37 (wH_skip (wH_seq (wH_block (wH_draws (h_opz (dV (extN 0) 5 s_21.1) (h_opz (vI s_21.2) (h_opz (dV (extN 0) 5 s_21.1) (h_opz (vI s_21.2) (h_opz (vI (w64 (s_21.2 - 1))) (h_opz (dV (extN 0) 5 s_21.1) (h_opz (vI s_21.2) (h_opz (vI (w64 (s_21.2 - 1))) ?_))))))))))))
        obtain ⟨_,hi_38,hc_22⟩:=bind_some hc_22
        refine h_iavd es34 rfl rfl (inR_0 hi_38) (inR_lt hi_38) wz ?_
        obtain ⟨e_39,hy_40,hc_22⟩:=bind_some hc_22
        refine h_ldvg 9 0 (.inr (by kernel_rfl)) (fun _ _ ag=>trivial) sz55 ag55 rfl rfl hy_40 (.d (.agg (Tally.enc e_39))) rfl wz (h_opz (dV (extN 0) 5 s_21.1) (h_opz (vI s_21.2) ?_))
        obtain ⟨_,hi_41,hc_22⟩:=bind_some hc_22
        refine h_iavd es34 rfl rfl (inR_0 hi_41) (inR_lt hi_41) wz ?_
        obtain ⟨e_42,hy_43,hc_22⟩:=bind_some hc_22
        refine h_ldvg 13 0 (.inr (by kernel_rfl)) (fun _ _ ag=>⟨.inl ⟨rfl,rfl⟩,trivial⟩) sz55 ag55 rfl rfl hy_43 (.d (.agg (Tally.enc e_42))) rfl wz ?_
        obtain ⟨_,hi_44,hc_22⟩:=bind_some hc_22
        refine h_iavd es34 rfl rfl (inR_0 hi_44) (inR_lt hi_44) wz ?_
        obtain ⟨e_45,hy_46,hc_22⟩:=bind_some hc_22
        refine h_stvg 15 (.inr (by kernel_rfl)) (fun _ _ ag=>⟨.inr (.inr (by kernel_rfl)),⟨.inr (.inr (by kernel_rfl)),trivial⟩⟩) 0 sz55 rfl rfl hy_46 e_39 rfl wz (h_re (v':=(dV (extN 0) 5 (s_21.1.set (0 + (s_21.2).toNat) e_39))) 0 rfl (dV_len (by simp)) (h_re (v':=(dV (extN 0) 5 (s_21.1.set (0 + (s_21.2).toNat) e_39))) 37 rfl (dV_len (by simp)) (h_re (v':=(dV (extN 0) 5 (s_21.1.set (0 + (s_21.2).toNat) e_39))) 39 rfl (dV_len (by simp)) (h_re (v':=(dV (extN 0) 5 (s_21.1.set (0 + (s_21.2).toNat) e_39))) 42 rfl (dV_len (by simp)) (h_re (v':=(dV (extN 0) 5 (s_21.1.set (0 + (s_21.2).toNat) e_39))) 47 rfl (dV_len (by simp)) ?_)))))
        obtain ⟨_,hi_47,hc_22⟩:=bind_some hc_22
        refine h_iavd es34 rfl rfl (inR_0 hi_47) (inR_lt hi_47) wz ?_
        obtain ⟨e_48,hy_49,hc_22⟩:=bind_some hc_22
        refine h_stvg 17 (.inr (by kernel_rfl)) (fun _ _ ag=>⟨.inr (.inr (by kernel_rfl)),⟨.inr (.inr (by kernel_rfl)),⟨.inr (.inr (by kernel_rfl)),trivial⟩⟩⟩) 0 sz55 rfl rfl hy_49 e_42 rfl wz (h_re (v':=(dV (extN 0) 5 ((s_21.1.set (0 + (s_21.2).toNat) e_39).set (0 + ((w64 (s_21.2 - 1))).toNat) e_42))) 0 rfl (dV_len (by simp)) (h_re (v':=(dV (extN 0) 5 ((s_21.1.set (0 + (s_21.2).toNat) e_39).set (0 + ((w64 (s_21.2 - 1))).toNat) e_42))) 37 rfl (dV_len (by simp)) (h_re (v':=(dV (extN 0) 5 ((s_21.1.set (0 + (s_21.2).toNat) e_39).set (0 + ((w64 (s_21.2 - 1))).toNat) e_42))) 39 rfl (dV_len (by simp)) (h_re (v':=(dV (extN 0) 5 ((s_21.1.set (0 + (s_21.2).toNat) e_39).set (0 + ((w64 (s_21.2 - 1))).toNat) e_42))) 42 rfl (dV_len (by simp)) (h_re (v':=(dV (extN 0) 5 ((s_21.1.set (0 + (s_21.2).toNat) e_39).set (0 + ((w64 (s_21.2 - 1))).toNat) e_42))) 47 rfl (dV_len (by simp)) (h_nil (wH_region (h_opz (vI s_21.2) (h_opz (vI (w64 (s_21.2 - 1))) (h_opz (vI (w64 (s_21.2 - 1))) (h_nil ?_)))))))))))
        obtain rfl:=some_inj hc_22
        exact loop_mk (k_16,(((s_21.1.set (0 + (s_21.2).toNat) e_39).set (0 + ((w64 (s_21.2 - 1))).toNat) e_42),(w64 (s_21.2 - 1)))) hL_23 (Nat.lt_succ_self _) rfl (pre_r rfl)
       ·refine wH_iff rfl hc_37 (wH_exit ?_)
        obtain rfl:=some_inj hc_22
        obtain rfl:=some_inj hL_23
        exact cut_mk ((s_21.1,s_21.2)) rfl rfl (pre_r rfl)
    ·rintro s_21 ho_ sl_ H_ hp_ hq_
     subst ho_
     refine wH_at _ hp_ hq_ (wH_region (h_opz (vI s_10.2) (h_opz (vI (w64 (s_10.2 + 1))) (h_opz (vI (w64 (s_10.2 + 1))) (h_nil ?_)))))
     obtain rfl:=some_inj hc_11
     exact loop_mk (k_5,(s_21.1,(w64 (s_10.2 + 1)))) hL_12 (Nat.lt_succ_self _) rfl (pre_r rfl)
   ·refine wH_iff rfl hc_15 (wH_exit ?_)
    obtain rfl:=some_inj hc_11
    obtain rfl:=some_inj hL_12
    exact cut_mk ((s_10.1,s_10.2)) rfl rfl (pre_r rfl)
 ·rintro s_10 ho_ sl_ H_ hp_ hq_
  subst ho_
  show finH _ _ _ _ _ _ _ _
  obtain rfl:=some_inj hF
  exact finH_at (H0:=([((extN 0),gB 5 Tally.enc s_10.1)]:Hp)) (sl':=envS []) hq_ (finV (bs:=([]:List Box)) (os:=([]:List Box)) (xs:=data_1) (o:=gB 5 Tally.enc s_10.1) (.inl rfl) [] trivial rfl rfl rfl rfl rfl (by kernel_rfl) gB_ok rfl)
theorem slices_pdqsortCmpFunc_api_Tally_v2_ok {data_1:(List Tally)} {a_2:Int} {b_3:Int} {limit_4:Int} {r:(List Tally)} (hF:slices_pdqsortCmpFunc_api_Tally_v2 data_1 a_2 b_3 limit_4=some r) :
  FnM Try.prog 56 [(dV (extN 0) 5 data_1),(vI a_2),(vI b_3),(vI limit_4),(.fn 47 [])] (([]:List Box)++gI 5 Tally.enc data_1) (.tup []) (([]:List Box).map some++gT data_1 (gB 5 Tally.enc r)):=by
 refine FnM.of_wHv ⟨Try.prog,148,[],[]⟩ rfl Try.func56 rfl rfl (Nat.le_of_ble_eq_true rfl) (by kernel_rfl) ?_
 unfold slices_pdqsortCmpFunc_api_Tally_v2 at hF
 refine wH_sr (h_opz (vB true) (h_nil (wH_sr (h_opz (vB true) (h_nil ?_)))))
 obtain ⟨o_14,hj_15,hF⟩:=bind_some hF
 obtain ⟨nq_21,hj_15⟩:=loopO_iter hj_15
 refine wH_loopI0 (fun (s_11:Unit) => []) (fun (s_11:Unit) => [((extN 0),gB 5 Tally.enc data_1)]) (fun (k_6:Nat)=>(fun (s_11:Unit) => [(0,(dV (extN 0) 5 data_1)),(1,(vI a_2)),(2,(vI b_3)),(3,(vI limit_4)),(4,(.fn 47 [])),(10,(vB true)),(11,(vB true))])) (fun s=>slices_pdqsortCmpFunc_api_Tally_v2_L1 b_3 a_2 data_1 limit_4 s) o_14 nq_21 () hj_15 rfl (pre_r rfl) ?_ ?_
 ·rintro ⟨k_6,s_11⟩ hL_13
  dsimp only at hL_13
  cases k_6 with
  | zero=>cases hL_13
  | succ k_6 =>
   obtain ⟨c_,hc_12,hL_13⟩:=bind_some hL_13
   unfold slices_pdqsortCmpFunc_api_Tally_v2_L1 at hc_12
   refine wH_block (wH_sr (h_opz (vI b_3) (h_opz (vI a_2) (h_opz (vI (w64 (b_3 - a_2))) (h_opz (vI (w64 (b_3 - a_2))) (h_nil (wH_seq (wH_sr (h_opz (vI (w64 (b_3 - a_2))) (h_opz (vB (decide ((w64 (b_3 - a_2))≤12))) (h_nil ?_)))))))))))
   rcases cond_some hc_12 with⟨hc_16,hc_12⟩ | ⟨hc_16,hc_12⟩
   ·refine wH_ift rfl hc_16 (wH_sr (h_opz (dV (extN 0) 5 data_1) (h_opz (vI a_2) (h_opz (vI b_3) (h_opz (.fn 47 []) ?_)))))
    obtain ⟨r_17,hr_18,hc_12⟩:=bind_some hc_12
    obtain ⟨_,hs_19,hc_12⟩:=bind_some hc_12
    replace hs_19:=sameL_eq hs_19
    refine h_callv 0 [] 0 0 il ft (slices_insertionSortCmpFunc_api_Tally_v2_ok hr_18) rfl hb66 rfl rfl rfl (by kernel_rfl) rfl (.inr (.inl rfl)) rfl (by kernel_rfl) (by kernel_rfl) (by kernel_rfl) (by kernel_rfl) rfl (by decide) (by kernel_rfl) gB_ok (gB_ho hs_19) wz ([((extN 0),gB 5 Tally.enc r_17)]:Hp) (by kernel_rfl) (h_re (v':=(dV (extN 0) 5 r_17)) 0 rfl (dV_len hs_19.symm) (h_re (v':=(dV (extN 0) 5 r_17)) 26 rfl (dV_len hs_19.symm) (h_nil ?_)))
    obtain rfl:=some_inj hc_12
    obtain rfl:=some_inj hL_13
    obtain rfl:=some_inj hF
    exact wH_ret (finV (bs:=([]:List Box)) (os:=([]:List Box)) (xs:=data_1) (o:=gB 5 Tally.enc r_17) (.inr rfl) [] trivial rfl rfl rfl rfl rfl (by kernel_rfl) gB_ok rfl)
   ·refine wH_iff rfl hc_16 (wH_skip (wH_seq (wH_sr (h_opz (vI limit_4) (h_opz (vB (limit_4 == 0)) (h_nil ?_))))))
    rcases cond_some hc_12 with⟨hc_20,hc_12⟩ | ⟨hc_20,hc_12⟩
    ·refine wH_ift rfl hc_20 (wH_sr (h_opz (dV (extN 0) 5 data_1) (h_opz (vI a_2) (h_opz (vI b_3) (h_opz (.fn 47 []) ?_)))))
     cases hc_12
    ·refine wH_iff rfl hc_20 (wH_skip (wH_seq (wH_sr (h_opz (vB true) (h_opz (vB false) (h_nil (wH_iff rfl rfl (wH_skip (wH_sr (h_opz (dV (extN 0) 5 data_1) (h_opz (vI a_2) (h_opz (vI b_3) (h_opz (.fn 47 []) ?_)))))))))))))
     cases hc_12
 ·rintro s_11 ho_ sl_ H_ hp_ hq_
  subst ho_
  show finH _ _ _ _ _ _ _ _
  obtain rfl:=some_inj hF
  exact finH_at (H0:=([((extN 0),gB 5 Tally.enc data_1)]:Hp)) (sl':=envS []) hq_ (finV (bs:=([]:List Box)) (os:=([]:List Box)) (xs:=data_1) (o:=gB 5 Tally.enc data_1) (.inl rfl) [] trivial rfl rfl rfl rfl rfl (by kernel_rfl) gB_ok rfl)
theorem slices_SortFunc_api_Tally_api_Tally_v2_ok {x_1:(List Tally)} {r:(List Tally)} (hF:slices_SortFunc_api_Tally_api_Tally_v2 x_1=some r) :
  FnM Try.prog 31 [(dV (extN 0) 5 x_1),(.fn 47 [])] (([]:List Box)++gI 5 Tally.enc x_1) (.tup []) (([]:List Box).map some++gT x_1 (gB 5 Tally.enc r)):=by
 refine FnM.of_wHv ⟨Try.prog,14,[],[]⟩ rfl Try.func31 rfl rfl (Nat.le_of_ble_eq_true rfl) (by kernel_rfl) ?_
 unfold slices_SortFunc_api_Tally_api_Tally_v2 at hF
 refine wH_sr (h_opz (dV (extN 0) 5 x_1) (h_lend un34 rfl wz (h_opz (vI (x_1.length:Int)) (h_nil (wH_region (h_opz (dV (extN 0) 5 x_1) (h_opz (vI (x_1.length:Int)) (h_opz (vI (x_1.length:Int)) (h_conv un3 un92 rfl wz ?_)))))))))
 obtain ⟨r_3,hr_4,hF⟩:=bind_some hF
 refine h_call0 (math_bits_Len_ok hr_4) rfl hb57 rfl rfl rfl rfl wz (h_opz (.fn 47 []) ?_)
 obtain ⟨r_5,hr_6,hF⟩:=bind_some hF
 obtain ⟨_,hs_7,hF⟩:=bind_some hF
 replace hs_7:=sameL_eq hs_7
 refine h_callv 0 [] 0 0 il ft (slices_pdqsortCmpFunc_api_Tally_v2_ok hr_6) rfl hb56 rfl rfl rfl (by kernel_rfl) rfl (.inr (.inl rfl)) rfl (by kernel_rfl) (by kernel_rfl) (by kernel_rfl) (by kernel_rfl) rfl (by decide) (by kernel_rfl) gB_ok (gB_ho hs_7) wz ([((extN 0),gB 5 Tally.enc r_5)]:Hp) (by kernel_rfl) (h_re (v':=(dV (extN 0) 5 r_5)) 0 rfl (dV_len hs_7.symm) (h_re (v':=(dV (extN 0) 5 r_5)) 5 rfl (dV_len hs_7.symm) (h_re (v':=(dV (extN 0) 5 r_5)) 7 rfl (dV_len hs_7.symm) (h_nil ?_))))
 show finH _ _ _ _ _ _ _ _
 obtain rfl:=some_inj hF
 exact finV (bs:=([]:List Box)) (os:=([]:List Box)) (xs:=x_1) (o:=gB 5 Tally.enc r_5) (.inl rfl) [] trivial rfl rfl rfl rfl rfl (by kernel_rfl) gB_ok rfl
theorem ref_CountsOf_ok {l_1:(List Play)} {zone_2:Int} {r:(List Tally)} (hF:ref_CountsOf l_1 zone_2=some r) :
  FnM Try.prog 18 [(vL Play.enc l_1),(vI zone_2)] [] (vL Tally.enc r) []:=by
 refine FnM.of_wH ⟨Try.prog,60,[],[]⟩ rfl Try.func18 rfl rfl (Nat.le_of_ble_eq_true rfl) (by kernel_rfl) ?_
 unfold ref_CountsOf at hF
 refine wH_sr (h_opz .nil (h_nil (wH_sr (h_opz .nil (h_nil (wH_seq (wH_sr (h_opz (vL Play.enc l_1) (h_len un26 rfl wz (h_opz (vI 0) (h_nil (wH_new (fun n_9 => ?_)))))))))))))
 obtain ⟨o_14,hj_15,hF⟩:=bind_some hF
 obtain ⟨hn_7,hj_15⟩:=forL_some hj_15
 refine wH_loopF (σ:=(List Tally)) (N:=Nm) (fun p=>(fun (s_8:(List Tally)) (n_11:Nm)=>([(5,(gV n_11 5 s_8))]:List (Nat×V))) p.1 p.2) (fun p=>(fun (s_8:(List Tally)) (n_11:Nm)=>([(n_11,gB 5 Tally.enc s_8)]:Hp)) p.1 p.2) (fun (k_3:Nat)=>(fun p=>(fun (s_8:(List Tally)) (n_11:Nm)=>([(1,(vI zone_2)),(5,(gV n_11 5 s_8)),(10,(vL Play.enc l_1)),(11,(vI (l_1.length:Int))),(12,(vI (k_3:Int)))]:List (Nat×V))) p.1 p.2)) (fun k x s=>ref_CountsOf_L1 zone_2 k x s) o_14 l_1 (([]:List Tally),n_9) hj_15 rfl (pre_r rfl) ?_ ?_
 ·rintro ⟨k_3,l_4,s_8,n_11⟩ ⟨hL_13,hD_6⟩
  dsimp only at hL_13 hD_6
  cases l_4 with
  | nil =>
   obtain rfl:=some_inj hL_13
   refine wH_sr (h_opz (vB (decide ((k_3:Int) < (l_1.length:Int)))) (h_nil ?_))
   refine wH_seq (wH_iff rfl (drop_nil hD_6) (wH_exit ?_))
   exact cut_mk (s_8,n_11) rfl rfl (pre_r rfl)
  | cons x_5 l_4 =>
   obtain ⟨c_,hc_12,hL_13⟩:=bind_some hL_13
   refine wH_sr (h_opz (vB (decide ((k_3:Int) < (l_1.length:Int)))) (h_nil ?_))
   refine wH_seq (wH_ift rfl (drop_cons hD_6) (wH_skip ?_))
   unfold ref_CountsOf_L1 at hc_12
   refine wH_seq (wH_block (wH_sr (h_ia es26 rfl rfl (drop_idx hD_6) rfl wz (h_ldc sz65 ag65 rfl (.d (.agg (Play.enc x_5))) rfl wz (h_alloc 0 (.inl rfl) z65 rfl wz (fun n_16=>h_str 0 il ft 1 sz65 rfl rfl (Play.v x_5) rfl wz (h_nil (wH_seq (wH_draws (h_far pl65_0 rfl 0 rfl wz (h_ldr 1 1 (.inr (by kernel_rfl)) (fun _ _ ag=>trivial) sz9 ag9 rfl rfl (vS x_5.Player) rfl wz (h_far pl65_1 rfl 1 rfl wz (h_ldr 3 1 (.inr (by kernel_rfl)) (fun _ _ ag=>⟨.inl ⟨rfl,rfl⟩,trivial⟩) sz9 ag9 rfl rfl (vS x_5.Item) rfl wz (h_far pl65_2 rfl 2 rfl wz (h_ldr 5 1 (.inr (by kernel_rfl)) (fun _ _ ag=>⟨.inl ⟨rfl,rfl⟩,⟨.inl ⟨rfl,rfl⟩,trivial⟩⟩) sz3 ag3 rfl rfl (vI x_5.At) rfl wz (h_opz (vI zone_2) (h_opz (vI (w64 (zone_2 * 60000))) (h_opz (vI (w64 (x_5.At + (w64 (zone_2 * 60000))))) ?_))))))))))))))))))
   obtain ⟨r_17,hr_18,hc_12⟩:=bind_some hc_12
   refine h_call0 (ref_floor_ok hr_18) rfl hb44 rfl rfl rfl rfl wz (h_op (.d (.agg (Tally.enc (⟨x_5.Player,x_5.Item,r_17,0,0⟩:Tally)))) wz (by kernel_rfl) (h_alloc 11 (.inr (by kernel_rfl)) z55 rfl wz (fun n_19=>h_str 12 (.inr (by kernel_rfl)) (fun _ _ ag=>⟨.inr (.inr (by kernel_rfl)),⟨.inr (.inr (by kernel_rfl)),⟨.inr (.inr (by kernel_rfl)),⟨.inr (.inr (by kernel_rfl)),trivial⟩⟩⟩⟩) 2 sz55 rfl rfl [(vS x_5.Player),(vS x_5.Item),(vI r_17),(vI 0),(vI 0)] rfl wz (h_nil (wH_sr (h_opz (gV n_11 5 s_8) (h_opz (.fn 46 [(.ref n_19 0 0)]) ?_)))))))
   obtain ⟨r_20,hr_21,hc_12⟩:=bind_some hc_12
   refine h_callv 0 [2] 0 0 il ft (slices_IndexFunc_api_Tally_api_Tally_v1_ok hr_21) rfl hb45 rfl rfl rfl (by kernel_rfl) rfl (.inl rfl) rfl (by kernel_rfl) (by kernel_rfl) (by kernel_rfl) (by kernel_rfl) rfl (by decide) (by kernel_rfl) gB_ok (gB_ho rfl) wz ([(n_11,gB 5 Tally.enc s_8),(n_16,some (.cells 4 (Play.v x_5))),(n_19,some (.cells 5 [(vS x_5.Player),(vS x_5.Item),(vI r_17),(vI 0),(vI 0)]))]:Hp) (by kernel_rfl) (h_opz (vI r_20) (h_nil (wH_seq (wH_sr (h_opz (vI r_20) (h_opz (vB (decide (r_20 < 0))) (h_nil ?_)))))))
   obtain ⟨v_22,h_23,hc_12⟩:=bind_some hc_12
   refine wH_join (β:=Nm) (fun (n_24:Nm)=>([(1,(vI zone_2)),(5,(gV n_24 5 v_22.1)),(7,(.ref n_16 0 0)),(9,(vI v_22.2)),(10,(vL Play.enc l_1)),(11,(vI (l_1.length:Int))),(12,(vI (k_3:Int)))]:List (Nat×V))) (fun (n_24:Nm)=>([(n_24,gB 5 Tally.enc v_22.1),(n_16,some (.cells 4 (Play.v x_5))),(n_19,some (.cells 5 [(vS x_5.Player),(vS x_5.Item),(vI r_17),(vI 0),(vI 0)]))]:Hp)) (fun _=>True) ?_ ?_
   ·rcases cond_some h_23 with⟨hc_25,h_23⟩ | ⟨hc_25,h_23⟩
    ·refine wH_ift rfl hc_25 (wH_sr (h_opz (gV n_11 5 s_8) (h_leng un34 rfl wz (h_opz (vI (s_8.length:Int)) (h_nil (wH_region (h_opz (gV n_11 5 s_8) (h_ldr 0 2 il ft sz55 ag55 rfl rfl (.d (.agg (Tally.enc (⟨x_5.Player,x_5.Item,r_17,0,0⟩:Tally)))) rfl wz (h_lit (([(⟨x_5.Player,x_5.Item,r_17,0,0⟩:Tally)]:List Tally).map Tally.enc) es34 ez34 rfl rfl rfl rfl rfl wz ?_)))))))))
     obtain ⟨a_26,hz_27,h_23⟩:=bind_some h_23
     refine h_appg 0 il ft (i:=0) el34 el34 sz55 z55 rfl (by decide) by55 (by decide) (fun _=>rfl) rfl rfl rfl hz_27 wz (fun n_28=>h_opz (gV n_28 5 a_26) (h_nil ?_))
     obtain rfl:=some_inj h_23
     exact cut_mk n_28 trivial rfl (pre_r rfl)
    ·refine wH_iff rfl hc_25 (wH_skip ?_)
     obtain rfl:=some_inj h_23
     exact cut_mk n_11 trivial rfl (pre_r rfl)
   ·rintro n_24 _ sl_ H_ hp_ hq_
    refine wH_at _ hp_ hq_ (wH_sr (h_opz (gV n_24 5 v_22.1) (h_opz (vI v_22.2) ?_)))
    obtain ⟨_,hi_29,hc_12⟩:=bind_some hc_12
    refine h_iavg es34 rfl rfl (inR_0 hi_29) (inR_lt hi_29) wz (h_far pl55_3 rfl 3 rfl wz ?_)
    obtain ⟨e_30,hy_31,hc_12⟩:=bind_some hc_12
    refine h_ldvg 0 0 il ft sz3 ag3 rfl rfl hy_31 (vI e_30.Many) rfl wz (h_opz (vI (w64 (e_30.Many + 1))) ?_)
    obtain ⟨_,hi_32,hc_12⟩:=bind_some hc_12
    refine h_iavg es34 rfl rfl (inR_0 hi_32) (inR_lt hi_32) wz (h_far pl55_3 rfl 3 rfl wz ?_)
    obtain ⟨e_33,hy_34,hc_12⟩:=bind_some hc_12
    refine h_stvg 0 il ft 0 sz3 rfl rfl hy_34 (⟨e_33.Player,e_33.Item,e_33.Day,(w64 (e_30.Many + 1)),e_33.Long⟩:Tally) rfl wz (h_re (v':=(gV n_24 5 (v_22.1.set (0 + (v_22.2).toNat) (⟨e_33.Player,e_33.Item,e_33.Day,(w64 (e_30.Many + 1)),e_33.Long⟩:Tally)))) 5 rfl (gV_len (by simp)) (h_re (v':=(gV n_24 5 (v_22.1.set (0 + (v_22.2).toNat) (⟨e_33.Player,e_33.Item,e_33.Day,(w64 (e_30.Many + 1)),e_33.Long⟩:Tally)))) 38 rfl (gV_len (by simp)) (h_nil (wH_draws (h_opz (gV n_24 5 (v_22.1.set (0 + (v_22.2).toNat) (⟨e_33.Player,e_33.Item,e_33.Day,(w64 (e_30.Many + 1)),e_33.Long⟩:Tally))) (h_opz (vI v_22.2) ?_))))))
    obtain ⟨_,hi_35,hc_12⟩:=bind_some hc_12
    refine h_iavg es34 rfl rfl (inR_0 hi_35) (inR_lt hi_35) wz (h_far pl55_4 rfl 4 rfl wz ?_)
    obtain ⟨e_36,hy_37,hc_12⟩:=bind_some hc_12
    refine h_ldvg 4 0 (.inr (by kernel_rfl)) (fun _ _ ag=>trivial) sz3 ag3 rfl rfl hy_37 (vI e_36.Long) rfl wz (h_far pl65_3 rfl 3 rfl wz (h_ldr 6 1 (.inr (by kernel_rfl)) (fun _ _ ag=>⟨.inl ⟨rfl,rfl⟩,trivial⟩) sz3 ag3 rfl rfl (vI x_5.Long) rfl wz (h_opz (vI (w64 (e_36.Long + x_5.Long))) ?_)))
    obtain ⟨_,hi_38,hc_12⟩:=bind_some hc_12
    refine h_iavg es34 rfl rfl (inR_0 hi_38) (inR_lt hi_38) wz (h_far pl55_4 rfl 4 rfl wz ?_)
    obtain ⟨e_39,hy_40,hc_12⟩:=bind_some hc_12
    refine h_stvg 10 (.inr (by kernel_rfl)) (fun _ _ ag=>⟨.inr (.inr (by kernel_rfl)),⟨.inr (.inr (by kernel_rfl)),trivial⟩⟩) 0 sz3 rfl rfl hy_40 (⟨e_39.Player,e_39.Item,e_39.Day,e_39.Many,(w64 (e_36.Long + x_5.Long))⟩:Tally) rfl wz (h_re (v':=(gV n_24 5 ((v_22.1.set (0 + (v_22.2).toNat) (⟨e_33.Player,e_33.Item,e_33.Day,(w64 (e_30.Many + 1)),e_33.Long⟩:Tally)).set (0 + (v_22.2).toNat) (⟨e_39.Player,e_39.Item,e_39.Day,e_39.Many,(w64 (e_36.Long + x_5.Long))⟩:Tally)))) 5 rfl (gV_len (by simp)) (h_re (v':=(gV n_24 5 ((v_22.1.set (0 + (v_22.2).toNat) (⟨e_33.Player,e_33.Item,e_33.Day,(w64 (e_30.Many + 1)),e_33.Long⟩:Tally)).set (0 + (v_22.2).toNat) (⟨e_39.Player,e_39.Item,e_39.Day,e_39.Many,(w64 (e_36.Long + x_5.Long))⟩:Tally)))) 38 rfl (gV_len (by simp)) (h_re (v':=(gV n_24 5 ((v_22.1.set (0 + (v_22.2).toNat) (⟨e_33.Player,e_33.Item,e_33.Day,(w64 (e_30.Many + 1)),e_33.Long⟩:Tally)).set (0 + (v_22.2).toNat) (⟨e_39.Player,e_39.Item,e_39.Day,e_39.Many,(w64 (e_36.Long + x_5.Long))⟩:Tally)))) 46 rfl (gV_len (by simp)) (h_nil (wH_region (h_opw (w64_next hD_6 hn_7) wz rfl (h_opz (vI ((k_3 + 1:Nat):Int)) (h_nil ?_))))))))
    obtain rfl:=some_inj hc_12
    exact loop_mk (k_3 + 1,l_4,((v_22.1.set (0 + (v_22.2).toNat) (⟨e_33.Player,e_33.Item,e_33.Day,(w64 (e_30.Many + 1)),e_33.Long⟩:Tally)).set (0 + (v_22.2).toNat) (⟨e_39.Player,e_39.Item,e_39.Day,e_39.Many,(w64 (e_36.Long + x_5.Long))⟩:Tally)),n_24) ⟨hL_13,drop_next hD_6⟩ (Nat.lt_succ_self _) rfl (pre_r rfl)
 ·rintro ⟨s_8,n_11⟩ ho_ sl_ H_ hp_ hq_
  subst ho_
  refine wH_at _ hp_ hq_ (wH_sr (h_opz (gV n_11 5 s_8) ?_))
  obtain ⟨r_41,hr_42,hF⟩:=bind_some hF
  obtain ⟨_,hs_43,hF⟩:=bind_some hF
  replace hs_43:=sameL_eq hs_43
  refine h_callv 0 [] 0 0 il ft (slices_SortFunc_api_Tally_api_Tally_v2_ok hr_42) rfl hb31 rfl rfl rfl (by kernel_rfl) rfl (.inl rfl) rfl (by kernel_rfl) (by kernel_rfl) (by kernel_rfl) (by kernel_rfl) rfl (by decide) (by kernel_rfl) gB_ok (gB_ho hs_43) wz ([(n_11,gB 5 Tally.enc r_41)]:Hp) (by kernel_rfl) (h_re (v':=(gV n_11 5 r_41)) 5 rfl (gV_len hs_43.symm) (h_re (v':=(gV n_11 5 r_41)) 57 rfl (gV_len hs_43.symm) (h_nil (wH_sr (h_opz (gV n_11 5 r_41) (h_opz (gV n_11 5 r_41) (h_nil (wH_frozg 0 rfl (wH_cog 4 0 rfl rfl (wH_cog 5 0 rfl rfl (wH_cog 57 0 rfl rfl (wH_cog 59 0 rfl rfl ?_))))))))))))
  obtain rfl:=some_inj hF
  exact wH_ret (fin0r [(vL Tally.enc r_41)] ⟨rfl,trivial⟩)
theorem ref_IdleOf_1_ok {x_1:Window} {r:Bool} (hF:ref_IdleOf_1 x_1=some r) :
  FnM Try.prog 51 [(.d (.agg (Window.enc x_1)))] [] (vB r) []:=by
 refine FnM.of_wH ⟨Try.prog,8,[],[]⟩ rfl Try.func51 rfl rfl (Nat.le_of_ble_eq_true rfl) (by kernel_rfl) ?_
 unfold ref_IdleOf_1 at hF
 refine wH_sr (h_box 0 (.inl rfl) [(vI x_1.From),(vI x_1.To)] rfl rfl wz (fun n_2=>h_opz (vB false) (h_nil (wH_sr (h_far pl31_0 rfl 0 rfl wz (h_ldr 0 0 il ft sz3 ag3 rfl rfl (vI x_1.From) rfl wz (h_far pl31_1 rfl 1 rfl wz (h_ldr 0 0 il ft sz3 ag3 rfl rfl (vI x_1.To) rfl wz (h_opz (vB (decide (x_1.From≥x_1.To))) (h_opz (vB (decide (x_1.From≥x_1.To))) (h_nil ?_)))))))))))
 obtain rfl:=some_inj hF
 exact wH_ret (fin0r [(vB (decide (x_1.From≥x_1.To)))] ⟨rfl,trivial⟩)
theorem slices_IndexFunc_api_Window_api_Window_v1_ok {s_1:(List Window)} {r:Int} (hF:slices_IndexFunc_api_Window_api_Window_v1 s_1=some r) :
  FnM Try.prog 63 [(vV (extN 0) 2 s_1),(.fn 51 [])] (([]:List Box) ++ [(bV 2 Window.enc s_1)]) (vI r) ((([]:List Box)).map some ++ [some (bV 2 Window.enc s_1)]):=by
 refine FnM.of_wH ⟨Try.prog,19,[],[]⟩ rfl Try.func63 rfl rfl (Nat.le_of_ble_eq_true rfl) (by kernel_rfl) ?_
 unfold slices_IndexFunc_api_Window_api_Window_v1 at hF
 refine wH_sr (h_opz (vI 0) (h_nil (wH_seq (wH_sr (h_opz (vV (extN 0) 2 s_1) (h_lenw un38 rfl wz (h_opz (vI 0) (h_nil ?_))))))))
 obtain ⟨o_11,hj_12,hF⟩:=bind_some hF
 obtain ⟨hn_7,hj_12⟩:=forL_some hj_12
 refine wH_loopF0 (fun (s_8:Unit) => []) (fun (s_8:Unit) => [((extN 0),some (bV 2 Window.enc s_1))]) (fun (k_3:Nat)=>(fun (s_8:Unit) => [(0,(vV (extN 0) 2 s_1)),(1,(.fn 51 [])),(7,(vI (s_1.length:Int))),(8,(vI (k_3:Int)))])) (fun k x s=>slices_IndexFunc_api_Window_api_Window_v1_L1 s_1 k x s) o_11 (List.range ((s_1.length:Int)).toNat) () hj_12 rfl (pre_r rfl) ?_ ?_
 ·rintro ⟨k_3,l_4,s_8⟩ ⟨hL_10,hD_6⟩
  dsimp only at hL_10 hD_6
  cases l_4 with
  | nil =>
   obtain rfl:=some_inj hL_10
   refine wH_sr (h_opz (vB (decide ((k_3:Int) < (s_1.length:Int)))) (h_nil ?_))
   refine wH_seq (wH_iff rfl (range_nil hD_6) (wH_exit ?_))
   exact cut_mk (s_8) rfl rfl (pre_r rfl)
  | cons x_5 l_4 =>
   obtain ⟨c_,hc_9,hL_10⟩:=bind_some hL_10
   refine wH_sr (h_opz (vB (decide ((k_3:Int) < (s_1.length:Int)))) (h_nil ?_))
   refine wH_seq (wH_ift rfl (range_cons hD_6) (wH_skip ?_))
   unfold slices_IndexFunc_api_Window_api_Window_v1_L1 at hc_9
   refine wH_seq (wH_block (wH_sr (h_opz (vI (k_3:Int)) (h_opz (vI (k_3:Int)) (h_nil (wH_sr (h_opz (.fn 51 []) (h_opz (vV (extN 0) 2 s_1) (h_opz (vI (k_3:Int)) ?_)))))))))
   obtain ⟨_,hi_13,hc_9⟩:=bind_some hc_9
   refine h_iav es38 rfl rfl (inR_0 hi_13) (inR_lt hi_13) wz ?_
   obtain ⟨e_14,hy_15,hc_9⟩:=bind_some hc_9
   refine h_ldv 0 0 il ft sz31 ag31 rfl rfl hy_15 (.d (.agg (Window.enc e_14))) rfl wz ?_
   obtain ⟨r_16,hr_17,hc_9⟩:=bind_some hc_9
   refine h_call0 (ref_IdleOf_1_ok hr_17) rfl hb51 rfl rfl rfl rfl wz (h_nil ?_)
   rcases cond_some hc_9 with⟨hc_18,hc_9⟩ | ⟨hc_18,hc_9⟩
   ·refine wH_ift rfl hc_18 (wH_sr (h_opz (vI (k_3:Int)) (h_opz (vI (k_3:Int)) (h_nil ?_))))
    obtain rfl:=some_inj hc_9
    obtain rfl:=some_inj hL_10
    obtain rfl:=some_inj hF
    exact wH_ret (finB (.inr rfl) [(vI (k_3:Int))] _ [0] [extN 0] ⟨rfl,trivial⟩ (.cons (co_data rfl rfl) (.nil)) (by kernel_rfl) ⟨(by kernel_rfl),trivial⟩ (by decide) (by kernel_rfl))
   ·refine wH_iff rfl hc_18 (wH_skip (wH_region (h_opw (w64_nextr hD_6 hn_7) wz rfl (h_opz (vI ((k_3 + 1:Nat):Int)) (h_nil ?_)))))
    obtain rfl:=some_inj hc_9
    exact loop_mk (k_3 + 1,l_4,()) ⟨hL_10,drop_next hD_6⟩ (Nat.lt_succ_self _) rfl (pre_r rfl)
 ·rintro s_8 ho_ sl_ H_ hp_ hq_
  subst ho_
  refine wH_at _ hp_ hq_ (wH_sr (h_opz (vI (-1)) (h_nil ?_)))
  obtain rfl:=some_inj hF
  exact wH_ret (finB (.inr rfl) [(vI (-1))] _ [0] [extN 0] ⟨rfl,trivial⟩ (.cons (co_data rfl rfl) (.nil)) (by kernel_rfl) ⟨(by kernel_rfl),trivial⟩ (by decide) (by kernel_rfl))
theorem slices_DeleteFunc_api_Window_api_Window_v1_ok {s_1:(List Window)} {r:(List Window)} (hF:slices_DeleteFunc_api_Window_api_Window_v1 s_1=some r) :
  FnM Try.prog 50 [(vV (extN 0) 2 s_1),(.fn 51 [])] (([]:List Box) ++ [(bV 2 Window.enc s_1)]) (vV (extN 0) 2 r) ((([]:List Box)).map some ++ [some (bV 2 Window.enc r)]):=by
 refine FnM.of_wH ⟨Try.prog,42,[],[]⟩ rfl Try.func50 rfl rfl (Nat.le_of_ble_eq_true rfl) (by kernel_rfl) ?_
 unfold slices_DeleteFunc_api_Window_api_Window_v1 at hF
 refine wH_sr (h_opz .nil (h_nil (wH_sr (h_opz (vV (extN 0) 2 s_1) (h_opz (.fn 51 []) ?_)))))
 obtain ⟨r_3,hr_4,hF⟩:=bind_some hF
 refine h_callvb 0 [] 0 0 il ft (slices_IndexFunc_api_Window_api_Window_v1_ok hr_4) rfl hb63 rfl rfl (by kernel_rfl) (by kernel_rfl) rfl rfl (by kernel_rfl) (by kernel_rfl) (by kernel_rfl) (by kernel_rfl) rfl (by decide) (by kernel_rfl) bV_ok wz (vI r_3) (by kernel_rfl) ([((extN 0),some (bV 2 Window.enc s_1))]:Hp) (by kernel_rfl) (h_opz (vI r_3) (h_nil (wH_seq (wH_sr (h_opz (vI r_3) (h_opz (vB (r_3 == (-1))) (h_nil ?_)))))))
 rcases cond_some hF with⟨hc_5,hF⟩ | ⟨hc_5,hF⟩
 ·refine wH_ift rfl hc_5 (wH_sr (h_opz (vV (extN 0) 2 s_1) (h_opz (vV (extN 0) 2 s_1) (h_nil ?_))))
  obtain rfl:=some_inj hF
  exact wH_ret (finB (.inr rfl) [(vV (extN 0) 2 s_1)] _ [0] [extN 0] ⟨rfl,trivial⟩ (.cons (co_same' _) (.nil)) (by kernel_rfl) ⟨(by kernel_rfl),trivial⟩ (by decide) (by kernel_rfl))
 ·refine wH_iff rfl hc_5 (wH_skip (wH_seq (wH_sr (h_opz (vI r_3) (h_opz (vI (w64 (r_3 + 1))) (h_opz (vI (w64 (r_3 + 1))) (h_nil ?_)))))))
  obtain ⟨o_14,hj_15,hF⟩:=bind_some hF
  obtain ⟨nq_31,hj_15⟩:=loopO_iter hj_15
  refine wH_loopI0 (fun (s_11:(List Window)×Int×Int) => [(0,(vV (extN 0) 2 s_11.1)),(5,(vI s_11.2.1))]) (fun (s_11:(List Window)×Int×Int) => [((extN 0),some (bV 2 Window.enc s_11.1))]) (fun (k_6:Nat)=>(fun (s_11:(List Window)×Int×Int) => [(0,(vV (extN 0) 2 s_11.1)),(1,(.fn 51 [])),(5,(vI s_11.2.1)),(6,(vI s_11.2.2))])) (fun s=>slices_DeleteFunc_api_Window_api_Window_v1_L1 s) o_14 nq_31 (s_1,r_3,(w64 (r_3 + 1))) hj_15 rfl (pre_r rfl) ?_ ?_
  ·rintro ⟨k_6,s_11⟩ hL_13
   dsimp only at hL_13
   cases k_6 with
   | zero=>cases hL_13
   | succ k_6 =>
    obtain ⟨c_,hc_12,hL_13⟩:=bind_some hL_13
    unfold slices_DeleteFunc_api_Window_api_Window_v1_L1 at hc_12
    refine wH_seq (wH_sr (h_opz (vI s_11.2.2) (h_opz (vV (extN 0) 2 s_11.1) (h_lenw un38 rfl wz (h_opz (vB (decide (s_11.2.2 < (s_11.1.length:Int)))) (h_nil ?_))))))
    rcases cond_some hc_12 with⟨hc_16,hc_12⟩ | ⟨hc_16,hc_12⟩
    ·refine wH_ift rfl hc_16 (wH_skip (wH_seq (wH_block (wH_sr (h_opz (vV (extN 0) 2 s_11.1) (h_opz (vI s_11.2.2) ?_))))))
     obtain ⟨_,hi_17,hc_12⟩:=bind_some hc_12
     refine h_iav es38 rfl rfl (inR_0 hi_17) (inR_lt hi_17) wz ?_
     obtain ⟨e_18,hy_19,hc_12⟩:=bind_some hc_12
     refine h_ldv 0 0 il ft sz31 ag31 rfl rfl hy_19 (.d (.agg (Window.enc e_18))) rfl wz (h_alloc 0 (.inl rfl) z31 rfl wz (fun n_20=>h_str 0 il ft 1 sz31 rfl rfl [(vI e_18.From),(vI e_18.To)] rfl wz (h_nil (wH_sr (h_opz (.fn 51 []) (h_ldr 0 1 il ft sz31 ag31 rfl rfl (.d (.agg (Window.enc e_18))) rfl wz ?_))))))
     obtain ⟨r_21,hr_22,hc_12⟩:=bind_some hc_12
     refine h_call0 (ref_IdleOf_1_ok hr_22) rfl hb51 rfl rfl rfl rfl wz (h_opz (vB (!r_21)) (h_nil ?_))
     obtain ⟨v_23,h_24,hc_12⟩:=bind_some hc_12
     refine wH_joinU [(0,(vV (extN 0) 2 v_23.1)),(1,(.fn 51 [])),(5,(vI v_23.2)),(6,(vI s_11.2.2))] [((extN 0),some (bV 2 Window.enc v_23.1)),(n_20,some (.cells 2 [(vI e_18.From),(vI e_18.To)]))] ?_ ?_
     ·rcases cond_some h_24 with⟨hc_25,h_24⟩ | ⟨hc_25,h_24⟩
      ·refine wH_ift rfl hc_25 (wH_sr (h_opz (vV (extN 0) 2 s_11.1) (h_opz (vI s_11.2.1) (h_ldr 0 1 il ft sz31 ag31 rfl rfl (.d (.agg (Window.enc e_18))) rfl wz ?_))))
       obtain ⟨_,hi_26,h_24⟩:=bind_some h_24
       refine h_iav es38 rfl rfl (inR_0 hi_26) (inR_lt hi_26) wz ?_
       obtain ⟨e_27,hy_28,h_24⟩:=bind_some h_24
       refine h_stv 0 il ft 0 sz31 rfl rfl hy_28 e_18 rfl wz (h_re (v':=(vV (extN 0) 2 (s_11.1.set (0 + (s_11.2.1).toNat) e_18))) 0 rfl (vV_len (by simp)) (h_re (v':=(vV (extN 0) 2 (s_11.1.set (0 + (s_11.2.1).toNat) e_18))) 17 rfl (vV_len (by simp)) (h_re (v':=(vV (extN 0) 2 (s_11.1.set (0 + (s_11.2.1).toNat) e_18))) 22 rfl (vV_len (by simp)) (h_re (v':=(vV (extN 0) 2 (s_11.1.set (0 + (s_11.2.1).toNat) e_18))) 30 rfl (vV_len (by simp)) (h_nil (wH_region (h_opz (vI s_11.2.1) (h_opz (vI (w64 (s_11.2.1 + 1))) (h_opz (vI (w64 (s_11.2.1 + 1))) (h_nil ?_))))))))))
       obtain rfl:=some_inj h_24
       exact cu
      ·refine wH_iff rfl hc_25 (wH_skip ?_)
       obtain rfl:=some_inj h_24
       exact cu
     ·rintro ⟨⟩ _ sl_ H_ hp_ hq_
      refine wH_at _ hp_ hq_ (wH_region (h_opz (vI s_11.2.2) (h_opz (vI (w64 (s_11.2.2 + 1))) (h_opz (vI (w64 (s_11.2.2 + 1))) (h_nil ?_)))))
      obtain rfl:=some_inj hc_12
      exact loop_mk (k_6,(v_23.1,v_23.2,(w64 (s_11.2.2 + 1)))) hL_13 (Nat.lt_succ_self _) rfl (pre_r rfl)
    ·refine wH_iff rfl hc_16 (wH_exit ?_)
     obtain rfl:=some_inj hc_12
     obtain rfl:=some_inj hL_13
     exact cut_mk ((s_11.1,s_11.2.1,s_11.2.2)) rfl rfl (pre_r rfl)
  ·rintro s_11 ho_ sl_ H_ hp_ hq_
   subst ho_
   refine wH_at _ hp_ hq_ (wH_sr (h_opz (vV (extN 0) 2 s_11.1) (h_opz (vI s_11.2.1) ?_)))
   obtain ⟨_,hr_29,hF⟩:=bind_some hF
   refine h_partTF un38 sz31 rfl rfl hr_29 wz (h_clear (i:=0) 0 il ft (⟨0,0⟩:Window) el38 sz31 z31 rfl rfl rfl (by decide) rfl (subR_le hr_29) rfl wz (h_re (v':=(vV (extN 0) 2 (s_11.1.take ((s_11.2.1).toNat)++List.replicate (((s_11.1.length:Int)).toNat - (s_11.2.1).toNat) (⟨0,0⟩:Window)++s_11.1.drop (((s_11.2.1).toNat) + (((s_11.1.length:Int)).toNat - (s_11.2.1).toNat))))) 0 rfl (vV_len (clear_len (subR_le hr_29))) (h_re (v':=(vV (extN 0) 2 (s_11.1.take ((s_11.2.1).toNat)++List.replicate (((s_11.1.length:Int)).toNat - (s_11.2.1).toNat) (⟨0,0⟩:Window)++s_11.1.drop (((s_11.2.1).toNat) + (((s_11.1.length:Int)).toNat - (s_11.2.1).toNat))))) 36 rfl (vV_len (clear_len (subR_le hr_29))) (h_nil (wH_sr (h_opz (vV (extN 0) 2 (s_11.1.take ((s_11.2.1).toNat)++List.replicate (((s_11.1.length:Int)).toNat - (s_11.2.1).toNat) (⟨0,0⟩:Window)++s_11.1.drop (((s_11.2.1).toNat) + (((s_11.1.length:Int)).toNat - (s_11.2.1).toNat)))) (h_opz (vI s_11.2.1) ?_)))))))
   obtain ⟨_,hr_30,hF⟩:=bind_some hF
   refine h_partFT un38 sz31 rfl rfl hr_30 wz (h_opz (.vs (extN 0) 2 0 ((s_11.2.1).toNat)) (h_nil (wH_re (v':=(vV (extN 0) 2 ((s_11.1.take ((s_11.2.1).toNat)++List.replicate (((s_11.1.length:Int)).toNat - (s_11.2.1).toNat) (⟨0,0⟩:Window)++s_11.1.drop (((s_11.2.1).toNat) + (((s_11.1.length:Int)).toNat - (s_11.2.1).toNat))).take ((s_11.2.1).toNat)))) 4 rfl (vV_take (subR_le hr_30)) (wH_shr 0 ((s_11.2.1).toNat) rfl ?_))))
   obtain rfl:=some_inj hF
   exact wH_ret (finB (.inr rfl) [(vV (extN 0) 2 ((s_11.1.take ((s_11.2.1).toNat)++List.replicate (((s_11.1.length:Int)).toNat - (s_11.2.1).toNat) (⟨0,0⟩:Window)++s_11.1.drop (((s_11.2.1).toNat) + (((s_11.1.length:Int)).toNat - (s_11.2.1).toNat))).take ((s_11.2.1).toNat)))] _ [0] [extN 0] ⟨rfl,trivial⟩ (.cons (co_same' _) (.nil)) (by kernel_rfl) ⟨(by kernel_rfl),trivial⟩ (by decide) (by kernel_rfl))
theorem slices_IndexFunc_api_Window_api_Window_ok {s_1:(List Window)} {f_2:Window→Option Bool} {r:Int} {gid:FuncId} {caps:List V} {Sin:List Box} (hfn:∀ x0 r,f_2 x0=some r→FnM Try.prog gid ([(.d (.agg (Window.enc x0)))]++caps) Sin (vB r) (Sin.map some)) (hbF:hasBody Try.prog gid=true) (hcapF:caps.flatMap frz = []∧caps.map co0=caps) (hokF:okL Sin.length caps=true) (hsF:∀ b∈Sin,b.ok Sin.length=true) (hmF:∀ b∈Sin,b.mut=true) (hF:slices_IndexFunc_api_Window_api_Window s_1 f_2=some r) :
  FnM Try.prog 63 [(vL Window.enc s_1),(.fn gid caps)] Sin (vI r) (Sin.map some):=by
 refine FnM.of_wH ⟨Try.prog,19,[],[]⟩ rfl Try.func63 rfl rfl (Nat.le_of_ble_eq_true rfl) (by kernel_rfl) ?_
 unfold slices_IndexFunc_api_Window_api_Window at hF
 refine wH_sr (h_opz (vI 0) (h_nil (wH_seq (wH_sr (h_opz (vL Window.enc s_1) (h_len un38 rfl wz (h_opz (vI 0) (h_nil ?_))))))))
 obtain ⟨o_11,hj_12,hF⟩:=bind_some hF
 obtain ⟨hn_7,hj_12⟩:=forL_some hj_12
 refine wH_loopF0 (fun (s_8:Unit) => []) (fun (s_8:Unit)=>(initH 0 Sin)) (fun (k_3:Nat)=>(fun (s_8:Unit) => [(0,(vL Window.enc s_1)),(1,(.fn gid caps)),(7,(vI (s_1.length:Int))),(8,(vI (k_3:Int)))])) (fun k x s=>slices_IndexFunc_api_Window_api_Window_L1 f_2 k x s) o_11 s_1 () hj_12 rfl (pre_self _) ?_ ?_
 ·rintro ⟨k_3,l_4,s_8⟩ ⟨hL_10,hD_6⟩
  dsimp only at hL_10 hD_6
  cases l_4 with
  | nil =>
   obtain rfl:=some_inj hL_10
   refine wH_sr (h_opz (vB (decide ((k_3:Int) < (s_1.length:Int)))) (h_nil ?_))
   refine wH_seq (wH_iff rfl (drop_nil hD_6) (wH_exit ?_))
   exact cut_mk (s_8) rfl rfl (pre_self _)
  | cons x_5 l_4 =>
   obtain ⟨c_,hc_9,hL_10⟩:=bind_some hL_10
   refine wH_sr (h_opz (vB (decide ((k_3:Int) < (s_1.length:Int)))) (h_nil ?_))
   refine wH_seq (wH_ift rfl (drop_cons hD_6) (wH_skip ?_))
   unfold slices_IndexFunc_api_Window_api_Window_L1 at hc_9
   refine wH_seq (wH_block (wH_sr (h_opz (vI (k_3:Int)) (h_opz (vI (k_3:Int)) (h_nil (wH_sr (h_opz (.fn gid caps) (h_opz (vL Window.enc s_1) (h_opz (vI (k_3:Int)) (h_ia es38 rfl rfl (drop_idx hD_6) rfl wz (h_ldc sz31 ag31 rfl (.d (.agg (Window.enc x_5))) rfl wz ?_)))))))))))
   obtain ⟨r_13,hr_14,hc_9⟩:=bind_some hc_9
   refine h_callS (hfn _ _ hr_14) rfl hbF rfl rfl hcapF hokF hsF hmF rfl wz rfl (h_nil ?_)
   rcases cond_some hc_9 with⟨hc_15,hc_9⟩ | ⟨hc_15,hc_9⟩
   ·refine wH_ift rfl hc_15 (wH_sr (h_opz (vI (k_3:Int)) (h_opz (vI (k_3:Int)) (h_nil ?_))))
    obtain rfl:=some_inj hc_9
    obtain rfl:=some_inj hL_10
    obtain rfl:=some_inj hF
    exact wH_ret (finS hsF (.inr rfl) [(vI (k_3:Int))] ⟨rfl,trivial⟩ rfl rfl rfl)
   ·refine wH_iff rfl hc_15 (wH_skip (wH_region (h_opw (w64_next hD_6 hn_7) wz rfl (h_opz (vI ((k_3 + 1:Nat):Int)) (h_nil ?_)))))
    obtain rfl:=some_inj hc_9
    exact loop_mk (k_3 + 1,l_4,()) ⟨hL_10,drop_next hD_6⟩ (Nat.lt_succ_self _) rfl (pre_self _)
 ·rintro s_8 ho_ sl_ H_ hp_ hq_
  subst ho_
  refine wH_at _ hp_ hq_ (wH_sr (h_opz (vI (-1)) (h_nil ?_)))
  obtain rfl:=some_inj hF
  exact wH_ret (finS hsF (.inr rfl) [(vI (-1))] ⟨rfl,trivial⟩ rfl rfl rfl)
theorem slices_DeleteFunc_api_Window_api_Window_v2_ok {r:Unit} (hF:slices_DeleteFunc_api_Window_api_Window_v2  = some r) :
  FnM Try.prog 50 [.nil,(.fn 51 [])] [] .nil []:=by
 refine FnM.of_wH ⟨Try.prog,42,[],[]⟩ rfl Try.func50 rfl rfl (Nat.le_of_ble_eq_true rfl) (by kernel_rfl) ?_
 unfold slices_DeleteFunc_api_Window_api_Window_v2 at hF
 refine wH_sr (h_opz .nil (h_nil (wH_sr (h_opz .nil (h_opz (.fn 51 []) ?_)))))
 obtain ⟨r_3,hr_4,hF⟩:=bind_some hF
 refine h_call0 (slices_IndexFunc_api_Window_api_Window_ok (gid:=51) (caps := []) (Sin := []) (fun _ _ h_=>ref_IdleOf_1_ok h_) hb51 ⟨rfl,rfl⟩ (by kernel_rfl) (all_ok (by kernel_rfl)) (all_mut (by kernel_rfl)) hr_4) rfl hb63 rfl rfl rfl rfl wz (h_opz (vI r_3) (h_nil (wH_seq (wH_sr (h_opz (vI r_3) (h_opz (vB (r_3 == (-1))) (h_nil ?_)))))))
 rcases cond_some hF with⟨hc_5,hF⟩ | ⟨hc_5,hF⟩
 ·refine wH_ift rfl hc_5 (wH_sr (h_opz .nil (h_opz .nil (h_nil ?_))))
  obtain rfl:=some_inj hF
  exact wH_ret (finB (.inr rfl) [.nil] _ [] [] ⟨rfl,trivial⟩ (.cons (co_same' _) (.nil)) (by kernel_rfl) trivial (by decide) (by kernel_rfl))
 ·refine wH_iff rfl hc_5 (wH_skip (wH_seq (wH_sr (h_opz (vI r_3) (h_opz (vI (w64 (r_3 + 1))) (h_opz (vI (w64 (r_3 + 1))) (h_nil ?_)))))))
  obtain ⟨o_14,hj_15,hF⟩:=bind_some hF
  obtain ⟨nq_17,hj_15⟩:=loopO_iter hj_15
  refine wH_loopI0 (fun (s_11:Unit) => [(0,.nil),(5,(vI r_3))]) (fun (s_11:Unit) => []) (fun (k_6:Nat)=>(fun (s_11:Unit) => [(0,.nil),(1,(.fn 51 [])),(5,(vI r_3)),(6,(vI (w64 (r_3 + 1))))])) (fun s=>slices_DeleteFunc_api_Window_api_Window_v2_L1 r_3 s) o_14 nq_17 () hj_15 rfl (pre_r rfl) ?_ ?_
  ·rintro ⟨k_6,s_11⟩ hL_13
   dsimp only at hL_13
   cases k_6 with
   | zero=>cases hL_13
   | succ k_6 =>
    obtain ⟨c_,hc_12,hL_13⟩:=bind_some hL_13
    unfold slices_DeleteFunc_api_Window_api_Window_v2_L1 at hc_12
    refine wH_seq (wH_sr (h_opz (vI (w64 (r_3 + 1))) (h_opz .nil (h_lenn un38 rfl wz (h_opz (vB (decide ((w64 (r_3 + 1)) < 0))) (h_nil ?_))))))
    rcases cond_some hc_12 with⟨hc_16,hc_12⟩ | ⟨hc_16,hc_12⟩
    ·refine wH_ift rfl hc_16 (wH_skip (wH_seq (wH_block (wH_sr (h_opz .nil (h_opz (vI (w64 (r_3 + 1))) ?_))))))
     cases hc_12
    ·refine wH_iff rfl hc_16 (wH_exit ?_)
     obtain rfl:=some_inj hc_12
     obtain rfl:=some_inj hL_13
     exact cut_mk (()) rfl rfl (pre_r rfl)
  ·rintro s_11 ho_ sl_ H_ hp_ hq_
   subst ho_
   refine wH_at _ hp_ hq_ (wH_sr (h_opz .nil (h_opz (vI r_3) ?_)))
   cases hF
theorem ref_IdleOf_2_ok {x_1:Window} {r:Bool} (hF:ref_IdleOf_2 x_1=some r) :
  FnM Try.prog 52 [(.d (.agg (Window.enc x_1)))] [] (vB r) []:=by
 refine FnM.of_wH ⟨Try.prog,8,[],[]⟩ rfl Try.func52 rfl rfl (Nat.le_of_ble_eq_true rfl) (by kernel_rfl) ?_
 unfold ref_IdleOf_2 at hF
 refine wH_sr (h_box 0 (.inl rfl) [(vI x_1.From),(vI x_1.To)] rfl rfl wz (fun n_2=>h_opz (vB false) (h_nil (wH_sr (h_far pl31_0 rfl 0 rfl wz (h_ldr 0 0 il ft sz3 ag3 rfl rfl (vI x_1.From) rfl wz (h_far pl31_1 rfl 1 rfl wz (h_ldr 0 0 il ft sz3 ag3 rfl rfl (vI x_1.To) rfl wz (h_opz (vB (decide (x_1.From≥x_1.To))) (h_opz (vB (decide (x_1.From≥x_1.To))) (h_nil ?_)))))))))))
 obtain rfl:=some_inj hF
 exact wH_ret (fin0r [(vB (decide (x_1.From≥x_1.To)))] ⟨rfl,trivial⟩)
theorem slices_IndexFunc_api_Window_api_Window_v2_ok {s_1:(List Window)} {r:Int} (hF:slices_IndexFunc_api_Window_api_Window_v2 s_1=some r) :
  FnM Try.prog 63 [(vV (extN 0) 2 s_1),(.fn 52 [])] (([]:List Box) ++ [(bV 2 Window.enc s_1)]) (vI r) ((([]:List Box)).map some ++ [some (bV 2 Window.enc s_1)]):=by
 refine FnM.of_wH ⟨Try.prog,19,[],[]⟩ rfl Try.func63 rfl rfl (Nat.le_of_ble_eq_true rfl) (by kernel_rfl) ?_
 unfold slices_IndexFunc_api_Window_api_Window_v2 at hF
 refine wH_sr (h_opz (vI 0) (h_nil (wH_seq (wH_sr (h_opz (vV (extN 0) 2 s_1) (h_lenw un38 rfl wz (h_opz (vI 0) (h_nil ?_))))))))
 obtain ⟨o_11,hj_12,hF⟩:=bind_some hF
 obtain ⟨hn_7,hj_12⟩:=forL_some hj_12
 refine wH_loopF0 (fun (s_8:Unit) => []) (fun (s_8:Unit) => [((extN 0),some (bV 2 Window.enc s_1))]) (fun (k_3:Nat)=>(fun (s_8:Unit) => [(0,(vV (extN 0) 2 s_1)),(1,(.fn 52 [])),(7,(vI (s_1.length:Int))),(8,(vI (k_3:Int)))])) (fun k x s=>slices_IndexFunc_api_Window_api_Window_v2_L1 s_1 k x s) o_11 (List.range ((s_1.length:Int)).toNat) () hj_12 rfl (pre_r rfl) ?_ ?_
 ·rintro ⟨k_3,l_4,s_8⟩ ⟨hL_10,hD_6⟩
  dsimp only at hL_10 hD_6
  cases l_4 with
  | nil =>
   obtain rfl:=some_inj hL_10
   refine wH_sr (h_opz (vB (decide ((k_3:Int) < (s_1.length:Int)))) (h_nil ?_))
   refine wH_seq (wH_iff rfl (range_nil hD_6) (wH_exit ?_))
   exact cut_mk (s_8) rfl rfl (pre_r rfl)
  | cons x_5 l_4 =>
   obtain ⟨c_,hc_9,hL_10⟩:=bind_some hL_10
   refine wH_sr (h_opz (vB (decide ((k_3:Int) < (s_1.length:Int)))) (h_nil ?_))
   refine wH_seq (wH_ift rfl (range_cons hD_6) (wH_skip ?_))
   unfold slices_IndexFunc_api_Window_api_Window_v2_L1 at hc_9
   refine wH_seq (wH_block (wH_sr (h_opz (vI (k_3:Int)) (h_opz (vI (k_3:Int)) (h_nil (wH_sr (h_opz (.fn 52 []) (h_opz (vV (extN 0) 2 s_1) (h_opz (vI (k_3:Int)) ?_)))))))))
   obtain ⟨_,hi_13,hc_9⟩:=bind_some hc_9
   refine h_iav es38 rfl rfl (inR_0 hi_13) (inR_lt hi_13) wz ?_
   obtain ⟨e_14,hy_15,hc_9⟩:=bind_some hc_9
   refine h_ldv 0 0 il ft sz31 ag31 rfl rfl hy_15 (.d (.agg (Window.enc e_14))) rfl wz ?_
   obtain ⟨r_16,hr_17,hc_9⟩:=bind_some hc_9
   refine h_call0 (ref_IdleOf_2_ok hr_17) rfl hb52 rfl rfl rfl rfl wz (h_nil ?_)
   rcases cond_some hc_9 with⟨hc_18,hc_9⟩ | ⟨hc_18,hc_9⟩
   ·refine wH_ift rfl hc_18 (wH_sr (h_opz (vI (k_3:Int)) (h_opz (vI (k_3:Int)) (h_nil ?_))))
    obtain rfl:=some_inj hc_9
    obtain rfl:=some_inj hL_10
    obtain rfl:=some_inj hF
    exact wH_ret (finB (.inr rfl) [(vI (k_3:Int))] _ [0] [extN 0] ⟨rfl,trivial⟩ (.cons (co_data rfl rfl) (.nil)) (by kernel_rfl) ⟨(by kernel_rfl),trivial⟩ (by decide) (by kernel_rfl))
   ·refine wH_iff rfl hc_18 (wH_skip (wH_region (h_opw (w64_nextr hD_6 hn_7) wz rfl (h_opz (vI ((k_3 + 1:Nat):Int)) (h_nil ?_)))))
    obtain rfl:=some_inj hc_9
    exact loop_mk (k_3 + 1,l_4,()) ⟨hL_10,drop_next hD_6⟩ (Nat.lt_succ_self _) rfl (pre_r rfl)
 ·rintro s_8 ho_ sl_ H_ hp_ hq_
  subst ho_
  refine wH_at _ hp_ hq_ (wH_sr (h_opz (vI (-1)) (h_nil ?_)))
  obtain rfl:=some_inj hF
  exact wH_ret (finB (.inr rfl) [(vI (-1))] _ [0] [extN 0] ⟨rfl,trivial⟩ (.cons (co_data rfl rfl) (.nil)) (by kernel_rfl) ⟨(by kernel_rfl),trivial⟩ (by decide) (by kernel_rfl))
theorem slices_DeleteFunc_api_Window_api_Window_v3_ok {s_1:(List Window)} {r:(List Window)} (hF:slices_DeleteFunc_api_Window_api_Window_v3 s_1=some r) :
  FnM Try.prog 50 [(vV (extN 0) 2 s_1),(.fn 52 [])] (([]:List Box) ++ [(bV 2 Window.enc s_1)]) (vV (extN 0) 2 r) ((([]:List Box)).map some ++ [some (bV 2 Window.enc r)]):=by
 refine FnM.of_wH ⟨Try.prog,42,[],[]⟩ rfl Try.func50 rfl rfl (Nat.le_of_ble_eq_true rfl) (by kernel_rfl) ?_
 unfold slices_DeleteFunc_api_Window_api_Window_v3 at hF
 refine wH_sr (h_opz .nil (h_nil (wH_sr (h_opz (vV (extN 0) 2 s_1) (h_opz (.fn 52 []) ?_)))))
 obtain ⟨r_3,hr_4,hF⟩:=bind_some hF
 refine h_callvb 0 [] 0 0 il ft (slices_IndexFunc_api_Window_api_Window_v2_ok hr_4) rfl hb63 rfl rfl (by kernel_rfl) (by kernel_rfl) rfl rfl (by kernel_rfl) (by kernel_rfl) (by kernel_rfl) (by kernel_rfl) rfl (by decide) (by kernel_rfl) bV_ok wz (vI r_3) (by kernel_rfl) ([((extN 0),some (bV 2 Window.enc s_1))]:Hp) (by kernel_rfl) (h_opz (vI r_3) (h_nil (wH_seq (wH_sr (h_opz (vI r_3) (h_opz (vB (r_3 == (-1))) (h_nil ?_)))))))
 rcases cond_some hF with⟨hc_5,hF⟩ | ⟨hc_5,hF⟩
 ·refine wH_ift rfl hc_5 (wH_sr (h_opz (vV (extN 0) 2 s_1) (h_opz (vV (extN 0) 2 s_1) (h_nil ?_))))
  obtain rfl:=some_inj hF
  exact wH_ret (finB (.inr rfl) [(vV (extN 0) 2 s_1)] _ [0] [extN 0] ⟨rfl,trivial⟩ (.cons (co_same' _) (.nil)) (by kernel_rfl) ⟨(by kernel_rfl),trivial⟩ (by decide) (by kernel_rfl))
 ·refine wH_iff rfl hc_5 (wH_skip (wH_seq (wH_sr (h_opz (vI r_3) (h_opz (vI (w64 (r_3 + 1))) (h_opz (vI (w64 (r_3 + 1))) (h_nil ?_)))))))
  obtain ⟨o_14,hj_15,hF⟩:=bind_some hF
  obtain ⟨nq_31,hj_15⟩:=loopO_iter hj_15
  refine wH_loopI0 (fun (s_11:(List Window)×Int×Int) => [(0,(vV (extN 0) 2 s_11.1)),(5,(vI s_11.2.1))]) (fun (s_11:(List Window)×Int×Int) => [((extN 0),some (bV 2 Window.enc s_11.1))]) (fun (k_6:Nat)=>(fun (s_11:(List Window)×Int×Int) => [(0,(vV (extN 0) 2 s_11.1)),(1,(.fn 52 [])),(5,(vI s_11.2.1)),(6,(vI s_11.2.2))])) (fun s=>slices_DeleteFunc_api_Window_api_Window_v3_L1 s) o_14 nq_31 (s_1,r_3,(w64 (r_3 + 1))) hj_15 rfl (pre_r rfl) ?_ ?_
  ·rintro ⟨k_6,s_11⟩ hL_13
   dsimp only at hL_13
   cases k_6 with
   | zero=>cases hL_13
   | succ k_6 =>
    obtain ⟨c_,hc_12,hL_13⟩:=bind_some hL_13
    unfold slices_DeleteFunc_api_Window_api_Window_v3_L1 at hc_12
    refine wH_seq (wH_sr (h_opz (vI s_11.2.2) (h_opz (vV (extN 0) 2 s_11.1) (h_lenw un38 rfl wz (h_opz (vB (decide (s_11.2.2 < (s_11.1.length:Int)))) (h_nil ?_))))))
    rcases cond_some hc_12 with⟨hc_16,hc_12⟩ | ⟨hc_16,hc_12⟩
    ·refine wH_ift rfl hc_16 (wH_skip (wH_seq (wH_block (wH_sr (h_opz (vV (extN 0) 2 s_11.1) (h_opz (vI s_11.2.2) ?_))))))
     obtain ⟨_,hi_17,hc_12⟩:=bind_some hc_12
     refine h_iav es38 rfl rfl (inR_0 hi_17) (inR_lt hi_17) wz ?_
     obtain ⟨e_18,hy_19,hc_12⟩:=bind_some hc_12
     refine h_ldv 0 0 il ft sz31 ag31 rfl rfl hy_19 (.d (.agg (Window.enc e_18))) rfl wz (h_alloc 0 (.inl rfl) z31 rfl wz (fun n_20=>h_str 0 il ft 1 sz31 rfl rfl [(vI e_18.From),(vI e_18.To)] rfl wz (h_nil (wH_sr (h_opz (.fn 52 []) (h_ldr 0 1 il ft sz31 ag31 rfl rfl (.d (.agg (Window.enc e_18))) rfl wz ?_))))))
     obtain ⟨r_21,hr_22,hc_12⟩:=bind_some hc_12
     refine h_call0 (ref_IdleOf_2_ok hr_22) rfl hb52 rfl rfl rfl rfl wz (h_opz (vB (!r_21)) (h_nil ?_))
     obtain ⟨v_23,h_24,hc_12⟩:=bind_some hc_12
     refine wH_joinU [(0,(vV (extN 0) 2 v_23.1)),(1,(.fn 52 [])),(5,(vI v_23.2)),(6,(vI s_11.2.2))] [((extN 0),some (bV 2 Window.enc v_23.1)),(n_20,some (.cells 2 [(vI e_18.From),(vI e_18.To)]))] ?_ ?_
     ·rcases cond_some h_24 with⟨hc_25,h_24⟩ | ⟨hc_25,h_24⟩
      ·refine wH_ift rfl hc_25 (wH_sr (h_opz (vV (extN 0) 2 s_11.1) (h_opz (vI s_11.2.1) (h_ldr 0 1 il ft sz31 ag31 rfl rfl (.d (.agg (Window.enc e_18))) rfl wz ?_))))
       obtain ⟨_,hi_26,h_24⟩:=bind_some h_24
       refine h_iav es38 rfl rfl (inR_0 hi_26) (inR_lt hi_26) wz ?_
       obtain ⟨e_27,hy_28,h_24⟩:=bind_some h_24
       refine h_stv 0 il ft 0 sz31 rfl rfl hy_28 e_18 rfl wz (h_re (v':=(vV (extN 0) 2 (s_11.1.set (0 + (s_11.2.1).toNat) e_18))) 0 rfl (vV_len (by simp)) (h_re (v':=(vV (extN 0) 2 (s_11.1.set (0 + (s_11.2.1).toNat) e_18))) 17 rfl (vV_len (by simp)) (h_re (v':=(vV (extN 0) 2 (s_11.1.set (0 + (s_11.2.1).toNat) e_18))) 22 rfl (vV_len (by simp)) (h_re (v':=(vV (extN 0) 2 (s_11.1.set (0 + (s_11.2.1).toNat) e_18))) 30 rfl (vV_len (by simp)) (h_nil (wH_region (h_opz (vI s_11.2.1) (h_opz (vI (w64 (s_11.2.1 + 1))) (h_opz (vI (w64 (s_11.2.1 + 1))) (h_nil ?_))))))))))
       obtain rfl:=some_inj h_24
       exact cu
      ·refine wH_iff rfl hc_25 (wH_skip ?_)
       obtain rfl:=some_inj h_24
       exact cu
     ·rintro ⟨⟩ _ sl_ H_ hp_ hq_
      refine wH_at _ hp_ hq_ (wH_region (h_opz (vI s_11.2.2) (h_opz (vI (w64 (s_11.2.2 + 1))) (h_opz (vI (w64 (s_11.2.2 + 1))) (h_nil ?_)))))
      obtain rfl:=some_inj hc_12
      exact loop_mk (k_6,(v_23.1,v_23.2,(w64 (s_11.2.2 + 1)))) hL_13 (Nat.lt_succ_self _) rfl (pre_r rfl)
    ·refine wH_iff rfl hc_16 (wH_exit ?_)
     obtain rfl:=some_inj hc_12
     obtain rfl:=some_inj hL_13
     exact cut_mk ((s_11.1,s_11.2.1,s_11.2.2)) rfl rfl (pre_r rfl)
  ·rintro s_11 ho_ sl_ H_ hp_ hq_
   subst ho_
   refine wH_at _ hp_ hq_ (wH_sr (h_opz (vV (extN 0) 2 s_11.1) (h_opz (vI s_11.2.1) ?_)))
   obtain ⟨_,hr_29,hF⟩:=bind_some hF
   refine h_partTF un38 sz31 rfl rfl hr_29 wz (h_clear (i:=0) 0 il ft (⟨0,0⟩:Window) el38 sz31 z31 rfl rfl rfl (by decide) rfl (subR_le hr_29) rfl wz (h_re (v':=(vV (extN 0) 2 (s_11.1.take ((s_11.2.1).toNat)++List.replicate (((s_11.1.length:Int)).toNat - (s_11.2.1).toNat) (⟨0,0⟩:Window)++s_11.1.drop (((s_11.2.1).toNat) + (((s_11.1.length:Int)).toNat - (s_11.2.1).toNat))))) 0 rfl (vV_len (clear_len (subR_le hr_29))) (h_re (v':=(vV (extN 0) 2 (s_11.1.take ((s_11.2.1).toNat)++List.replicate (((s_11.1.length:Int)).toNat - (s_11.2.1).toNat) (⟨0,0⟩:Window)++s_11.1.drop (((s_11.2.1).toNat) + (((s_11.1.length:Int)).toNat - (s_11.2.1).toNat))))) 36 rfl (vV_len (clear_len (subR_le hr_29))) (h_nil (wH_sr (h_opz (vV (extN 0) 2 (s_11.1.take ((s_11.2.1).toNat)++List.replicate (((s_11.1.length:Int)).toNat - (s_11.2.1).toNat) (⟨0,0⟩:Window)++s_11.1.drop (((s_11.2.1).toNat) + (((s_11.1.length:Int)).toNat - (s_11.2.1).toNat)))) (h_opz (vI s_11.2.1) ?_)))))))
   obtain ⟨_,hr_30,hF⟩:=bind_some hF
   refine h_partFT un38 sz31 rfl rfl hr_30 wz (h_opz (.vs (extN 0) 2 0 ((s_11.2.1).toNat)) (h_nil (wH_re (v':=(vV (extN 0) 2 ((s_11.1.take ((s_11.2.1).toNat)++List.replicate (((s_11.1.length:Int)).toNat - (s_11.2.1).toNat) (⟨0,0⟩:Window)++s_11.1.drop (((s_11.2.1).toNat) + (((s_11.1.length:Int)).toNat - (s_11.2.1).toNat))).take ((s_11.2.1).toNat)))) 4 rfl (vV_take (subR_le hr_30)) (wH_shr 0 ((s_11.2.1).toNat) rfl ?_))))
   obtain rfl:=some_inj hF
   exact wH_ret (finB (.inr rfl) [(vV (extN 0) 2 ((s_11.1.take ((s_11.2.1).toNat)++List.replicate (((s_11.1.length:Int)).toNat - (s_11.2.1).toNat) (⟨0,0⟩:Window)++s_11.1.drop (((s_11.2.1).toNat) + (((s_11.1.length:Int)).toNat - (s_11.2.1).toNat))).take ((s_11.2.1).toNat)))] _ [0] [extN 0] ⟨rfl,trivial⟩ (.cons (co_same' _) (.nil)) (by kernel_rfl) ⟨(by kernel_rfl),trivial⟩ (by decide) (by kernel_rfl))
theorem slices_DeleteFunc_api_Window_api_Window_v4_ok {r:Unit} (hF:slices_DeleteFunc_api_Window_api_Window_v4  = some r) :
  FnM Try.prog 50 [.nil,(.fn 52 [])] [] .nil []:=by
 refine FnM.of_wH ⟨Try.prog,42,[],[]⟩ rfl Try.func50 rfl rfl (Nat.le_of_ble_eq_true rfl) (by kernel_rfl) ?_
 unfold slices_DeleteFunc_api_Window_api_Window_v4 at hF
 refine wH_sr (h_opz .nil (h_nil (wH_sr (h_opz .nil (h_opz (.fn 52 []) ?_)))))
 obtain ⟨r_3,hr_4,hF⟩:=bind_some hF
 refine h_call0 (slices_IndexFunc_api_Window_api_Window_ok (gid:=52) (caps := []) (Sin := []) (fun _ _ h_=>ref_IdleOf_2_ok h_) hb52 ⟨rfl,rfl⟩ (by kernel_rfl) (all_ok (by kernel_rfl)) (all_mut (by kernel_rfl)) hr_4) rfl hb63 rfl rfl rfl rfl wz (h_opz (vI r_3) (h_nil (wH_seq (wH_sr (h_opz (vI r_3) (h_opz (vB (r_3 == (-1))) (h_nil ?_)))))))
 rcases cond_some hF with⟨hc_5,hF⟩ | ⟨hc_5,hF⟩
 ·refine wH_ift rfl hc_5 (wH_sr (h_opz .nil (h_opz .nil (h_nil ?_))))
  obtain rfl:=some_inj hF
  exact wH_ret (finB (.inr rfl) [.nil] _ [] [] ⟨rfl,trivial⟩ (.cons (co_same' _) (.nil)) (by kernel_rfl) trivial (by decide) (by kernel_rfl))
 ·refine wH_iff rfl hc_5 (wH_skip (wH_seq (wH_sr (h_opz (vI r_3) (h_opz (vI (w64 (r_3 + 1))) (h_opz (vI (w64 (r_3 + 1))) (h_nil ?_)))))))
  obtain ⟨o_14,hj_15,hF⟩:=bind_some hF
  obtain ⟨nq_17,hj_15⟩:=loopO_iter hj_15
  refine wH_loopI0 (fun (s_11:Unit) => [(0,.nil),(5,(vI r_3))]) (fun (s_11:Unit) => []) (fun (k_6:Nat)=>(fun (s_11:Unit) => [(0,.nil),(1,(.fn 52 [])),(5,(vI r_3)),(6,(vI (w64 (r_3 + 1))))])) (fun s=>slices_DeleteFunc_api_Window_api_Window_v4_L1 r_3 s) o_14 nq_17 () hj_15 rfl (pre_r rfl) ?_ ?_
  ·rintro ⟨k_6,s_11⟩ hL_13
   dsimp only at hL_13
   cases k_6 with
   | zero=>cases hL_13
   | succ k_6 =>
    obtain ⟨c_,hc_12,hL_13⟩:=bind_some hL_13
    unfold slices_DeleteFunc_api_Window_api_Window_v4_L1 at hc_12
    refine wH_seq (wH_sr (h_opz (vI (w64 (r_3 + 1))) (h_opz .nil (h_lenn un38 rfl wz (h_opz (vB (decide ((w64 (r_3 + 1)) < 0))) (h_nil ?_))))))
    rcases cond_some hc_12 with⟨hc_16,hc_12⟩ | ⟨hc_16,hc_12⟩
    ·refine wH_ift rfl hc_16 (wH_skip (wH_seq (wH_block (wH_sr (h_opz .nil (h_opz (vI (w64 (r_3 + 1))) ?_))))))
     cases hc_12
    ·refine wH_iff rfl hc_16 (wH_exit ?_)
     obtain rfl:=some_inj hc_12
     obtain rfl:=some_inj hL_13
     exact cut_mk (()) rfl rfl (pre_r rfl)
  ·rintro s_11 ho_ sl_ H_ hp_ hq_
   subst ho_
   refine wH_at _ hp_ hq_ (wH_sr (h_opz .nil (h_opz (vI r_3) ?_)))
   cases hF
theorem ref_IdleOf_ok {l_1:(List Play)} {player_2:ByteArray} {wv_3:Window} {r:(List Window)} (hF:ref_IdleOf l_1 player_2 wv_3=some r) :
  FnM Try.prog 19 [(vL Play.enc l_1),(vS player_2),(.d (.agg (Window.enc wv_3)))] [] (vL Window.enc r) []:=by
 refine FnM.of_wH ⟨Try.prog,59,[14],[]⟩ rfl Try.func19 rfl rfl (Nat.le_of_ble_eq_true rfl) (by kernel_rfl) ?_
 unfold ref_IdleOf at hF
 refine wH_sr (h_box 0 (.inl rfl) [(vI wv_3.From),(vI wv_3.To)] rfl rfl wz (fun n_4=>h_opz .nil (h_nil (wH_sr (h_ldr 0 0 il ft sz31 ag31 rfl rfl (.d (.agg (Window.enc wv_3))) rfl wz (h_litv 0 (.inl rfl) (([wv_3]:List Window).map Window.enc) es38 ez38 rfl rfl rfl rfl rfl wz (fun n_5=>h_re (v':=(kV true n_5 2 ([wv_3]:List Window))) 14 rfl rfl (h_reH (b':=kB true 2 Window.enc ([wv_3]:List Window)) 1 rfl rfl (h_opz (kV true n_5 2 ([wv_3]:List Window)) (h_nil (wH_seq (wH_sr (h_opz (vL Play.enc l_1) (h_len un26 rfl wz (h_opz (vI 0) (h_nil ?_))))))))))))))))
 obtain ⟨o_18,hj_19,hF⟩:=bind_some hF
 obtain ⟨hn_10,hj_19⟩:=forL_some hj_19
 refine wH_loopF (σ:=(List Window)) (N:=Nm×Bool) (fun p=>(fun (s_11:(List Window)) (n_14:Nm) (gb_15:Bool)=>([(7,(kV gb_15 n_14 2 s_11))]:List (Nat×V))) p.1 p.2.1 p.2.2) (fun p=>(fun (s_11:(List Window)) (n_14:Nm) (gb_15:Bool)=>([(n_4,some (.cells 2 [(vI wv_3.From),(vI wv_3.To)])),(n_14,kB gb_15 2 Window.enc s_11)]:Hp)) p.1 p.2.1 p.2.2) (fun (k_6:Nat)=>(fun p=>(fun (s_11:(List Window)) (n_14:Nm) (gb_15:Bool)=>([(1,(vS player_2)),(7,(kV gb_15 n_14 2 s_11)),(15,(vL Play.enc l_1)),(16,(vI (l_1.length:Int))),(17,(vI (k_6:Int)))]:List (Nat×V))) p.1 p.2.1 p.2.2)) (fun k x s=>ref_IdleOf_L2 player_2 k x s) o_18 l_1 (([wv_3]:List Window),n_5,true) hj_19 rfl (pre_r rfl) ?_ ?_
 ·rintro ⟨k_6,l_7,s_11,n_14,gb_15⟩ ⟨hL_17,hD_9⟩
  dsimp only at hL_17 hD_9
  cases l_7 with
  | nil =>
   obtain rfl:=some_inj hL_17
   refine wH_sr (h_opz (vB (decide ((k_6:Int) < (l_1.length:Int)))) (h_nil ?_))
   refine wH_seq (wH_iff rfl (drop_nil hD_9) (wH_exit ?_))
   exact cut_mk (s_11,n_14,gb_15) rfl rfl (pre_r rfl)
  | cons x_8 l_7 =>
   obtain ⟨c_,hc_16,hL_17⟩:=bind_some hL_17
   refine wH_sr (h_opz (vB (decide ((k_6:Int) < (l_1.length:Int)))) (h_nil ?_))
   refine wH_seq (wH_ift rfl (drop_cons hD_9) (wH_skip ?_))
   unfold ref_IdleOf_L2 at hc_16
   refine wH_seq (wH_block (wH_sr (h_ia es26 rfl rfl (drop_idx hD_9) rfl wz (h_ldc sz65 ag65 rfl (.d (.agg (Play.enc x_8))) rfl wz (h_alloc 0 (.inl rfl) z65 rfl wz (fun n_20=>h_str 0 il ft 2 sz65 rfl rfl (Play.v x_8) rfl wz (h_nil (wH_seq (wH_sr (h_far pl65_0 rfl 0 rfl wz (h_ldr 0 2 il ft sz9 ag9 rfl rfl (vS x_8.Player) rfl wz (h_opz (vS player_2) (h_opz (vB (sNe x_8.Player player_2)) (h_nil ?_))))))))))))))
   rcases cond_some hc_16 with⟨hc_21,hc_16⟩ | ⟨hc_21,hc_16⟩
   ·refine wH_ift rfl hc_21 (wH_exit (wH_region (h_opw (w64_next hD_9 hn_10) wz rfl (h_opz (vI ((k_6 + 1:Nat):Int)) (h_nil ?_)))))
    obtain rfl:=some_inj hc_16
    exact loop_mk (k_6 + 1,l_7,s_11,n_14,gb_15) ⟨hL_17,drop_next hD_9⟩ (Nat.lt_succ_self _) rfl (pre_r rfl)
   ·refine wH_iff rfl hc_21 (wH_skip (wH_sr (h_opz .nil (h_nil (wH_seq (wH_sr (h_opz (kV gb_15 n_14 2 s_11) (h_lenk un38 rfl wz (h_opz (vI 0) (h_nil (wH_frozk 1 rfl (wH_cok 7 1 rfl rfl (wH_cok 25 1 rfl rfl (wH_new (fun n_28 => ?_)))))))))))))))
    obtain ⟨o_33,hj_34,hc_16⟩:=bind_some hc_16
    obtain ⟨hn_26,hj_34⟩:=forL_some hj_34
    refine wH_loopF (σ:=(List Window)) (N:=Nm) (fun p=>(fun (s_27:(List Window)) (n_30:Nm)=>([(1,(vS player_2)),(10,(gV n_30 2 s_27)),(15,(vL Play.enc l_1)),(16,(vI (l_1.length:Int))),(17,(vI (k_6:Int)))]:List (Nat×V))) p.1 p.2) (fun p=>(fun (s_27:(List Window)) (n_30:Nm)=>([(n_4,some (.cells 2 [(vI wv_3.From),(vI wv_3.To)])),(n_14,kF gb_15 2 Window.enc s_11),(n_20,some (.cells 4 (Play.v x_8))),(n_30,gB 2 Window.enc s_27)]:Hp)) p.1 p.2) (fun (k_22:Nat)=>(fun p=>(fun (s_27:(List Window)) (n_30:Nm)=>([(1,(vS player_2)),(9,(.ref n_20 0 0)),(10,(gV n_30 2 s_27)),(15,(vL Play.enc l_1)),(16,(vI (l_1.length:Int))),(17,(vI (k_6:Int))),(25,(vL Window.enc s_11)),(26,(vI (s_11.length:Int))),(27,(vI (k_22:Int)))]:List (Nat×V))) p.1 p.2)) (fun k x s=>ref_IdleOf_L1 x_8 k x s) o_33 s_11 (([]:List Window),n_28) hj_34 rfl (pre_r rfl) ?_ ?_
    ·rintro ⟨k_22,l_23,s_27,n_30⟩ ⟨hL_32,hD_25⟩
     dsimp only at hL_32 hD_25
     cases l_23 with
     | nil =>
      obtain rfl:=some_inj hL_32
      refine wH_sr (h_opz (vB (decide ((k_22:Int) < (s_11.length:Int)))) (h_nil ?_))
      refine wH_seq (wH_iff rfl (drop_nil hD_25) (wH_exit ?_))
      exact cut_mk (s_27,n_30) rfl rfl (pre_r rfl)
     | cons x_24 l_23 =>
      obtain ⟨c_,hc_31,hL_32⟩:=bind_some hL_32
      refine wH_sr (h_opz (vB (decide ((k_22:Int) < (s_11.length:Int)))) (h_nil ?_))
      refine wH_seq (wH_ift rfl (drop_cons hD_25) (wH_skip ?_))
      unfold ref_IdleOf_L1 at hc_31
      refine wH_seq (wH_block (wH_sr (h_ia es38 rfl rfl (drop_idx hD_25) rfl wz (h_ldc sz31 ag31 rfl (.d (.agg (Window.enc x_24))) rfl wz (h_alloc 0 (.inl rfl) z31 rfl wz (fun n_35=>h_str 0 il ft 4 sz31 rfl rfl [(vI x_24.From),(vI x_24.To)] rfl wz (h_nil (wH_region (h_opz (gV n_30 2 s_27) (h_far pl31_0 rfl 0 rfl wz (h_ldr 0 4 il ft sz3 ag3 rfl rfl (vI x_24.From) rfl wz (h_far pl31_1 rfl 1 rfl wz (h_ldr 0 4 il ft sz3 ag3 rfl rfl (vI x_24.To) rfl wz (h_far pl65_2 rfl 2 rfl wz (h_ldr 0 2 il ft sz3 ag3 rfl rfl (vI x_8.At) rfl wz (h_minmax (vI (minI x_24.To x_8.At)) rfl (.inl rfl) wz (h_op (.d (.agg (Window.enc (⟨x_24.From,(minI x_24.To x_8.At)⟩:Window)))) wz (by kernel_rfl) (h_far pl31_0 rfl 0 rfl wz (h_ldr 0 4 il ft sz3 ag3 rfl rfl (vI x_24.From) rfl wz (h_far pl65_2 rfl 2 rfl wz (h_ldr 0 2 il ft sz3 ag3 rfl rfl (vI x_8.At) rfl wz (h_far pl65_3 rfl 3 rfl wz (h_ldr 0 2 il ft sz3 ag3 rfl rfl (vI x_8.Long) rfl wz ?_)))))))))))))))))))))))
      refine h_opz (vI (w64 (x_8.At + x_8.Long))) (h_minmax (vI (maxI x_24.From (w64 (x_8.At + x_8.Long)))) rfl (.inr rfl) wz (h_far pl31_1 rfl 1 rfl wz (h_ldr 0 4 il ft sz3 ag3 rfl rfl (vI x_24.To) rfl wz (h_op (.d (.agg (Window.enc (⟨(maxI x_24.From (w64 (x_8.At + x_8.Long))),x_24.To⟩:Window)))) wz (by kernel_rfl) (h_lit (([(⟨x_24.From,(minI x_24.To x_8.At)⟩:Window),(⟨(maxI x_24.From (w64 (x_8.At + x_8.Long))),x_24.To⟩:Window)]:List Window).map Window.enc) es38 ez38 rfl rfl rfl rfl rfl wz ?_)))))
      obtain ⟨a_36,hz_37,hc_31⟩:=bind_some hc_31
      refine h_appg 0 il ft (i:=3) el38 el38 sz31 z31 rfl (by decide) by31 (by decide) (fun _=>rfl) rfl rfl rfl hz_37 wz (fun n_38=>h_opz (gV n_38 2 a_36) (h_nil (wH_region (h_opw (w64_next hD_25 hn_26) wz rfl (h_opz (vI ((k_22 + 1:Nat):Int)) (h_nil ?_))))))
      obtain rfl:=some_inj hc_31
      exact loop_mk (k_22 + 1,l_23,a_36,n_38) ⟨hL_32,drop_next hD_25⟩ (Nat.lt_succ_self _) rfl (pre_r rfl)
    ·rintro ⟨s_27,n_30⟩ ho_ sl_ H_ hp_ hq_
     subst ho_
     refine wH_at _ hp_ hq_ (wH_region (h_opz (gV n_30 2 s_27) (h_re (v':=(kV false n_30 2 s_27)) 10 rfl rfl (h_re (v':=(kV false n_30 2 s_27)) 54 rfl rfl (h_reH (b':=kB false 2 Window.enc s_27) 3 rfl rfl ?_)))))
     obtain ⟨r_39,hr_40,hc_16⟩:=bind_some hc_16
     obtain ⟨_,hl_42,hc_16⟩:=bind_some hc_16
     obtain ⟨_,hr_41,hc_16⟩:=bind_some hc_16
     replace hl_42:=leL_le hl_42
     refine h_callcut [] 3 0 (slices_DeleteFunc_api_Window_api_Window_v1_ok hr_40) (slices_DeleteFunc_api_Window_api_Window_v2_ok hr_41) hl_42 (fun _ _=>rfl) rfl hb50 rfl rfl (by kernel_rfl) (by kernel_rfl) (by kernel_rfl) rfl rfl (by kernel_rfl) (by kernel_rfl) (by kernel_rfl) (by kernel_rfl) rfl rfl (by decide) wz ([(n_4,some (.cells 2 [(vI wv_3.From),(vI wv_3.To)])),(n_14,kF gb_15 2 Window.enc s_11),(n_20,some (.cells 4 (Play.v x_8))),(n_30,kB (false || !s_27.isEmpty) 2 Window.enc r_39)]:Hp) (by kernel_rfl) (h_opz (kV (false || !s_27.isEmpty) n_30 2 r_39) (h_nil (wH_region (h_opw (w64_next hD_9 hn_10) wz rfl (h_opz (vI ((k_6 + 1:Nat):Int)) (h_nil ?_))))))
     obtain rfl:=some_inj hc_16
     exact loop_mk (k_6 + 1,l_7,r_39,n_30,(false || !s_27.isEmpty)) ⟨hL_17,drop_next hD_9⟩ (Nat.lt_succ_self _) rfl (pre_is [0,3] (by decide) rfl)
 ·rintro ⟨s_11,n_14,gb_15⟩ ho_ sl_ H_ hp_ hq_
  subst ho_
  refine wH_at _ hp_ hq_ (wH_sr (h_opz (kV gb_15 n_14 2 s_11) ?_))
  obtain ⟨r_43,hr_44,hF⟩:=bind_some hF
  obtain ⟨_,hl_46,hF⟩:=bind_some hF
  obtain ⟨_,hr_45,hF⟩:=bind_some hF
  replace hl_46:=leL_le hl_46
  refine h_callcut [] 1 0 (slices_DeleteFunc_api_Window_api_Window_v3_ok hr_44) (slices_DeleteFunc_api_Window_api_Window_v4_ok hr_45) hl_46 (fun _ _=>rfl) rfl hb50 rfl rfl (by kernel_rfl) (by kernel_rfl) (by kernel_rfl) rfl rfl (by kernel_rfl) (by kernel_rfl) (by kernel_rfl) (by kernel_rfl) rfl rfl (by decide) wz ([(n_4,some (.cells 2 [(vI wv_3.From),(vI wv_3.To)])),(n_14,kB (gb_15 || !s_11.isEmpty) 2 Window.enc r_43)]:Hp) (by kernel_rfl) (h_opz (kV (gb_15 || !s_11.isEmpty) n_14 2 r_43) (h_nil (wH_frozk 1 rfl (wH_cok 6 1 rfl rfl (wH_cok 58 1 rfl rfl ?_)))))
  obtain rfl:=some_inj hF
  exact wH_ret (fin0r [(vL Window.enc r_43)] ⟨rfl,trivial⟩)
theorem slices_Index_int_int_v1_ok {s_1:(List Int)} {v_2:Int} {r:Int} (hF:slices_Index_int_int_v1 s_1 v_2=some r) :
  FnM Try.prog 64 [(dV (extN 0) 1 s_1),(vI v_2)] (([]:List Box)++gI 1 eI s_1) (vI r) (([]:List Box).map some++gT s_1 (gB 1 eI s_1)):=by
 refine FnM.of_wHv ⟨Try.prog,19,[],[]⟩ rfl Try.func64 rfl rfl (Nat.le_of_ble_eq_true rfl) (by kernel_rfl) ?_
 unfold slices_Index_int_int_v1 at hF
 refine wH_sr (h_opz (vI 0) (h_nil (wH_seq (wH_sr (h_opz (dV (extN 0) 1 s_1) (h_lend un22 rfl wz (h_opz (vI 0) (h_nil ?_))))))))
 obtain ⟨o_11,hj_12,hF⟩:=bind_some hF
 obtain ⟨hn_7,hj_12⟩:=forL_some hj_12
 refine wH_loopF0 (fun (s_8:Unit) => []) (fun (s_8:Unit) => [((extN 0),gB 1 eI s_1)]) (fun (k_3:Nat)=>(fun (s_8:Unit) => [(0,(dV (extN 0) 1 s_1)),(1,(vI v_2)),(7,(vI (s_1.length:Int))),(8,(vI (k_3:Int)))])) (fun k x s=>slices_Index_int_int_v1_L1 s_1 v_2 k x s) o_11 (List.range ((s_1.length:Int)).toNat) () hj_12 rfl (pre_r rfl) ?_ ?_
 ·rintro ⟨k_3,l_4,s_8⟩ ⟨hL_10,hD_6⟩
  dsimp only at hL_10 hD_6
  cases l_4 with
  | nil =>
   obtain rfl:=some_inj hL_10
   refine wH_sr (h_opz (vB (decide ((k_3:Int) < (s_1.length:Int)))) (h_nil ?_))
   refine wH_seq (wH_iff rfl (range_nil hD_6) (wH_exit ?_))
   exact cut_mk (s_8) rfl rfl (pre_r rfl)
  | cons x_5 l_4 =>
   obtain ⟨c_,hc_9,hL_10⟩:=bind_some hL_10
   refine wH_sr (h_opz (vB (decide ((k_3:Int) < (s_1.length:Int)))) (h_nil ?_))
   refine wH_seq (wH_ift rfl (range_cons hD_6) (wH_skip ?_))
   unfold slices_Index_int_int_v1_L1 at hc_9
   refine wH_seq (wH_block (wH_sr (h_opz (vI (k_3:Int)) (h_opz (vI (k_3:Int)) (h_nil (wH_sr (h_opz (vI v_2) (h_opz (dV (extN 0) 1 s_1) (h_opz (vI (k_3:Int)) ?_)))))))))
   obtain ⟨_,hi_13,hc_9⟩:=bind_some hc_9
   refine h_iavd es22 rfl rfl (inR_0 hi_13) (inR_lt hi_13) wz ?_
   obtain ⟨e_14,hy_15,hc_9⟩:=bind_some hc_9
   refine h_ldvg 0 0 il ft sz3 ag3 rfl rfl hy_15 (vI e_14) rfl wz (h_opz (vB (v_2 == e_14)) (h_nil ?_))
   rcases cond_some hc_9 with⟨hc_16,hc_9⟩ | ⟨hc_16,hc_9⟩
   ·refine wH_ift rfl hc_16 (wH_sr (h_opz (vI (k_3:Int)) (h_opz (vI (k_3:Int)) (h_nil ?_))))
    obtain rfl:=some_inj hc_9
    obtain rfl:=some_inj hL_10
    obtain rfl:=some_inj hF
    exact wH_ret (finV (bs:=([]:List Box)) (os:=([]:List Box)) (xs:=s_1) (o:=gB 1 eI s_1) (.inr rfl) [(vI (k_3:Int))] ⟨rfl,trivial⟩ rfl rfl rfl rfl rfl (by kernel_rfl) gB_ok rfl)
   ·refine wH_iff rfl hc_16 (wH_skip (wH_region (h_opw (w64_nextr hD_6 hn_7) wz rfl (h_opz (vI ((k_3 + 1:Nat):Int)) (h_nil ?_)))))
    obtain rfl:=some_inj hc_9
    exact loop_mk (k_3 + 1,l_4,()) ⟨hL_10,drop_next hD_6⟩ (Nat.lt_succ_self _) rfl (pre_r rfl)
 ·rintro s_8 ho_ sl_ H_ hp_ hq_
  subst ho_
  refine wH_at _ hp_ hq_ (wH_sr (h_opz (vI (-1)) (h_nil ?_)))
  obtain rfl:=some_inj hF
  exact wH_ret (finV (bs:=([]:List Box)) (os:=([]:List Box)) (xs:=s_1) (o:=gB 1 eI s_1) (.inr rfl) [(vI (-1))] ⟨rfl,trivial⟩ rfl rfl rfl rfl rfl (by kernel_rfl) gB_ok rfl)
theorem slices_Contains_int_int_v1_ok {s_1:(List Int)} {v_2:Int} {r:Bool} (hF:slices_Contains_int_int_v1 s_1 v_2=some r) :
  FnM Try.prog 53 [(dV (extN 0) 1 s_1),(vI v_2)] (([]:List Box)++gI 1 eI s_1) (vB r) (([]:List Box).map some++gT s_1 (gB 1 eI s_1)):=by
 refine FnM.of_wHv ⟨Try.prog,9,[],[]⟩ rfl Try.func53 rfl rfl (Nat.le_of_ble_eq_true rfl) (by kernel_rfl) ?_
 unfold slices_Contains_int_int_v1 at hF
 refine wH_sr (h_opz (vB false) (h_nil (wH_sr (h_opz (dV (extN 0) 1 s_1) (h_opz (vI v_2) ?_)))))
 obtain ⟨r_3,hr_4,hF⟩:=bind_some hF
 refine h_callv 0 [] 0 0 il ft (slices_Index_int_int_v1_ok hr_4) rfl hb64 rfl rfl rfl (by kernel_rfl) rfl (.inr (.inl rfl)) rfl (by kernel_rfl) (by kernel_rfl) (by kernel_rfl) (by kernel_rfl) rfl (by decide) (by kernel_rfl) gB_ok (gB_ho rfl) wz ([((extN 0),gB 1 eI s_1)]:Hp) (by kernel_rfl) (h_opz (vB (decide (r_3≥0))) (h_opz (vB (decide (r_3≥0))) (h_nil ?_)))
 obtain rfl:=some_inj hF
 exact wH_ret (finV (bs:=([]:List Box)) (os:=([]:List Box)) (xs:=s_1) (o:=gB 1 eI s_1) (.inr rfl) [(vB (decide (r_3≥0)))] ⟨rfl,trivial⟩ rfl rfl rfl rfl rfl (by kernel_rfl) gB_ok rfl)
theorem ref_CompareOf_ok {want_1:(List Play)} {havev_2:(List Play)} {most_3:Int} {r:(List Match)×(List Int)} (hF:ref_CompareOf want_1 havev_2 most_3=some r) :
  FnM Try.prog 20 [(vL Play.enc want_1),(vL Play.enc havev_2),(vI most_3)] [] (.tup [(vL Match.enc r.1),(vL eI r.2)]) []:=by
 refine FnM.of_wH ⟨Try.prog,125,[],[]⟩ rfl Try.func20 rfl rfl (Nat.le_of_ble_eq_true rfl) (by kernel_rfl) ?_
 unfold ref_CompareOf at hF
 refine wH_sr (h_opz .nil (h_opz .nil (h_nil (wH_sr (h_opz .nil (h_nil (wH_sr (h_opz .nil (h_opz .nil (h_nil (wH_seq (wH_sr (h_opz (vL Play.enc want_1) (h_len un26 rfl wz (h_opz (vI 0) (h_nil (wH_new (fun n_10=>wH_new (fun n_11 => ?_)))))))))))))))))))
 obtain ⟨o_18,hj_19,hF⟩:=bind_some hF
 obtain ⟨hn_8,hj_19⟩:=forL_some hj_19
 refine wH_loopF (σ:=(List Match)×(List Int)) (N:=Nm×Nm) (fun p=>(fun (s_9:(List Match)×(List Int)) (n_14:Nm) (n_15:Nm)=>([(1,(vL Play.enc havev_2)),(8,(gV n_14 2 s_9.1)),(9,(gV n_15 1 s_9.2)),(10,.nil)]:List (Nat×V))) p.1 p.2.1 p.2.2) (fun p=>(fun (s_9:(List Match)×(List Int)) (n_14:Nm) (n_15:Nm)=>([(n_14,gB 2 Match.enc s_9.1),(n_15,gB 1 eI s_9.2)]:Hp)) p.1 p.2.1 p.2.2) (fun (k_4:Nat)=>(fun p=>(fun (s_9:(List Match)×(List Int)) (n_14:Nm) (n_15:Nm)=>([(1,(vL Play.enc havev_2)),(2,(vI most_3)),(8,(gV n_14 2 s_9.1)),(9,(gV n_15 1 s_9.2)),(10,.nil),(18,(vL Play.enc want_1)),(19,(vI (want_1.length:Int))),(20,(vI (k_4:Int)))]:List (Nat×V))) p.1 p.2.1 p.2.2)) (fun k x s=>ref_CompareOf_L2 havev_2 most_3 k x s) o_18 want_1 ((([]:List Match),([]:List Int)),n_10,n_11) hj_19 rfl (pre_r rfl) ?_ ?_
 ·rintro ⟨k_4,l_5,s_9,n_14,n_15⟩ ⟨hL_17,hD_7⟩
  dsimp only at hL_17 hD_7
  cases l_5 with
  | nil =>
   obtain rfl:=some_inj hL_17
   refine wH_sr (h_opz (vB (decide ((k_4:Int) < (want_1.length:Int)))) (h_nil ?_))
   refine wH_seq (wH_iff rfl (drop_nil hD_7) (wH_exit ?_))
   exact cut_mk (s_9,n_14,n_15) rfl rfl (pre_r rfl)
  | cons x_6 l_5 =>
   obtain ⟨c_,hc_16,hL_17⟩:=bind_some hL_17
   refine wH_sr (h_opz (vB (decide ((k_4:Int) < (want_1.length:Int)))) (h_nil ?_))
   refine wH_seq (wH_ift rfl (drop_cons hD_7) (wH_skip ?_))
   unfold ref_CompareOf_L2 at hc_16
   refine wH_seq (wH_block (wH_sr (h_opz (vI (k_4:Int)) (h_ia es26 rfl rfl (drop_idx hD_7) rfl wz (h_ldc sz65 ag65 rfl (.d (.agg (Play.enc x_6))) rfl wz (h_alloc 0 (.inl rfl) z65 rfl wz (fun n_20=>h_opz (vI (k_4:Int)) (h_str 0 il ft 2 sz65 rfl rfl (Play.v x_6) rfl wz (h_nil (wH_sr (h_opz (vI (k_4:Int)) (h_op (.d (.agg (Match.enc (⟨(k_4:Int),(-1)⟩:Match)))) wz (by kernel_rfl) (h_alloc 0 (.inl rfl) z59 rfl wz (fun n_21=>h_str 0 il ft 3 sz59 rfl rfl [(vI (k_4:Int)),(vI (-1))] rfl wz (h_nil (wH_seq (wH_sr (h_opz (vL Play.enc havev_2) (h_len un26 rfl wz (h_opz (vI 0) (h_nil ?_)))))))))))))))))))))
   obtain ⟨o_30,hj_31,hc_16⟩:=bind_some hc_16
   obtain ⟨hn_26,hj_31⟩:=forL_some hj_31
   refine wH_loopF0 (fun (s_27:Int) => [(1,(vL Play.enc havev_2)),(2,(vI most_3)),(8,(gV n_14 2 s_9.1)),(9,(gV n_15 1 s_9.2)),(10,.nil),(13,(.ref n_21 0 0)),(18,(vL Play.enc want_1)),(19,(vI (want_1.length:Int))),(20,(vI (k_4:Int)))]) (fun (s_27:Int) => [(n_14,gB 2 Match.enc s_9.1),(n_15,gB 1 eI s_9.2),(n_20,some (.cells 4 (Play.v x_6))),(n_21,some (.cells 2 [(vI (k_4:Int)),(vI s_27)]))]) (fun (k_22:Nat)=>(fun (s_27:Int) => [(1,(vL Play.enc havev_2)),(2,(vI most_3)),(8,(gV n_14 2 s_9.1)),(9,(gV n_15 1 s_9.2)),(10,.nil),(12,(.ref n_20 0 0)),(13,(.ref n_21 0 0)),(18,(vL Play.enc want_1)),(19,(vI (want_1.length:Int))),(20,(vI (k_4:Int))),(27,(vL Play.enc havev_2)),(28,(vI (havev_2.length:Int))),(29,(vI (k_22:Int)))])) (fun k x s=>ref_CompareOf_L1 x_6 most_3 s_9 havev_2 k x s) o_30 havev_2 (-1) hj_31 rfl (pre_r rfl) ?_ ?_
   ·rintro ⟨k_22,l_23,s_27⟩ ⟨hL_29,hD_25⟩
    dsimp only at hL_29 hD_25
    cases l_23 with
    | nil =>
     obtain rfl:=some_inj hL_29
     refine wH_sr (h_opz (vB (decide ((k_22:Int) < (havev_2.length:Int)))) (h_nil ?_))
     refine wH_seq (wH_iff rfl (drop_nil hD_25) (wH_exit ?_))
     exact cut_mk (s_27) rfl rfl (pre_r rfl)
    | cons x_24 l_23 =>
     obtain ⟨c_,hc_28,hL_29⟩:=bind_some hL_29
     refine wH_sr (h_opz (vB (decide ((k_22:Int) < (havev_2.length:Int)))) (h_nil ?_))
     refine wH_seq (wH_ift rfl (drop_cons hD_25) (wH_skip ?_))
     unfold ref_CompareOf_L1 at hc_28
     refine wH_seq (wH_block (wH_sr (h_opz (vI (k_22:Int)) (h_ia es26 rfl rfl (drop_idx hD_25) rfl wz (h_ldc sz65 ag65 rfl (.d (.agg (Play.enc x_24))) rfl wz (h_alloc 0 (.inl rfl) z65 rfl wz (fun n_32=>h_opz (vI (k_22:Int)) (h_str 0 il ft 4 sz65 rfl rfl (Play.v x_24) rfl wz (h_nil (wH_sr (h_far pl65_2 rfl 2 rfl wz (h_ldr 0 2 il ft sz3 ag3 rfl rfl (vI x_6.At) rfl wz (h_far pl65_2 rfl 2 rfl wz (h_ldr 0 4 il ft sz3 ag3 rfl rfl (vI x_24.At) rfl wz (h_opz (vI (w64 (x_6.At - x_24.At))) (h_far pl65_2 rfl 2 rfl wz (h_ldr 0 4 il ft sz3 ag3 rfl rfl (vI x_24.At) rfl wz (h_far pl65_2 rfl 2 rfl wz (h_ldr 0 2 il ft sz3 ag3 rfl rfl (vI x_6.At) rfl wz (h_opz (vI (w64 (x_24.At - x_6.At))) (h_minmax (vI (maxI (w64 (x_6.At - x_24.At)) (w64 (x_24.At - x_6.At)))) rfl (.inr rfl) wz (h_opz (vI (maxI (w64 (x_6.At - x_24.At)) (w64 (x_24.At - x_6.At)))) (h_nil ?_)))))))))))))))))))))))
     refine wH_seq (wH_seq ?_)
     obtain ⟨v_33,h_34,hc_28⟩:=bind_some hc_28
     refine wH_joinU [(1,(vL Play.enc havev_2)),(2,(vI most_3)),(8,(gV n_14 2 s_9.1)),(9,(gV n_15 1 s_9.2)),(10,.nil),(12,(.ref n_20 0 0)),(13,(.ref n_21 0 0)),(14,(vI (k_22:Int))),(16,(vI (maxI (w64 (x_6.At - x_24.At)) (w64 (x_24.At - x_6.At))))),(18,(vL Play.enc want_1)),(19,(vI (want_1.length:Int))),(20,(vI (k_4:Int))),(27,(vL Play.enc havev_2)),(28,(vI (havev_2.length:Int))),(29,(vI (k_22:Int))),(66,(vB v_33))] [(n_14,gB 2 Match.enc s_9.1),(n_15,gB 1 eI s_9.2),(n_20,some (.cells 4 (Play.v x_6))),(n_21,some (.cells 2 [(vI (k_4:Int)),(vI s_27)])),(n_32,some (.cells 4 (Play.v x_24)))] ?_ ?_
     ·refine wH_region (h_far pl65_0 rfl 0 rfl wz (h_ldr 0 4 il ft sz9 ag9 rfl rfl (vS x_24.Player) rfl wz (h_far pl65_0 rfl 0 rfl wz (h_ldr 0 2 il ft sz9 ag9 rfl rfl (vS x_6.Player) rfl wz (h_opz (vB (sNe x_24.Player x_6.Player)) ?_)))))
      rcases cond_some h_34 with⟨hc_35,h_34⟩ | ⟨hc_35,h_34⟩
      ·refine h_movb rfl hc_35 wz (h_skipz (h_skipz (h_skipz (h_skipz (h_skipz (h_opz (vB true) (h_opz (vB true) (h_skipz (h_skipz (h_skipz (h_opz (vB true) (h_opz (vB true) (h_skipz (h_skipz (h_skipz (h_opz (vB true) (h_nil ?_)))))))))))))))))
       obtain rfl:=some_inj h_34
       exact cu
      ·refine h_movb rfl hc_35 wz (h_far pl65_1 rfl 1 rfl wa (h_ldr 0 4 il ft sz9 ag9 rfl rfl (vS x_24.Item) rfl wa (h_far pl65_1 rfl 1 rfl wa (h_ldr 0 2 il ft sz9 ag9 rfl rfl (vS x_6.Item) rfl wa (h_op (vB (sNe x_24.Item x_6.Item)) wa rfl (h_opz (vB (sNe x_24.Item x_6.Item)) ?_))))))
       rcases cond_some h_34 with⟨hc_36,h_34⟩ | ⟨hc_36,h_34⟩
       ·refine h_movb rfl hc_36 wz (h_skipz (h_skipz (h_skipz (h_opz (vB true) (h_opz (vB true) (h_skipz (h_skipz (h_skipz (h_opz (vB true) (h_nil ?_))))))))))
        obtain rfl:=some_inj h_34
        exact cu
       ·refine h_movb rfl hc_36 wz (h_op (vI (maxI (w64 (x_6.At - x_24.At)) (w64 (x_24.At - x_6.At)))) wa rfl (h_op (vI most_3) wa rfl (h_op (vB (decide ((maxI (w64 (x_6.At - x_24.At)) (w64 (x_24.At - x_6.At))) > most_3))) wa rfl (h_opz (vB (decide ((maxI (w64 (x_6.At - x_24.At)) (w64 (x_24.At - x_6.At))) > most_3))) ?_))))
        rcases cond_some h_34 with⟨hc_37,h_34⟩ | ⟨hc_37,h_34⟩
        ·refine h_movb rfl hc_37 wz (h_skipz (h_skipz (h_skipz (h_opz (vB true) (h_nil ?_)))))
         obtain rfl:=some_inj h_34
         exact cu
        ·refine h_movb rfl hc_37 wz (h_op (gV n_15 1 s_9.2) wa rfl (h_op (vI (k_22:Int)) wa rfl ?_))
         obtain ⟨r_38,hr_39,h_34⟩:=bind_some h_34
         refine h_callv 0 [] 1 0 il ft (slices_Contains_int_int_v1_ok hr_39) rfl hb53 rfl rfl rfl (by kernel_rfl) rfl (.inl rfl) rfl (by kernel_rfl) (by kernel_rfl) (by kernel_rfl) (by kernel_rfl) rfl (by decide) (by kernel_rfl) gB_ok (gB_ho rfl) wa ([(n_14,gB 2 Match.enc s_9.1),(n_15,gB 1 eI s_9.2),(n_20,some (.cells 4 (Play.v x_6))),(n_21,some (.cells 2 [(vI (k_4:Int)),(vI s_27)])),(n_32,some (.cells 4 (Play.v x_24)))]:Hp) (by kernel_rfl) (h_opz (vB r_38) (h_nil ?_))
         obtain rfl:=some_inj h_34
         exact cu
     ·rintro ⟨⟩ _ sl_ H_ hp_ hq_
      refine wH_at _ hp_ hq_ ?_
      rcases cond_some hc_28 with⟨hc_40,hc_28⟩ | ⟨hc_40,hc_28⟩
      ·refine wH_ift rfl hc_40 (wH_exit (wH_region (h_opw (w64_next hD_25 hn_26) wz rfl (h_opz (vI ((k_22 + 1:Nat):Int)) (h_nil ?_)))))
       obtain rfl:=some_inj hc_28
       exact loop_mk (k_22 + 1,l_23,s_27) ⟨hL_29,drop_next hD_25⟩ (Nat.lt_succ_self _) rfl (pre_r rfl)
      ·refine wH_iff rfl hc_40 (wH_skip (wH_seq ?_))
       obtain ⟨v_41,h_42,hc_28⟩:=bind_some hc_28
       refine wH_joinU [(1,(vL Play.enc havev_2)),(2,(vI most_3)),(8,(gV n_14 2 s_9.1)),(9,(gV n_15 1 s_9.2)),(10,.nil),(12,(.ref n_20 0 0)),(13,(.ref n_21 0 0)),(14,(vI (k_22:Int))),(18,(vL Play.enc want_1)),(19,(vI (want_1.length:Int))),(20,(vI (k_4:Int))),(27,(vL Play.enc havev_2)),(28,(vI (havev_2.length:Int))),(29,(vI (k_22:Int))),(92,(vB v_41))] [(n_14,gB 2 Match.enc s_9.1),(n_15,gB 1 eI s_9.2),(n_20,some (.cells 4 (Play.v x_6))),(n_21,some (.cells 2 [(vI (k_4:Int)),(vI s_27)])),(n_32,some (.cells 4 (Play.v x_24)))] ?_ ?_
       ·refine wH_draws (h_far pl59_1 rfl 1 rfl wz (h_ldr 1 3 (.inr (by kernel_rfl)) (fun _ _ ag=>trivial) sz3 ag3 rfl rfl (vI s_27) rfl wz (h_opz (vB (decide (s_27 < 0))) ?_)))
        rcases cond_some h_42 with⟨hc_43,h_42⟩ | ⟨hc_43,h_42⟩
        ·refine h_movb rfl hc_43 wz (h_skipz (h_skipz (h_skipz (h_skipz (h_skipz (h_skipz (h_skipz (h_skipz (h_skipz (h_skipz (h_skipz (h_skipz (h_skipz (h_skipz (h_skipz (h_skipz (h_skipz (h_skipz (h_skipz (h_skipz (h_skipz (h_opz (vB true) (h_nil ?_)))))))))))))))))))))))
         obtain rfl:=some_inj h_42
         exact cu
        ·refine h_movb rfl hc_43 wz (h_op (vI (maxI (w64 (x_6.At - x_24.At)) (w64 (x_24.At - x_6.At)))) wa rfl (h_far pl65_2 rfl 2 rfl wa (h_ldr 6 2 (.inr (by kernel_rfl)) (fun _ _ ag=>⟨.inl ⟨rfl,rfl⟩,trivial⟩) sz3 ag3 rfl rfl (vI x_6.At) rfl wa (h_op (vL Play.enc havev_2) wa rfl (h_far pl59_1 rfl 1 rfl wa (h_ldr 9 3 (.inr (by kernel_rfl)) (fun _ _ ag=>⟨.inl ⟨rfl,rfl⟩,⟨.inl ⟨rfl,rfl⟩,trivial⟩⟩) sz3 ag3 rfl rfl (vI s_27) rfl wa ?_))))))
         obtain ⟨y_44,hy_45,h_42⟩:=bind_some h_42
         refine h_ia es26 rfl rfl hy_45 rfl wa (h_fac pl65_2 rfl [.int .i64 y_44.At,.int .i64 y_44.Long] rfl rfl wa (h_ldc sz3 ag3 rfl (vI y_44.At) rfl wa (h_op (vI (w64 (x_6.At - y_44.At))) wa rfl (h_op (vL Play.enc havev_2) wa rfl (h_far pl59_1 rfl 1 rfl wa (h_ldr 16 3 (.inr (by kernel_rfl)) (fun _ _ ag=>⟨.inl ⟨rfl,rfl⟩,⟨.inl ⟨rfl,rfl⟩,⟨.inl ⟨rfl,rfl⟩,trivial⟩⟩⟩) sz3 ag3 rfl rfl (vI s_27) rfl wa ?_))))))
         obtain ⟨y_46,hy_47,h_42⟩:=bind_some h_42
         refine h_ia es26 rfl rfl hy_47 rfl wa (h_fac pl65_2 rfl [.int .i64 y_46.At,.int .i64 y_46.Long] rfl rfl wa (h_ldc sz3 ag3 rfl (vI y_46.At) rfl wa (h_far pl65_2 rfl 2 rfl wa (h_ldr 21 2 (.inr (by kernel_rfl)) (fun _ _ ag=>⟨.inl ⟨rfl,rfl⟩,⟨.inl ⟨rfl,rfl⟩,⟨.inl ⟨rfl,rfl⟩,⟨.inl ⟨rfl,rfl⟩,trivial⟩⟩⟩⟩) sz3 ag3 rfl rfl (vI x_6.At) rfl wa (h_op (vI (w64 (y_46.At - x_6.At))) wa rfl (h_minmax (vI (maxI (w64 (x_6.At - y_44.At)) (w64 (y_46.At - x_6.At)))) rfl (.inr rfl) wa (h_op (vB (decide ((maxI (w64 (x_6.At - x_24.At)) (w64 (x_24.At - x_6.At))) < (maxI (w64 (x_6.At - y_44.At)) (w64 (y_46.At - x_6.At)))))) wa rfl (h_opz (vB (decide ((maxI (w64 (x_6.At - x_24.At)) (w64 (x_24.At - x_6.At))) < (maxI (w64 (x_6.At - y_44.At)) (w64 (y_46.At - x_6.At)))))) (h_nil ?_)))))))))
         obtain rfl:=some_inj h_42
         exact cu
       ·rintro ⟨⟩ _ sl_ H_ hp_ hq_
        refine wH_at _ hp_ hq_ ?_
        obtain ⟨v_48,h_49,hc_28⟩:=bind_some hc_28
        refine wH_joinU [(1,(vL Play.enc havev_2)),(2,(vI most_3)),(8,(gV n_14 2 s_9.1)),(9,(gV n_15 1 s_9.2)),(10,.nil),(12,(.ref n_20 0 0)),(13,(.ref n_21 0 0)),(18,(vL Play.enc want_1)),(19,(vI (want_1.length:Int))),(20,(vI (k_4:Int))),(27,(vL Play.enc havev_2)),(28,(vI (havev_2.length:Int))),(29,(vI (k_22:Int)))] [(n_14,gB 2 Match.enc s_9.1),(n_15,gB 1 eI s_9.2),(n_20,some (.cells 4 (Play.v x_6))),(n_21,some (.cells 2 [(vI (k_4:Int)),(vI v_48)])),(n_32,some (.cells 4 (Play.v x_24)))] ?_ ?_
        ·rcases cond_some h_49 with⟨hc_50,h_49⟩ | ⟨hc_50,h_49⟩
         ·refine wH_ift rfl hc_50 (wH_region (h_opz (vI (k_22:Int)) (h_far pl59_1 rfl 1 rfl wz (h_str 0 il ft 3 sz3 rfl rfl [(vI (k_4:Int)),(vI (k_22:Int))] rfl wz (h_nil ?_)))))
          obtain rfl:=some_inj h_49
          exact cu
         ·refine wH_iff rfl hc_50 (wH_skip ?_)
          obtain rfl:=some_inj h_49
          exact cu
        ·rintro ⟨⟩ _ sl_ H_ hp_ hq_
         refine wH_at _ hp_ hq_ (wH_region (h_opw (w64_next hD_25 hn_26) wz rfl (h_opz (vI ((k_22 + 1:Nat):Int)) (h_nil ?_))))
         obtain rfl:=some_inj hc_28
         exact loop_mk (k_22 + 1,l_23,v_48) ⟨hL_29,drop_next hD_25⟩ (Nat.lt_succ_self _) rfl (pre_r rfl)
   ·rintro s_27 ho_ sl_ H_ hp_ hq_
    subst ho_
    refine wH_at _ hp_ hq_ (wH_seq (wH_sr (h_far pl59_1 rfl 1 rfl wz (h_ldr 0 3 il ft sz3 ag3 rfl rfl (vI s_27) rfl wz (h_opz (vB (decide (s_27≥0))) (h_nil ?_))))))
    obtain ⟨v_51,h_52,hc_16⟩:=bind_some hc_16
    refine wH_join (β:=Nm) (fun (n_53:Nm)=>([(1,(vL Play.enc havev_2)),(2,(vI most_3)),(8,(gV n_14 2 s_9.1)),(9,(gV n_53 1 v_51)),(10,.nil),(13,(.ref n_21 0 0)),(18,(vL Play.enc want_1)),(19,(vI (want_1.length:Int))),(20,(vI (k_4:Int)))]:List (Nat×V))) (fun (n_53:Nm)=>([(n_14,gB 2 Match.enc s_9.1),(n_53,gB 1 eI v_51),(n_20,some (.cells 4 (Play.v x_6))),(n_21,some (.cells 2 [(vI (k_4:Int)),(vI s_27)]))]:Hp)) (fun _=>True) ?_ ?_
    ·rcases cond_some h_52 with⟨hc_54,h_52⟩ | ⟨hc_54,h_52⟩
     ·refine wH_ift rfl hc_54 (wH_region (h_opz (gV n_15 1 s_9.2) (h_far pl59_1 rfl 1 rfl wz (h_ldr 0 3 il ft sz3 ag3 rfl rfl (vI s_27) rfl wz (h_lit (([s_27]:List Int).map eI) es22 ez22 rfl rfl rfl rfl rfl wz ?_)))))
      obtain ⟨a_55,hz_56,h_52⟩:=bind_some h_52
      refine h_appg 0 il ft (i:=1) el22 el22 sz3 z3 rfl (by decide) by3 (by decide) (fun _=>rfl) rfl rfl rfl hz_56 wz (fun n_57=>h_opz (gV n_57 1 a_55) (h_nil ?_))
      obtain rfl:=some_inj h_52
      exact cut_mk n_57 trivial rfl (pre_r rfl)
     ·refine wH_iff rfl hc_54 (wH_skip ?_)
      obtain rfl:=some_inj h_52
      exact cut_mk n_15 trivial rfl (pre_r rfl)
    ·rintro n_53 _ sl_ H_ hp_ hq_
     refine wH_at _ hp_ hq_ (wH_region (h_opz (gV n_14 2 s_9.1) (h_ldr 0 3 il ft sz59 ag59 rfl rfl (.d (.agg (Match.enc (⟨(k_4:Int),s_27⟩:Match)))) rfl wz (h_lit (([(⟨(k_4:Int),s_27⟩:Match)]:List Match).map Match.enc) es41 ez41 rfl rfl rfl rfl rfl wz ?_))))
     obtain ⟨a_58,hz_59,hc_16⟩:=bind_some hc_16
     refine h_appg 0 il ft (i:=0) el41 el41 sz59 z59 rfl (by decide) by59 (by decide) (fun _=>rfl) rfl rfl rfl hz_59 wz (fun n_60=>h_opz (gV n_60 2 a_58) (h_nil (wH_region (h_opw (w64_next hD_7 hn_8) wz rfl (h_opz (vI ((k_4 + 1:Nat):Int)) (h_nil ?_))))))
     obtain rfl:=some_inj hc_16
     exact loop_mk (k_4 + 1,l_5,(a_58,v_51),n_60,n_53) ⟨hL_17,drop_next hD_7⟩ (Nat.lt_succ_self _) rfl (pre_r rfl)
 ·rintro ⟨s_9,n_14,n_15⟩ ho_ sl_ H_ hp_ hq_
  subst ho_
  refine wH_at _ hp_ hq_ (wH_seq (wH_sr (h_opz (vL Play.enc havev_2) (h_len un26 rfl wz (h_opz (vI 0) (h_nil (wH_new (fun n_67 => ?_))))))))
  obtain ⟨o_72,hj_73,hF⟩:=bind_some hF
  obtain ⟨hn_65,hj_73⟩:=forL_some hj_73
  refine wH_loopF (σ:=(List Int)) (N:=Nm) (fun p=>(fun (s_66:(List Int)) (n_69:Nm)=>([(8,(gV n_14 2 s_9.1)),(10,(gV n_69 1 s_66))]:List (Nat×V))) p.1 p.2) (fun p=>(fun (s_66:(List Int)) (n_69:Nm)=>([(n_14,gB 2 Match.enc s_9.1),(n_15,gB 1 eI s_9.2),(n_69,gB 1 eI s_66)]:Hp)) p.1 p.2) (fun (k_61:Nat)=>(fun p=>(fun (s_66:(List Int)) (n_69:Nm)=>([(8,(gV n_14 2 s_9.1)),(9,(gV n_15 1 s_9.2)),(10,(gV n_69 1 s_66)),(110,(vI (havev_2.length:Int))),(111,(vI (k_61:Int)))]:List (Nat×V))) p.1 p.2)) (fun k x s=>ref_CompareOf_L3 s_9 k x s) o_72 (List.range ((havev_2.length:Int)).toNat) (([]:List Int),n_67) hj_73 rfl (pre_r rfl) ?_ ?_
  ·rintro ⟨k_61,l_62,s_66,n_69⟩ ⟨hL_71,hD_64⟩
   dsimp only at hL_71 hD_64
   cases l_62 with
   | nil =>
    obtain rfl:=some_inj hL_71
    refine wH_sr (h_opz (vB (decide ((k_61:Int) < (havev_2.length:Int)))) (h_nil ?_))
    refine wH_seq (wH_iff rfl (range_nil hD_64) (wH_exit ?_))
    exact cut_mk (s_66,n_69) rfl rfl (pre_r rfl)
   | cons x_63 l_62 =>
    obtain ⟨c_,hc_70,hL_71⟩:=bind_some hL_71
    refine wH_sr (h_opz (vB (decide ((k_61:Int) < (havev_2.length:Int)))) (h_nil ?_))
    refine wH_seq (wH_ift rfl (range_cons hD_64) (wH_skip ?_))
    unfold ref_CompareOf_L3 at hc_70
    refine wH_seq (wH_block (wH_sr (h_opz (vI (k_61:Int)) (h_opz (vI (k_61:Int)) (h_nil (wH_sr (h_opz (gV n_15 1 s_9.2) (h_opz (vI (k_61:Int)) ?_))))))))
    obtain ⟨r_74,hr_75,hc_70⟩:=bind_some hc_70
    refine h_callv 0 [] 1 0 il ft (slices_Contains_int_int_v1_ok hr_75) rfl hb53 rfl rfl rfl (by kernel_rfl) rfl (.inl rfl) rfl (by kernel_rfl) (by kernel_rfl) (by kernel_rfl) (by kernel_rfl) rfl (by decide) (by kernel_rfl) gB_ok (gB_ho rfl) wz ([(n_14,gB 2 Match.enc s_9.1),(n_15,gB 1 eI s_9.2),(n_69,gB 1 eI s_66)]:Hp) (by kernel_rfl) (h_opz (vB (!r_74)) (h_nil ?_))
    obtain ⟨v_76,h_77,hc_70⟩:=bind_some hc_70
    refine wH_join (β:=Nm) (fun (n_78:Nm)=>([(8,(gV n_14 2 s_9.1)),(9,(gV n_15 1 s_9.2)),(10,(gV n_78 1 v_76)),(110,(vI (havev_2.length:Int))),(111,(vI (k_61:Int)))]:List (Nat×V))) (fun (n_78:Nm)=>([(n_14,gB 2 Match.enc s_9.1),(n_15,gB 1 eI s_9.2),(n_78,gB 1 eI v_76)]:Hp)) (fun _=>True) ?_ ?_
    ·rcases cond_some h_77 with⟨hc_79,h_77⟩ | ⟨hc_79,h_77⟩
     ·refine wH_ift rfl hc_79 (wH_region (h_opz (gV n_69 1 s_66) (h_opz (vI (k_61:Int)) (h_lit (([(k_61:Int)]:List Int).map eI) es22 ez22 rfl rfl rfl rfl rfl wz ?_))))
      obtain ⟨a_80,hz_81,h_77⟩:=bind_some h_77
      refine h_appg 0 il ft (i:=2) el22 el22 sz3 z3 rfl (by decide) by3 (by decide) (fun _=>rfl) rfl rfl rfl hz_81 wz (fun n_82=>h_opz (gV n_82 1 a_80) (h_nil ?_))
      obtain rfl:=some_inj h_77
      exact cut_mk n_82 trivial rfl (pre_r rfl)
     ·refine wH_iff rfl hc_79 (wH_skip ?_)
      obtain rfl:=some_inj h_77
      exact cut_mk n_69 trivial rfl (pre_r rfl)
    ·rintro n_78 _ sl_ H_ hp_ hq_
     refine wH_at _ hp_ hq_ (wH_region (h_opw (w64_nextr hD_64 hn_65) wz rfl (h_opz (vI ((k_61 + 1:Nat):Int)) (h_nil ?_))))
     obtain rfl:=some_inj hc_70
     exact loop_mk (k_61 + 1,l_62,v_76,n_78) ⟨hL_71,drop_next hD_64⟩ (Nat.lt_succ_self _) rfl (pre_r rfl)
  ·rintro ⟨s_66,n_69⟩ ho_ sl_ H_ hp_ hq_
   subst ho_
   refine wH_at _ hp_ hq_ (wH_sr (h_opz (gV n_14 2 s_9.1) (h_opz (gV n_69 1 s_66) (h_opz (gV n_14 2 s_9.1) (h_opz (gV n_69 1 s_66) (h_nil (wH_frozg 0 rfl (wH_cog 6 0 rfl rfl (wH_cog 8 0 rfl rfl (wH_cog 123 0 rfl rfl (wH_frozg 2 rfl (wH_cog 7 2 rfl rfl (wH_cog 10 2 rfl rfl (wH_cog 124 2 rfl rfl ?_))))))))))))))
   obtain rfl:=some_inj hF
   exact wH_ret (fin0r [(vL Match.enc s_9.1),(vL eI s_66)] ⟨rfl,⟨rfl,trivial⟩⟩)
theorem slices_Equal_api_Tally_api_Tally_ok {s1_1:(List Tally)} {s2_2:(List Tally)} {r:Bool} (hF:slices_Equal_api_Tally_api_Tally s1_1 s2_2=some r) :
  FnM Try.prog 21 [(vL Tally.enc s1_1),(vL Tally.enc s2_2)] [] (vB r) []:=by
 refine FnM.of_wH ⟨Try.prog,26,[],[]⟩ rfl Try.func21 rfl rfl (Nat.le_of_ble_eq_true rfl) (by kernel_rfl) ?_
 unfold slices_Equal_api_Tally_api_Tally at hF
 refine wH_sr (h_opz (vB false) (h_nil (wH_seq (wH_sr (h_opz (vL Tally.enc s1_1) (h_len un34 rfl wz (h_opz (vL Tally.enc s2_2) (h_len un34 rfl wz (h_opz (vB ((s1_1.length:Int) != (s2_2.length:Int))) (h_nil ?_))))))))))
 rcases cond_some hF with⟨hc_3,hF⟩ | ⟨hc_3,hF⟩
 ·refine wH_ift rfl hc_3 (wH_sr (h_opz (vB false) (h_nil ?_)))
  obtain rfl:=some_inj hF
  exact wH_ret (fin0r [(vB false)] ⟨rfl,trivial⟩)
 ·refine wH_iff rfl hc_3 (wH_skip (wH_seq (wH_sr (h_opz (vL Tally.enc s1_1) (h_len un34 rfl wz (h_opz (vI 0) (h_nil ?_)))))))
  obtain ⟨o_12,hj_13,hF⟩:=bind_some hF
  obtain ⟨hn_8,hj_13⟩:=forL_some hj_13
  refine wH_loopF0 (fun (s_9:Unit) => []) (fun (s_9:Unit) => []) (fun (k_4:Nat)=>(fun (s_9:Unit) => [(0,(vL Tally.enc s1_1)),(1,(vL Tally.enc s2_2)),(12,(vI (s1_1.length:Int))),(13,(vI (k_4:Int)))])) (fun k x s=>slices_Equal_api_Tally_api_Tally_L1 s2_2 k x s) o_12 s1_1 () hj_13 rfl (pre_r rfl) ?_ ?_
  ·rintro ⟨k_4,l_5,s_9⟩ ⟨hL_11,hD_7⟩
   dsimp only at hL_11 hD_7
   cases l_5 with
   | nil =>
    obtain rfl:=some_inj hL_11
    refine wH_sr (h_opz (vB (decide ((k_4:Int) < (s1_1.length:Int)))) (h_nil ?_))
    refine wH_seq (wH_iff rfl (drop_nil hD_7) (wH_exit ?_))
    exact cut_mk (s_9) rfl rfl (pre_r rfl)
   | cons x_6 l_5 =>
    obtain ⟨c_,hc_10,hL_11⟩:=bind_some hL_11
    refine wH_sr (h_opz (vB (decide ((k_4:Int) < (s1_1.length:Int)))) (h_nil ?_))
    refine wH_seq (wH_ift rfl (drop_cons hD_7) (wH_skip ?_))
    unfold slices_Equal_api_Tally_api_Tally_L1 at hc_10
    refine wH_seq (wH_block (wH_sr (h_opz (vI (k_4:Int)) (h_opz (vI (k_4:Int)) (h_nil (wH_seq (wH_draws (h_opz (vL Tally.enc s1_1) (h_opz (vI (k_4:Int)) (h_ia es34 rfl rfl (drop_idx hD_7) rfl wz (h_ldc sz55 ag55 rfl (.d (.agg (Tally.enc x_6))) rfl wz (h_opz (vL Tally.enc s2_2) (h_opz (vI (k_4:Int)) ?_)))))))))))))
    obtain ⟨y_14,hy_15,hc_10⟩:=bind_some hc_10
    refine h_ia es34 rfl rfl hy_15 rfl wz (h_ldc sz55 ag55 rfl (.d (.agg (Tally.enc y_14))) rfl wz (h_op (vB (!((x_6.Player.toList == y_14.Player.toList) && ((x_6.Item.toList == y_14.Item.toList) && ((x_6.Day == y_14.Day) && ((x_6.Many == y_14.Many) && ((x_6.Long == y_14.Long) && true))))))) wz (by kernel_rfl) (h_nil ?_)))
    rcases cond_some hc_10 with⟨hc_16,hc_10⟩ | ⟨hc_16,hc_10⟩
    ·refine wH_ift rfl hc_16 (wH_sr (h_opz (vB false) (h_nil ?_)))
     obtain rfl:=some_inj hc_10
     obtain rfl:=some_inj hL_11
     obtain rfl:=some_inj hF
     exact wH_ret (fin0r [(vB false)] ⟨rfl,trivial⟩)
    ·refine wH_iff rfl hc_16 (wH_skip (wH_region (h_opw (w64_next hD_7 hn_8) wz rfl (h_opz (vI ((k_4 + 1:Nat):Int)) (h_nil ?_)))))
     obtain rfl:=some_inj hc_10
     exact loop_mk (k_4 + 1,l_5,()) ⟨hL_11,drop_next hD_7⟩ (Nat.lt_succ_self _) rfl (pre_r rfl)
  ·rintro s_9 ho_ sl_ H_ hp_ hq_
   subst ho_
   refine wH_at _ hp_ hq_ (wH_sr (h_opz (vB true) (h_nil ?_)))
   obtain rfl:=some_inj hF
   exact wH_ret (fin0r [(vB true)] ⟨rfl,trivial⟩)
theorem slices_Equal_api_Window_api_Window_ok {s1_1:(List Window)} {s2_2:(List Window)} {r:Bool} (hF:slices_Equal_api_Window_api_Window s1_1 s2_2=some r) :
  FnM Try.prog 22 [(vL Window.enc s1_1),(vL Window.enc s2_2)] [] (vB r) []:=by
 refine FnM.of_wH ⟨Try.prog,26,[],[]⟩ rfl Try.func22 rfl rfl (Nat.le_of_ble_eq_true rfl) (by kernel_rfl) ?_
 unfold slices_Equal_api_Window_api_Window at hF
 refine wH_sr (h_opz (vB false) (h_nil (wH_seq (wH_sr (h_opz (vL Window.enc s1_1) (h_len un38 rfl wz (h_opz (vL Window.enc s2_2) (h_len un38 rfl wz (h_opz (vB ((s1_1.length:Int) != (s2_2.length:Int))) (h_nil ?_))))))))))
 rcases cond_some hF with⟨hc_3,hF⟩ | ⟨hc_3,hF⟩
 ·refine wH_ift rfl hc_3 (wH_sr (h_opz (vB false) (h_nil ?_)))
  obtain rfl:=some_inj hF
  exact wH_ret (fin0r [(vB false)] ⟨rfl,trivial⟩)
 ·refine wH_iff rfl hc_3 (wH_skip (wH_seq (wH_sr (h_opz (vL Window.enc s1_1) (h_len un38 rfl wz (h_opz (vI 0) (h_nil ?_)))))))
  obtain ⟨o_12,hj_13,hF⟩:=bind_some hF
  obtain ⟨hn_8,hj_13⟩:=forL_some hj_13
  refine wH_loopF0 (fun (s_9:Unit) => []) (fun (s_9:Unit) => []) (fun (k_4:Nat)=>(fun (s_9:Unit) => [(0,(vL Window.enc s1_1)),(1,(vL Window.enc s2_2)),(12,(vI (s1_1.length:Int))),(13,(vI (k_4:Int)))])) (fun k x s=>slices_Equal_api_Window_api_Window_L1 s2_2 k x s) o_12 s1_1 () hj_13 rfl (pre_r rfl) ?_ ?_
  ·rintro ⟨k_4,l_5,s_9⟩ ⟨hL_11,hD_7⟩
   dsimp only at hL_11 hD_7
   cases l_5 with
   | nil =>
    obtain rfl:=some_inj hL_11
    refine wH_sr (h_opz (vB (decide ((k_4:Int) < (s1_1.length:Int)))) (h_nil ?_))
    refine wH_seq (wH_iff rfl (drop_nil hD_7) (wH_exit ?_))
    exact cut_mk (s_9) rfl rfl (pre_r rfl)
   | cons x_6 l_5 =>
    obtain ⟨c_,hc_10,hL_11⟩:=bind_some hL_11
    refine wH_sr (h_opz (vB (decide ((k_4:Int) < (s1_1.length:Int)))) (h_nil ?_))
    refine wH_seq (wH_ift rfl (drop_cons hD_7) (wH_skip ?_))
    unfold slices_Equal_api_Window_api_Window_L1 at hc_10
    refine wH_seq (wH_block (wH_sr (h_opz (vI (k_4:Int)) (h_opz (vI (k_4:Int)) (h_nil (wH_seq (wH_draws (h_opz (vL Window.enc s1_1) (h_opz (vI (k_4:Int)) (h_ia es38 rfl rfl (drop_idx hD_7) rfl wz (h_ldc sz31 ag31 rfl (.d (.agg (Window.enc x_6))) rfl wz (h_opz (vL Window.enc s2_2) (h_opz (vI (k_4:Int)) ?_)))))))))))))
    obtain ⟨y_14,hy_15,hc_10⟩:=bind_some hc_10
    refine h_ia es38 rfl rfl hy_15 rfl wz (h_ldc sz31 ag31 rfl (.d (.agg (Window.enc y_14))) rfl wz (h_op (vB (!((x_6.From == y_14.From) && ((x_6.To == y_14.To) && true)))) wz (by kernel_rfl) (h_nil ?_)))
    rcases cond_some hc_10 with⟨hc_16,hc_10⟩ | ⟨hc_16,hc_10⟩
    ·refine wH_ift rfl hc_16 (wH_sr (h_opz (vB false) (h_nil ?_)))
     obtain rfl:=some_inj hc_10
     obtain rfl:=some_inj hL_11
     obtain rfl:=some_inj hF
     exact wH_ret (fin0r [(vB false)] ⟨rfl,trivial⟩)
    ·refine wH_iff rfl hc_16 (wH_skip (wH_region (h_opw (w64_next hD_7 hn_8) wz rfl (h_opz (vI ((k_4 + 1:Nat):Int)) (h_nil ?_)))))
     obtain rfl:=some_inj hc_10
     exact loop_mk (k_4 + 1,l_5,()) ⟨hL_11,drop_next hD_7⟩ (Nat.lt_succ_self _) rfl (pre_r rfl)
  ·rintro s_9 ho_ sl_ H_ hp_ hq_
   subst ho_
   refine wH_at _ hp_ hq_ (wH_sr (h_opz (vB true) (h_nil ?_)))
   obtain rfl:=some_inj hF
   exact wH_ret (fin0r [(vB true)] ⟨rfl,trivial⟩)
theorem slices_Equal_api_Match_api_Match_ok {s1_1:(List Match)} {s2_2:(List Match)} {r:Bool} (hF:slices_Equal_api_Match_api_Match s1_1 s2_2=some r) :
  FnM Try.prog 23 [(vL Match.enc s1_1),(vL Match.enc s2_2)] [] (vB r) []:=by
 refine FnM.of_wH ⟨Try.prog,26,[],[]⟩ rfl Try.func23 rfl rfl (Nat.le_of_ble_eq_true rfl) (by kernel_rfl) ?_
 unfold slices_Equal_api_Match_api_Match at hF
 refine wH_sr (h_opz (vB false) (h_nil (wH_seq (wH_sr (h_opz (vL Match.enc s1_1) (h_len un41 rfl wz (h_opz (vL Match.enc s2_2) (h_len un41 rfl wz (h_opz (vB ((s1_1.length:Int) != (s2_2.length:Int))) (h_nil ?_))))))))))
 rcases cond_some hF with⟨hc_3,hF⟩ | ⟨hc_3,hF⟩
 ·refine wH_ift rfl hc_3 (wH_sr (h_opz (vB false) (h_nil ?_)))
  obtain rfl:=some_inj hF
  exact wH_ret (fin0r [(vB false)] ⟨rfl,trivial⟩)
 ·refine wH_iff rfl hc_3 (wH_skip (wH_seq (wH_sr (h_opz (vL Match.enc s1_1) (h_len un41 rfl wz (h_opz (vI 0) (h_nil ?_)))))))
  obtain ⟨o_12,hj_13,hF⟩:=bind_some hF
  obtain ⟨hn_8,hj_13⟩:=forL_some hj_13
  refine wH_loopF0 (fun (s_9:Unit) => []) (fun (s_9:Unit) => []) (fun (k_4:Nat)=>(fun (s_9:Unit) => [(0,(vL Match.enc s1_1)),(1,(vL Match.enc s2_2)),(12,(vI (s1_1.length:Int))),(13,(vI (k_4:Int)))])) (fun k x s=>slices_Equal_api_Match_api_Match_L1 s2_2 k x s) o_12 s1_1 () hj_13 rfl (pre_r rfl) ?_ ?_
  ·rintro ⟨k_4,l_5,s_9⟩ ⟨hL_11,hD_7⟩
   dsimp only at hL_11 hD_7
   cases l_5 with
   | nil =>
    obtain rfl:=some_inj hL_11
    refine wH_sr (h_opz (vB (decide ((k_4:Int) < (s1_1.length:Int)))) (h_nil ?_))
    refine wH_seq (wH_iff rfl (drop_nil hD_7) (wH_exit ?_))
    exact cut_mk (s_9) rfl rfl (pre_r rfl)
   | cons x_6 l_5 =>
    obtain ⟨c_,hc_10,hL_11⟩:=bind_some hL_11
    refine wH_sr (h_opz (vB (decide ((k_4:Int) < (s1_1.length:Int)))) (h_nil ?_))
    refine wH_seq (wH_ift rfl (drop_cons hD_7) (wH_skip ?_))
    unfold slices_Equal_api_Match_api_Match_L1 at hc_10
    refine wH_seq (wH_block (wH_sr (h_opz (vI (k_4:Int)) (h_opz (vI (k_4:Int)) (h_nil (wH_seq (wH_draws (h_opz (vL Match.enc s1_1) (h_opz (vI (k_4:Int)) (h_ia es41 rfl rfl (drop_idx hD_7) rfl wz (h_ldc sz59 ag59 rfl (.d (.agg (Match.enc x_6))) rfl wz (h_opz (vL Match.enc s2_2) (h_opz (vI (k_4:Int)) ?_)))))))))))))
    obtain ⟨y_14,hy_15,hc_10⟩:=bind_some hc_10
    refine h_ia es41 rfl rfl hy_15 rfl wz (h_ldc sz59 ag59 rfl (.d (.agg (Match.enc y_14))) rfl wz (h_op (vB (!((x_6.Want == y_14.Want) && ((x_6.Have == y_14.Have) && true)))) wz (by kernel_rfl) (h_nil ?_)))
    rcases cond_some hc_10 with⟨hc_16,hc_10⟩ | ⟨hc_16,hc_10⟩
    ·refine wH_ift rfl hc_16 (wH_sr (h_opz (vB false) (h_nil ?_)))
     obtain rfl:=some_inj hc_10
     obtain rfl:=some_inj hL_11
     obtain rfl:=some_inj hF
     exact wH_ret (fin0r [(vB false)] ⟨rfl,trivial⟩)
    ·refine wH_iff rfl hc_16 (wH_skip (wH_region (h_opw (w64_next hD_7 hn_8) wz rfl (h_opz (vI ((k_4 + 1:Nat):Int)) (h_nil ?_)))))
     obtain rfl:=some_inj hc_10
     exact loop_mk (k_4 + 1,l_5,()) ⟨hL_11,drop_next hD_7⟩ (Nat.lt_succ_self _) rfl (pre_r rfl)
  ·rintro s_9 ho_ sl_ H_ hp_ hq_
   subst ho_
   refine wH_at _ hp_ hq_ (wH_sr (h_opz (vB true) (h_nil ?_)))
   obtain rfl:=some_inj hF
   exact wH_ret (fin0r [(vB true)] ⟨rfl,trivial⟩)
theorem slices_Equal_int_int_ok {s1_1:(List Int)} {s2_2:(List Int)} {r:Bool} (hF:slices_Equal_int_int s1_1 s2_2=some r) :
  FnM Try.prog 24 [(vL eI s1_1),(vL eI s2_2)] [] (vB r) []:=by
 refine FnM.of_wH ⟨Try.prog,26,[],[]⟩ rfl Try.func24 rfl rfl (Nat.le_of_ble_eq_true rfl) (by kernel_rfl) ?_
 unfold slices_Equal_int_int at hF
 refine wH_sr (h_opz (vB false) (h_nil (wH_seq (wH_sr (h_opz (vL eI s1_1) (h_len un22 rfl wz (h_opz (vL eI s2_2) (h_len un22 rfl wz (h_opz (vB ((s1_1.length:Int) != (s2_2.length:Int))) (h_nil ?_))))))))))
 rcases cond_some hF with⟨hc_3,hF⟩ | ⟨hc_3,hF⟩
 ·refine wH_ift rfl hc_3 (wH_sr (h_opz (vB false) (h_nil ?_)))
  obtain rfl:=some_inj hF
  exact wH_ret (fin0r [(vB false)] ⟨rfl,trivial⟩)
 ·refine wH_iff rfl hc_3 (wH_skip (wH_seq (wH_sr (h_opz (vL eI s1_1) (h_len un22 rfl wz (h_opz (vI 0) (h_nil ?_)))))))
  obtain ⟨o_12,hj_13,hF⟩:=bind_some hF
  obtain ⟨hn_8,hj_13⟩:=forL_some hj_13
  refine wH_loopF0 (fun (s_9:Unit) => []) (fun (s_9:Unit) => []) (fun (k_4:Nat)=>(fun (s_9:Unit) => [(0,(vL eI s1_1)),(1,(vL eI s2_2)),(12,(vI (s1_1.length:Int))),(13,(vI (k_4:Int)))])) (fun k x s=>slices_Equal_int_int_L1 s2_2 k x s) o_12 s1_1 () hj_13 rfl (pre_r rfl) ?_ ?_
  ·rintro ⟨k_4,l_5,s_9⟩ ⟨hL_11,hD_7⟩
   dsimp only at hL_11 hD_7
   cases l_5 with
   | nil =>
    obtain rfl:=some_inj hL_11
    refine wH_sr (h_opz (vB (decide ((k_4:Int) < (s1_1.length:Int)))) (h_nil ?_))
    refine wH_seq (wH_iff rfl (drop_nil hD_7) (wH_exit ?_))
    exact cut_mk (s_9) rfl rfl (pre_r rfl)
   | cons x_6 l_5 =>
    obtain ⟨c_,hc_10,hL_11⟩:=bind_some hL_11
    refine wH_sr (h_opz (vB (decide ((k_4:Int) < (s1_1.length:Int)))) (h_nil ?_))
    refine wH_seq (wH_ift rfl (drop_cons hD_7) (wH_skip ?_))
    unfold slices_Equal_int_int_L1 at hc_10
    refine wH_seq (wH_block (wH_sr (h_opz (vI (k_4:Int)) (h_opz (vI (k_4:Int)) (h_nil (wH_seq (wH_draws (h_opz (vL eI s1_1) (h_opz (vI (k_4:Int)) (h_ia es22 rfl rfl (drop_idx hD_7) rfl wz (h_ldc sz3 ag3 rfl (vI x_6) rfl wz (h_opz (vL eI s2_2) (h_opz (vI (k_4:Int)) ?_)))))))))))))
    obtain ⟨y_14,hy_15,hc_10⟩:=bind_some hc_10
    refine h_ia es22 rfl rfl hy_15 rfl wz (h_ldc sz3 ag3 rfl (vI y_14) rfl wz (h_opz (vB (x_6 != y_14)) (h_nil ?_)))
    rcases cond_some hc_10 with⟨hc_16,hc_10⟩ | ⟨hc_16,hc_10⟩
    ·refine wH_ift rfl hc_16 (wH_sr (h_opz (vB false) (h_nil ?_)))
     obtain rfl:=some_inj hc_10
     obtain rfl:=some_inj hL_11
     obtain rfl:=some_inj hF
     exact wH_ret (fin0r [(vB false)] ⟨rfl,trivial⟩)
    ·refine wH_iff rfl hc_16 (wH_skip (wH_region (h_opw (w64_next hD_7 hn_8) wz rfl (h_opz (vI ((k_4 + 1:Nat):Int)) (h_nil ?_)))))
     obtain rfl:=some_inj hc_10
     exact loop_mk (k_4 + 1,l_5,()) ⟨hL_11,drop_next hD_7⟩ (Nat.lt_succ_self _) rfl (pre_r rfl)
  ·rintro s_9 ho_ sl_ H_ hp_ hq_
   subst ho_
   refine wH_at _ hp_ hq_ (wH_sr (h_opz (vB true) (h_nil ?_)))
   obtain rfl:=some_inj hF
   exact wH_ret (fin0r [(vB true)] ⟨rfl,trivial⟩)
end Go.Proofs.Ythcdokkcamcnmab.Law

