/-
 The machine computes these plain functions (written by a program of ours).
-/
import Derived.Test.YtipjpkpmkijdoaaFacts
import Derived.Test.YtipjpkpmkijdoaaDefs
import Derived.Test.YtipjpkpmkijdoaaPf2
open Go Go.Eng Go.Proofs
namespace Go.Proofs.Ytipjpkpmkijdoaa.Law
set_option maxRecDepth 100000
set_option linter.unusedVariables false
set_option maxHeartbeats 1000000
theorem booking_newWeb_ok {spots_1:(List Spot)} {l_2:(List Campaign)} {r:Web} (hF:booking_newWeb spots_1 l_2=some r) :
  FnM Try.prog 21 [(vL Spot.enc spots_1),(vL Campaign.enc l_2)] [] (.ref (extN 0) 0 0) (gridOut 2 1 eI [(vI r.f_camps)] r.f_can):=by
 refine FnM.of_wH ⟨Try.prog,110,[],[]⟩ rfl Try.func21 rfl rfl (Nat.le_of_ble_eq_true rfl) (by kernel_rfl) ?_
 unfold booking_newWeb at hF
 refine wH_sr (h_opz (.d .nilp) (h_nil (wH_sr (h_opz (vL Spot.enc spots_1) (h_len un26 rfl wz (h_opz (vI (w64 (2 + (spots_1.length:Int)))) (h_opz (vL Campaign.enc l_2) (h_len un27 rfl wz (h_opz (vI (w64 ((w64 (2 + (spots_1.length:Int))) + (l_2.length:Int)))) (h_opz (vI (w64 ((w64 (2 + (spots_1.length:Int))) + (l_2.length:Int)))) (h_nil (wH_sr (h_opz (vI (w64 ((w64 (2 + (spots_1.length:Int))) + (l_2.length:Int)))) ?_)))))))))))))
 obtain ⟨m_3,hm_4,hF⟩:=bind_some hF
 obtain ⟨_,hz_5,hF⟩:=bind_some hF
 refine h_mkgrid (α:=Int) (enc:=eI) (sz:=1) 0 (.inl rfl) el66 sz22 z22 by22 rfl rfl hm_4 (nzI_ne hz_5) wz (fun n_6 ns_7=>h_opz (vL Campaign.enc l_2) (h_len un27 rfl wz (h_op (.agg [(.vs n_6 1 0 m_3),(vI (l_2.length:Int))]) wz (by kernel_rfl) (h_box 0 (.inl rfl) [(.vs n_6 1 0 m_3),(vI (l_2.length:Int))] rfl rfl wz (fun n_8=>h_ahead (C0:=([(n_6,some (.cells 1 (gCells 1 ns_7 (List.replicate m_3 ([]:List Int)))))]:Hp)) (T:=(gRows 1 eI ns_7 (List.replicate m_3 ([]:List Int)))) (X:=([(n_8,some (.cells 2 [(.vs n_6 1 0 m_3),(vI (l_2.length:Int))]))]:Hp)) (h_opz (.ref n_8 0 0) (h_nil (wH_seq (wH_sr (h_opz (.ref n_8 0 0) (h_opz (.ref n_8 0 0) (h_far pl68_0 rfl 0 rfl wz (h_ldr 0 1 il ft sz66 ag66 rfl rfl (.vs n_6 1 0 m_3) rfl wz (h_lenp un66 rfl wz (h_opz (vI 0) (h_nil ?_))))))))))))))))
 obtain ⟨o_19,hj_20,hF⟩:=bind_some hF
 obtain ⟨hn_13,hj_20⟩:=forL_some hj_20
 refine wH_loopF (σ:=(List (List Int))) (N:=(Nat→Nm)) (fun p=>(fun (s_14:(List (List Int))) (ns_16:(Nat→Nm))=>([(0,(vL Spot.enc spots_1)),(1,(vL Campaign.enc l_2)),(6,(.ref n_8 0 0))]:List (Nat×V))) p.1 p.2) (fun p=>(fun (s_14:(List (List Int))) (ns_16:(Nat→Nm))=>(([(n_6,some (.cells 1 (gCells 1 ns_16 s_14))),(n_8,some (.cells 2 [(.vs n_6 1 0 m_3),(vI (l_2.length:Int))]))]:Hp)++(gRows 1 eI ns_16 s_14))) p.1 p.2) (fun (k_9:Nat)=>(fun p=>(fun (s_14:(List (List Int))) (ns_16:(Nat→Nm))=>([(0,(vL Spot.enc spots_1)),(1,(vL Campaign.enc l_2)),(5,(vI (w64 ((w64 (2 + (spots_1.length:Int))) + (l_2.length:Int))))),(6,(.ref n_8 0 0)),(30,(vI ((m_3:Nat):Int))),(31,(vI (k_9:Int)))]:List (Nat×V))) p.1 p.2)) (fun k x s=>booking_newWeb_L1 spots_1 l_2 m_3 k x s) o_19 (List.range (((m_3:Nat):Int)).toNat) ((List.replicate m_3 ([]:List Int)),ns_7) hj_20 rfl (pre_tl (C1:=([(n_6,some (.cells 1 (gCells 1 ns_7 (List.replicate m_3 ([]:List Int))))),(n_8,some (.cells 2 [(.vs n_6 1 0 m_3),(vI (l_2.length:Int))]))]:Hp)) (T:=(gRows 1 eI ns_7 (List.replicate m_3 ([]:List Int)))) [0,1] (by decide) rfl rfl) ?_ ?_
 ·rintro ⟨k_9,l_10,s_14,ns_16⟩ ⟨hL_18,hD_12⟩
  dsimp only at hL_18 hD_12
  cases l_10 with
  | nil =>
   obtain rfl:=some_inj hL_18
   refine wH_sr (h_opz (vB (decide ((k_9:Int) < ((m_3:Nat):Int)))) (h_nil ?_))
   refine wH_seq (wH_iff rfl (range_nil hD_12) (wH_exit ?_))
   exact cut_mk (s_14,ns_16) rfl rfl (pre_tl (C1:=([(n_6,some (.cells 1 (gCells 1 ns_16 s_14))),(n_8,some (.cells 2 [(.vs n_6 1 0 m_3),(vI (l_2.length:Int))]))]:Hp)) (T:=(gRows 1 eI ns_16 s_14)) [0,1] (by decide) rfl rfl)
  | cons x_11 l_10 =>
   obtain ⟨c_,hc_17,hL_18⟩:=bind_some hL_18
   refine wH_sr (h_opz (vB (decide ((k_9:Int) < ((m_3:Nat):Int)))) (h_nil ?_))
   refine wH_seq (wH_ift rfl (range_cons hD_12) (wH_skip ?_))
   unfold booking_newWeb_L1 at hc_17
   refine wH_seq (wH_block (wH_sr (h_opz (vI (k_9:Int)) (h_opz (vI (k_9:Int)) (h_nil (wH_draws (h_opz (.ref n_8 0 0) (h_opz (.ref n_8 0 0) (h_far pl68_0 rfl 0 rfl wz (h_ldr 3 1 (.inr (by kernel_rfl)) (fun _ _ ag=>trivial) sz66 ag66 rfl rfl (.vs n_6 1 0 m_3) rfl wz (h_opz (vI (k_9:Int)) (h_opz (vI (w64 ((w64 (2 + (spots_1.length:Int))) + (l_2.length:Int)))) ?_))))))))))))
   obtain ⟨m_21,hm_22,hc_17⟩:=bind_some hc_17
   refine h_mkslice (enc:=eI) 6 (.inr (by kernel_rfl)) 0 el22 sz3 z3 by3 rfl rfl (by decide) rfl rfl rfl hm_22 wz (fun n_23=>h_ahead (C0:=([(n_6,some (.cells 1 (gCells 1 ns_16 s_14))),(n_8,some (.cells 2 [(.vs n_6 1 0 m_3),(vI (l_2.length:Int))]))]:Hp)) (T:=(gRows 1 eI ns_16 s_14)) (X:=([(n_23,some (bV 1 eI (List.replicate m_21 (0:Int))))]:Hp)) ?_)
   obtain ⟨_,hi_24,hc_17⟩:=bind_some hc_17
   refine h_iav es66 rfl rfl (inN_0 hi_24) (inN_lt hi_24) wz ?_
   obtain ⟨_,hn_25,hc_17⟩:=bind_some hc_17
   replace hn_25:=neL_ne hn_25
   refine h_re (v':=(gV n_23 1 (List.replicate m_21 (0:Int)))) 40 rfl (vV_gV hn_25) (h_reH 2 rfl (gB_cons hn_25).symm ?_)
   obtain ⟨r_26,hr_27,hc_17⟩:=bind_some hc_17
   refine h_gst 8 0 (.inr (by kernel_rfl)) (fun _ _ ag=>⟨.inr (.inr (by kernel_rfl)),⟨.inr (.inr (by kernel_rfl)),trivial⟩⟩) sz22 rfl rfl rfl (get_lt hr_27) wz (h_eqH (H0:=(([(n_6,some (.cells 1 (gCells 1 (nset ns_16 (0 + ((k_9:Int)).toNat) n_23) (s_14.set (0 + ((k_9:Int)).toNat) (List.replicate m_21 (0:Int)))))),(n_8,some (.cells 2 [(.vs n_6 1 0 m_3),(vI (l_2.length:Int))]))]:Hp) ++ [(n_23,gB 1 eI (List.replicate m_21 (0:Int)))]++(gRows 1 eI ns_16 s_14))) rfl (h_rowin (get_lt hr_27) (h_nil (wH_region (h_opw (w64_nextr hD_12 hn_13) wz rfl (h_opz (vI ((k_9 + 1:Nat):Int)) (h_nil ?_)))))))
   obtain rfl:=some_inj hc_17
   exact loop_mk (k_9 + 1,l_10,(s_14.set (0 + ((k_9:Int)).toNat) (List.replicate m_21 (0:Int))),(nset ns_16 (0 + ((k_9:Int)).toNat) n_23)) ⟨hL_18,drop_next hD_12⟩ (Nat.lt_succ_self _) rfl (pre_tl (C1:=([(n_6,some (.cells 1 (gCells 1 (nset ns_16 (0 + ((k_9:Int)).toNat) n_23) (s_14.set (0 + ((k_9:Int)).toNat) (List.replicate m_21 (0:Int)))))),(n_8,some (.cells 2 [(.vs n_6 1 0 m_3),(vI (l_2.length:Int))]))]:Hp)) (T:=(gRows 1 eI (nset ns_16 (0 + ((k_9:Int)).toNat) n_23) (s_14.set (0 + ((k_9:Int)).toNat) (List.replicate m_21 (0:Int))))) [0,1] (by decide) rfl rfl)
 ·rintro ⟨s_14,ns_16⟩ ho_ sl_ H_ hp_ hq_
  subst ho_
  refine wH_at _ hp_ hq_ (wH_seq (wH_sr (h_opz (vL Campaign.enc l_2) (h_len un27 rfl wz (h_opz (vI 0) (h_nil ?_))))))
  obtain ⟨o_36,hj_37,hF⟩:=bind_some hF
  obtain ⟨hn_32,hj_37⟩:=forL_some hj_37
  refine wH_loopF0 (fun (s_33:(List (List Int))) => [(0,(vL Spot.enc spots_1)),(6,(.ref n_8 0 0))]) (fun (s_33:(List (List Int)))=>(([(n_6,some (.cells 1 (gCells 1 ns_16 s_33))),(n_8,some (.cells 2 [(.vs n_6 1 0 m_3),(vI (l_2.length:Int))]))]:Hp)++(gRows 1 eI ns_16 s_33))) (fun (k_28:Nat)=>(fun (s_33:(List (List Int))) => [(0,(vL Spot.enc spots_1)),(6,(.ref n_8 0 0)),(43,(vL Campaign.enc l_2)),(44,(vI (l_2.length:Int))),(45,(vI (k_28:Int)))])) (fun k x s=>booking_newWeb_L3 m_3 l_2 spots_1 k x s) o_36 l_2 s_14 hj_37 rfl (pre_tl (C1:=([(n_6,some (.cells 1 (gCells 1 ns_16 s_14))),(n_8,some (.cells 2 [(.vs n_6 1 0 m_3),(vI (l_2.length:Int))]))]:Hp)) (T:=(gRows 1 eI ns_16 s_14)) [0,1] (by decide) rfl rfl) ?_ ?_
  ·rintro ⟨k_28,l_29,s_33⟩ ⟨hL_35,hD_31⟩
   dsimp only at hL_35 hD_31
   cases l_29 with
   | nil =>
    obtain rfl:=some_inj hL_35
    refine wH_sr (h_opz (vB (decide ((k_28:Int) < (l_2.length:Int)))) (h_nil ?_))
    refine wH_seq (wH_iff rfl (drop_nil hD_31) (wH_exit ?_))
    exact cut_mk (s_33) rfl rfl (pre_tl (C1:=([(n_6,some (.cells 1 (gCells 1 ns_16 s_33))),(n_8,some (.cells 2 [(.vs n_6 1 0 m_3),(vI (l_2.length:Int))]))]:Hp)) (T:=(gRows 1 eI ns_16 s_33)) [0,1] (by decide) rfl rfl)
   | cons x_30 l_29 =>
    obtain ⟨c_,hc_34,hL_35⟩:=bind_some hL_35
    refine wH_sr (h_opz (vB (decide ((k_28:Int) < (l_2.length:Int)))) (h_nil ?_))
    refine wH_seq (wH_ift rfl (drop_cons hD_31) (wH_skip ?_))
    unfold booking_newWeb_L3 at hc_34
    refine wH_seq (wH_block (wH_sr (h_opz (vI (k_28:Int)) (h_ia es27 rfl rfl (drop_idx hD_31) rfl wz (h_ldc sz61 ag61 rfl (.d (.agg (Campaign.enc x_30))) rfl wz (h_alloc 0 (.inl rfl) z61 rfl wz (fun n_38=>h_ahead (C0:=([(n_6,some (.cells 1 (gCells 1 ns_16 s_33))),(n_8,some (.cells 2 [(.vs n_6 1 0 m_3),(vI (l_2.length:Int))]))]:Hp)) (T:=(gRows 1 eI ns_16 s_33)) (X:=([(n_38,some (.cells 8 [(vS (⟨#[]⟩:ByteArray)),(vS (⟨#[]⟩:ByteArray)),(vI 0),(vI 0),.nil,(vI 0),(vI 0),(vI 0)]))]:Hp)) (h_opz (vI (k_28:Int)) (h_str 0 il ft 2 sz61 rfl rfl (Campaign.v x_30) rfl wz (h_nil (wH_seq (wH_draws (h_opz (.ref n_8 0 0) (h_opz (.ref n_8 0 0) (h_far pl68_0 rfl 0 rfl wz (h_ldr 3 1 (.inr (by kernel_rfl)) (fun _ _ ag=>trivial) sz66 ag66 rfl rfl (.vs n_6 1 0 m_3) rfl wz ?_))))))))))))))))
    obtain ⟨_,hi_39,hc_34⟩:=bind_some hc_34
    refine h_iav es66 rfl rfl (inN_0 hi_39) (inN_lt hi_39) wz ?_
    obtain ⟨r_40,hr_41,hc_34⟩:=bind_some hc_34
    refine h_grow 5 0 (.inr (by kernel_rfl)) (fun _ _ ag=>⟨.inl ⟨rfl,rfl⟩,trivial⟩) sz22 ag22 rfl rfl hr_41 wz (h_opz (.ref n_8 0 0) (h_opz (vI (k_28:Int)) ?_))
    obtain ⟨_,hn_44,hc_34⟩:=bind_some hc_34
    obtain ⟨_,hm_45,hc_34⟩:=bind_some hc_34
    obtain ⟨r_42,hr_43,hc_34⟩:=bind_some hc_34
    refine h_eqH (H0:=(([(n_6,some (.cells 1 (gCells 1 ns_16 s_33))),(n_8,some (.cells 2 [(.vs n_6 1 0 m_3),(vI (l_2.length:Int))])),(n_38,some (.cells 8 (Campaign.v x_30)))]:Hp)++(gRows 1 eI ns_16 s_33))) rfl (h_callGo 8 1 0 (.inr (by kernel_rfl)) (fun _ _ ag=>by exact⟨.inl ⟨rfl,rfl⟩,⟨.inl ⟨rfl,rfl⟩,trivial⟩⟩) (booking_web_camp_ok hr_43) rfl hb24 rfl rfl (by decide) (lenE_eq hm_45) (neR_ne hn_44) rfl (by kernel_rfl) (fun _=>by kernel_rfl) (by kernel_rfl) (by kernel_rfl) wz (h_far pl61_4 rfl 5 rfl wz (h_ldr 10 2 (.inr (by kernel_rfl)) (fun _ _ ag=>⟨.inl ⟨rfl,rfl⟩,⟨.inl ⟨rfl,rfl⟩,⟨.inl ⟨rfl,rfl⟩,trivial⟩⟩⟩) sz3 ag3 rfl rfl (vI x_30.Goal) rfl wz ?_)))
    obtain ⟨_,hi_46,hc_34⟩:=bind_some hc_34
    refine h_iavg es22 rfl rfl (inR_0 hi_46) (inR_lt hi_46) wz ?_
    obtain ⟨r_47,hr_48,hc_34⟩:=bind_some hc_34
    obtain ⟨e_49,hy_50,hc_34⟩:=bind_some hc_34
    refine h_eqH (H0:=(([(n_6,some (.cells 1 (gCells 1 ns_16 s_33))),(n_8,some (.cells 2 [(.vs n_6 1 0 m_3),(vI (l_2.length:Int))])),(n_38,some (.cells 8 (Campaign.v x_30)))]:Hp)++(gRows 1 eI ns_16 s_33))) rfl (h_gwr 12 (.inr (by kernel_rfl)) (fun _ _ ag=>⟨.inr (.inr (by kernel_rfl)),⟨.inr (.inr (by kernel_rfl)),⟨.inr (.inr (by kernel_rfl)),⟨.inr (.inr (by kernel_rfl)),trivial⟩⟩⟩⟩) sz3 rfl hr_48 hy_50 x_30.Goal rfl wz (h_reH (b':=some (.cells 1 (gCells 1 ns_16 (s_33.set (0 + (0:Int).toNat) (r_47.set (0 + (r_42).toNat) x_30.Goal))))) 0 rfl (gBox_wr hr_48) (h_nil (wH_sr (h_opz (vL Spot.enc spots_1) (h_len un26 rfl wz (h_opz (vI 0) (h_nil ?_))))))))
    obtain ⟨o_59,hj_60,hc_34⟩:=bind_some hc_34
    obtain ⟨hn_55,hj_60⟩:=forL_some hj_60
    refine wH_loopF0 (fun (s_56:(List (List Int))) => [(0,(vL Spot.enc spots_1)),(6,(.ref n_8 0 0)),(43,(vL Campaign.enc l_2)),(44,(vI (l_2.length:Int))),(45,(vI (k_28:Int)))]) (fun (s_56:(List (List Int)))=>(([(n_6,some (.cells 1 (gCells 1 ns_16 s_56))),(n_8,some (.cells 2 [(.vs n_6 1 0 m_3),(vI (l_2.length:Int))])),(n_38,some (.cells 8 (Campaign.v x_30)))]:Hp)++(gRows 1 eI ns_16 s_56))) (fun (k_51:Nat)=>(fun (s_56:(List (List Int))) => [(0,(vL Spot.enc spots_1)),(6,(.ref n_8 0 0)),(8,(vI (k_28:Int))),(9,(.ref n_38 0 0)),(43,(vL Campaign.enc l_2)),(44,(vI (l_2.length:Int))),(45,(vI (k_28:Int))),(62,(vL Spot.enc spots_1)),(63,(vI (spots_1.length:Int))),(64,(vI (k_51:Int)))])) (fun k x s=>booking_newWeb_L2 x_30 m_3 l_2 k_28 k x s) o_59 spots_1 (s_33.set (0 + (0:Int).toNat) (r_47.set (0 + (r_42).toNat) x_30.Goal)) hj_60 rfl (pre_tl (C1:=([(n_6,some (.cells 1 (gCells 1 ns_16 (s_33.set (0 + (0:Int).toNat) (r_47.set (0 + (r_42).toNat) x_30.Goal))))),(n_8,some (.cells 2 [(.vs n_6 1 0 m_3),(vI (l_2.length:Int))])),(n_38,some (.cells 8 (Campaign.v x_30)))]:Hp)) (T:=(gRows 1 eI ns_16 (s_33.set (0 + (0:Int).toNat) (r_47.set (0 + (r_42).toNat) x_30.Goal)))) [0,1,2] (by decide) rfl rfl) ?_ ?_
    ·rintro ⟨k_51,l_52,s_56⟩ ⟨hL_58,hD_54⟩
     dsimp only at hL_58 hD_54
     cases l_52 with
     | nil =>
      obtain rfl:=some_inj hL_58
      refine wH_sr (h_opz (vB (decide ((k_51:Int) < (spots_1.length:Int)))) (h_nil ?_))
      refine wH_seq (wH_iff rfl (drop_nil hD_54) (wH_exit ?_))
      exact cut_mk (s_56) rfl rfl (pre_tl (C1:=([(n_6,some (.cells 1 (gCells 1 ns_16 s_56))),(n_8,some (.cells 2 [(.vs n_6 1 0 m_3),(vI (l_2.length:Int))])),(n_38,some (.cells 8 (Campaign.v x_30)))]:Hp)) (T:=(gRows 1 eI ns_16 s_56)) [0,1,2] (by decide) rfl rfl)
     | cons x_53 l_52 =>
      obtain ⟨c_,hc_57,hL_58⟩:=bind_some hL_58
      refine wH_sr (h_opz (vB (decide ((k_51:Int) < (spots_1.length:Int)))) (h_nil ?_))
      refine wH_seq (wH_ift rfl (drop_cons hD_54) (wH_skip ?_))
      unfold booking_newWeb_L2 at hc_57
      refine wH_seq (wH_block (wH_sr (h_opz (vI (k_51:Int)) (h_ia es26 rfl rfl (drop_idx hD_54) rfl wz (h_ldc sz63 ag63 rfl (.d (.agg (Spot.enc x_53))) rfl wz (h_alloc 0 (.inl rfl) z63 rfl wz (fun n_61=>h_ahead (C0:=([(n_6,some (.cells 1 (gCells 1 ns_16 s_56))),(n_8,some (.cells 2 [(.vs n_6 1 0 m_3),(vI (l_2.length:Int))])),(n_38,some (.cells 8 (Campaign.v x_30)))]:Hp)) (T:=(gRows 1 eI ns_16 s_56)) (X:=([(n_61,some (.cells 5 [(vS (⟨#[]⟩:ByteArray)),(vI 0),(vI 0),(vI 0),.nil]))]:Hp)) (h_opz (vI (k_51:Int)) (h_str 0 il ft 3 sz63 rfl rfl (Spot.v x_53) rfl wz (h_nil (wH_sr (h_ldr 0 2 il ft sz61 ag61 rfl rfl (.d (.agg (Campaign.enc x_30))) rfl wz (h_ldr 0 3 il ft sz63 ag63 rfl rfl (.d (.agg (Spot.enc x_53))) rfl wz ?_)))))))))))))
      obtain ⟨r_62,hr_63,hc_57⟩:=bind_some hc_57
      refine h_call0 (booking_suits_ok hr_63) rfl hb23 rfl rfl rfl rfl wz (h_nil ?_)
      obtain ⟨v_64,h_65,hc_57⟩:=bind_some hc_57
      refine wH_joinU [(0,(vL Spot.enc spots_1)),(6,(.ref n_8 0 0)),(8,(vI (k_28:Int))),(9,(.ref n_38 0 0)),(43,(vL Campaign.enc l_2)),(44,(vI (l_2.length:Int))),(45,(vI (k_28:Int))),(62,(vL Spot.enc spots_1)),(63,(vI (spots_1.length:Int))),(64,(vI (k_51:Int)))] (([(n_6,some (.cells 1 (gCells 1 ns_16 v_64))),(n_8,some (.cells 2 [(.vs n_6 1 0 m_3),(vI (l_2.length:Int))])),(n_38,some (.cells 8 (Campaign.v x_30))),(n_61,some (.cells 5 (Spot.v x_53)))]:Hp)++(gRows 1 eI ns_16 v_64)) ?_ ?_
      ·rcases cond_some h_65 with⟨hc_66,h_65⟩ | ⟨hc_66,h_65⟩
       ·refine wH_ift rfl hc_66 (wH_draws (h_opz (.ref n_8 0 0) (h_opz (.ref n_8 0 0) (h_far pl68_0 rfl 0 rfl wz (h_ldr 3 1 (.inr (by kernel_rfl)) (fun _ _ ag=>trivial) sz66 ag66 rfl rfl (.vs n_6 1 0 m_3) rfl wz (h_opz (.ref n_8 0 0) (h_opz (vI (k_28:Int)) ?_)))))))
        obtain ⟨_,hn_69,h_65⟩:=bind_some h_65
        obtain ⟨_,hm_70,h_65⟩:=bind_some h_65
        obtain ⟨r_67,hr_68,h_65⟩:=bind_some h_65
        refine h_eqH (H0:=(([(n_6,some (.cells 1 (gCells 1 ns_16 s_56))),(n_8,some (.cells 2 [(.vs n_6 1 0 m_3),(vI (l_2.length:Int))])),(n_38,some (.cells 8 (Campaign.v x_30))),(n_61,some (.cells 5 (Spot.v x_53)))]:Hp)++(gRows 1 eI ns_16 s_56))) rfl (h_callGo 6 1 0 (.inr (by kernel_rfl)) (fun _ _ ag=>by exact⟨.inl ⟨rfl,rfl⟩,trivial⟩) (booking_web_camp_ok hr_68) rfl hb24 rfl rfl (by decide) (lenE_eq hm_70) (neR_ne hn_69) rfl (by kernel_rfl) (fun _=>by kernel_rfl) (by kernel_rfl) (by kernel_rfl) wz ?_)
        obtain ⟨_,hi_71,h_65⟩:=bind_some h_65
        refine h_iav es66 rfl rfl (inN_0 hi_71) (inN_lt hi_71) wz ?_
        obtain ⟨r_72,hr_73,h_65⟩:=bind_some h_65
        refine h_grow 8 0 (.inr (by kernel_rfl)) (fun _ _ ag=>⟨.inl ⟨rfl,rfl⟩,⟨.inl ⟨rfl,rfl⟩,trivial⟩⟩) sz22 ag22 rfl rfl hr_73 wz (h_opz (.ref n_8 0 0) (h_opz (vI (k_51:Int)) ?_))
        obtain ⟨_,hn_76,h_65⟩:=bind_some h_65
        obtain ⟨_,hm_77,h_65⟩:=bind_some h_65
        obtain ⟨r_74,hr_75,h_65⟩:=bind_some h_65
        refine h_eqH (H0:=(([(n_6,some (.cells 1 (gCells 1 ns_16 s_56))),(n_8,some (.cells 2 [(.vs n_6 1 0 m_3),(vI (l_2.length:Int))])),(n_38,some (.cells 8 (Campaign.v x_30))),(n_61,some (.cells 5 (Spot.v x_53)))]:Hp)++(gRows 1 eI ns_16 s_56))) rfl (h_callGo 11 1 0 (.inr (by kernel_rfl)) (fun _ _ ag=>by exact⟨.inl ⟨rfl,rfl⟩,⟨.inl ⟨rfl,rfl⟩,⟨.inl ⟨rfl,rfl⟩,trivial⟩⟩⟩) (booking_web_spot_ok hr_75) rfl hb25 rfl rfl (by decide) (lenE_eq hm_77) (neR_ne hn_76) rfl (by kernel_rfl) (fun _=>by kernel_rfl) (by kernel_rfl) (by kernel_rfl) wz (h_far pl61_5 rfl 6 rfl wz (h_ldr 13 2 (.inr (by kernel_rfl)) (fun _ _ ag=>⟨.inl ⟨rfl,rfl⟩,⟨.inl ⟨rfl,rfl⟩,⟨.inl ⟨rfl,rfl⟩,⟨.inl ⟨rfl,rfl⟩,trivial⟩⟩⟩⟩) sz3 ag3 rfl rfl (vI x_30.Most) rfl wz ?_)))
        obtain ⟨_,hi_78,h_65⟩:=bind_some h_65
        refine h_iavg es22 rfl rfl (inR_0 hi_78) (inR_lt hi_78) wz ?_
        obtain ⟨r_79,hr_80,h_65⟩:=bind_some h_65
        obtain ⟨e_81,hy_82,h_65⟩:=bind_some h_65
        refine h_eqH (H0:=(([(n_6,some (.cells 1 (gCells 1 ns_16 s_56))),(n_8,some (.cells 2 [(.vs n_6 1 0 m_3),(vI (l_2.length:Int))])),(n_38,some (.cells 8 (Campaign.v x_30))),(n_61,some (.cells 5 (Spot.v x_53)))]:Hp)++(gRows 1 eI ns_16 s_56))) rfl (h_gwr 15 (.inr (by kernel_rfl)) (fun _ _ ag=>⟨.inr (.inr (by kernel_rfl)),⟨.inr (.inr (by kernel_rfl)),⟨.inr (.inr (by kernel_rfl)),⟨.inr (.inr (by kernel_rfl)),⟨.inr (.inr (by kernel_rfl)),trivial⟩⟩⟩⟩⟩) sz3 rfl hr_80 hy_82 x_30.Most rfl wz (h_reH (b':=some (.cells 1 (gCells 1 ns_16 (s_56.set (0 + (r_67).toNat) (r_79.set (0 + (r_74).toNat) x_30.Most))))) 0 rfl (gBox_wr hr_80) (h_nil ?_)))
        obtain rfl:=some_inj h_65
        exact cut_mk () trivial rfl (pre_tl (C1:=([(n_6,some (.cells 1 (gCells 1 ns_16 (s_56.set (0 + (r_67).toNat) (r_79.set (0 + (r_74).toNat) x_30.Most))))),(n_8,some (.cells 2 [(.vs n_6 1 0 m_3),(vI (l_2.length:Int))])),(n_38,some (.cells 8 (Campaign.v x_30))),(n_61,some (.cells 5 (Spot.v x_53)))]:Hp)) (T:=(gRows 1 eI ns_16 (s_56.set (0 + (r_67).toNat) (r_79.set (0 + (r_74).toNat) x_30.Most)))) [0,1,2,3] (by decide) rfl rfl)
       ·refine wH_iff rfl hc_66 (wH_skip ?_)
        obtain rfl:=some_inj h_65
        exact cut_mk () trivial rfl (pre_tl (C1:=([(n_6,some (.cells 1 (gCells 1 ns_16 s_56))),(n_8,some (.cells 2 [(.vs n_6 1 0 m_3),(vI (l_2.length:Int))])),(n_38,some (.cells 8 (Campaign.v x_30))),(n_61,some (.cells 5 (Spot.v x_53)))]:Hp)) (T:=(gRows 1 eI ns_16 s_56)) [0,1,2,3] (by decide) rfl rfl)
      ·rintro ⟨⟩ _ sl_ H_ hp_ hq_
       refine wH_at _ hp_ hq_ (wH_region (h_opw (w64_next hD_54 hn_55) wz rfl (h_opz (vI ((k_51 + 1:Nat):Int)) (h_nil ?_))))
       obtain rfl:=some_inj hc_57
       exact loop_mk (k_51 + 1,l_52,v_64) ⟨hL_58,drop_next hD_54⟩ (Nat.lt_succ_self _) rfl (pre_tl (C1:=([(n_6,some (.cells 1 (gCells 1 ns_16 v_64))),(n_8,some (.cells 2 [(.vs n_6 1 0 m_3),(vI (l_2.length:Int))])),(n_38,some (.cells 8 (Campaign.v x_30))),(n_61,some (.cells 5 (Spot.v x_53)))]:Hp)) (T:=(gRows 1 eI ns_16 v_64)) [0,1,2] (by decide) rfl rfl)
    ·rintro s_56 ho_ sl_ H_ hp_ hq_
     subst ho_
     refine wH_at _ hp_ hq_ (wH_region (h_opw (w64_next hD_31 hn_32) wz rfl (h_opz (vI ((k_28 + 1:Nat):Int)) (h_nil ?_))))
     obtain rfl:=some_inj hc_34
     exact loop_mk (k_28 + 1,l_29,s_56) ⟨hL_35,drop_next hD_31⟩ (Nat.lt_succ_self _) rfl (pre_tl (C1:=([(n_6,some (.cells 1 (gCells 1 ns_16 s_56))),(n_8,some (.cells 2 [(.vs n_6 1 0 m_3),(vI (l_2.length:Int))])),(n_38,some (.cells 8 (Campaign.v x_30)))]:Hp)) (T:=(gRows 1 eI ns_16 s_56)) [0,1] (by decide) rfl rfl)
  ·rintro s_33 ho_ sl_ H_ hp_ hq_
   subst ho_
   refine wH_at _ hp_ hq_ (wH_seq (wH_sr (h_opz (vL Spot.enc spots_1) (h_len un26 rfl wz (h_opz (vI 0) (h_nil ?_))))))
   obtain ⟨o_91,hj_92,hF⟩:=bind_some hF
   obtain ⟨hn_87,hj_92⟩:=forL_some hj_92
   refine wH_loopF0 (fun (s_88:(List (List Int))) => [(6,(.ref n_8 0 0))]) (fun (s_88:(List (List Int)))=>(([(n_6,some (.cells 1 (gCells 1 ns_16 s_88))),(n_8,some (.cells 2 [(.vs n_6 1 0 m_3),(vI (l_2.length:Int))]))]:Hp)++(gRows 1 eI ns_16 s_88))) (fun (k_83:Nat)=>(fun (s_88:(List (List Int))) => [(6,(.ref n_8 0 0)),(89,(vL Spot.enc spots_1)),(90,(vI (spots_1.length:Int))),(91,(vI (k_83:Int)))])) (fun k x s=>booking_newWeb_L4 m_3 l_2 k x s) o_91 spots_1 s_33 hj_92 rfl (pre_tl (C1:=([(n_6,some (.cells 1 (gCells 1 ns_16 s_33))),(n_8,some (.cells 2 [(.vs n_6 1 0 m_3),(vI (l_2.length:Int))]))]:Hp)) (T:=(gRows 1 eI ns_16 s_33)) [0,1] (by decide) rfl rfl) ?_ ?_
   ·rintro ⟨k_83,l_84,s_88⟩ ⟨hL_90,hD_86⟩
    dsimp only at hL_90 hD_86
    cases l_84 with
    | nil =>
     obtain rfl:=some_inj hL_90
     refine wH_sr (h_opz (vB (decide ((k_83:Int) < (spots_1.length:Int)))) (h_nil ?_))
     refine wH_seq (wH_iff rfl (drop_nil hD_86) (wH_exit ?_))
     exact cut_mk (s_88) rfl rfl (pre_tl (C1:=([(n_6,some (.cells 1 (gCells 1 ns_16 s_88))),(n_8,some (.cells 2 [(.vs n_6 1 0 m_3),(vI (l_2.length:Int))]))]:Hp)) (T:=(gRows 1 eI ns_16 s_88)) [0,1] (by decide) rfl rfl)
    | cons x_85 l_84 =>
     obtain ⟨c_,hc_89,hL_90⟩:=bind_some hL_90
     refine wH_sr (h_opz (vB (decide ((k_83:Int) < (spots_1.length:Int)))) (h_nil ?_))
     refine wH_seq (wH_ift rfl (drop_cons hD_86) (wH_skip ?_))
     unfold booking_newWeb_L4 at hc_89
     refine wH_seq (wH_block (wH_sr (h_opz (vI (k_83:Int)) (h_ia es26 rfl rfl (drop_idx hD_86) rfl wz (h_ldc sz63 ag63 rfl (.d (.agg (Spot.enc x_85))) rfl wz (h_alloc 0 (.inl rfl) z63 rfl wz (fun n_93=>h_ahead (C0:=([(n_6,some (.cells 1 (gCells 1 ns_16 s_88))),(n_8,some (.cells 2 [(.vs n_6 1 0 m_3),(vI (l_2.length:Int))]))]:Hp)) (T:=(gRows 1 eI ns_16 s_88)) (X:=([(n_93,some (.cells 5 [(vS (⟨#[]⟩:ByteArray)),(vI 0),(vI 0),(vI 0),.nil]))]:Hp)) (h_opz (vI (k_83:Int)) (h_str 0 il ft 2 sz63 rfl rfl (Spot.v x_85) rfl wz (h_nil (wH_draws (h_opz (.ref n_8 0 0) (h_opz (.ref n_8 0 0) (h_far pl68_0 rfl 0 rfl wz (h_ldr 3 1 (.inr (by kernel_rfl)) (fun _ _ ag=>trivial) sz66 ag66 rfl rfl (.vs n_6 1 0 m_3) rfl wz (h_opz (.ref n_8 0 0) (h_opz (vI (k_83:Int)) ?_)))))))))))))))))
     obtain ⟨_,hn_96,hc_89⟩:=bind_some hc_89
     obtain ⟨_,hm_97,hc_89⟩:=bind_some hc_89
     obtain ⟨r_94,hr_95,hc_89⟩:=bind_some hc_89
     refine h_eqH (H0:=(([(n_6,some (.cells 1 (gCells 1 ns_16 s_88))),(n_8,some (.cells 2 [(.vs n_6 1 0 m_3),(vI (l_2.length:Int))])),(n_93,some (.cells 5 (Spot.v x_85)))]:Hp)++(gRows 1 eI ns_16 s_88))) rfl (h_callGo 6 1 0 (.inr (by kernel_rfl)) (fun _ _ ag=>by exact⟨.inl ⟨rfl,rfl⟩,trivial⟩) (booking_web_spot_ok hr_95) rfl hb25 rfl rfl (by decide) (lenE_eq hm_97) (neR_ne hn_96) rfl (by kernel_rfl) (fun _=>by kernel_rfl) (by kernel_rfl) (by kernel_rfl) wz ?_)
     obtain ⟨_,hi_98,hc_89⟩:=bind_some hc_89
     refine h_iav es66 rfl rfl (inN_0 hi_98) (inN_lt hi_98) wz ?_
     obtain ⟨r_99,hr_100,hc_89⟩:=bind_some hc_89
     refine h_grow 8 0 (.inr (by kernel_rfl)) (fun _ _ ag=>⟨.inl ⟨rfl,rfl⟩,⟨.inl ⟨rfl,rfl⟩,trivial⟩⟩) sz22 ag22 rfl rfl hr_100 wz (h_far pl63_2 rfl 3 rfl wz (h_ldr 10 2 (.inr (by kernel_rfl)) (fun _ _ ag=>⟨.inl ⟨rfl,rfl⟩,⟨.inl ⟨rfl,rfl⟩,⟨.inl ⟨rfl,rfl⟩,trivial⟩⟩⟩) sz3 ag3 rfl rfl (vI x_85.Room) rfl wz ?_))
     obtain ⟨_,hi_101,hc_89⟩:=bind_some hc_89
     refine h_iavg es22 rfl rfl (inR_0 hi_101) (inR_lt hi_101) wz ?_
     obtain ⟨r_102,hr_103,hc_89⟩:=bind_some hc_89
     obtain ⟨e_104,hy_105,hc_89⟩:=bind_some hc_89
     refine h_eqH (H0:=(([(n_6,some (.cells 1 (gCells 1 ns_16 s_88))),(n_8,some (.cells 2 [(.vs n_6 1 0 m_3),(vI (l_2.length:Int))])),(n_93,some (.cells 5 (Spot.v x_85)))]:Hp)++(gRows 1 eI ns_16 s_88))) rfl (h_gwr 12 (.inr (by kernel_rfl)) (fun _ _ ag=>⟨.inr (.inr (by kernel_rfl)),⟨.inr (.inr (by kernel_rfl)),⟨.inr (.inr (by kernel_rfl)),⟨.inr (.inr (by kernel_rfl)),trivial⟩⟩⟩⟩) sz3 rfl hr_103 hy_105 x_85.Room rfl wz (h_reH (b':=some (.cells 1 (gCells 1 ns_16 (s_88.set (0 + (r_94).toNat) (r_102.set (0 + (1:Int).toNat) x_85.Room))))) 0 rfl (gBox_wr hr_103) (h_nil (wH_region (h_opw (w64_next hD_86 hn_87) wz rfl (h_opz (vI ((k_83 + 1:Nat):Int)) (h_nil ?_)))))))
     obtain rfl:=some_inj hc_89
     exact loop_mk (k_83 + 1,l_84,(s_88.set (0 + (r_94).toNat) (r_102.set (0 + (1:Int).toNat) x_85.Room))) ⟨hL_90,drop_next hD_86⟩ (Nat.lt_succ_self _) rfl (pre_tl (C1:=([(n_6,some (.cells 1 (gCells 1 ns_16 (s_88.set (0 + (r_94).toNat) (r_102.set (0 + (1:Int).toNat) x_85.Room))))),(n_8,some (.cells 2 [(.vs n_6 1 0 m_3),(vI (l_2.length:Int))])),(n_93,some (.cells 5 (Spot.v x_85)))]:Hp)) (T:=(gRows 1 eI ns_16 (s_88.set (0 + (r_94).toNat) (r_102.set (0 + (1:Int).toNat) x_85.Room)))) [0,1] (by decide) rfl rfl)
   ·rintro s_88 ho_ sl_ H_ hp_ hq_
    subst ho_
    refine wH_at _ hp_ hq_ (wH_sr (h_opz (.ref n_8 0 0) (h_opz (.ref n_8 0 0) (h_nil ?_))))
    obtain ⟨_,hk_,hF⟩:=bind_some hF
    obtain rfl:=some_inj hF
    exact wH_ret (finGrN 1 0 (.inr rfl) rfl rfl (lenE_eq hk_) (by decide) rfl rfl rfl)
theorem booking_web_way_ok {wv_1:Web} {fromv_2:Int} {tov_3:Int} {r:(List Int)×Bool} (hF:booking_web_way wv_1 fromv_2 tov_3=some r) :
  FnM Try.prog 44 [(.ref (extN 0) 0 0),(vI fromv_2),(vI tov_3)] (gridIn 2 1 eI [(vI wv_1.f_camps)] wv_1.f_can) (.tup [(vL eI r.1),(vB r.2)]) (gridOut 2 1 eI [(vI wv_1.f_camps)] wv_1.f_can):=by
 refine FnM.of_wHg (cs := [(vI wv_1.f_camps)]) ⟨Try.prog,87,[33],[]⟩ rfl Try.func44 rfl rfl (Nat.le_of_ble_eq_true rfl) (by kernel_rfl) ?_
 unfold booking_web_way at hF
 refine wH_sr (h_opz .nil (h_opz (vB false) (h_nil (wH_sr (h_opz (.ref (extN 0) 0 0) (h_opz (.ref (extN 0) 0 0) (h_far pl68_0 rfl 0 rfl wz (h_ldr 0 0 il ft sz66 ag66 rfl rfl (.vs (extN 1) 1 0 wv_1.f_can.length) rfl wz (h_lenp un66 rfl wz ?_)))))))))
 obtain ⟨m_4,hm_5,hF⟩:=bind_some hF
 refine h_mkslice (enc:=eI) 0 (.inl rfl) 0 el22 sz3 z3 by3 rfl rfl (by decide) rfl rfl rfl hm_5 wz (fun n_6=>h_ahead (C0:=([((extN 0),some (.cells 2 [(.vs (extN 1) 1 0 wv_1.f_can.length),(vI wv_1.f_camps)])),((extN 1),some (.cells 1 (gCells 1 ext2 wv_1.f_can)))]:Hp)) (T:=(gRows 1 eI ext2 wv_1.f_can)) (X:=([(n_6,some (bV 1 eI (List.replicate m_4 (0:Int))))]:Hp)) (h_opz (vV n_6 1 (List.replicate m_4 (0:Int))) (h_nil (wH_seq (wH_sr (h_opz (vV n_6 1 (List.replicate m_4 (0:Int))) (h_lenw un22 rfl wz (h_opz (vI 0) (h_nil ?_)))))))))
 obtain ⟨o_15,hj_16,hF⟩:=bind_some hF
 obtain ⟨hn_11,hj_16⟩:=forL_some hj_16
 refine wH_loopF0 (fun (s_12:(List Int)) => [(0,(.ref (extN 0) 0 0)),(1,(vI fromv_2)),(2,(vI tov_3)),(8,(vV n_6 1 s_12))]) (fun (s_12:(List Int))=>(([((extN 0),some (.cells 2 [(.vs (extN 1) 1 0 wv_1.f_can.length),(vI wv_1.f_camps)])),((extN 1),some (.cells 1 (gCells 1 ext2 wv_1.f_can))),(n_6,some (bV 1 eI s_12))]:Hp)++(gRows 1 eI ext2 wv_1.f_can))) (fun (k_7:Nat)=>(fun (s_12:(List Int)) => [(0,(.ref (extN 0) 0 0)),(1,(vI fromv_2)),(2,(vI tov_3)),(8,(vV n_6 1 s_12)),(20,(vI ((List.replicate m_4 (0:Int)).length:Int))),(21,(vI (k_7:Int)))])) (fun k x s=>booking_web_way_L1 k x s) o_15 (List.range (((List.replicate m_4 (0:Int)).length:Int)).toNat) (List.replicate m_4 (0:Int)) hj_16 rfl (pre_tl (C1:=([((extN 0),some (.cells 2 [(.vs (extN 1) 1 0 wv_1.f_can.length),(vI wv_1.f_camps)])),((extN 1),some (.cells 1 (gCells 1 ext2 wv_1.f_can))),(n_6,some (bV 1 eI (List.replicate m_4 (0:Int))))]:Hp)) (T:=(gRows 1 eI ext2 wv_1.f_can)) [0,1,2] (by decide) rfl rfl) ?_ ?_
 ·rintro ⟨k_7,l_8,s_12⟩ ⟨hL_14,hD_10⟩
  dsimp only at hL_14 hD_10
  cases l_8 with
  | nil =>
   obtain rfl:=some_inj hL_14
   refine wH_sr (h_opz (vB (decide ((k_7:Int) < ((List.replicate m_4 (0:Int)).length:Int)))) (h_nil ?_))
   refine wH_seq (wH_iff rfl (range_nil hD_10) (wH_exit ?_))
   exact cut_mk (s_12) rfl rfl (pre_tl (C1:=([((extN 0),some (.cells 2 [(.vs (extN 1) 1 0 wv_1.f_can.length),(vI wv_1.f_camps)])),((extN 1),some (.cells 1 (gCells 1 ext2 wv_1.f_can))),(n_6,some (bV 1 eI s_12))]:Hp)) (T:=(gRows 1 eI ext2 wv_1.f_can)) [0,1,2] (by decide) rfl rfl)
  | cons x_9 l_8 =>
   obtain ⟨c_,hc_13,hL_14⟩:=bind_some hL_14
   refine wH_sr (h_opz (vB (decide ((k_7:Int) < ((List.replicate m_4 (0:Int)).length:Int)))) (h_nil ?_))
   refine wH_seq (wH_ift rfl (range_cons hD_10) (wH_skip ?_))
   unfold booking_web_way_L1 at hc_13
   refine wH_seq (wH_block (wH_sr (h_opz (vI (k_7:Int)) (h_opz (vI (k_7:Int)) (h_nil (wH_region (h_opz (vV n_6 1 s_12) (h_opz (vI (k_7:Int)) ?_))))))))
   obtain ⟨_,hi_17,hc_13⟩:=bind_some hc_13
   refine h_iav es22 rfl rfl (inR_0 hi_17) (inR_lt hi_17) wz ?_
   obtain ⟨e_18,hy_19,hc_13⟩:=bind_some hc_13
   refine h_stv 0 il ft 2 sz3 rfl rfl hy_19 (-1) rfl wz (h_re (v':=(vV n_6 1 (s_12.set (0 + ((k_7:Int)).toNat) (-1)))) 8 rfl (vV_len (by simp)) (h_re (v':=(vV n_6 1 (s_12.set (0 + ((k_7:Int)).toNat) (-1)))) 24 rfl (vV_len (by simp)) (h_nil (wH_region (h_opw (w64_nextr hD_10 hn_11) wz rfl (h_opz (vI ((k_7 + 1:Nat):Int)) (h_nil ?_)))))))
   obtain rfl:=some_inj hc_13
   exact loop_mk (k_7 + 1,l_8,(s_12.set (0 + ((k_7:Int)).toNat) (-1))) ⟨hL_14,drop_next hD_10⟩ (Nat.lt_succ_self _) rfl (pre_tl (C1:=([((extN 0),some (.cells 2 [(.vs (extN 1) 1 0 wv_1.f_can.length),(vI wv_1.f_camps)])),((extN 1),some (.cells 1 (gCells 1 ext2 wv_1.f_can))),(n_6,some (bV 1 eI (s_12.set (0 + ((k_7:Int)).toNat) (-1))))]:Hp)) (T:=(gRows 1 eI ext2 wv_1.f_can)) [0,1,2] (by decide) rfl rfl)
 ·rintro s_12 ho_ sl_ H_ hp_ hq_
  subst ho_
  refine wH_at _ hp_ hq_ (wH_sr (h_opz (vV n_6 1 s_12) (h_opz (vI fromv_2) (h_opz (vI fromv_2) ?_))))
  obtain ⟨_,hi_20,hF⟩:=bind_some hF
  refine h_iav es22 rfl rfl (inR_0 hi_20) (inR_lt hi_20) wz ?_
  obtain ⟨e_21,hy_22,hF⟩:=bind_some hF
  refine h_stv 0 il ft 2 sz3 rfl rfl hy_22 fromv_2 rfl wz (h_re (v':=(vV n_6 1 (s_12.set (0 + (fromv_2).toNat) fromv_2))) 8 rfl (vV_len (by simp)) (h_re (v':=(vV n_6 1 (s_12.set (0 + (fromv_2).toNat) fromv_2))) 28 rfl (vV_len (by simp)) (h_nil (wH_seq (wH_sr (h_opz (vI fromv_2) (h_litv 0 (.inl rfl) (([fromv_2]:List Int).map eI) es22 ez22 rfl rfl rfl rfl rfl wz (fun n_23=>h_ahead (C0:=([((extN 0),some (.cells 2 [(.vs (extN 1) 1 0 wv_1.f_can.length),(vI wv_1.f_camps)])),((extN 1),some (.cells 1 (gCells 1 ext2 wv_1.f_can))),(n_6,some (bV 1 eI (s_12.set (0 + (fromv_2).toNat) fromv_2)))]:Hp)) (T:=(gRows 1 eI ext2 wv_1.f_can)) (X:=([(n_23,some (bV 1 eI ([fromv_2]:List Int)))]:Hp)) (h_opz (vV n_23 1 ([fromv_2]:List Int)) (h_nil ?_))))))))))
  obtain ⟨o_34,hj_35,hF⟩:=bind_some hF
  obtain ⟨nq_90,hj_35⟩:=loopO_iter hj_35
  refine wH_loopI (σ:=(List Int)×(List Int)×Nat) (N:=Nm) (fun p=>(fun (s_29:(List Int)×(List Int)×Nat) (n_31:Nm)=>([(2,(vI tov_3)),(8,(vV n_6 1 s_29.1))]:List (Nat×V))) p.1 p.2) (fun p=>(fun (s_29:(List Int)×(List Int)×Nat) (n_31:Nm)=>(([((extN 0),some (.cells 2 [(.vs (extN 1) 1 0 wv_1.f_can.length),(vI wv_1.f_camps)])),((extN 1),some (.cells 1 (gCells 1 ext2 wv_1.f_can))),(n_6,some (bV 1 eI s_29.1)),(n_31,some (bV 1 eI s_29.2.1))]:Hp)++(gRows 1 eI ext2 wv_1.f_can))) p.1 p.2) (fun (k_24:Nat)=>(fun p=>(fun (s_29:(List Int)×(List Int)×Nat) (n_31:Nm)=>([(0,(.ref (extN 0) 0 0)),(2,(vI tov_3)),(8,(vV n_6 1 s_29.1)),(10,(qV n_31 1 s_29.2.1 s_29.2.2))]:List (Nat×V))) p.1 p.2)) (fun s=>booking_web_way_L3 tov_3 wv_1 s) o_34 nq_90 (((s_12.set (0 + (fromv_2).toNat) fromv_2),([fromv_2]:List Int),0),n_23) hj_35 rfl (pre_tl (C1:=([((extN 0),some (.cells 2 [(.vs (extN 1) 1 0 wv_1.f_can.length),(vI wv_1.f_camps)])),((extN 1),some (.cells 1 (gCells 1 ext2 wv_1.f_can))),(n_6,some (bV 1 eI (s_12.set (0 + (fromv_2).toNat) fromv_2))),(n_23,some (bV 1 eI ([fromv_2]:List Int)))]:Hp)) (T:=(gRows 1 eI ext2 wv_1.f_can)) [0,1,2,3] (by decide) rfl rfl) ?_ ?_
  ·rintro ⟨k_24,s_29,n_31⟩ hL_33
   dsimp only at hL_33
   cases k_24 with
   | zero=>cases hL_33
   | succ k_24 =>
    obtain ⟨c_,hc_32,hL_33⟩:=bind_some hL_33
    unfold booking_web_way_L3 at hc_32
    refine wH_seq (wH_seq ?_)
    obtain ⟨v_36,h_37,hc_32⟩:=bind_some hc_32
    refine wH_joinU [(0,(.ref (extN 0) 0 0)),(2,(vI tov_3)),(8,(vV n_6 1 s_29.1)),(10,(qV n_31 1 s_29.2.1 s_29.2.2)),(43,(vB v_36))] (([((extN 0),some (.cells 2 [(.vs (extN 1) 1 0 wv_1.f_can.length),(vI wv_1.f_camps)])),((extN 1),some (.cells 1 (gCells 1 ext2 wv_1.f_can))),(n_6,some (bV 1 eI s_29.1)),(n_31,some (bV 1 eI s_29.2.1))]:Hp)++(gRows 1 eI ext2 wv_1.f_can)) ?_ ?_
    ·refine wH_region (h_opz (qV n_31 1 s_29.2.1 s_29.2.2) (h_lenp un22 rfl wz (h_opz (vB (decide ((((s_29.2.1.length - s_29.2.2):Nat):Int) > 0))) ?_)))
     rcases cond_some h_37 with⟨hc_38,h_37⟩ | ⟨hc_38,h_37⟩
     ·refine h_movb rfl hc_38 wz (h_op (vV n_6 1 s_29.1) wa rfl (h_op (vI tov_3) wa rfl ?_))
      obtain ⟨_,hi_39,h_37⟩:=bind_some h_37
      refine h_iav es22 rfl rfl (inR_0 hi_39) (inR_lt hi_39) wa ?_
      obtain ⟨e_40,hy_41,h_37⟩:=bind_some h_37
      refine h_ldv 0 2 il ft sz3 ag3 rfl rfl hy_41 (vI e_40) rfl wa (h_op (vB (decide (e_40 < 0))) wa rfl (h_opz (vB (decide (e_40 < 0))) (h_nil ?_)))
      obtain rfl:=some_inj h_37
      exact cut_mk () trivial rfl (pre_tl (C1:=([((extN 0),some (.cells 2 [(.vs (extN 1) 1 0 wv_1.f_can.length),(vI wv_1.f_camps)])),((extN 1),some (.cells 1 (gCells 1 ext2 wv_1.f_can))),(n_6,some (bV 1 eI s_29.1)),(n_31,some (bV 1 eI s_29.2.1))]:Hp)) (T:=(gRows 1 eI ext2 wv_1.f_can)) [0,1,2,3] (by decide) rfl rfl)
     ·refine h_movb rfl hc_38 wz (h_skipz (h_skipz (h_skipz (h_skipz (h_skipz (h_opz (vB false) (h_nil ?_)))))))
      obtain rfl:=some_inj h_37
      exact cut_mk () trivial rfl (pre_tl (C1:=([((extN 0),some (.cells 2 [(.vs (extN 1) 1 0 wv_1.f_can.length),(vI wv_1.f_camps)])),((extN 1),some (.cells 1 (gCells 1 ext2 wv_1.f_can))),(n_6,some (bV 1 eI s_29.1)),(n_31,some (bV 1 eI s_29.2.1))]:Hp)) (T:=(gRows 1 eI ext2 wv_1.f_can)) [0,1,2,3] (by decide) rfl rfl)
    ·rintro ⟨⟩ _ sl_ H_ hp_ hq_
     refine wH_at _ hp_ hq_ ?_
     rcases cond_some hc_32 with⟨hc_42,hc_32⟩ | ⟨hc_42,hc_32⟩
     ·refine wH_ift rfl hc_42 (wH_skip (wH_seq (wH_block (wH_seq (wH_draws (h_opz (.ref (extN 0) 0 0) (h_opz (.ref (extN 0) 0 0) (h_far pl68_0 rfl 0 rfl wz (h_ldr 3 0 (.inr (by kernel_rfl)) (fun _ _ ag=>trivial) sz66 ag66 rfl rfl (.vs (extN 1) 1 0 wv_1.f_can.length) rfl wz (h_opz (qV n_31 1 s_29.2.1 s_29.2.2) ?_))))))))))
      obtain ⟨_,hi_43,hc_32⟩:=bind_some hc_32
      refine h_iav es22 rfl rfl (inN_0 hi_43) (inN_lt hi_43) wz ?_
      obtain ⟨e_44,hy_45,hc_32⟩:=bind_some hc_32
      refine h_ldv 6 3 (.inr (by kernel_rfl)) (fun _ _ ag=>⟨.inl ⟨rfl,rfl⟩,trivial⟩) sz3 ag3 rfl rfl hy_45 (vI e_44) rfl wz ?_
      obtain ⟨_,hi_46,hc_32⟩:=bind_some hc_32
      refine h_iav es66 rfl rfl (inN_0 hi_46) (inN_lt hi_46) wz ?_
      obtain ⟨r_47,hr_48,hc_32⟩:=bind_some hc_32
      refine h_grow 8 1 (.inr (by kernel_rfl)) (fun _ _ ag=>⟨.inl ⟨rfl,rfl⟩,⟨.inl ⟨rfl,rfl⟩,trivial⟩⟩) sz22 ag22 rfl rfl hr_48 wz (h_leng un22 rfl wz (h_opz (vI 0) (h_nil ?_)))
      obtain ⟨o_59,hj_60,hc_32⟩:=bind_some hc_32
      obtain ⟨hn_53,hj_60⟩:=forL_some hj_60
      refine wH_loopF (σ:=(List Int)×(List Int)×Nat) (N:=Nm) (fun p=>(fun (s_54:(List Int)×(List Int)×Nat) (n_56:Nm)=>([(0,(.ref (extN 0) 0 0)),(2,(vI tov_3)),(8,(vV n_6 1 s_54.1)),(10,(qV n_56 1 s_54.2.1 s_54.2.2))]:List (Nat×V))) p.1 p.2) (fun p=>(fun (s_54:(List Int)×(List Int)×Nat) (n_56:Nm)=>(([((extN 0),some (.cells 2 [(.vs (extN 1) 1 0 wv_1.f_can.length),(vI wv_1.f_camps)])),((extN 1),some (.cells 1 (gCells 1 ext2 wv_1.f_can))),(n_6,some (bV 1 eI s_54.1)),(n_56,some (bV 1 eI s_54.2.1))]:Hp)++(gRows 1 eI ext2 wv_1.f_can))) p.1 p.2) (fun (k_49:Nat)=>(fun p=>(fun (s_54:(List Int)×(List Int)×Nat) (n_56:Nm)=>([(0,(.ref (extN 0) 0 0)),(2,(vI tov_3)),(8,(vV n_6 1 s_54.1)),(10,(qV n_56 1 s_54.2.1 s_54.2.2)),(54,(gV (ext2 (0 + (e_44).toNat)) 1 r_47)),(55,(vI (r_47.length:Int))),(56,(vI (k_49:Int)))]:List (Nat×V))) p.1 p.2)) (fun k x s=>booking_web_way_L2 r_47 wv_1 e_44 k x s) o_59 (List.range ((r_47.length:Int)).toNat) ((s_29.1,s_29.2.1,s_29.2.2),n_31) hj_60 rfl (pre_tl (C1:=([((extN 0),some (.cells 2 [(.vs (extN 1) 1 0 wv_1.f_can.length),(vI wv_1.f_camps)])),((extN 1),some (.cells 1 (gCells 1 ext2 wv_1.f_can))),(n_6,some (bV 1 eI s_29.1)),(n_31,some (bV 1 eI s_29.2.1))]:Hp)) (T:=(gRows 1 eI ext2 wv_1.f_can)) [0,1,2,3] (by decide) rfl rfl) ?_ ?_
      ·rintro ⟨k_49,l_50,s_54,n_56⟩ ⟨hL_58,hD_52⟩
       dsimp only at hL_58 hD_52
       cases l_50 with
       | nil =>
        obtain rfl:=some_inj hL_58
        refine wH_sr (h_opz (vB (decide ((k_49:Int) < (r_47.length:Int)))) (h_nil ?_))
        refine wH_seq (wH_iff rfl (range_nil hD_52) (wH_exit ?_))
        exact cut_mk (s_54,n_56) rfl rfl (pre_tl (C1:=([((extN 0),some (.cells 2 [(.vs (extN 1) 1 0 wv_1.f_can.length),(vI wv_1.f_camps)])),((extN 1),some (.cells 1 (gCells 1 ext2 wv_1.f_can))),(n_6,some (bV 1 eI s_54.1)),(n_56,some (bV 1 eI s_54.2.1))]:Hp)) (T:=(gRows 1 eI ext2 wv_1.f_can)) [0,1,2,3] (by decide) rfl rfl)
       | cons x_51 l_50 =>
        obtain ⟨c_,hc_57,hL_58⟩:=bind_some hL_58
        refine wH_sr (h_opz (vB (decide ((k_49:Int) < (r_47.length:Int)))) (h_nil ?_))
        refine wH_seq (wH_ift rfl (range_cons hD_52) (wH_skip ?_))
        unfold booking_web_way_L2 at hc_57
        refine wH_seq (wH_block (wH_sr (h_opz (vI (k_49:Int)) ?_)))
        obtain ⟨_,hi_61,hc_57⟩:=bind_some hc_57
        refine h_iavg es22 rfl rfl (inR_0 hi_61) (inR_lt hi_61) wz ?_
        obtain ⟨r_62,hr_63,hc_57⟩:=bind_some hc_57
        obtain ⟨e_64,hy_65,hc_57⟩:=bind_some hc_57
        refine h_eqH (H0:=(([((extN 0),some (.cells 2 [(.vs (extN 1) 1 0 wv_1.f_can.length),(vI wv_1.f_camps)])),((extN 1),some (.cells 1 (gCells 1 ext2 wv_1.f_can))),(n_6,some (bV 1 eI s_54.1)),(n_56,some (bV 1 eI s_54.2.1))]:Hp)++(gRows 1 eI ext2 wv_1.f_can))) rfl (h_gld 0 il ft sz3 ag3 rfl hr_63 hy_65 (vI e_64) rfl wz (h_opz (vI (k_49:Int)) (h_opz (vI e_64) (h_nil (wH_seq ?_)))))
        obtain ⟨v_66,h_67,hc_57⟩:=bind_some hc_57
        refine wH_joinU [(0,(.ref (extN 0) 0 0)),(2,(vI tov_3)),(8,(vV n_6 1 s_54.1)),(10,(qV n_56 1 s_54.2.1 s_54.2.2)),(11,(vI (k_49:Int))),(54,(gV (ext2 (0 + (e_44).toNat)) 1 r_47)),(55,(vI (r_47.length:Int))),(56,(vI (k_49:Int))),(69,(vB v_66))] (([((extN 0),some (.cells 2 [(.vs (extN 1) 1 0 wv_1.f_can.length),(vI wv_1.f_camps)])),((extN 1),some (.cells 1 (gCells 1 ext2 wv_1.f_can))),(n_6,some (bV 1 eI s_54.1)),(n_56,some (bV 1 eI s_54.2.1))]:Hp)++(gRows 1 eI ext2 wv_1.f_can)) ?_ ?_
        ·refine wH_region (h_opz (vI e_64) (h_opz (vB (decide (e_64 > 0))) ?_))
         rcases cond_some h_67 with⟨hc_68,h_67⟩ | ⟨hc_68,h_67⟩
         ·refine h_movb rfl hc_68 wz (h_op (vV n_6 1 s_54.1) wa rfl (h_op (vI (k_49:Int)) wa rfl ?_))
          obtain ⟨_,hi_69,h_67⟩:=bind_some h_67
          refine h_iav es22 rfl rfl (inR_0 hi_69) (inR_lt hi_69) wa ?_
          obtain ⟨e_70,hy_71,h_67⟩:=bind_some h_67
          refine h_ldv 0 2 il ft sz3 ag3 rfl rfl hy_71 (vI e_70) rfl wa (h_op (vB (decide (e_70 < 0))) wa rfl (h_opz (vB (decide (e_70 < 0))) (h_nil ?_)))
          obtain rfl:=some_inj h_67
          exact cut_mk () trivial rfl (pre_tl (C1:=([((extN 0),some (.cells 2 [(.vs (extN 1) 1 0 wv_1.f_can.length),(vI wv_1.f_camps)])),((extN 1),some (.cells 1 (gCells 1 ext2 wv_1.f_can))),(n_6,some (bV 1 eI s_54.1)),(n_56,some (bV 1 eI s_54.2.1))]:Hp)) (T:=(gRows 1 eI ext2 wv_1.f_can)) [0,1,2,3] (by decide) rfl rfl)
         ·refine h_movb rfl hc_68 wz (h_skipz (h_skipz (h_skipz (h_skipz (h_skipz (h_opz (vB false) (h_nil ?_)))))))
          obtain rfl:=some_inj h_67
          exact cut_mk () trivial rfl (pre_tl (C1:=([((extN 0),some (.cells 2 [(.vs (extN 1) 1 0 wv_1.f_can.length),(vI wv_1.f_camps)])),((extN 1),some (.cells 1 (gCells 1 ext2 wv_1.f_can))),(n_6,some (bV 1 eI s_54.1)),(n_56,some (bV 1 eI s_54.2.1))]:Hp)) (T:=(gRows 1 eI ext2 wv_1.f_can)) [0,1,2,3] (by decide) rfl rfl)
        ·rintro ⟨⟩ _ sl_ H_ hp_ hq_
         refine wH_at _ hp_ hq_ ?_
         obtain ⟨v_72,h_73,hc_57⟩:=bind_some hc_57
         refine wH_join (β:=Nm) (fun (n_74:Nm)=>([(0,(.ref (extN 0) 0 0)),(2,(vI tov_3)),(8,(vV n_6 1 v_72.1)),(10,(qV n_74 1 v_72.2.1 v_72.2.2)),(54,(gV (ext2 (0 + (e_44).toNat)) 1 r_47)),(55,(vI (r_47.length:Int))),(56,(vI (k_49:Int)))]:List (Nat×V))) (fun (n_74:Nm)=>(([((extN 0),some (.cells 2 [(.vs (extN 1) 1 0 wv_1.f_can.length),(vI wv_1.f_camps)])),((extN 1),some (.cells 1 (gCells 1 ext2 wv_1.f_can))),(n_6,some (bV 1 eI v_72.1)),(n_74,some (bV 1 eI v_72.2.1))]:Hp)++(gRows 1 eI ext2 wv_1.f_can))) (fun _=>True) ?_ ?_
         ·rcases cond_some h_73 with⟨hc_75,h_73⟩ | ⟨hc_75,h_73⟩
          ·refine wH_ift rfl hc_75 (wH_sr (h_opz (vV n_6 1 s_54.1) (h_opz (vI (k_49:Int)) (h_opz (qV n_56 1 s_54.2.1 s_54.2.2) ?_))))
           obtain ⟨_,hi_76,h_73⟩:=bind_some h_73
           refine h_iav es22 rfl rfl (inN_0 hi_76) (inN_lt hi_76) wz ?_
           obtain ⟨e_77,hy_78,h_73⟩:=bind_some h_73
           refine h_ldv 0 3 il ft sz3 ag3 rfl rfl hy_78 (vI e_77) rfl wz ?_
           obtain ⟨_,hi_79,h_73⟩:=bind_some h_73
           refine h_iav es22 rfl rfl (inR_0 hi_79) (inR_lt hi_79) wz ?_
           obtain ⟨e_80,hy_81,h_73⟩:=bind_some h_73
           refine h_stv 0 il ft 2 sz3 rfl rfl hy_81 e_77 rfl wz (h_re (v':=(vV n_6 1 (s_54.1.set (0 + ((k_49:Int)).toNat) e_77))) 8 rfl (vV_len (by simp)) (h_re (v':=(vV n_6 1 (s_54.1.set (0 + ((k_49:Int)).toNat) e_77))) 70 rfl (vV_len (by simp)) (h_nil (wH_region (h_opz (qV n_56 1 s_54.2.1 s_54.2.2) (h_opz (vI (k_49:Int)) (h_lit (([(k_49:Int)]:List Int).map eI) es22 ez22 rfl rfl rfl rfl rfl wz ?_)))))))
           obtain ⟨_,hk_85,h_73⟩:=bind_some h_73
           obtain ⟨a_82,hz_83,h_73⟩:=bind_some h_73
           refine h_appq 0 il ft (i:=3) el22 el22 sz3 z3 rfl (by decide) by3 (by decide) (fun _=>rfl) rfl (leN_le hk_85) rfl rfl (List.cons_ne_nil _ _) hz_83 wz (fun n_84=>h_opz (vV n_84 1 a_82) (h_nil ?_))
           obtain rfl:=some_inj h_73
           exact cut_mk n_84 trivial rfl (pre_tl (C1:=([((extN 0),some (.cells 2 [(.vs (extN 1) 1 0 wv_1.f_can.length),(vI wv_1.f_camps)])),((extN 1),some (.cells 1 (gCells 1 ext2 wv_1.f_can))),(n_6,some (bV 1 eI (s_54.1.set (0 + ((k_49:Int)).toNat) e_77))),(n_84,some (bV 1 eI a_82))]:Hp)) (T:=(gRows 1 eI ext2 wv_1.f_can)) [0,1,2,3] (by decide) rfl rfl)
          ·refine wH_iff rfl hc_75 (wH_skip ?_)
           obtain rfl:=some_inj h_73
           exact cut_mk n_56 trivial rfl (pre_tl (C1:=([((extN 0),some (.cells 2 [(.vs (extN 1) 1 0 wv_1.f_can.length),(vI wv_1.f_camps)])),((extN 1),some (.cells 1 (gCells 1 ext2 wv_1.f_can))),(n_6,some (bV 1 eI s_54.1)),(n_56,some (bV 1 eI s_54.2.1))]:Hp)) (T:=(gRows 1 eI ext2 wv_1.f_can)) [0,1,2,3] (by decide) rfl rfl)
         ·rintro n_74 _ sl_ H_ hp_ hq_
          refine wH_at _ hp_ hq_ (wH_region (h_opw (w64_nextr hD_52 hn_53) wz rfl (h_opz (vI ((k_49 + 1:Nat):Int)) (h_nil ?_))))
          obtain rfl:=some_inj hc_57
          exact loop_mk (k_49 + 1,l_50,(v_72.1,v_72.2.1,v_72.2.2),n_74) ⟨hL_58,drop_next hD_52⟩ (Nat.lt_succ_self _) rfl (pre_tl (C1:=([((extN 0),some (.cells 2 [(.vs (extN 1) 1 0 wv_1.f_can.length),(vI wv_1.f_camps)])),((extN 1),some (.cells 1 (gCells 1 ext2 wv_1.f_can))),(n_6,some (bV 1 eI v_72.1)),(n_74,some (bV 1 eI v_72.2.1))]:Hp)) (T:=(gRows 1 eI ext2 wv_1.f_can)) [0,1,2,3] (by decide) rfl rfl)
      ·rintro ⟨s_54,n_56⟩ ho_ sl_ H_ hp_ hq_
       subst ho_
       refine wH_at _ hp_ hq_ (wH_region (h_opz (qV n_56 1 s_54.2.1 s_54.2.2) ?_))
       obtain ⟨_,hl_86,hc_32⟩:=bind_some hc_32
       refine h_qpop (n:=n_56) (xs:=s_54.2.1) (k:=s_54.2.2) un22 sz3 rfl (ltN_lt hl_86) wz (h_opz (qV n_56 1 s_54.2.1 (s_54.2.2 + 1)) (h_nil ?_))
       obtain rfl:=some_inj hc_32
       exact loop_mk (k_24,(s_54.1,s_54.2.1,(s_54.2.2 + 1)),n_56) hL_33 (Nat.lt_succ_self _) rfl (pre_tl (C1:=([((extN 0),some (.cells 2 [(.vs (extN 1) 1 0 wv_1.f_can.length),(vI wv_1.f_camps)])),((extN 1),some (.cells 1 (gCells 1 ext2 wv_1.f_can))),(n_6,some (bV 1 eI s_54.1)),(n_56,some (bV 1 eI s_54.2.1))]:Hp)) (T:=(gRows 1 eI ext2 wv_1.f_can)) [0,1,2,3] (by decide) rfl rfl)
     ·refine wH_iff rfl hc_42 (wH_exit ?_)
      obtain rfl:=some_inj hc_32
      obtain rfl:=some_inj hL_33
      exact cut_mk ((s_29.1,s_29.2.1,s_29.2.2),n_31) rfl rfl (pre_tl (C1:=([((extN 0),some (.cells 2 [(.vs (extN 1) 1 0 wv_1.f_can.length),(vI wv_1.f_camps)])),((extN 1),some (.cells 1 (gCells 1 ext2 wv_1.f_can))),(n_6,some (bV 1 eI s_29.1)),(n_31,some (bV 1 eI s_29.2.1))]:Hp)) (T:=(gRows 1 eI ext2 wv_1.f_can)) [0,1,2,3] (by decide) rfl rfl)
  ·rintro ⟨s_29,n_31⟩ ho_ sl_ H_ hp_ hq_
   subst ho_
   refine wH_at _ hp_ hq_ (wH_seq (wH_draws (h_opz (vV n_6 1 s_29.1) (h_opz (vV n_6 1 s_29.1) (h_opz (vI tov_3) ?_)))))
   obtain ⟨_,hi_87,hF⟩:=bind_some hF
   refine h_iav es22 rfl rfl (inR_0 hi_87) (inR_lt hi_87) wz ?_
   obtain ⟨e_88,hy_89,hF⟩:=bind_some hF
   refine h_ldv 4 2 (.inr (by kernel_rfl)) (fun _ _ ag=>trivial) sz3 ag3 rfl rfl hy_89 (vI e_88) rfl wz (h_opz (vB (decide (e_88≥0))) (h_opz (vV n_6 1 s_29.1) (h_opz (vB (decide (e_88≥0))) (h_nil (wH_froz 2 rfl (wH_co 6 2 rfl rfl (wH_co 8 2 rfl rfl (wH_co 81 2 rfl rfl (wH_co 82 2 rfl rfl ?_)))))))))
   obtain rfl:=some_inj hF
   exact wH_ret (finGr (k:=2) (cs := [(vI wv_1.f_camps)]) (cs' := [(vI wv_1.f_camps)]) (rows:=wv_1.f_can) (rows':=wv_1.f_can) ([(n_6,some (bF 1 eI s_29.1)),(n_31,some (bV 1 eI s_29.2.1))]:Hp) (.inr rfl) [(vL eI s_29.1),(vB (decide (e_88≥0)))] ⟨rfl,⟨rfl,trivial⟩⟩ rfl rfl rfl rfl rfl rfl)
theorem booking_web_flow_ok {wv_1:Web} {fromv_2:Int} {tov_3:Int} {most_4:Int} {r:Int×Web} (hF:booking_web_flow wv_1 fromv_2 tov_3 most_4=some r) :
  FnM Try.prog 22 [(.ref (extN 0) 0 0),(vI fromv_2),(vI tov_3),(vI most_4)] (gridIn 2 1 eI [(vI wv_1.f_camps)] wv_1.f_can) (vI r.1) (gridOut 2 1 eI [(vI r.2.f_camps)] r.2.f_can):=by
 refine FnM.of_wHg (cs := [(vI wv_1.f_camps)]) ⟨Try.prog,97,[],[]⟩ rfl Try.func22 rfl rfl (Nat.le_of_ble_eq_true rfl) (by kernel_rfl) ?_
 unfold booking_web_flow at hF
 refine wH_sr (h_opz (vI 0) (h_nil (wH_sr (h_opz (vI 0) (h_nil (wH_seq ?_))))))
 obtain ⟨o_13,hj_14,hF⟩:=bind_some hF
 obtain ⟨nq_89,hj_14⟩:=loopO_iter hj_14
 refine wH_loopI0 (fun (s_10:(List (List Int))×Int) => [(9,(vI s_10.2))]) (fun (s_10:(List (List Int))×Int)=>(([((extN 0),some (.cells 2 [(.vs (extN 1) 1 0 wv_1.f_can.length),(vI wv_1.f_camps)])),((extN 1),some (.cells 1 (gCells 1 ext2 s_10.1)))]:Hp)++(gRows 1 eI ext2 s_10.1))) (fun (k_5:Nat)=>(fun (s_10:(List (List Int))×Int) => [(0,(.ref (extN 0) 0 0)),(1,(vI fromv_2)),(2,(vI tov_3)),(3,(vI most_4)),(9,(vI s_10.2))])) (fun s=>booking_web_flow_L3 most_4 wv_1 fromv_2 tov_3 s) o_13 nq_89 (wv_1.f_can,0) hj_14 rfl (pre_tl (C1:=([((extN 0),some (.cells 2 [(.vs (extN 1) 1 0 wv_1.f_can.length),(vI wv_1.f_camps)])),((extN 1),some (.cells 1 (gCells 1 ext2 wv_1.f_can)))]:Hp)) (T:=(gRows 1 eI ext2 wv_1.f_can)) [0,1] (by decide) rfl rfl) ?_ ?_
 ·rintro ⟨k_5,s_10⟩ hL_12
  dsimp only at hL_12
  cases k_5 with
  | zero=>cases hL_12
  | succ k_5 =>
   obtain ⟨c_,hc_11,hL_12⟩:=bind_some hL_12
   unfold booking_web_flow_L3 at hc_11
   refine wH_seq (wH_sr (h_opz (vI s_10.2) (h_opz (vI most_4) (h_opz (vB (decide (s_10.2 < most_4))) (h_nil ?_)))))
   rcases cond_some hc_11 with⟨hc_15,hc_11⟩ | ⟨hc_15,hc_11⟩
   ·refine wH_ift rfl hc_15 (wH_skip (wH_block (wH_sr (h_opz (.ref (extN 0) 0 0) (h_opz (vI fromv_2) (h_opz (vI tov_3) ?_))))))
    obtain ⟨_,hn_18,hc_11⟩:=bind_some hc_11
    obtain ⟨_,hm_19,hc_11⟩:=bind_some hc_11
    obtain ⟨r_16,hr_17,hc_11⟩:=bind_some hc_11
    refine h_eqH (H0:=(([((extN 0),some (.cells 2 [(.vs (extN 1) 1 0 wv_1.f_can.length),(vI wv_1.f_camps)])),((extN 1),some (.cells 1 (gCells 1 ext2 s_10.1)))]:Hp)++(gRows 1 eI ext2 s_10.1))) rfl (h_callGo 0 0 1 il ft (booking_web_way_ok hr_17) rfl hb44 rfl rfl (by decide) (lenE_eq hm_19) (neR_ne hn_18) rfl (by kernel_rfl) (fun _=>by kernel_rfl) (by kernel_rfl) (by kernel_rfl) wz (h_opz (.tup [(vL eI r_16.1),(vB r_16.2)]) (h_opz (vL eI r_16.1) (h_opz (vB r_16.2) (h_opz (vL eI r_16.1) (h_opz (vB r_16.2) (h_nil (wH_seq (wH_sr (h_opz (vB r_16.2) (h_opz (vB (!r_16.2)) (h_nil ?_))))))))))))
    rcases cond_some hc_11 with⟨hc_20,hc_11⟩ | ⟨hc_20,hc_11⟩
    ·refine wH_ift rfl hc_20 (wH_exit ?_)
     obtain rfl:=some_inj hc_11
     obtain rfl:=some_inj hL_12
     exact cut_mk ((s_10.1,s_10.2)) rfl rfl (pre_tl (C1:=([((extN 0),some (.cells 2 [(.vs (extN 1) 1 0 wv_1.f_can.length),(vI wv_1.f_camps)])),((extN 1),some (.cells 1 (gCells 1 ext2 s_10.1)))]:Hp)) (T:=(gRows 1 eI ext2 s_10.1)) [0,1] (by decide) rfl rfl)
    ·refine wH_iff rfl hc_20 (wH_skip (wH_sr (h_opz (vI most_4) (h_opz (vI s_10.2) (h_opz (vI (w64 (most_4 - s_10.2))) (h_opz (vI (w64 (most_4 - s_10.2))) (h_nil (wH_seq (wH_sr (h_opz (vI tov_3) (h_opz (vI tov_3) (h_nil ?_))))))))))))
     obtain ⟨o_29,hj_30,hc_11⟩:=bind_some hc_11
     obtain ⟨nq_88,hj_30⟩:=loopO_iter hj_30
     refine wH_loopI0 (fun (s_26:Int×Int) => [(0,(.ref (extN 0) 0 0)),(1,(vI fromv_2)),(2,(vI tov_3)),(3,(vI most_4)),(9,(vI s_10.2)),(10,(vL eI r_16.1)),(12,(vI s_26.1))]) (fun (s_26:Int×Int)=>(([((extN 0),some (.cells 2 [(.vs (extN 1) 1 0 wv_1.f_can.length),(vI wv_1.f_camps)])),((extN 1),some (.cells 1 (gCells 1 ext2 s_10.1)))]:Hp)++(gRows 1 eI ext2 s_10.1))) (fun (k_21:Nat)=>(fun (s_26:Int×Int) => [(0,(.ref (extN 0) 0 0)),(1,(vI fromv_2)),(2,(vI tov_3)),(3,(vI most_4)),(9,(vI s_10.2)),(10,(vL eI r_16.1)),(12,(vI s_26.1)),(13,(vI s_26.2))])) (fun s=>booking_web_flow_L1 fromv_2 r_16 wv_1 s_10 s) o_29 nq_88 ((w64 (most_4 - s_10.2)),tov_3) hj_30 rfl (pre_tl (C1:=([((extN 0),some (.cells 2 [(.vs (extN 1) 1 0 wv_1.f_can.length),(vI wv_1.f_camps)])),((extN 1),some (.cells 1 (gCells 1 ext2 s_10.1)))]:Hp)) (T:=(gRows 1 eI ext2 s_10.1)) [0,1] (by decide) rfl rfl) ?_ ?_
     ·rintro ⟨k_21,s_26⟩ hL_28
      dsimp only at hL_28
      cases k_21 with
      | zero=>cases hL_28
      | succ k_21 =>
       obtain ⟨c_,hc_27,hL_28⟩:=bind_some hL_28
       unfold booking_web_flow_L1 at hc_27
       refine wH_seq (wH_sr (h_opz (vI s_26.2) (h_opz (vI fromv_2) (h_opz (vB (s_26.2 != fromv_2)) (h_nil ?_)))))
       rcases cond_some hc_27 with⟨hc_31,hc_27⟩ | ⟨hc_31,hc_27⟩
       ·refine wH_ift rfl hc_31 (wH_skip (wH_seq (wH_block (wH_draws (h_opz (vI s_26.1) (h_opz (.ref (extN 0) 0 0) (h_opz (.ref (extN 0) 0 0) (h_far pl68_0 rfl 0 rfl wz (h_ldr 4 0 (.inr (by kernel_rfl)) (fun _ _ ag=>trivial) sz66 ag66 rfl rfl (.vs (extN 1) 1 0 wv_1.f_can.length) rfl wz (h_opz (vL eI r_16.1) (h_opz (vI s_26.2) ?_)))))))))))
        obtain ⟨y_32,hy_33,hc_27⟩:=bind_some hc_27
        refine h_ia es22 rfl rfl hy_33 rfl wz (h_ldc sz3 ag3 rfl (vI y_32) rfl wz ?_)
        obtain ⟨_,hi_34,hc_27⟩:=bind_some hc_27
        refine h_iav es66 rfl rfl (inN_0 hi_34) (inN_lt hi_34) wz ?_
        obtain ⟨r_35,hr_36,hc_27⟩:=bind_some hc_27
        refine h_grow 10 1 (.inr (by kernel_rfl)) (fun _ _ ag=>⟨.inl ⟨rfl,rfl⟩,trivial⟩) sz22 ag22 rfl rfl hr_36 wz (h_opz (vI s_26.2) ?_)
        obtain ⟨_,hi_37,hc_27⟩:=bind_some hc_27
        refine h_iavg es22 rfl rfl (inR_0 hi_37) (inR_lt hi_37) wz ?_
        obtain ⟨r_38,hr_39,hc_27⟩:=bind_some hc_27
        obtain ⟨e_40,hy_41,hc_27⟩:=bind_some hc_27
        refine h_eqH (H0:=(([((extN 0),some (.cells 2 [(.vs (extN 1) 1 0 wv_1.f_can.length),(vI wv_1.f_camps)])),((extN 1),some (.cells 1 (gCells 1 ext2 s_10.1)))]:Hp)++(gRows 1 eI ext2 s_10.1))) rfl (h_gld 13 (.inr (by kernel_rfl)) (fun _ _ ag=>⟨.inl ⟨rfl,rfl⟩,⟨.inl ⟨rfl,rfl⟩,trivial⟩⟩) sz3 ag3 rfl hr_39 hy_41 (vI e_40) rfl wz (h_minmax (vI (minI s_26.1 e_40)) rfl (.inl rfl) wz (h_opz (vI (minI s_26.1 e_40)) (h_nil (wH_region (h_opz (vL eI r_16.1) (h_opz (vI s_26.2) ?_)))))))
        obtain ⟨y_42,hy_43,hc_27⟩:=bind_some hc_27
        refine h_ia es22 rfl rfl hy_43 rfl wz (h_ldc sz3 ag3 rfl (vI y_42) rfl wz (h_opz (vI y_42) (h_nil ?_)))
        obtain rfl:=some_inj hc_27
        exact loop_mk (k_21,((minI s_26.1 e_40),y_42)) hL_28 (Nat.lt_succ_self _) rfl (pre_tl (C1:=([((extN 0),some (.cells 2 [(.vs (extN 1) 1 0 wv_1.f_can.length),(vI wv_1.f_camps)])),((extN 1),some (.cells 1 (gCells 1 ext2 s_10.1)))]:Hp)) (T:=(gRows 1 eI ext2 s_10.1)) [0,1] (by decide) rfl rfl)
       ·refine wH_iff rfl hc_31 (wH_exit ?_)
        obtain rfl:=some_inj hc_27
        obtain rfl:=some_inj hL_28
        exact cut_mk ((s_26.1,s_26.2)) rfl rfl (pre_tl (C1:=([((extN 0),some (.cells 2 [(.vs (extN 1) 1 0 wv_1.f_can.length),(vI wv_1.f_camps)])),((extN 1),some (.cells 1 (gCells 1 ext2 s_10.1)))]:Hp)) (T:=(gRows 1 eI ext2 s_10.1)) [0,1] (by decide) rfl rfl)
     ·rintro s_26 ho_ sl_ H_ hp_ hq_
      subst ho_
      refine wH_at _ hp_ hq_ (wH_seq (wH_sr (h_opz (vI tov_3) (h_opz (vI tov_3) (h_nil ?_)))))
      obtain ⟨o_52,hj_53,hc_11⟩:=bind_some hc_11
      obtain ⟨nq_87,hj_53⟩:=loopO_iter hj_53
      refine wH_loopI0 (fun (s_49:(List (List Int))×Int) => [(0,(.ref (extN 0) 0 0)),(1,(vI fromv_2)),(2,(vI tov_3)),(3,(vI most_4)),(9,(vI s_10.2)),(12,(vI s_26.1))]) (fun (s_49:(List (List Int))×Int)=>(([((extN 0),some (.cells 2 [(.vs (extN 1) 1 0 wv_1.f_can.length),(vI wv_1.f_camps)])),((extN 1),some (.cells 1 (gCells 1 ext2 s_49.1)))]:Hp)++(gRows 1 eI ext2 s_49.1))) (fun (k_44:Nat)=>(fun (s_49:(List (List Int))×Int) => [(0,(.ref (extN 0) 0 0)),(1,(vI fromv_2)),(2,(vI tov_3)),(3,(vI most_4)),(9,(vI s_10.2)),(10,(vL eI r_16.1)),(12,(vI s_26.1)),(14,(vI s_49.2))])) (fun s=>booking_web_flow_L2 fromv_2 r_16 wv_1 s_26 s) o_52 nq_87 (s_10.1,tov_3) hj_53 rfl (pre_tl (C1:=([((extN 0),some (.cells 2 [(.vs (extN 1) 1 0 wv_1.f_can.length),(vI wv_1.f_camps)])),((extN 1),some (.cells 1 (gCells 1 ext2 s_10.1)))]:Hp)) (T:=(gRows 1 eI ext2 s_10.1)) [0,1] (by decide) rfl rfl) ?_ ?_
      ·rintro ⟨k_44,s_49⟩ hL_51
       dsimp only at hL_51
       cases k_44 with
       | zero=>cases hL_51
       | succ k_44 =>
        obtain ⟨c_,hc_50,hL_51⟩:=bind_some hL_51
        unfold booking_web_flow_L2 at hc_50
        refine wH_seq (wH_sr (h_opz (vI s_49.2) (h_opz (vI fromv_2) (h_opz (vB (s_49.2 != fromv_2)) (h_nil ?_)))))
        rcases cond_some hc_50 with⟨hc_54,hc_50⟩ | ⟨hc_54,hc_50⟩
        ·refine wH_ift rfl hc_54 (wH_skip (wH_seq (wH_block (wH_seq (wH_draws (h_opz (.ref (extN 0) 0 0) (h_opz (.ref (extN 0) 0 0) (h_far pl68_0 rfl 0 rfl wz (h_ldr 3 0 (.inr (by kernel_rfl)) (fun _ _ ag=>trivial) sz66 ag66 rfl rfl (.vs (extN 1) 1 0 wv_1.f_can.length) rfl wz (h_opz (vL eI r_16.1) (h_opz (vI s_49.2) ?_)))))))))))
         obtain ⟨y_55,hy_56,hc_50⟩:=bind_some hc_50
         refine h_ia es22 rfl rfl hy_56 rfl wz (h_ldc sz3 ag3 rfl (vI y_55) rfl wz ?_)
         obtain ⟨_,hi_57,hc_50⟩:=bind_some hc_50
         refine h_iav es66 rfl rfl (inN_0 hi_57) (inN_lt hi_57) wz ?_
         obtain ⟨r_58,hr_59,hc_50⟩:=bind_some hc_50
         refine h_grow 9 1 (.inr (by kernel_rfl)) (fun _ _ ag=>⟨.inl ⟨rfl,rfl⟩,trivial⟩) sz22 ag22 rfl rfl hr_59 wz (h_opz (vI s_49.2) ?_)
         obtain ⟨_,hi_60,hc_50⟩:=bind_some hc_50
         refine h_iavg es22 rfl rfl (inR_0 hi_60) (inR_lt hi_60) wz ?_
         obtain ⟨r_61,hr_62,hc_50⟩:=bind_some hc_50
         obtain ⟨e_63,hy_64,hc_50⟩:=bind_some hc_50
         refine h_eqH (H0:=(([((extN 0),some (.cells 2 [(.vs (extN 1) 1 0 wv_1.f_can.length),(vI wv_1.f_camps)])),((extN 1),some (.cells 1 (gCells 1 ext2 s_49.1)))]:Hp)++(gRows 1 eI ext2 s_49.1))) rfl (h_gld 12 (.inr (by kernel_rfl)) (fun _ _ ag=>⟨.inl ⟨rfl,rfl⟩,⟨.inl ⟨rfl,rfl⟩,trivial⟩⟩) sz3 ag3 rfl hr_62 hy_64 (vI e_63) rfl wz (h_opz (vI s_26.1) (h_opz (vI (w64 (e_63 - s_26.1))) ?_)))
         obtain ⟨_,hi_65,hc_50⟩:=bind_some hc_50
         refine h_iavg es22 rfl rfl (inR_0 hi_65) (inR_lt hi_65) wz ?_
         obtain ⟨r_66,hr_67,hc_50⟩:=bind_some hc_50
         obtain ⟨e_68,hy_69,hc_50⟩:=bind_some hc_50
         refine h_eqH (H0:=(([((extN 0),some (.cells 2 [(.vs (extN 1) 1 0 wv_1.f_can.length),(vI wv_1.f_camps)])),((extN 1),some (.cells 1 (gCells 1 ext2 s_49.1)))]:Hp)++(gRows 1 eI ext2 s_49.1))) rfl (h_gwr 16 (.inr (by kernel_rfl)) (fun _ _ ag=>⟨.inr (.inr (by kernel_rfl)),⟨.inr (.inr (by kernel_rfl)),⟨.inr (.inr (by kernel_rfl)),trivial⟩⟩⟩) sz3 rfl hr_67 hy_69 (w64 (e_63 - s_26.1)) rfl wz (h_reH (b':=some (.cells 1 (gCells 1 ext2 (s_49.1.set (0 + (y_55).toNat) (r_66.set (0 + (s_49.2).toNat) (w64 (e_63 - s_26.1))))))) 1 rfl (gBox_wr hr_67) (h_nil (wH_draws (h_opz (.ref (extN 0) 0 0) (h_opz (.ref (extN 0) 0 0) (h_far pl68_0 rfl 0 rfl wz (h_ldr 3 0 (.inr (by kernel_rfl)) (fun _ _ ag=>trivial) sz66 ag66 rfl rfl (.vs (extN 1) 1 0 wv_1.f_can.length) rfl wz (h_opz (vI s_49.2) ?_)))))))))
         obtain ⟨_,hi_70,hc_50⟩:=bind_some hc_50
         refine h_iav es66 rfl rfl (inN_0 hi_70) (inN_lt hi_70) wz ?_
         obtain ⟨r_71,hr_72,hc_50⟩:=bind_some hc_50
         refine h_grow 6 1 (.inr (by kernel_rfl)) (fun _ _ ag=>⟨.inl ⟨rfl,rfl⟩,trivial⟩) sz22 ag22 rfl rfl hr_72 wz (h_opz (vL eI r_16.1) (h_opz (vI s_49.2) ?_))
         obtain ⟨y_73,hy_74,hc_50⟩:=bind_some hc_50
         refine h_ia es22 rfl rfl hy_74 rfl wz (h_ldc sz3 ag3 rfl (vI y_73) rfl wz ?_)
         obtain ⟨_,hi_75,hc_50⟩:=bind_some hc_50
         refine h_iavg es22 rfl rfl (inR_0 hi_75) (inR_lt hi_75) wz ?_
         obtain ⟨r_76,hr_77,hc_50⟩:=bind_some hc_50
         obtain ⟨e_78,hy_79,hc_50⟩:=bind_some hc_50
         refine h_eqH (H0:=(([((extN 0),some (.cells 2 [(.vs (extN 1) 1 0 wv_1.f_can.length),(vI wv_1.f_camps)])),((extN 1),some (.cells 1 (gCells 1 ext2 (s_49.1.set (0 + (y_55).toNat) (r_66.set (0 + (s_49.2).toNat) (w64 (e_63 - s_26.1)))))))]:Hp)++(gRows 1 eI ext2 (s_49.1.set (0 + (y_55).toNat) (r_66.set (0 + (s_49.2).toNat) (w64 (e_63 - s_26.1))))))) rfl (h_gld 12 (.inr (by kernel_rfl)) (fun _ _ ag=>⟨.inl ⟨rfl,rfl⟩,⟨.inl ⟨rfl,rfl⟩,trivial⟩⟩) sz3 ag3 rfl hr_77 hy_79 (vI e_78) rfl wz (h_opz (vI s_26.1) (h_opz (vI (w64 (e_78 + s_26.1))) ?_)))
         obtain ⟨_,hi_80,hc_50⟩:=bind_some hc_50
         refine h_iavg es22 rfl rfl (inR_0 hi_80) (inR_lt hi_80) wz ?_
         obtain ⟨r_81,hr_82,hc_50⟩:=bind_some hc_50
         obtain ⟨e_83,hy_84,hc_50⟩:=bind_some hc_50
         refine h_eqH (H0:=(([((extN 0),some (.cells 2 [(.vs (extN 1) 1 0 wv_1.f_can.length),(vI wv_1.f_camps)])),((extN 1),some (.cells 1 (gCells 1 ext2 (s_49.1.set (0 + (y_55).toNat) (r_66.set (0 + (s_49.2).toNat) (w64 (e_63 - s_26.1)))))))]:Hp)++(gRows 1 eI ext2 (s_49.1.set (0 + (y_55).toNat) (r_66.set (0 + (s_49.2).toNat) (w64 (e_63 - s_26.1))))))) rfl (h_gwr 16 (.inr (by kernel_rfl)) (fun _ _ ag=>⟨.inr (.inr (by kernel_rfl)),⟨.inr (.inr (by kernel_rfl)),⟨.inr (.inr (by kernel_rfl)),trivial⟩⟩⟩) sz3 rfl hr_82 hy_84 (w64 (e_78 + s_26.1)) rfl wz (h_reH (b':=some (.cells 1 (gCells 1 ext2 ((s_49.1.set (0 + (y_55).toNat) (r_66.set (0 + (s_49.2).toNat) (w64 (e_63 - s_26.1)))).set (0 + (s_49.2).toNat) (r_81.set (0 + (y_73).toNat) (w64 (e_78 + s_26.1))))))) 1 rfl (gBox_wr hr_82) (h_nil (wH_at (H0:=(([((extN 0),some (.cells 2 [(.vs (extN 1) 1 0 wv_1.f_can.length),(vI wv_1.f_camps)])),((extN 1),some (.cells 1 (gCells 1 ext2 ((s_49.1.set (0 + (y_55).toNat) (r_66.set (0 + (s_49.2).toNat) (w64 (e_63 - s_26.1)))).set (0 + (s_49.2).toNat) (r_81.set (0 + (y_73).toNat) (w64 (e_78 + s_26.1)))))))]:Hp)++(gRows 1 eI ext2 ((s_49.1.set (0 + (y_55).toNat) (r_66.set (0 + (s_49.2).toNat) (w64 (e_63 - s_26.1)))).set (0 + (s_49.2).toNat) (r_81.set (0 + (y_73).toNat) (w64 (e_78 + s_26.1))))))) ([(0,(.ref (extN 0) 0 0)),(1,(vI fromv_2)),(2,(vI tov_3)),(3,(vI most_4)),(9,(vI s_10.2)),(10,(vL eI r_16.1)),(12,(vI s_26.1)),(14,(vI s_49.2))]:List (Nat×V)) (by kernel_rfl) (pre_tl (C1:=([((extN 0),some (.cells 2 [(.vs (extN 1) 1 0 wv_1.f_can.length),(vI wv_1.f_camps)])),((extN 1),some (.cells 1 (gCells 1 ext2 ((s_49.1.set (0 + (y_55).toNat) (r_66.set (0 + (s_49.2).toNat) (w64 (e_63 - s_26.1)))).set (0 + (s_49.2).toNat) (r_81.set (0 + (y_73).toNat) (w64 (e_78 + s_26.1)))))))]:Hp)) (T:=(gRows 1 eI ext2 ((s_49.1.set (0 + (y_55).toNat) (r_66.set (0 + (s_49.2).toNat) (w64 (e_63 - s_26.1)))).set (0 + (s_49.2).toNat) (r_81.set (0 + (y_73).toNat) (w64 (e_78 + s_26.1)))))) [0,1] (by decide) (by kernel_rfl) (by kernel_rfl)) (wH_region (h_opz (vL eI r_16.1) (h_opz (vI s_49.2) ?_)))))))
         obtain ⟨y_85,hy_86,hc_50⟩:=bind_some hc_50
         refine h_ia es22 rfl rfl hy_86 rfl wz (h_ldc sz3 ag3 rfl (vI y_85) rfl wz (h_opz (vI y_85) (h_nil ?_)))
         obtain rfl:=some_inj hc_50
         exact loop_mk (k_44,(((s_49.1.set (0 + (y_55).toNat) (r_66.set (0 + (s_49.2).toNat) (w64 (e_63 - s_26.1)))).set (0 + (s_49.2).toNat) (r_81.set (0 + (y_73).toNat) (w64 (e_78 + s_26.1)))),y_85)) hL_51 (Nat.lt_succ_self _) rfl (pre_tl (C1:=([((extN 0),some (.cells 2 [(.vs (extN 1) 1 0 wv_1.f_can.length),(vI wv_1.f_camps)])),((extN 1),some (.cells 1 (gCells 1 ext2 ((s_49.1.set (0 + (y_55).toNat) (r_66.set (0 + (s_49.2).toNat) (w64 (e_63 - s_26.1)))).set (0 + (s_49.2).toNat) (r_81.set (0 + (y_73).toNat) (w64 (e_78 + s_26.1)))))))]:Hp)) (T:=(gRows 1 eI ext2 ((s_49.1.set (0 + (y_55).toNat) (r_66.set (0 + (s_49.2).toNat) (w64 (e_63 - s_26.1)))).set (0 + (s_49.2).toNat) (r_81.set (0 + (y_73).toNat) (w64 (e_78 + s_26.1)))))) [0,1] (by decide) rfl rfl)
        ·refine wH_iff rfl hc_54 (wH_exit ?_)
         obtain rfl:=some_inj hc_50
         obtain rfl:=some_inj hL_51
         exact cut_mk ((s_49.1,s_49.2)) rfl rfl (pre_tl (C1:=([((extN 0),some (.cells 2 [(.vs (extN 1) 1 0 wv_1.f_can.length),(vI wv_1.f_camps)])),((extN 1),some (.cells 1 (gCells 1 ext2 s_49.1)))]:Hp)) (T:=(gRows 1 eI ext2 s_49.1)) [0,1] (by decide) rfl rfl)
      ·rintro s_49 ho_ sl_ H_ hp_ hq_
       subst ho_
       refine wH_at _ hp_ hq_ (wH_region (h_opz (vI s_10.2) (h_opz (vI s_26.1) (h_opz (vI (w64 (s_10.2 + s_26.1))) (h_opz (vI (w64 (s_10.2 + s_26.1))) (h_nil ?_))))))
       obtain rfl:=some_inj hc_11
       exact loop_mk (k_5,(s_49.1,(w64 (s_10.2 + s_26.1)))) hL_12 (Nat.lt_succ_self _) rfl (pre_tl (C1:=([((extN 0),some (.cells 2 [(.vs (extN 1) 1 0 wv_1.f_can.length),(vI wv_1.f_camps)])),((extN 1),some (.cells 1 (gCells 1 ext2 s_49.1)))]:Hp)) (T:=(gRows 1 eI ext2 s_49.1)) [0,1] (by decide) rfl rfl)
   ·refine wH_iff rfl hc_15 (wH_exit ?_)
    obtain rfl:=some_inj hc_11
    obtain rfl:=some_inj hL_12
    exact cut_mk ((s_10.1,s_10.2)) rfl rfl (pre_tl (C1:=([((extN 0),some (.cells 2 [(.vs (extN 1) 1 0 wv_1.f_can.length),(vI wv_1.f_camps)])),((extN 1),some (.cells 1 (gCells 1 ext2 s_10.1)))]:Hp)) (T:=(gRows 1 eI ext2 s_10.1)) [0,1] (by decide) rfl rfl)
 ·rintro s_10 ho_ sl_ H_ hp_ hq_
  subst ho_
  refine wH_at _ hp_ hq_ (wH_sr (h_opz (vI s_10.2) (h_opz (vI s_10.2) (h_nil ?_))))
  obtain ⟨_,hk_,hF⟩:=bind_some hF
  obtain rfl:=some_inj hF
  exact wH_ret (finGr (k:=2) (cs := [(vI wv_1.f_camps)]) (cs' := [(vI wv_1.f_camps)]) (rows:=wv_1.f_can) (rows':=s_10.1) ([]:Hp) (.inr rfl) [(vI s_10.2)] ⟨rfl,trivial⟩ rfl rfl rfl rfl (sameL_eq hk_) rfl)
theorem booking_most_ok {spots_1:(List Spot)} {l_2:(List Campaign)} {r:Int} (hF:booking_most spots_1 l_2=some r) :
  FnM Try.prog 19 [(vL Spot.enc spots_1),(vL Campaign.enc l_2)] [] (vI r) []:=by
 refine FnM.of_wH ⟨Try.prog,9,[],[]⟩ rfl Try.func19 rfl rfl (Nat.le_of_ble_eq_true rfl) (by kernel_rfl) ?_
 unfold booking_most at hF
 refine wH_sr (h_opz (vI 0) (h_nil (wH_sr (h_opz (vL Spot.enc spots_1) (h_opz (vL Campaign.enc l_2) ?_)))))
 obtain ⟨r_3,hr_4,hF⟩:=bind_some hF
 obtain ⟨_,hn_8,hF⟩:=bind_some hF
 refine h_callGn (booking_newWeb_ok hr_4) rfl hb21 (neR_ne hn_8) rfl (by kernel_rfl) (by kernel_rfl) (by kernel_rfl) wz (fun n_5 n_6 ns_7 => ?_)
 obtain ⟨_,hn_11,hF⟩:=bind_some hF
 obtain ⟨_,hm_12,hF⟩:=bind_some hF
 obtain ⟨r_9,hr_10,hF⟩:=bind_some hF
 obtain ⟨_,hs_13,hF⟩:=bind_some hF
 refine h_eqH (H0:=(([(n_5,some (.cells 2 [(.vs n_6 1 0 r_3.f_can.length),(vI r_3.f_camps)])),(n_6,some (.cells 1 (gCells 1 ns_7 r_3.f_can)))]:Hp)++(gRows 1 eI ns_7 r_3.f_can))) rfl (h_callGr 0 0 1 il ft (booking_web_flow_ok hr_10) rfl hb22 rfl rfl (by decide) (lenE_eq hm_12) (neR_ne hn_11) (sameL_eq hs_13) rfl rfl (by kernel_rfl) (fun _=>by kernel_rfl) (by kernel_rfl) (by kernel_rfl) wz (h_opz (vI r_9.1) (h_nil ?_)))
 obtain rfl:=some_inj hF
 exact wH_ret (fin0r [(vI r_9.1)] ⟨rfl,trivial⟩)
theorem booking_Most_ok {spots_1:(List Spot)} {l_2:(List Campaign)} {r:Int×Int} (hF:booking_Most spots_1 l_2=some r) :
  FnM Try.prog 5 [(vL Spot.enc spots_1),(vL Campaign.enc l_2)] [] (.tup [(vI r.1),(vI r.2)]) []:=by
 refine FnM.of_wH ⟨Try.prog,16,[],[]⟩ rfl Try.func5 rfl rfl (Nat.le_of_ble_eq_true rfl) (by kernel_rfl) ?_
 unfold booking_Most at hF
 refine wH_sr (h_opz (vI 0) (h_opz (vI 0) (h_nil (wH_seq (wH_sr (h_opz (vL Spot.enc spots_1) (h_opz (vL Campaign.enc l_2) ?_)))))))
 obtain ⟨r_3,hr_4,hF⟩:=bind_some hF
 refine h_call0 (booking_checkBoth_ok hr_4) rfl hb18 rfl rfl rfl rfl wz (h_opz (vI r_3) (h_nil (wH_sr (h_opz (vI r_3) (h_opz (vB (r_3 != 0)) (h_nil ?_))))))
 rcases cond_some hF with⟨hc_5,hF⟩ | ⟨hc_5,hF⟩
 ·refine wH_ift rfl hc_5 (wH_sr (h_opz (vI r_3) (h_opz (vI 0) (h_opz (vI r_3) (h_nil ?_)))))
  obtain rfl:=some_inj hF
  exact wH_ret (fin0r [(vI 0),(vI r_3)] ⟨rfl,⟨rfl,trivial⟩⟩)
 ·refine wH_iff rfl hc_5 (wH_skip (wH_sr (h_opz (vL Spot.enc spots_1) (h_opz (vL Campaign.enc l_2) ?_))))
  obtain ⟨r_6,hr_7,hF⟩:=bind_some hF
  refine h_call0 (booking_most_ok hr_7) rfl hb19 rfl rfl rfl rfl wz (h_opz (vI r_6) (h_opz (vI 0) (h_nil ?_)))
  obtain rfl:=some_inj hF
  exact wH_ret (fin0r [(vI r_6),(vI 0)] ⟨rfl,⟨rfl,trivial⟩⟩)
theorem booking_goals_ok {l_1:(List Campaign)} {r:Int} (hF:booking_goals l_1=some r) :
  FnM Try.prog 20 [(vL Campaign.enc l_1)] [] (vI r) []:=by
 refine FnM.of_wH ⟨Try.prog,18,[],[]⟩ rfl Try.func20 rfl rfl (Nat.le_of_ble_eq_true rfl) (by kernel_rfl) ?_
 unfold booking_goals at hF
 refine wH_sr (h_opz (vI 0) (h_nil (wH_sr (h_opz (vI 0) (h_nil (wH_seq (wH_sr (h_opz (vL Campaign.enc l_1) (h_len un27 rfl wz (h_opz (vI 0) (h_nil ?_)))))))))))
 obtain ⟨o_10,hj_11,hF⟩:=bind_some hF
 obtain ⟨hn_6,hj_11⟩:=forL_some hj_11
 refine wH_loopF0 (fun (s_7:Int) => [(3,(vI s_7))]) (fun (s_7:Int) => []) (fun (k_2:Nat)=>(fun (s_7:Int) => [(3,(vI s_7)),(6,(vL Campaign.enc l_1)),(7,(vI (l_1.length:Int))),(8,(vI (k_2:Int)))])) (fun k x s=>booking_goals_L1 k x s) o_10 l_1 0 hj_11 rfl (pre_r rfl) ?_ ?_
 ·rintro ⟨k_2,l_3,s_7⟩ ⟨hL_9,hD_5⟩
  dsimp only at hL_9 hD_5
  cases l_3 with
  | nil =>
   obtain rfl:=some_inj hL_9
   refine wH_sr (h_opz (vB (decide ((k_2:Int) < (l_1.length:Int)))) (h_nil ?_))
   refine wH_seq (wH_iff rfl (drop_nil hD_5) (wH_exit ?_))
   exact cut_mk (s_7) rfl rfl (pre_r rfl)
  | cons x_4 l_3 =>
   obtain ⟨c_,hc_8,hL_9⟩:=bind_some hL_9
   refine wH_sr (h_opz (vB (decide ((k_2:Int) < (l_1.length:Int)))) (h_nil ?_))
   refine wH_seq (wH_ift rfl (drop_cons hD_5) (wH_skip ?_))
   unfold booking_goals_L1 at hc_8
   refine wH_seq (wH_block (wH_sr (h_ia es27 rfl rfl (drop_idx hD_5) rfl wz (h_ldc sz61 ag61 rfl (.d (.agg (Campaign.enc x_4))) rfl wz (h_alloc 0 (.inl rfl) z61 rfl wz (fun n_12=>h_str 0 il ft 0 sz61 rfl rfl (Campaign.v x_4) rfl wz (h_nil (wH_region (h_opz (vI s_7) (h_far pl61_4 rfl 5 rfl wz (h_ldr 0 0 il ft sz3 ag3 rfl rfl (vI x_4.Goal) rfl wz (h_opz (vI (w64 (s_7 + x_4.Goal))) (h_opz (vI (w64 (s_7 + x_4.Goal))) (h_nil (wH_region (h_opw (w64_next hD_5 hn_6) wz rfl (h_opz (vI ((k_2 + 1:Nat):Int)) (h_nil ?_))))))))))))))))))
   obtain rfl:=some_inj hc_8
   exact loop_mk (k_2 + 1,l_3,(w64 (s_7 + x_4.Goal))) ⟨hL_9,drop_next hD_5⟩ (Nat.lt_succ_self _) rfl (pre_r rfl)
 ·rintro s_7 ho_ sl_ H_ hp_ hq_
  subst ho_
  refine wH_at _ hp_ hq_ (wH_sr (h_opz (vI s_7) (h_opz (vI s_7) (h_nil ?_))))
  obtain rfl:=some_inj hF
  exact wH_ret (fin0r [(vI s_7)] ⟨rfl,trivial⟩)
theorem booking_Can_ok {spots_1:(List Spot)} {l_2:(List Campaign)} {r:Bool×Int} (hF:booking_Can spots_1 l_2=some r) :
  FnM Try.prog 6 [(vL Spot.enc spots_1),(vL Campaign.enc l_2)] [] (.tup [(vB r.1),(vI r.2)]) []:=by
 refine FnM.of_wH ⟨Try.prog,19,[],[]⟩ rfl Try.func6 rfl rfl (Nat.le_of_ble_eq_true rfl) (by kernel_rfl) ?_
 unfold booking_Can at hF
 refine wH_sr (h_opz (vB false) (h_opz (vI 0) (h_nil (wH_seq (wH_sr (h_opz (vL Spot.enc spots_1) (h_opz (vL Campaign.enc l_2) ?_)))))))
 obtain ⟨r_3,hr_4,hF⟩:=bind_some hF
 refine h_call0 (booking_checkBoth_ok hr_4) rfl hb18 rfl rfl rfl rfl wz (h_opz (vI r_3) (h_nil (wH_sr (h_opz (vI r_3) (h_opz (vB (r_3 != 0)) (h_nil ?_))))))
 rcases cond_some hF with⟨hc_5,hF⟩ | ⟨hc_5,hF⟩
 ·refine wH_ift rfl hc_5 (wH_sr (h_opz (vI r_3) (h_opz (vB false) (h_opz (vI r_3) (h_nil ?_)))))
  obtain rfl:=some_inj hF
  exact wH_ret (fin0r [(vB false),(vI r_3)] ⟨rfl,⟨rfl,trivial⟩⟩)
 ·refine wH_iff rfl hc_5 (wH_skip (wH_sr (h_opz (vL Spot.enc spots_1) (h_opz (vL Campaign.enc l_2) ?_))))
  obtain ⟨r_6,hr_7,hF⟩:=bind_some hF
  refine h_call0 (booking_most_ok hr_7) rfl hb19 rfl rfl rfl rfl wz (h_opz (vL Campaign.enc l_2) ?_)
  obtain ⟨r_8,hr_9,hF⟩:=bind_some hF
  refine h_call0 (booking_goals_ok hr_9) rfl hb20 rfl rfl rfl rfl wz (h_opz (vB (r_6 == r_8)) (h_opz (vB (r_6 == r_8)) (h_opz (vI 0) (h_nil ?_))))
  obtain rfl:=some_inj hF
  exact wH_ret (fin0r [(vB (r_6 == r_8)),(vI 0)] ⟨rfl,⟨rfl,trivial⟩⟩)
theorem booking_Deal_ok {spots_1:(List Spot)} {l_2:(List Campaign)} {r:(List Share)×Int} (hF:booking_Deal spots_1 l_2=some r) :
  FnM Try.prog 7 [(vL Spot.enc spots_1),(vL Campaign.enc l_2)] [] (.tup [(vL Share.enc r.1),(vI r.2)]) []:=by
 refine FnM.of_wH ⟨Try.prog,133,[],[]⟩ rfl Try.func7 rfl rfl (Nat.le_of_ble_eq_true rfl) (by kernel_rfl) ?_
 unfold booking_Deal at hF
 refine wH_sr (h_opz .nil (h_opz (vI 0) (h_nil (wH_seq (wH_sr (h_opz (vL Spot.enc spots_1) (h_opz (vL Campaign.enc l_2) ?_)))))))
 obtain ⟨r_3,hr_4,hF⟩:=bind_some hF
 refine h_call0 (booking_checkBoth_ok hr_4) rfl hb18 rfl rfl rfl rfl wz (h_opz (vI r_3) (h_nil (wH_sr (h_opz (vI r_3) (h_opz (vB (r_3 != 0)) (h_nil ?_))))))
 rcases cond_some hF with⟨hc_5,hF⟩ | ⟨hc_5,hF⟩
 ·refine wH_ift rfl hc_5 (wH_sr (h_opz (vI r_3) (h_opz .nil (h_opz (vI r_3) (h_nil ?_)))))
  obtain rfl:=some_inj hF
  exact wH_ret (fin0r [.nil,(vI r_3)] ⟨rfl,⟨rfl,trivial⟩⟩)
 ·refine wH_iff rfl hc_5 (wH_skip (wH_sr (h_opz (vL Spot.enc spots_1) (h_opz (vL Campaign.enc l_2) ?_))))
  obtain ⟨r_6,hr_7,hF⟩:=bind_some hF
  obtain ⟨_,hn_11,hF⟩:=bind_some hF
  refine h_callGn (booking_newWeb_ok hr_7) rfl hb21 (neR_ne hn_11) rfl (by kernel_rfl) (by kernel_rfl) (by kernel_rfl) wz (fun n_8 n_9 ns_10=>h_opz (.ref n_8 0 0) (h_nil (wH_seq (wH_sr (h_opz (.ref n_8 0 0) ?_)))))
  obtain ⟨_,hn_14,hF⟩:=bind_some hF
  obtain ⟨_,hm_15,hF⟩:=bind_some hF
  obtain ⟨r_12,hr_13,hF⟩:=bind_some hF
  obtain ⟨_,hs_16,hF⟩:=bind_some hF
  refine h_eqH (H0:=(([(n_8,some (.cells 2 [(.vs n_9 1 0 r_6.f_can.length),(vI r_6.f_camps)])),(n_9,some (.cells 1 (gCells 1 ns_10 r_6.f_can)))]:Hp)++(gRows 1 eI ns_10 r_6.f_can))) rfl (h_callGr 0 0 1 il ft (booking_web_flow_ok hr_13) rfl hb22 rfl rfl (by decide) (lenE_eq hm_15) (neR_ne hn_14) (sameL_eq hs_16) rfl rfl (by kernel_rfl) (fun _=>by kernel_rfl) (by kernel_rfl) (by kernel_rfl) wz (h_opz (vL Campaign.enc l_2) ?_))
  obtain ⟨r_17,hr_18,hF⟩:=bind_some hF
  refine h_call0 (booking_goals_ok hr_18) rfl hb20 rfl rfl rfl rfl wz (h_opz (vB (decide (r_12.1 < r_17))) (h_nil ?_))
  rcases cond_some hF with⟨hc_19,hF⟩ | ⟨hc_19,hF⟩
  ·refine wH_ift rfl hc_19 (wH_sr (h_opz .nil (h_opz (vI 12) (h_nil ?_))))
   obtain rfl:=some_inj hF
   exact wH_ret (fin0r [.nil,(vI 12)] ⟨rfl,⟨rfl,trivial⟩⟩)
  ·refine wH_iff rfl hc_19 (wH_skip (wH_sr (h_opz .nil (h_nil (wH_seq (wH_sr (h_opz (vL Campaign.enc l_2) (h_len un27 rfl wz (h_opz (vI 0) (h_nil (wH_new (fun n_26=>wH_ahead (C0:=([(n_8,some (.cells 2 [(.vs n_9 1 0 r_6.f_can.length),(vI r_12.2.f_camps)])),(n_9,some (.cells 1 (gCells 1 ns_10 r_12.2.f_can)))]:Hp)) (T:=(gRows 1 eI ns_10 r_12.2.f_can)) (X:=([(n_26,gB 3 Share.enc ([]:List Share))]:Hp)) ?_))))))))))))
   obtain ⟨o_31,hj_32,hF⟩:=bind_some hF
   obtain ⟨hn_24,hj_32⟩:=forL_some hj_32
   refine wH_loopF (σ:=(List (List Int))×(List Share)×Int) (N:=Nm) (fun p=>(fun (s_25:(List (List Int))×(List Share)×Int) (n_28:Nm)=>([(8,(gV n_28 3 s_25.2.1))]:List (Nat×V))) p.1 p.2) (fun p=>(fun (s_25:(List (List Int))×(List Share)×Int) (n_28:Nm)=>(([(n_8,some (.cells 2 [(.vs n_9 1 0 r_6.f_can.length),(vI s_25.2.2)])),(n_9,some (.cells 1 (gCells 1 ns_10 s_25.1))),(n_28,gB 3 Share.enc s_25.2.1)]:Hp)++(gRows 1 eI ns_10 s_25.1))) p.1 p.2) (fun (k_20:Nat)=>(fun p=>(fun (s_25:(List (List Int))×(List Share)×Int) (n_28:Nm)=>([(0,(vL Spot.enc spots_1)),(7,(.ref n_8 0 0)),(8,(gV n_28 3 s_25.2.1)),(32,(vL Campaign.enc l_2)),(33,(vI (l_2.length:Int))),(34,(vI (k_20:Int)))]:List (Nat×V))) p.1 p.2)) (fun k x s=>booking_Deal_L2 spots_1 r_6 k x s) o_31 l_2 ((r_12.2.f_can,([]:List Share),r_12.2.f_camps),n_26) hj_32 rfl (pre_tl (C1:=([(n_8,some (.cells 2 [(.vs n_9 1 0 r_6.f_can.length),(vI r_12.2.f_camps)])),(n_9,some (.cells 1 (gCells 1 ns_10 r_12.2.f_can))),(n_26,gB 3 Share.enc ([]:List Share))]:Hp)) (T:=(gRows 1 eI ns_10 r_12.2.f_can)) [0,1,2] (by decide) rfl rfl) ?_ ?_
   ·rintro ⟨k_20,l_21,s_25,n_28⟩ ⟨hL_30,hD_23⟩
    dsimp only at hL_30 hD_23
    cases l_21 with
    | nil =>
     obtain rfl:=some_inj hL_30
     refine wH_sr (h_opz (vB (decide ((k_20:Int) < (l_2.length:Int)))) (h_nil ?_))
     refine wH_seq (wH_iff rfl (drop_nil hD_23) (wH_exit ?_))
     exact cut_mk (s_25,n_28) rfl rfl (pre_tl (C1:=([(n_8,some (.cells 2 [(.vs n_9 1 0 r_6.f_can.length),(vI s_25.2.2)])),(n_9,some (.cells 1 (gCells 1 ns_10 s_25.1))),(n_28,gB 3 Share.enc s_25.2.1)]:Hp)) (T:=(gRows 1 eI ns_10 s_25.1)) [0,1,2] (by decide) rfl rfl)
    | cons x_22 l_21 =>
     obtain ⟨c_,hc_29,hL_30⟩:=bind_some hL_30
     refine wH_sr (h_opz (vB (decide ((k_20:Int) < (l_2.length:Int)))) (h_nil ?_))
     refine wH_seq (wH_ift rfl (drop_cons hD_23) (wH_skip ?_))
     unfold booking_Deal_L2 at hc_29
     refine wH_seq (wH_block (wH_sr (h_opz (vI (k_20:Int)) (h_ia es27 rfl rfl (drop_idx hD_23) rfl wz (h_ldc sz61 ag61 rfl (.d (.agg (Campaign.enc x_22))) rfl wz (h_alloc 0 (.inl rfl) z61 rfl wz (fun n_33=>h_ahead (C0:=([(n_8,some (.cells 2 [(.vs n_9 1 0 r_6.f_can.length),(vI s_25.2.2)])),(n_9,some (.cells 1 (gCells 1 ns_10 s_25.1))),(n_28,gB 3 Share.enc s_25.2.1)]:Hp)) (T:=(gRows 1 eI ns_10 s_25.1)) (X:=([(n_33,some (.cells 8 [(vS (⟨#[]⟩:ByteArray)),(vS (⟨#[]⟩:ByteArray)),(vI 0),(vI 0),.nil,(vI 0),(vI 0),(vI 0)]))]:Hp)) (h_opz (vI (k_20:Int)) (h_str 0 il ft 3 sz61 rfl rfl (Campaign.v x_22) rfl wz (h_nil (wH_sr (h_opz (vL Spot.enc spots_1) (h_len un26 rfl wz (h_opz (vI 0) (h_nil ?_)))))))))))))))
     obtain ⟨o_44,hj_45,hc_29⟩:=bind_some hc_29
     obtain ⟨hn_38,hj_45⟩:=forL_some hj_45
     refine wH_loopF (σ:=(List (List Int))×(List Share)×Int) (N:=Nm) (fun p=>(fun (s_39:(List (List Int))×(List Share)×Int) (n_41:Nm)=>([(0,(vL Spot.enc spots_1)),(7,(.ref n_8 0 0)),(8,(gV n_41 3 s_39.2.1)),(32,(vL Campaign.enc l_2)),(33,(vI (l_2.length:Int))),(34,(vI (k_20:Int)))]:List (Nat×V))) p.1 p.2) (fun p=>(fun (s_39:(List (List Int))×(List Share)×Int) (n_41:Nm)=>(([(n_8,some (.cells 2 [(.vs n_9 1 0 r_6.f_can.length),(vI s_39.2.2)])),(n_9,some (.cells 1 (gCells 1 ns_10 s_39.1))),(n_41,gB 3 Share.enc s_39.2.1),(n_33,some (.cells 8 (Campaign.v x_22)))]:Hp)++(gRows 1 eI ns_10 s_39.1))) p.1 p.2) (fun (k_34:Nat)=>(fun p=>(fun (s_39:(List (List Int))×(List Share)×Int) (n_41:Nm)=>([(0,(vL Spot.enc spots_1)),(7,(.ref n_8 0 0)),(8,(gV n_41 3 s_39.2.1)),(9,(vI (k_20:Int))),(10,(.ref n_33 0 0)),(32,(vL Campaign.enc l_2)),(33,(vI (l_2.length:Int))),(34,(vI (k_20:Int))),(39,(vL Spot.enc spots_1)),(40,(vI (spots_1.length:Int))),(41,(vI (k_34:Int)))]:List (Nat×V))) p.1 p.2)) (fun k x s=>booking_Deal_L1 x_22 r_6 k_20 k x s) o_44 spots_1 ((s_25.1,s_25.2.1,s_25.2.2),n_28) hj_45 rfl (pre_tl (C1:=([(n_8,some (.cells 2 [(.vs n_9 1 0 r_6.f_can.length),(vI s_25.2.2)])),(n_9,some (.cells 1 (gCells 1 ns_10 s_25.1))),(n_28,gB 3 Share.enc s_25.2.1),(n_33,some (.cells 8 (Campaign.v x_22)))]:Hp)) (T:=(gRows 1 eI ns_10 s_25.1)) [0,1,2,3] (by decide) rfl rfl) ?_ ?_
     ·rintro ⟨k_34,l_35,s_39,n_41⟩ ⟨hL_43,hD_37⟩
      dsimp only at hL_43 hD_37
      cases l_35 with
      | nil =>
       obtain rfl:=some_inj hL_43
       refine wH_sr (h_opz (vB (decide ((k_34:Int) < (spots_1.length:Int)))) (h_nil ?_))
       refine wH_seq (wH_iff rfl (drop_nil hD_37) (wH_exit ?_))
       exact cut_mk (s_39,n_41) rfl rfl (pre_tl (C1:=([(n_8,some (.cells 2 [(.vs n_9 1 0 r_6.f_can.length),(vI s_39.2.2)])),(n_9,some (.cells 1 (gCells 1 ns_10 s_39.1))),(n_41,gB 3 Share.enc s_39.2.1),(n_33,some (.cells 8 (Campaign.v x_22)))]:Hp)) (T:=(gRows 1 eI ns_10 s_39.1)) [0,1,2,3] (by decide) rfl rfl)
      | cons x_36 l_35 =>
       obtain ⟨c_,hc_42,hL_43⟩:=bind_some hL_43
       refine wH_sr (h_opz (vB (decide ((k_34:Int) < (spots_1.length:Int)))) (h_nil ?_))
       refine wH_seq (wH_ift rfl (drop_cons hD_37) (wH_skip ?_))
       unfold booking_Deal_L1 at hc_42
       refine wH_seq (wH_block (wH_sr (h_opz (vI (k_34:Int)) (h_ia es26 rfl rfl (drop_idx hD_37) rfl wz (h_ldc sz63 ag63 rfl (.d (.agg (Spot.enc x_36))) rfl wz (h_alloc 0 (.inl rfl) z63 rfl wz (fun n_46=>h_ahead (C0:=([(n_8,some (.cells 2 [(.vs n_9 1 0 r_6.f_can.length),(vI s_39.2.2)])),(n_9,some (.cells 1 (gCells 1 ns_10 s_39.1))),(n_41,gB 3 Share.enc s_39.2.1),(n_33,some (.cells 8 (Campaign.v x_22)))]:Hp)) (T:=(gRows 1 eI ns_10 s_39.1)) (X:=([(n_46,some (.cells 5 [(vS (⟨#[]⟩:ByteArray)),(vI 0),(vI 0),(vI 0),.nil]))]:Hp)) (h_opz (vI (k_34:Int)) (h_str 0 il ft 4 sz63 rfl rfl (Spot.v x_36) rfl wz (h_nil (wH_seq (wH_sr (h_ldr 0 3 il ft sz61 ag61 rfl rfl (.d (.agg (Campaign.enc x_22))) rfl wz (h_ldr 0 4 il ft sz63 ag63 rfl rfl (.d (.agg (Spot.enc x_36))) rfl wz ?_))))))))))))))
       obtain ⟨r_47,hr_48,hc_42⟩:=bind_some hc_42
       refine h_call0 (booking_suits_ok hr_48) rfl hb23 rfl rfl rfl rfl wz (h_opz (vB (!r_47)) (h_nil ?_))
       rcases cond_some hc_42 with⟨hc_49,hc_42⟩ | ⟨hc_49,hc_42⟩
       ·refine wH_ift rfl hc_49 (wH_exit (wH_region (h_opw (w64_next hD_37 hn_38) wz rfl (h_opz (vI ((k_34 + 1:Nat):Int)) (h_nil ?_)))))
        obtain rfl:=some_inj hc_42
        exact loop_mk (k_34 + 1,l_35,(s_39.1,s_39.2.1,s_39.2.2),n_41) ⟨hL_43,drop_next hD_37⟩ (Nat.lt_succ_self _) rfl (pre_tl (C1:=([(n_8,some (.cells 2 [(.vs n_9 1 0 r_6.f_can.length),(vI s_39.2.2)])),(n_9,some (.cells 1 (gCells 1 ns_10 s_39.1))),(n_41,gB 3 Share.enc s_39.2.1),(n_33,some (.cells 8 (Campaign.v x_22))),(n_46,some (.cells 5 (Spot.v x_36)))]:Hp)) (T:=(gRows 1 eI ns_10 s_39.1)) [0,1,2,3] (by decide) rfl rfl)
       ·refine wH_iff rfl hc_49 (wH_skip (wH_sr (h_opz (.ref n_8 0 0) (h_opz (vI (k_20:Int)) ?_))))
        obtain ⟨_,hn_52,hc_42⟩:=bind_some hc_42
        obtain ⟨_,hm_53,hc_42⟩:=bind_some hc_42
        obtain ⟨r_50,hr_51,hc_42⟩:=bind_some hc_42
        refine h_eqH (H0:=(([(n_8,some (.cells 2 [(.vs n_9 1 0 r_6.f_can.length),(vI s_39.2.2)])),(n_9,some (.cells 1 (gCells 1 ns_10 s_39.1))),(n_41,gB 3 Share.enc s_39.2.1),(n_33,some (.cells 8 (Campaign.v x_22))),(n_46,some (.cells 5 (Spot.v x_36)))]:Hp)++(gRows 1 eI ns_10 s_39.1))) rfl (h_callGo 0 0 1 il ft (booking_web_camp_ok hr_51) rfl hb24 rfl rfl (by decide) (lenE_eq hm_53) (neR_ne hn_52) rfl (by kernel_rfl) (fun _=>by kernel_rfl) (by kernel_rfl) (by kernel_rfl) wz (h_opz (.ref n_8 0 0) (h_opz (vI (k_34:Int)) ?_)))
        obtain ⟨_,hn_56,hc_42⟩:=bind_some hc_42
        obtain ⟨_,hm_57,hc_42⟩:=bind_some hc_42
        obtain ⟨r_54,hr_55,hc_42⟩:=bind_some hc_42
        refine h_eqH (H0:=(([(n_8,some (.cells 2 [(.vs n_9 1 0 r_6.f_can.length),(vI s_39.2.2)])),(n_9,some (.cells 1 (gCells 1 ns_10 s_39.1))),(n_41,gB 3 Share.enc s_39.2.1),(n_33,some (.cells 8 (Campaign.v x_22))),(n_46,some (.cells 5 (Spot.v x_36)))]:Hp)++(gRows 1 eI ns_10 s_39.1))) rfl (h_callGo 0 0 1 il ft (booking_web_spot_ok hr_55) rfl hb25 rfl rfl (by decide) (lenE_eq hm_57) (neR_ne hn_56) rfl (by kernel_rfl) (fun _=>by kernel_rfl) (by kernel_rfl) (by kernel_rfl) wz (h_opz (vI r_50) (h_opz (vI r_54) (h_nil (wH_seq (wH_draws (h_opz (.ref n_8 0 0) (h_opz (.ref n_8 0 0) (h_far pl68_0 rfl 0 rfl wz (h_ldr 3 0 (.inr (by kernel_rfl)) (fun _ _ ag=>trivial) sz66 ag66 rfl rfl (.vs n_9 1 0 r_6.f_can.length) rfl wz (h_opz (vI r_54) ?_)))))))))))
        obtain ⟨_,hi_58,hc_42⟩:=bind_some hc_42
        refine h_iav es66 rfl rfl (inN_0 hi_58) (inN_lt hi_58) wz ?_
        obtain ⟨r_59,hr_60,hc_42⟩:=bind_some hc_42
        refine h_grow 6 1 (.inr (by kernel_rfl)) (fun _ _ ag=>⟨.inl ⟨rfl,rfl⟩,trivial⟩) sz22 ag22 rfl rfl hr_60 wz (h_opz (vI r_50) ?_)
        obtain ⟨_,hi_61,hc_42⟩:=bind_some hc_42
        refine h_iavg es22 rfl rfl (inR_0 hi_61) (inR_lt hi_61) wz ?_
        obtain ⟨r_62,hr_63,hc_42⟩:=bind_some hc_42
        obtain ⟨e_64,hy_65,hc_42⟩:=bind_some hc_42
        refine h_eqH (H0:=(([(n_8,some (.cells 2 [(.vs n_9 1 0 r_6.f_can.length),(vI s_39.2.2)])),(n_9,some (.cells 1 (gCells 1 ns_10 s_39.1))),(n_41,gB 3 Share.enc s_39.2.1),(n_33,some (.cells 8 (Campaign.v x_22))),(n_46,some (.cells 5 (Spot.v x_36)))]:Hp)++(gRows 1 eI ns_10 s_39.1))) rfl (h_gld 9 (.inr (by kernel_rfl)) (fun _ _ ag=>⟨.inl ⟨rfl,rfl⟩,⟨.inl ⟨rfl,rfl⟩,trivial⟩⟩) sz3 ag3 rfl hr_63 hy_65 (vI e_64) rfl wz (h_opz (.ref n_8 0 0) (h_opz (.ref n_8 0 0) (h_far pl68_0 rfl 0 rfl wz (h_ldr 13 0 (.inr (by kernel_rfl)) (fun _ _ ag=>⟨.inl ⟨rfl,rfl⟩,⟨.inl ⟨rfl,rfl⟩,⟨.inl ⟨rfl,rfl⟩,trivial⟩⟩⟩) sz66 ag66 rfl rfl (.vs n_9 1 0 r_6.f_can.length) rfl wz (h_opz (vI r_50) ?_))))))
        obtain ⟨_,hi_66,hc_42⟩:=bind_some hc_42
        refine h_iav es66 rfl rfl (inN_0 hi_66) (inN_lt hi_66) wz ?_
        obtain ⟨r_67,hr_68,hc_42⟩:=bind_some hc_42
        refine h_grow 16 1 (.inr (by kernel_rfl)) (fun _ _ ag=>⟨.inl ⟨rfl,rfl⟩,⟨.inl ⟨rfl,rfl⟩,⟨.inl ⟨rfl,rfl⟩,⟨.inl ⟨rfl,rfl⟩,trivial⟩⟩⟩⟩) sz22 ag22 rfl rfl hr_68 wz (h_opz (vI r_54) ?_)
        obtain ⟨_,hi_69,hc_42⟩:=bind_some hc_42
        refine h_iavg es22 rfl rfl (inR_0 hi_69) (inR_lt hi_69) wz ?_
        obtain ⟨r_70,hr_71,hc_42⟩:=bind_some hc_42
        obtain ⟨e_72,hy_73,hc_42⟩:=bind_some hc_42
        refine h_eqH (H0:=(([(n_8,some (.cells 2 [(.vs n_9 1 0 r_6.f_can.length),(vI s_39.2.2)])),(n_9,some (.cells 1 (gCells 1 ns_10 s_39.1))),(n_41,gB 3 Share.enc s_39.2.1),(n_33,some (.cells 8 (Campaign.v x_22))),(n_46,some (.cells 5 (Spot.v x_36)))]:Hp)++(gRows 1 eI ns_10 s_39.1))) rfl (h_gld 19 (.inr (by kernel_rfl)) (fun _ _ ag=>⟨.inl ⟨rfl,rfl⟩,⟨.inl ⟨rfl,rfl⟩,⟨.inl ⟨rfl,rfl⟩,⟨.inl ⟨rfl,rfl⟩,⟨.inl ⟨rfl,rfl⟩,trivial⟩⟩⟩⟩⟩) sz3 ag3 rfl hr_71 hy_73 (vI e_72) rfl wz (h_opz (vI e_64) (h_opz (vI e_72) (h_nil (wH_at (H0:=(([(n_8,some (.cells 2 [(.vs n_9 1 0 r_6.f_can.length),(vI s_39.2.2)])),(n_9,some (.cells 1 (gCells 1 ns_10 s_39.1))),(n_41,gB 3 Share.enc s_39.2.1),(n_33,some (.cells 8 (Campaign.v x_22))),(n_46,some (.cells 5 (Spot.v x_36)))]:Hp)++(gRows 1 eI ns_10 s_39.1))) ([(0,(vL Spot.enc spots_1)),(7,(.ref n_8 0 0)),(8,(gV n_41 3 s_39.2.1)),(9,(vI (k_20:Int))),(10,(.ref n_33 0 0)),(12,(.ref n_46 0 0)),(13,(vI r_50)),(14,(vI r_54)),(15,(vI e_64)),(16,(vI e_72)),(32,(vL Campaign.enc l_2)),(33,(vI (l_2.length:Int))),(34,(vI (k_20:Int))),(39,(vL Spot.enc spots_1)),(40,(vI (spots_1.length:Int))),(41,(vI (k_34:Int)))]:List (Nat×V)) (by kernel_rfl) (pre_tl (C1:=([(n_8,some (.cells 2 [(.vs n_9 1 0 r_6.f_can.length),(vI s_39.2.2)])),(n_9,some (.cells 1 (gCells 1 ns_10 s_39.1))),(n_41,gB 3 Share.enc s_39.2.1),(n_33,some (.cells 8 (Campaign.v x_22))),(n_46,some (.cells 5 (Spot.v x_36)))]:Hp)) (T:=(gRows 1 eI ns_10 s_39.1)) [0,1,2,3,4] (by decide) (by kernel_rfl) (by kernel_rfl)) (wH_seq (wH_draws (h_opz (.ref n_8 0 0) (h_opz (.ref n_8 0 0) (h_far pl68_0 rfl 0 rfl wz (h_ldr 3 0 (.inr (by kernel_rfl)) (fun _ _ ag=>trivial) sz66 ag66 rfl rfl (.vs n_9 1 0 r_6.f_can.length) rfl wz (h_opz (vI r_50) ?_))))))))))))
        obtain ⟨_,hi_74,hc_42⟩:=bind_some hc_42
        refine h_iav es66 rfl rfl (inN_0 hi_74) (inN_lt hi_74) wz ?_
        obtain ⟨r_75,hr_76,hc_42⟩:=bind_some hc_42
        refine h_grow 6 1 (.inr (by kernel_rfl)) (fun _ _ ag=>⟨.inl ⟨rfl,rfl⟩,trivial⟩) sz22 ag22 rfl rfl hr_76 wz (h_opz (vI r_54) (h_opz (.ref n_8 0 0) (h_opz (.ref n_8 0 0) (h_far pl68_0 rfl 0 rfl wz (h_ldr 11 0 (.inr (by kernel_rfl)) (fun _ _ ag=>⟨.inl ⟨rfl,rfl⟩,⟨.inl ⟨rfl,rfl⟩,trivial⟩⟩) sz66 ag66 rfl rfl (.vs n_9 1 0 r_6.f_can.length) rfl wz (h_opz (vI r_54) ?_))))))
        obtain ⟨_,hi_77,hc_42⟩:=bind_some hc_42
        refine h_iav es66 rfl rfl (inN_0 hi_77) (inN_lt hi_77) wz ?_
        obtain ⟨r_78,hr_79,hc_42⟩:=bind_some hc_42
        refine h_grow 14 1 (.inr (by kernel_rfl)) (fun _ _ ag=>⟨.inl ⟨rfl,rfl⟩,⟨.inl ⟨rfl,rfl⟩,⟨.inl ⟨rfl,rfl⟩,trivial⟩⟩⟩) sz22 ag22 rfl rfl hr_79 wz (h_opz (vI r_50) ?_)
        obtain ⟨_,hi_80,hc_42⟩:=bind_some hc_42
        refine h_iavg es22 rfl rfl (inR_0 hi_80) (inR_lt hi_80) wz ?_
        obtain ⟨r_81,hr_82,hc_42⟩:=bind_some hc_42
        obtain ⟨e_83,hy_84,hc_42⟩:=bind_some hc_42
        refine h_eqH (H0:=(([(n_8,some (.cells 2 [(.vs n_9 1 0 r_6.f_can.length),(vI s_39.2.2)])),(n_9,some (.cells 1 (gCells 1 ns_10 s_39.1))),(n_41,gB 3 Share.enc s_39.2.1),(n_33,some (.cells 8 (Campaign.v x_22))),(n_46,some (.cells 5 (Spot.v x_36)))]:Hp)++(gRows 1 eI ns_10 s_39.1))) rfl (h_gwr 17 (.inr (by kernel_rfl)) (fun _ _ ag=>⟨.inr (.inr (by kernel_rfl)),⟨.inr (.inr (by kernel_rfl)),⟨.inr (.inr (by kernel_rfl)),⟨.inr (.inr (by kernel_rfl)),trivial⟩⟩⟩⟩) sz3 rfl hr_82 hy_84 0 rfl wz (h_reH (b':=some (.cells 1 (gCells 1 ns_10 (s_39.1.set (0 + (r_50).toNat) (r_81.set (0 + (r_54).toNat) 0))))) 1 rfl (gBox_wr hr_82) ?_))
        obtain ⟨_,hi_85,hc_42⟩:=bind_some hc_42
        refine h_iavg es22 rfl rfl (inR_0 hi_85) (inR_lt hi_85) wz ?_
        obtain ⟨r_86,hr_87,hc_42⟩:=bind_some hc_42
        obtain ⟨e_88,hy_89,hc_42⟩:=bind_some hc_42
        refine h_eqH (H0:=(([(n_8,some (.cells 2 [(.vs n_9 1 0 r_6.f_can.length),(vI s_39.2.2)])),(n_9,some (.cells 1 (gCells 1 ns_10 (s_39.1.set (0 + (r_50).toNat) (r_81.set (0 + (r_54).toNat) 0))))),(n_41,gB 3 Share.enc s_39.2.1),(n_33,some (.cells 8 (Campaign.v x_22))),(n_46,some (.cells 5 (Spot.v x_36)))]:Hp)++(gRows 1 eI ns_10 (s_39.1.set (0 + (r_50).toNat) (r_81.set (0 + (r_54).toNat) 0))))) rfl (h_gwr 19 (.inr (by kernel_rfl)) (fun _ _ ag=>⟨.inr (.inr (by kernel_rfl)),⟨.inr (.inr (by kernel_rfl)),⟨.inr (.inr (by kernel_rfl)),⟨.inr (.inr (by kernel_rfl)),⟨.inr (.inr (by kernel_rfl)),trivial⟩⟩⟩⟩⟩) sz3 rfl hr_87 hy_89 0 rfl wz (h_reH (b':=some (.cells 1 (gCells 1 ns_10 ((s_39.1.set (0 + (r_50).toNat) (r_81.set (0 + (r_54).toNat) 0)).set (0 + (r_54).toNat) (r_86.set (0 + (r_50).toNat) 0))))) 1 rfl (gBox_wr hr_87) (h_nil (wH_seq (wH_sr (h_opz (vI e_64) (h_opz (.ref n_8 0 0) (h_opz (vI r_54) (h_opz (vI r_50) (h_opz (vI e_72) ?_))))))))))
        obtain ⟨_,hn_92,hc_42⟩:=bind_some hc_42
        obtain ⟨_,hm_93,hc_42⟩:=bind_some hc_42
        obtain ⟨r_90,hr_91,hc_42⟩:=bind_some hc_42
        obtain ⟨_,hs_94,hc_42⟩:=bind_some hc_42
        refine h_eqH (H0:=(([(n_8,some (.cells 2 [(.vs n_9 1 0 r_6.f_can.length),(vI s_39.2.2)])),(n_9,some (.cells 1 (gCells 1 ns_10 ((s_39.1.set (0 + (r_50).toNat) (r_81.set (0 + (r_54).toNat) 0)).set (0 + (r_54).toNat) (r_86.set (0 + (r_50).toNat) 0))))),(n_41,gB 3 Share.enc s_39.2.1),(n_33,some (.cells 8 (Campaign.v x_22))),(n_46,some (.cells 5 (Spot.v x_36)))]:Hp)++(gRows 1 eI ns_10 ((s_39.1.set (0 + (r_50).toNat) (r_81.set (0 + (r_54).toNat) 0)).set (0 + (r_54).toNat) (r_86.set (0 + (r_50).toNat) 0))))) rfl (h_callGr 0 0 1 il ft (booking_web_flow_ok hr_91) rfl hb22 rfl rfl (by decide) (lenE_eq hm_93) (neR_ne hn_92) (sameL_eq hs_94) rfl rfl (by kernel_rfl) (fun _=>by kernel_rfl) (by kernel_rfl) (by kernel_rfl) wz (h_opz (vI (w64 (e_64 + r_90.1))) (h_opz (vI (w64 (e_64 + r_90.1))) (h_nil (wH_sr (h_opz (vI (w64 (e_64 + r_90.1))) (h_opz (vB (decide ((w64 (e_64 + r_90.1)) > 0))) (h_nil (wH_at (H0:=(([(n_8,some (.cells 2 [(.vs n_9 1 0 r_6.f_can.length),(vI r_90.2.f_camps)])),(n_9,some (.cells 1 (gCells 1 ns_10 r_90.2.f_can))),(n_41,gB 3 Share.enc s_39.2.1),(n_33,some (.cells 8 (Campaign.v x_22))),(n_46,some (.cells 5 (Spot.v x_36)))]:Hp)++(gRows 1 eI ns_10 r_90.2.f_can))) ([(0,(vL Spot.enc spots_1)),(7,(.ref n_8 0 0)),(8,(gV n_41 3 s_39.2.1)),(9,(vI (k_20:Int))),(10,(.ref n_33 0 0)),(12,(.ref n_46 0 0)),(13,(vI r_50)),(14,(vI r_54)),(17,(vI (w64 (e_64 + r_90.1)))),(32,(vL Campaign.enc l_2)),(33,(vI (l_2.length:Int))),(34,(vI (k_20:Int))),(39,(vL Spot.enc spots_1)),(40,(vI (spots_1.length:Int))),(41,(vI (k_34:Int))),(102,(vB (decide ((w64 (e_64 + r_90.1)) > 0))))]:List (Nat×V)) (by kernel_rfl) (pre_tl (C1:=([(n_8,some (.cells 2 [(.vs n_9 1 0 r_6.f_can.length),(vI r_90.2.f_camps)])),(n_9,some (.cells 1 (gCells 1 ns_10 r_90.2.f_can))),(n_41,gB 3 Share.enc s_39.2.1),(n_33,some (.cells 8 (Campaign.v x_22))),(n_46,some (.cells 5 (Spot.v x_36)))]:Hp)) (T:=(gRows 1 eI ns_10 r_90.2.f_can)) [0,1,2,3,4] (by decide) (by kernel_rfl) (by kernel_rfl)) ?_)))))))))
        obtain ⟨v_95,h_96,hc_42⟩:=bind_some hc_42
        refine wH_join (β:=Nm) (fun (n_97:Nm)=>([(0,(vL Spot.enc spots_1)),(7,(.ref n_8 0 0)),(8,(gV n_97 3 v_95)),(9,(vI (k_20:Int))),(10,(.ref n_33 0 0)),(13,(vI r_50)),(14,(vI r_54)),(32,(vL Campaign.enc l_2)),(33,(vI (l_2.length:Int))),(34,(vI (k_20:Int))),(39,(vL Spot.enc spots_1)),(40,(vI (spots_1.length:Int))),(41,(vI (k_34:Int)))]:List (Nat×V))) (fun (n_97:Nm)=>(([(n_8,some (.cells 2 [(.vs n_9 1 0 r_6.f_can.length),(vI r_90.2.f_camps)])),(n_9,some (.cells 1 (gCells 1 ns_10 r_90.2.f_can))),(n_97,gB 3 Share.enc v_95),(n_33,some (.cells 8 (Campaign.v x_22))),(n_46,some (.cells 5 (Spot.v x_36)))]:Hp)++(gRows 1 eI ns_10 r_90.2.f_can))) (fun _=>True) ?_ ?_
        ·rcases cond_some h_96 with⟨hc_98,h_96⟩ | ⟨hc_98,h_96⟩
         ·refine wH_ift rfl hc_98 (wH_region (h_opz (gV n_41 3 s_39.2.1) (h_far pl61_0 rfl 0 rfl wz (h_ldr 0 3 il ft sz9 ag9 rfl rfl (vS x_22.Key) rfl wz (h_far pl63_0 rfl 0 rfl wz (h_ldr 0 4 il ft sz9 ag9 rfl rfl (vS x_36.Key) rfl wz (h_opz (vI (w64 (e_64 + r_90.1))) (h_op (.d (.agg (Share.enc (⟨x_22.Key,x_36.Key,(w64 (e_64 + r_90.1))⟩:Share)))) wz (by kernel_rfl) (h_lit (([(⟨x_22.Key,x_36.Key,(w64 (e_64 + r_90.1))⟩:Share)]:List Share).map Share.enc) es35 ez35 rfl rfl rfl rfl rfl wz ?_)))))))))
          obtain ⟨a_99,hz_100,h_96⟩:=bind_some h_96
          refine h_appg 0 il ft (i:=2) el35 el35 sz45 z45 rfl (by decide) by45 (by decide) (fun _=>rfl) rfl rfl rfl hz_100 wz (fun n_101=>h_opz (gV n_101 3 a_99) (h_nil ?_))
          obtain rfl:=some_inj h_96
          exact cut_mk n_101 trivial rfl (pre_tl (C1:=([(n_8,some (.cells 2 [(.vs n_9 1 0 r_6.f_can.length),(vI r_90.2.f_camps)])),(n_9,some (.cells 1 (gCells 1 ns_10 r_90.2.f_can))),(n_101,gB 3 Share.enc a_99),(n_33,some (.cells 8 (Campaign.v x_22))),(n_46,some (.cells 5 (Spot.v x_36)))]:Hp)) (T:=(gRows 1 eI ns_10 r_90.2.f_can)) [0,1,2,3,4] (by decide) rfl rfl)
         ·refine wH_iff rfl hc_98 (wH_skip ?_)
          obtain rfl:=some_inj h_96
          exact cut_mk n_41 trivial rfl (pre_tl (C1:=([(n_8,some (.cells 2 [(.vs n_9 1 0 r_6.f_can.length),(vI r_90.2.f_camps)])),(n_9,some (.cells 1 (gCells 1 ns_10 r_90.2.f_can))),(n_41,gB 3 Share.enc s_39.2.1),(n_33,some (.cells 8 (Campaign.v x_22))),(n_46,some (.cells 5 (Spot.v x_36)))]:Hp)) (T:=(gRows 1 eI ns_10 r_90.2.f_can)) [0,1,2,3,4] (by decide) rfl rfl)
        ·rintro n_97 _ sl_ H_ hp_ hq_
         refine wH_at _ hp_ hq_ (wH_draws (h_opz (.ref n_8 0 0) (h_opz (.ref n_8 0 0) (h_far pl68_0 rfl 0 rfl wz (h_ldr 3 0 (.inr (by kernel_rfl)) (fun _ _ ag=>trivial) sz66 ag66 rfl rfl (.vs n_9 1 0 r_6.f_can.length) rfl wz (h_opz (vI r_50) ?_))))))
         obtain ⟨_,hi_102,hc_42⟩:=bind_some hc_42
         refine h_iav es66 rfl rfl (inN_0 hi_102) (inN_lt hi_102) wz ?_
         obtain ⟨r_103,hr_104,hc_42⟩:=bind_some hc_42
         refine h_grow 6 1 (.inr (by kernel_rfl)) (fun _ _ ag=>⟨.inl ⟨rfl,rfl⟩,trivial⟩) sz22 ag22 rfl rfl hr_104 wz (h_opz (vI r_54) (h_opz (.ref n_8 0 0) (h_opz (.ref n_8 0 0) (h_far pl68_0 rfl 0 rfl wz (h_ldr 11 0 (.inr (by kernel_rfl)) (fun _ _ ag=>⟨.inl ⟨rfl,rfl⟩,⟨.inl ⟨rfl,rfl⟩,trivial⟩⟩) sz66 ag66 rfl rfl (.vs n_9 1 0 r_6.f_can.length) rfl wz (h_opz (vI r_54) ?_))))))
         obtain ⟨_,hi_105,hc_42⟩:=bind_some hc_42
         refine h_iav es66 rfl rfl (inN_0 hi_105) (inN_lt hi_105) wz ?_
         obtain ⟨r_106,hr_107,hc_42⟩:=bind_some hc_42
         refine h_grow 14 1 (.inr (by kernel_rfl)) (fun _ _ ag=>⟨.inl ⟨rfl,rfl⟩,⟨.inl ⟨rfl,rfl⟩,⟨.inl ⟨rfl,rfl⟩,trivial⟩⟩⟩) sz22 ag22 rfl rfl hr_107 wz (h_opz (vI r_50) ?_)
         obtain ⟨_,hi_108,hc_42⟩:=bind_some hc_42
         refine h_iavg es22 rfl rfl (inR_0 hi_108) (inR_lt hi_108) wz ?_
         obtain ⟨r_109,hr_110,hc_42⟩:=bind_some hc_42
         obtain ⟨e_111,hy_112,hc_42⟩:=bind_some hc_42
         refine h_eqH (H0:=(([(n_8,some (.cells 2 [(.vs n_9 1 0 r_6.f_can.length),(vI r_90.2.f_camps)])),(n_9,some (.cells 1 (gCells 1 ns_10 r_90.2.f_can))),(n_97,gB 3 Share.enc v_95),(n_33,some (.cells 8 (Campaign.v x_22))),(n_46,some (.cells 5 (Spot.v x_36)))]:Hp)++(gRows 1 eI ns_10 r_90.2.f_can))) rfl (h_gwr 17 (.inr (by kernel_rfl)) (fun _ _ ag=>⟨.inr (.inr (by kernel_rfl)),⟨.inr (.inr (by kernel_rfl)),⟨.inr (.inr (by kernel_rfl)),⟨.inr (.inr (by kernel_rfl)),trivial⟩⟩⟩⟩) sz3 rfl hr_110 hy_112 0 rfl wz (h_reH (b':=some (.cells 1 (gCells 1 ns_10 (r_90.2.f_can.set (0 + (r_50).toNat) (r_109.set (0 + (r_54).toNat) 0))))) 1 rfl (gBox_wr hr_110) ?_))
         obtain ⟨_,hi_113,hc_42⟩:=bind_some hc_42
         refine h_iavg es22 rfl rfl (inR_0 hi_113) (inR_lt hi_113) wz ?_
         obtain ⟨r_114,hr_115,hc_42⟩:=bind_some hc_42
         obtain ⟨e_116,hy_117,hc_42⟩:=bind_some hc_42
         refine h_eqH (H0:=(([(n_8,some (.cells 2 [(.vs n_9 1 0 r_6.f_can.length),(vI r_90.2.f_camps)])),(n_9,some (.cells 1 (gCells 1 ns_10 (r_90.2.f_can.set (0 + (r_50).toNat) (r_109.set (0 + (r_54).toNat) 0))))),(n_97,gB 3 Share.enc v_95),(n_33,some (.cells 8 (Campaign.v x_22))),(n_46,some (.cells 5 (Spot.v x_36)))]:Hp)++(gRows 1 eI ns_10 (r_90.2.f_can.set (0 + (r_50).toNat) (r_109.set (0 + (r_54).toNat) 0))))) rfl (h_gwr 19 (.inr (by kernel_rfl)) (fun _ _ ag=>⟨.inr (.inr (by kernel_rfl)),⟨.inr (.inr (by kernel_rfl)),⟨.inr (.inr (by kernel_rfl)),⟨.inr (.inr (by kernel_rfl)),⟨.inr (.inr (by kernel_rfl)),trivial⟩⟩⟩⟩⟩) sz3 rfl hr_115 hy_117 0 rfl wz (h_reH (b':=some (.cells 1 (gCells 1 ns_10 ((r_90.2.f_can.set (0 + (r_50).toNat) (r_109.set (0 + (r_54).toNat) 0)).set (0 + (r_54).toNat) (r_114.set (0 + (r_50).toNat) 0))))) 1 rfl (gBox_wr hr_115) (h_nil (wH_region (h_opw (w64_next hD_37 hn_38) wz rfl (h_opz (vI ((k_34 + 1:Nat):Int)) (h_nil ?_)))))))
         obtain rfl:=some_inj hc_42
         exact loop_mk (k_34 + 1,l_35,(((r_90.2.f_can.set (0 + (r_50).toNat) (r_109.set (0 + (r_54).toNat) 0)).set (0 + (r_54).toNat) (r_114.set (0 + (r_50).toNat) 0)),v_95,r_90.2.f_camps),n_97) ⟨hL_43,drop_next hD_37⟩ (Nat.lt_succ_self _) rfl (pre_tl (C1:=([(n_8,some (.cells 2 [(.vs n_9 1 0 r_6.f_can.length),(vI r_90.2.f_camps)])),(n_9,some (.cells 1 (gCells 1 ns_10 ((r_90.2.f_can.set (0 + (r_50).toNat) (r_109.set (0 + (r_54).toNat) 0)).set (0 + (r_54).toNat) (r_114.set (0 + (r_50).toNat) 0))))),(n_97,gB 3 Share.enc v_95),(n_33,some (.cells 8 (Campaign.v x_22))),(n_46,some (.cells 5 (Spot.v x_36)))]:Hp)) (T:=(gRows 1 eI ns_10 ((r_90.2.f_can.set (0 + (r_50).toNat) (r_109.set (0 + (r_54).toNat) 0)).set (0 + (r_54).toNat) (r_114.set (0 + (r_50).toNat) 0)))) [0,1,2,3] (by decide) rfl rfl)
     ·rintro ⟨s_39,n_41⟩ ho_ sl_ H_ hp_ hq_
      subst ho_
      refine wH_at _ hp_ hq_ (wH_region (h_opw (w64_next hD_23 hn_24) wz rfl (h_opz (vI ((k_20 + 1:Nat):Int)) (h_nil ?_))))
      obtain rfl:=some_inj hc_29
      exact loop_mk (k_20 + 1,l_21,(s_39.1,s_39.2.1,s_39.2.2),n_41) ⟨hL_30,drop_next hD_23⟩ (Nat.lt_succ_self _) rfl (pre_tl (C1:=([(n_8,some (.cells 2 [(.vs n_9 1 0 r_6.f_can.length),(vI s_39.2.2)])),(n_9,some (.cells 1 (gCells 1 ns_10 s_39.1))),(n_41,gB 3 Share.enc s_39.2.1),(n_33,some (.cells 8 (Campaign.v x_22)))]:Hp)) (T:=(gRows 1 eI ns_10 s_39.1)) [0,1,2] (by decide) rfl rfl)
   ·rintro ⟨s_25,n_28⟩ ho_ sl_ H_ hp_ hq_
    subst ho_
    refine wH_at _ hp_ hq_ (wH_sr (h_opz (gV n_28 3 s_25.2.1) (h_opz (gV n_28 3 s_25.2.1) (h_opz (vI 0) (h_nil (wH_frozg 2 rfl (wH_cog 4 2 rfl rfl (wH_cog 8 2 rfl rfl (wH_cog 132 2 rfl rfl ?_)))))))))
    obtain rfl:=some_inj hF
    exact wH_ret (fin0r [(vL Share.enc s_25.2.1),(vI 0)] ⟨rfl,⟨rfl,trivial⟩⟩)
theorem kit_IsMoment_ok {n_1:Int} {r:Bool} (hF:kit_IsMoment n_1=some r) :
  FnM Try.prog 46 [(vI n_1)] [] (vB r) []:=by
 refine FnM.of_wH ⟨Try.prog,9,[],[]⟩ rfl Try.func46 rfl rfl (Nat.le_of_ble_eq_true rfl) (by kernel_rfl) ?_
 unfold kit_IsMoment at hF
 refine wH_sr (h_opz (vB false) (h_nil (wH_seq ?_)))
 obtain ⟨v_2,h_3,hF⟩:=bind_some hF
 refine wH_joinU [(2,(vB v_2))] [] ?_ ?_
 ·refine wH_region (h_opz (vI n_1) (h_opz (vB (decide (n_1≥0))) ?_))
  rcases cond_some h_3 with⟨hc_4,h_3⟩ | ⟨hc_4,h_3⟩
  ·refine h_movb rfl hc_4 wz (h_op (vI n_1) wa rfl (h_op (vB (decide (n_1 < 345686400000))) wa rfl (h_opz (vB (decide (n_1 < 345686400000))) (h_opz (vB (decide (n_1 < 345686400000))) (h_nil ?_)))))
   obtain rfl:=some_inj h_3
   exact cu
  ·refine h_movb rfl hc_4 wz (h_skipz (h_skipz (h_opz (vB false) (h_opz (vB false) (h_nil ?_)))))
   obtain rfl:=some_inj h_3
   exact cu
 ·rintro ⟨⟩ _ sl_ H_ hp_ hq_
  refine wH_at _ hp_ hq_ ?_
  obtain rfl:=some_inj hF
  exact wH_ret (fin0r [(vB v_2)] ⟨rfl,trivial⟩)
theorem booking_due_ok {c_1:Campaign} {atv_2:Int} {r:Int} (hF:booking_due c_1 atv_2=some r) :
  FnM Try.prog 47 [(.d (.agg (Campaign.enc c_1))),(vI atv_2)] [] (vI r) []:=by
 refine FnM.of_wH ⟨Try.prog,35,[],[]⟩ rfl Try.func47 rfl rfl (Nat.le_of_ble_eq_true rfl) (by kernel_rfl) ?_
 unfold booking_due at hF
 refine wH_sr (h_box 0 (.inl rfl) (Campaign.v c_1) rfl rfl wz (fun n_3=>h_opz (vI 0) (h_nil (wH_seq (wH_block (wH_sr (h_opz (vI atv_2) (h_far pl61_2 rfl 2 rfl wz (h_far pl58_0 rfl 2 rfl wz (h_ldr 0 0 il ft sz3 ag3 rfl rfl (vI c_1.Time.From) rfl wz (h_opz (vB (decide (atv_2 < c_1.Time.From))) (h_opz (vB (decide (atv_2 < c_1.Time.From))) (h_nil ?_)))))))))))))
 rcases cond_some hF with⟨hc_4,hF⟩ | ⟨hc_4,hF⟩
 ·refine wH_ift rfl hc_4 (wH_sr (h_opz (vI 0) (h_nil ?_)))
  obtain rfl:=some_inj hF
  exact wH_ret (fin0r [(vI 0)] ⟨rfl,trivial⟩)
 ·refine wH_iff rfl hc_4 (wH_sr (h_opz (vI atv_2) (h_far pl61_2 rfl 2 rfl wz (h_far pl58_1 rfl 3 rfl wz (h_ldr 0 0 il ft sz3 ag3 rfl rfl (vI c_1.Time.To) rfl wz (h_opz (vB (decide (atv_2≥c_1.Time.To))) (h_opz (vB (decide (atv_2≥c_1.Time.To))) (h_nil ?_))))))))
  rcases cond_some hF with⟨hc_5,hF⟩ | ⟨hc_5,hF⟩
  ·refine wH_ift rfl hc_5 (wH_sr (h_far pl61_4 rfl 5 rfl wz (h_ldr 0 0 il ft sz3 ag3 rfl rfl (vI c_1.Goal) rfl wz (h_opz (vI c_1.Goal) (h_nil ?_)))))
   obtain rfl:=some_inj hF
   exact wH_ret (fin0r [(vI c_1.Goal)] ⟨rfl,trivial⟩)
  ·refine wH_iff rfl hc_5 (wH_skip (wH_sr (h_far pl61_4 rfl 5 rfl wz (h_ldr 0 0 il ft sz3 ag3 rfl rfl (vI c_1.Goal) rfl wz (h_opz (vI atv_2) (h_far pl61_2 rfl 2 rfl wz (h_far pl58_0 rfl 2 rfl wz (h_ldr 0 0 il ft sz3 ag3 rfl rfl (vI c_1.Time.From) rfl wz (h_opz (vI (w64 (atv_2 - c_1.Time.From))) (h_opz (vI (w64 (c_1.Goal * (w64 (atv_2 - c_1.Time.From))))) (h_far pl61_2 rfl 2 rfl wz (h_far pl58_1 rfl 3 rfl wz (h_ldr 0 0 il ft sz3 ag3 rfl rfl (vI c_1.Time.To) rfl wz (h_far pl61_2 rfl 2 rfl wz (h_far pl58_0 rfl 2 rfl wz (h_ldr 0 0 il ft sz3 ag3 rfl rfl (vI c_1.Time.From) rfl wz (h_opz (vI (w64 (c_1.Time.To - c_1.Time.From))) ?_)))))))))))))))))
   obtain ⟨q_6,hz_7,hF⟩:=bind_some hF
   refine h_quo rfl rfl hz_7 wz (h_opz (vI q_6) (h_nil (wH_at (H0:=([(n_3,some (.cells 8 (Campaign.v c_1)))]:Hp)) ([(4,(vI q_6))]:List (Nat×V)) (by kernel_rfl) (pre_mk (by kernel_rfl)) ?_)))
   obtain rfl:=some_inj hF
   exact wH_ret (fin0r [(vI q_6)] ⟨rfl,trivial⟩)
theorem booking_Due_ok {c_1:Campaign} {atv_2:Int} {r:Int×Int} (hF:booking_Due c_1 atv_2=some r) :
  FnM Try.prog 26 [(.d (.agg (Campaign.enc c_1))),(vI atv_2)] [] (.tup [(vI r.1),(vI r.2)]) []:=by
 refine FnM.of_wH ⟨Try.prog,19,[],[]⟩ rfl Try.func26 rfl rfl (Nat.le_of_ble_eq_true rfl) (by kernel_rfl) ?_
 unfold booking_Due at hF
 refine wH_sr (h_box 0 (.inl rfl) (Campaign.v c_1) rfl rfl wz (fun n_3=>h_opz (vI 0) (h_opz (vI 0) (h_nil (wH_seq (wH_sr (h_ldr 0 0 il ft sz61 ag61 rfl rfl (.d (.agg (Campaign.enc c_1))) rfl wz (h_lit (([c_1]:List Campaign).map Campaign.enc) es27 ez27 rfl rfl rfl rfl rfl wz ?_))))))))
 obtain ⟨r_4,hr_5,hF⟩:=bind_some hF
 refine h_call0 (booking_CheckCampaigns_ok hr_5) rfl hb43 rfl rfl rfl rfl wz (h_opz (vI r_4) (h_nil (wH_sr (h_opz (vI r_4) (h_opz (vB (r_4 != 0)) (h_nil ?_))))))
 rcases cond_some hF with⟨hc_6,hF⟩ | ⟨hc_6,hF⟩
 ·refine wH_ift rfl hc_6 (wH_sr (h_opz (vI r_4) (h_opz (vI 0) (h_opz (vI r_4) (h_nil ?_)))))
  obtain rfl:=some_inj hF
  exact wH_ret (fin0r [(vI 0),(vI r_4)] ⟨rfl,⟨rfl,trivial⟩⟩)
 ·refine wH_iff rfl hc_6 (wH_skip (wH_seq (wH_sr (h_opz (vI atv_2) ?_))))
  obtain ⟨r_7,hr_8,hF⟩:=bind_some hF
  refine h_call0 (kit_IsMoment_ok hr_8) rfl hb46 rfl rfl rfl rfl wz (h_opz (vB (!r_7)) (h_nil ?_))
  rcases cond_some hF with⟨hc_9,hF⟩ | ⟨hc_9,hF⟩
  ·refine wH_ift rfl hc_9 (wH_sr (h_opz (vI 0) (h_opz (vI 1) (h_nil ?_))))
   obtain rfl:=some_inj hF
   exact wH_ret (fin0r [(vI 0),(vI 1)] ⟨rfl,⟨rfl,trivial⟩⟩)
  ·refine wH_iff rfl hc_9 (wH_skip (wH_sr (h_ldr 0 0 il ft sz61 ag61 rfl rfl (.d (.agg (Campaign.enc c_1))) rfl wz (h_opz (vI atv_2) ?_))))
   obtain ⟨r_10,hr_11,hF⟩:=bind_some hF
   refine h_call0 (booking_due_ok hr_11) rfl hb47 rfl rfl rfl rfl wz (h_opz (vI r_10) (h_opz (vI 0) (h_nil ?_)))
   obtain rfl:=some_inj hF
   exact wH_ret (fin0r [(vI r_10),(vI 0)] ⟨rfl,⟨rfl,trivial⟩⟩)
theorem law_booked_ok {r:Bool} (hF:law_booked  = some r) :
  FnM Try.prog 8 [] [] (vB r) []:=by
 refine FnM.of_wH ⟨Try.prog,15,[],[]⟩ rfl Try.func8 rfl rfl (Nat.le_of_ble_eq_true rfl) (by kernel_rfl) ?_
 unfold law_booked at hF
 refine wH_sr (h_opz (vB false) (h_nil (wH_sr (h_op (.d (.agg (Window.enc (⟨0,100⟩:Window)))) wz (by kernel_rfl) (h_op (.agg [(vS (⟨#[97]⟩:ByteArray)),(vS (⟨#[]⟩:ByteArray)),(vI 0),(vI 100),.nil,(vI 10),(vI 0),(vI 0)]) wz (by kernel_rfl) ?_)))))
 obtain ⟨r_1,hr_2,hF⟩:=bind_some hF
 refine h_call0 (booking_Due_ok hr_2) rfl hb26 rfl rfl rfl rfl wz (h_opz (.tup [(vI r_1.1),(vI r_1.2)]) (h_opz (vI r_1.1) (h_opz (vI r_1.2) (h_opz (vI r_1.1) (h_opz (vI r_1.2) (h_nil (wH_seq ?_)))))))
 obtain ⟨v_3,h_4,hF⟩:=bind_some hF
 refine wH_joinU [(0,(vB v_3))] [] ?_ ?_
 ·refine wH_region (h_opz (vI r_1.2) (h_opz (vB (r_1.2 == 0)) ?_))
  rcases cond_some h_4 with⟨hc_5,h_4⟩ | ⟨hc_5,h_4⟩
  ·refine h_movb rfl hc_5 wz (h_op (vI r_1.1) wa rfl (h_op (vB (r_1.1 == 5)) wa rfl (h_opz (vB (r_1.1 == 5)) (h_opz (vB (r_1.1 == 5)) (h_nil ?_)))))
   obtain rfl:=some_inj h_4
   exact cu
  ·refine h_movb rfl hc_5 wz (h_skipz (h_skipz (h_opz (vB false) (h_opz (vB false) (h_nil ?_)))))
   obtain rfl:=some_inj h_4
   exact cu
 ·rintro ⟨⟩ _ sl_ H_ hp_ hq_
  refine wH_at _ hp_ hq_ ?_
  obtain rfl:=some_inj hF
  exact wH_ret (fin0r [(vB v_3)] ⟨rfl,trivial⟩)
end Go.Proofs.Ytipjpkpmkijdoaa.Law

