/-
 The machine computes these plain functions (written by a program of ours).
-/
import Derived.Test.YthcdokkcamcnmabFacts
import Derived.Test.YthcdokkcamcnmabDefs
import Derived.Test.YthcdokkcamcnmabPf1
open Go Go.Eng Go.Proofs
namespace Go.Proofs.Ythcdokkcamcnmab.Law
set_option maxRecDepth 100000
set_option linter.unusedVariables false
set_option maxHeartbeats 1000000
theorem proof_Counts_ok {l_1:(List Play)} {zone_2:Int} {r:(List Tally)×Int} (hF:proof_Counts l_1 zone_2=some r) :
  FnM Try.prog 9 [(vL Play.enc l_1),(vI zone_2)] [] (.tup [(vL Tally.enc r.1),(vI r.2)]) []:=by
 refine FnM.of_wH ⟨Try.prog,81,[],[]⟩ rfl Try.func9 rfl rfl (Nat.le_of_ble_eq_true rfl) (by kernel_rfl) ?_
 unfold proof_Counts at hF
 refine wH_sr (h_opz .nil (h_opz (vI 0) (h_nil (wH_seq (wH_sr (h_opz (vL Play.enc l_1) ?_))))))
 obtain ⟨r_3,hr_4,hF⟩:=bind_some hF
 refine h_call0 (proof_CheckPlays_ok hr_4) rfl hb13 rfl rfl rfl rfl wz (h_opz (vI r_3) (h_nil (wH_sr (h_opz (vI r_3) (h_opz (vB (r_3 != 0)) (h_nil ?_))))))
 rcases cond_some hF with⟨hc_5,hF⟩ | ⟨hc_5,hF⟩
 ·refine wH_ift rfl hc_5 (wH_sr (h_opz (vI r_3) (h_opz .nil (h_opz (vI r_3) (h_nil ?_)))))
  obtain rfl:=some_inj hF
  exact wH_ret (fin0r [.nil,(vI r_3)] ⟨rfl,⟨rfl,trivial⟩⟩)
 ·refine wH_iff rfl hc_5 (wH_skip (wH_seq (wH_sr (h_opz (vI zone_2) ?_))))
  obtain ⟨r_6,hr_7,hF⟩:=bind_some hF
  refine h_call0 (kit_Outside_ok hr_7) rfl hb29 rfl rfl rfl rfl wz (h_nil ?_)
  rcases cond_some hF with⟨hc_8,hF⟩ | ⟨hc_8,hF⟩
  ·refine wH_ift rfl hc_8 (wH_sr (h_opz .nil (h_opz (vI 1) (h_nil ?_))))
   obtain rfl:=some_inj hF
   exact wH_ret (fin0r [.nil,(vI 1)] ⟨rfl,⟨rfl,trivial⟩⟩)
  ·refine wH_iff rfl hc_8 (wH_skip (wH_sr (h_mkmap 0 (.inl rfl) wz (fun n_9=>h_ghost (fun hw=>wH_pm (Kt:=Tally) (X:=Tally) (kD:=(fun x=>D.agg (Tally.enc x))) (enc:=Tally.enc) (sz:=5) 0 rfl hw) (by kernel_rfl) (h_opz (.map n_9) (h_nil (wH_seq (wH_sr (h_opz (vL Play.enc l_1) (h_len un26 rfl wz (h_opz (vI 0) (h_nil ?_))))))))))))
   obtain ⟨o_20,hj_21,hF⟩:=bind_some hF
   obtain ⟨hn_14,hj_21⟩:=forL_some hj_21
   refine wH_loopF (σ:=(List (Tally×Tally))) (N:=(Nat→Nm)) (fun p=>(fun (s_15:(List (Tally×Tally))) (ns_17:(Nat→Nm))=>([(7,(.map n_9))]:List (Nat×V))) p.1 p.2) (fun p=>(fun (s_15:(List (Tally×Tally))) (ns_17:(Nat→Nm))=>(([(n_9,some (pmB (fun x=>D.agg (Tally.enc x)) ns_17 s_15))]:Hp)++(pmT 5 Tally.enc ns_17 s_15))) p.1 p.2) (fun (k_10:Nat)=>(fun p=>(fun (s_15:(List (Tally×Tally))) (ns_17:(Nat→Nm))=>([(1,(vI zone_2)),(7,(.map n_9)),(23,(vL Play.enc l_1)),(24,(vI (l_1.length:Int))),(25,(vI (k_10:Int)))]:List (Nat×V))) p.1 p.2)) (fun k x s=>proof_Counts_L1 zone_2 k x s) o_20 l_1 (([]:List (Tally×Tally)),ns0) hj_21 rfl (pre_tl (C1:=([(n_9,some (pmB (fun x=>D.agg (Tally.enc x)) ns0 ([]:List (Tally×Tally))))]:Hp)) (T:=(pmT 5 Tally.enc ns0 ([]:List (Tally×Tally)))) [0] (by decide) rfl rfl) ?_ ?_
   ·rintro ⟨k_10,l_11,s_15,ns_17⟩ ⟨hL_19,hD_13⟩
    dsimp only at hL_19 hD_13
    cases l_11 with
    | nil =>
     obtain rfl:=some_inj hL_19
     refine wH_sr (h_opz (vB (decide ((k_10:Int) < (l_1.length:Int)))) (h_nil ?_))
     refine wH_seq (wH_iff rfl (drop_nil hD_13) (wH_exit ?_))
     exact cut_mk (s_15,ns_17) rfl rfl (pre_tl (C1:=([(n_9,some (pmB (fun x=>D.agg (Tally.enc x)) ns_17 s_15))]:Hp)) (T:=(pmT 5 Tally.enc ns_17 s_15)) [0] (by decide) rfl rfl)
    | cons x_12 l_11 =>
     obtain ⟨c_,hc_18,hL_19⟩:=bind_some hL_19
     refine wH_sr (h_opz (vB (decide ((k_10:Int) < (l_1.length:Int)))) (h_nil ?_))
     refine wH_seq (wH_ift rfl (drop_cons hD_13) (wH_skip ?_))
     unfold proof_Counts_L1 at hc_18
     refine wH_seq (wH_block (wH_sr (h_ia es26 rfl rfl (drop_idx hD_13) rfl wz (h_ldc sz65 ag65 rfl (.d (.agg (Play.enc x_12))) rfl wz (h_alloc 0 (.inl rfl) z65 rfl wz (fun n_22=>h_ahead (C0:=([(n_9,some (pmB (fun x=>D.agg (Tally.enc x)) ns_17 s_15))]:Hp)) (T:=(pmT 5 Tally.enc ns_17 s_15)) (X:=([(n_22,some (.cells 4 [(vS (⟨#[]⟩:ByteArray)),(vS (⟨#[]⟩:ByteArray)),(vI 0),(vI 0)]))]:Hp)) (h_str 0 il ft 1 sz65 rfl rfl (Play.v x_12) rfl wz (h_nil (wH_seq (wH_draws (h_far pl65_0 rfl 0 rfl wz (h_ldr 1 1 (.inr (by kernel_rfl)) (fun _ _ ag=>trivial) sz9 ag9 rfl rfl (vS x_12.Player) rfl wz (h_far pl65_1 rfl 1 rfl wz (h_ldr 3 1 (.inr (by kernel_rfl)) (fun _ _ ag=>⟨.inl ⟨rfl,rfl⟩,trivial⟩) sz9 ag9 rfl rfl (vS x_12.Item) rfl wz (h_far pl65_2 rfl 2 rfl wz (h_ldr 5 1 (.inr (by kernel_rfl)) (fun _ _ ag=>⟨.inl ⟨rfl,rfl⟩,⟨.inl ⟨rfl,rfl⟩,trivial⟩⟩) sz3 ag3 rfl rfl (vI x_12.At) rfl wz (h_opz (vI zone_2) ?_)))))))))))))))))
     obtain ⟨r_23,hr_24,hc_18⟩:=bind_some hc_18
     refine h_call0 (proof_dayOf_ok hr_24) rfl hb30 rfl rfl rfl rfl wz (h_op (.d (.agg (Tally.enc (⟨x_12.Player,x_12.Item,r_23,0,0⟩:Tally)))) wz (by kernel_rfl) (h_alloc 9 (.inr (by kernel_rfl)) z55 rfl wz (fun n_25=>h_ahead (C0:=([(n_9,some (pmB (fun x=>D.agg (Tally.enc x)) ns_17 s_15)),(n_22,some (.cells 4 (Play.v x_12)))]:Hp)) (T:=(pmT 5 Tally.enc ns_17 s_15)) (X:=([(n_25,some (.cells 5 [(vS (⟨#[]⟩:ByteArray)),(vS (⟨#[]⟩:ByteArray)),(vI 0),(vI 0),(vI 0)]))]:Hp)) (h_str 10 (.inr (by kernel_rfl)) (fun _ _ ag=>⟨.inr (.inr (by kernel_rfl)),⟨.inr (.inr (by kernel_rfl)),⟨.inr (.inr (by kernel_rfl)),⟨.inr (.inr (by kernel_rfl)),trivial⟩⟩⟩⟩) 2 sz55 rfl rfl [(vS x_12.Player),(vS x_12.Item),(vI r_23),(vI 0),(vI 0)] rfl wz (h_nil (wH_seq (wH_sr (h_opz (.map n_9) (h_ldr 0 2 il ft sz55 ag55 rfl rfl (.d (.agg (Tally.enc (⟨x_12.Player,x_12.Item,r_23,0,0⟩:Tally)))) rfl wz (h_plookup (eq:=(fun (a b:Tally)=>(eqS a.Player b.Player && (eqS a.Item b.Item && (eqI a.Day b.Day && (eqI a.Many b.Many && (eqI a.Long b.Long && true))))))) (kD:=(fun x=>D.agg (Tally.enc x))) (es:=s_15) (ns:=ns_17) (k:=(⟨x_12.Player,x_12.Item,r_23,0,0⟩:Tally)) 0 0 il ft (fun _ _=>rfl) mt69 (by kernel_rfl) (by kernel_rfl) rfl rfl rfl wz (h_peq pt70 rfl rfl wz (h_nil ?_))))))))))))
     obtain ⟨v_26,h_27,hc_18⟩:=bind_some hc_18
     refine wH_join (β:=(Nat→Nm)) (fun (ns_28:(Nat→Nm))=>([(1,(vI zone_2)),(7,(.map n_9)),(9,(.ref n_22 0 0)),(10,(.ref n_25 0 0)),(23,(vL Play.enc l_1)),(24,(vI (l_1.length:Int))),(25,(vI (k_10:Int)))]:List (Nat×V))) (fun (ns_28:(Nat→Nm))=>(([(n_9,some (pmB (fun x=>D.agg (Tally.enc x)) ns_28 v_26)),(n_22,some (.cells 4 (Play.v x_12))),(n_25,some (.cells 5 [(vS x_12.Player),(vS x_12.Item),(vI r_23),(vI 0),(vI 0)]))]:Hp)++(pmT 5 Tally.enc ns_28 v_26))) (fun _=>True) ?_ ?_
     ·rcases cond_some h_27 with⟨hc_29,h_27⟩ | ⟨hc_29,h_27⟩
      ·refine wH_ift rfl hc_29 (wH_sr (h_ldr 0 2 il ft sz55 ag55 rfl rfl (.d (.agg (Tally.enc (⟨x_12.Player,x_12.Item,r_23,0,0⟩:Tally)))) rfl wz (h_alloc 0 (.inl rfl) z55 rfl wz (fun n_30=>h_ahead (C0:=([(n_9,some (pmB (fun x=>D.agg (Tally.enc x)) ns_17 s_15)),(n_22,some (.cells 4 (Play.v x_12))),(n_25,some (.cells 5 [(vS x_12.Player),(vS x_12.Item),(vI r_23),(vI 0),(vI 0)]))]:Hp)) (T:=(pmT 5 Tally.enc ns_17 s_15)) (X:=([(n_30,some (.cells 5 [(vS (⟨#[]⟩:ByteArray)),(vS (⟨#[]⟩:ByteArray)),(vI 0),(vI 0),(vI 0)]))]:Hp)) (h_str 0 il ft 3 sz55 rfl rfl [(vS x_12.Player),(vS x_12.Item),(vI r_23),(vI 0),(vI 0)] rfl wz (h_nil (wH_region (h_opz (.map n_9) (h_ldr 0 2 il ft sz55 ag55 rfl rfl (.d (.agg (Tally.enc (⟨x_12.Player,x_12.Item,r_23,0,0⟩:Tally)))) rfl wz ?_)))))))))
       obtain ⟨_,hn_31,h_27⟩:=bind_some h_27
       refine h_eqH (H0:=(([(n_9,some (pmB (fun x=>D.agg (Tally.enc x)) ns_17 s_15)),(n_22,some (.cells 4 (Play.v x_12))),(n_25,some (.cells 5 [(vS x_12.Player),(vS x_12.Item),(vI r_23),(vI 0),(vI 0)])),(n_30,some (.cells 5 [(vS x_12.Player),(vS x_12.Item),(vI r_23),(vI 0),(vI 0)]))]:Hp)++(pmT 5 Tally.enc ns_17 s_15))) rfl (h_pset (eq:=(fun (a b:Tally)=>(eqS a.Player b.Player && (eqS a.Item b.Item && (eqI a.Day b.Day && (eqI a.Many b.Many && (eqI a.Long b.Long && true))))))) (C0:=([(n_9,some (pmB (fun x=>D.agg (Tally.enc x)) ns_17 s_15)),(n_22,some (.cells 4 (Play.v x_12))),(n_25,some (.cells 5 [(vS x_12.Player),(vS x_12.Item),(vI r_23),(vI 0),(vI 0)])),(n_30,some (.cells 5 [(vS x_12.Player),(vS x_12.Item),(vI r_23),(vI 0),(vI 0)]))]:Hp)) (C1:=(([(n_9,some (pmB (fun x=>D.agg (Tally.enc x)) (nset ns_17 s_15.length n_30) (s_15 ++ [((⟨x_12.Player,x_12.Item,r_23,0,0⟩:Tally),(⟨x_12.Player,x_12.Item,r_23,0,0⟩:Tally))]))),(n_22,some (.cells 4 (Play.v x_12))),(n_25,some (.cells 5 [(vS x_12.Player),(vS x_12.Item),(vI r_23),(vI 0),(vI 0)]))]:Hp):Hp)) (k:=(⟨x_12.Player,x_12.Item,r_23,0,0⟩:Tally)) (v:=(⟨x_12.Player,x_12.Item,r_23,0,0⟩:Tally)) 0 3 (fun _ _=>rfl) mt69 (by kernel_rfl) rfl rfl rfl rfl rfl rfl (by decide) (noneO_eq hn_31) rfl wz (h_nil ?_))
       obtain rfl:=some_inj h_27
       exact cut_mk (nset ns_17 s_15.length n_30) trivial rfl (pre_tl (C1:=([(n_9,some (pmB (fun x=>D.agg (Tally.enc x)) (nset ns_17 s_15.length n_30) (s_15 ++ [((⟨x_12.Player,x_12.Item,r_23,0,0⟩:Tally),(⟨x_12.Player,x_12.Item,r_23,0,0⟩:Tally))]))),(n_22,some (.cells 4 (Play.v x_12))),(n_25,some (.cells 5 [(vS x_12.Player),(vS x_12.Item),(vI r_23),(vI 0),(vI 0)]))]:Hp)) (T:=(pmT 5 Tally.enc (nset ns_17 s_15.length n_30) (s_15 ++ [((⟨x_12.Player,x_12.Item,r_23,0,0⟩:Tally),(⟨x_12.Player,x_12.Item,r_23,0,0⟩:Tally))]))) [0,1,2] (by decide) rfl rfl)
      ·refine wH_iff rfl hc_29 (wH_skip ?_)
       obtain rfl:=some_inj h_27
       exact cut_mk ns_17 trivial rfl (pre_tl (C1:=([(n_9,some (pmB (fun x=>D.agg (Tally.enc x)) ns_17 s_15)),(n_22,some (.cells 4 (Play.v x_12))),(n_25,some (.cells 5 [(vS x_12.Player),(vS x_12.Item),(vI r_23),(vI 0),(vI 0)]))]:Hp)) (T:=(pmT 5 Tally.enc ns_17 s_15)) [0,1,2] (by decide) rfl rfl)
     ·rintro ns_28 _ sl_ H_ hp_ hq_
      refine wH_at _ hp_ hq_ (wH_sr (h_opz (.map n_9) (h_ldr 0 2 il ft sz55 ag55 rfl rfl (.d (.agg (Tally.enc (⟨x_12.Player,x_12.Item,r_23,0,0⟩:Tally)))) rfl wz (h_plookup (eq:=(fun (a b:Tally)=>(eqS a.Player b.Player && (eqS a.Item b.Item && (eqI a.Day b.Day && (eqI a.Many b.Many && (eqI a.Long b.Long && true))))))) (kD:=(fun x=>D.agg (Tally.enc x))) (es:=v_26) (ns:=ns_28) (k:=(⟨x_12.Player,x_12.Item,r_23,0,0⟩:Tally)) 0 0 il ft (fun _ _=>rfl) mt69 (by kernel_rfl) (by kernel_rfl) rfl rfl rfl wz ?_))))
      obtain ⟨i_32,hi_33,hc_18⟩:=bind_some hc_18
      refine h_re (v':=(.ref (ns_28 i_32) 0 0)) 47 rfl (pV_some hi_33) (h_opz (.ref (ns_28 i_32) 0 0) (h_far pl55_3 rfl 3 rfl wz ?_))
      obtain ⟨e_34,hy_35,hc_18⟩:=bind_some hc_18
      refine h_eqH (H0:=(([(n_9,some (pmB (fun x=>D.agg (Tally.enc x)) ns_28 v_26)),(n_22,some (.cells 4 (Play.v x_12))),(n_25,some (.cells 5 [(vS x_12.Player),(vS x_12.Item),(vI r_23),(vI 0),(vI 0)]))]:Hp)++(pmT 5 Tally.enc ns_28 v_26))) rfl (h_pld 0 il ft sz3 ag3 rfl hy_35 (vI e_34.2.Many) rfl wz (h_opz (vI (w64 (e_34.2.Many + 1))) (h_opz (.ref (ns_28 i_32) 0 0) (h_far pl55_3 rfl 3 rfl wz ?_))))
      obtain ⟨e_36,hy_37,hc_18⟩:=bind_some hc_18
      refine h_eqH (H0:=(([(n_9,some (pmB (fun x=>D.agg (Tally.enc x)) ns_28 v_26)),(n_22,some (.cells 4 (Play.v x_12))),(n_25,some (.cells 5 [(vS x_12.Player),(vS x_12.Item),(vI r_23),(vI 0),(vI 0)]))]:Hp)++(pmT 5 Tally.enc ns_28 v_26))) rfl (h_pst 0 il ft sz3 rfl hy_37 (⟨e_36.2.Player,e_36.2.Item,e_36.2.Day,(w64 (e_34.2.Many + 1)),e_36.2.Long⟩:Tally) rfl wz (h_reH (b':=some (pmB (fun x=>D.agg (Tally.enc x)) ns_28 (v_26.set i_32 (e_36.1,(⟨e_36.2.Player,e_36.2.Item,e_36.2.Day,(w64 (e_34.2.Many + 1)),e_36.2.Long⟩:Tally))))) 0 rfl (pmB_set hy_37) (h_nil (wH_draws (h_opz (.map n_9) (h_ldr 1 2 (.inr (by kernel_rfl)) (fun _ _ ag=>trivial) sz55 ag55 rfl rfl (.d (.agg (Tally.enc (⟨x_12.Player,x_12.Item,r_23,0,0⟩:Tally)))) rfl wz (h_plookup (eq:=(fun (a b:Tally)=>(eqS a.Player b.Player && (eqS a.Item b.Item && (eqI a.Day b.Day && (eqI a.Many b.Many && (eqI a.Long b.Long && true))))))) (kD:=(fun x=>D.agg (Tally.enc x))) (es:=(v_26.set i_32 (e_36.1,(⟨e_36.2.Player,e_36.2.Item,e_36.2.Day,(w64 (e_34.2.Many + 1)),e_36.2.Long⟩:Tally)))) (ns:=ns_28) (k:=(⟨x_12.Player,x_12.Item,r_23,0,0⟩:Tally)) 2 0 (.inr (by kernel_rfl)) (fun _ _ ag=>⟨.inl ⟨rfl,rfl⟩,trivial⟩) (fun _ _=>rfl) mt69 (by kernel_rfl) (by kernel_rfl) rfl rfl rfl wz ?_)))))))
      obtain ⟨i_38,hi_39,hc_18⟩:=bind_some hc_18
      refine h_re (v':=(.ref (ns_28 i_38) 0 0)) 56 rfl (pV_some hi_39) (h_opz (.ref (ns_28 i_38) 0 0) (h_far pl55_4 rfl 4 rfl wz ?_))
      obtain ⟨e_40,hy_41,hc_18⟩:=bind_some hc_18
      refine h_eqH (H0:=(([(n_9,some (pmB (fun x=>D.agg (Tally.enc x)) ns_28 (v_26.set i_32 (e_36.1,(⟨e_36.2.Player,e_36.2.Item,e_36.2.Day,(w64 (e_34.2.Many + 1)),e_36.2.Long⟩:Tally))))),(n_22,some (.cells 4 (Play.v x_12))),(n_25,some (.cells 5 [(vS x_12.Player),(vS x_12.Item),(vI r_23),(vI 0),(vI 0)]))]:Hp)++(pmT 5 Tally.enc ns_28 (v_26.set i_32 (e_36.1,(⟨e_36.2.Player,e_36.2.Item,e_36.2.Day,(w64 (e_34.2.Many + 1)),e_36.2.Long⟩:Tally)))))) rfl (h_pld 5 (.inr (by kernel_rfl)) (fun _ _ ag=>⟨.inl ⟨rfl,rfl⟩,⟨.inl ⟨rfl,rfl⟩,trivial⟩⟩) sz3 ag3 rfl hy_41 (vI e_40.2.Long) rfl wz (h_far pl65_3 rfl 3 rfl wz (h_ldr 7 1 (.inr (by kernel_rfl)) (fun _ _ ag=>⟨.inl ⟨rfl,rfl⟩,⟨.inl ⟨rfl,rfl⟩,⟨.inl ⟨rfl,rfl⟩,trivial⟩⟩⟩) sz3 ag3 rfl rfl (vI x_12.Long) rfl wz (h_opz (vI (w64 (e_40.2.Long + x_12.Long))) (h_opz (.ref (ns_28 i_38) 0 0) (h_far pl55_4 rfl 4 rfl wz ?_))))))
      obtain ⟨e_42,hy_43,hc_18⟩:=bind_some hc_18
      refine h_eqH (H0:=(([(n_9,some (pmB (fun x=>D.agg (Tally.enc x)) ns_28 (v_26.set i_32 (e_36.1,(⟨e_36.2.Player,e_36.2.Item,e_36.2.Day,(w64 (e_34.2.Many + 1)),e_36.2.Long⟩:Tally))))),(n_22,some (.cells 4 (Play.v x_12))),(n_25,some (.cells 5 [(vS x_12.Player),(vS x_12.Item),(vI r_23),(vI 0),(vI 0)]))]:Hp)++(pmT 5 Tally.enc ns_28 (v_26.set i_32 (e_36.1,(⟨e_36.2.Player,e_36.2.Item,e_36.2.Day,(w64 (e_34.2.Many + 1)),e_36.2.Long⟩:Tally)))))) rfl (h_pst 11 (.inr (by kernel_rfl)) (fun _ _ ag=>⟨.inr (.inr (by kernel_rfl)),⟨.inr (.inr (by kernel_rfl)),⟨.inr (.inr (by kernel_rfl)),⟨.inr (.inr (by kernel_rfl)),trivial⟩⟩⟩⟩) sz3 rfl hy_43 (⟨e_42.2.Player,e_42.2.Item,e_42.2.Day,e_42.2.Many,(w64 (e_40.2.Long + x_12.Long))⟩:Tally) rfl wz (h_reH (b':=some (pmB (fun x=>D.agg (Tally.enc x)) ns_28 ((v_26.set i_32 (e_36.1,(⟨e_36.2.Player,e_36.2.Item,e_36.2.Day,(w64 (e_34.2.Many + 1)),e_36.2.Long⟩:Tally))).set i_38 (e_42.1,(⟨e_42.2.Player,e_42.2.Item,e_42.2.Day,e_42.2.Many,(w64 (e_40.2.Long + x_12.Long))⟩:Tally))))) 0 rfl (pmB_set hy_43) (h_nil (wH_region (h_opw (w64_next hD_13 hn_14) wz rfl (h_opz (vI ((k_10 + 1:Nat):Int)) (h_nil ?_)))))))
      obtain rfl:=some_inj hc_18
      exact loop_mk (k_10 + 1,l_11,((v_26.set i_32 (e_36.1,(⟨e_36.2.Player,e_36.2.Item,e_36.2.Day,(w64 (e_34.2.Many + 1)),e_36.2.Long⟩:Tally))).set i_38 (e_42.1,(⟨e_42.2.Player,e_42.2.Item,e_42.2.Day,e_42.2.Many,(w64 (e_40.2.Long + x_12.Long))⟩:Tally))),ns_28) ⟨hL_19,drop_next hD_13⟩ (Nat.lt_succ_self _) rfl (pre_tl (C1:=([(n_9,some (pmB (fun x=>D.agg (Tally.enc x)) ns_28 ((v_26.set i_32 (e_36.1,(⟨e_36.2.Player,e_36.2.Item,e_36.2.Day,(w64 (e_34.2.Many + 1)),e_36.2.Long⟩:Tally))).set i_38 (e_42.1,(⟨e_42.2.Player,e_42.2.Item,e_42.2.Day,e_42.2.Many,(w64 (e_40.2.Long + x_12.Long))⟩:Tally))))),(n_22,some (.cells 4 (Play.v x_12))),(n_25,some (.cells 5 [(vS x_12.Player),(vS x_12.Item),(vI r_23),(vI 0),(vI 0)]))]:Hp)) (T:=(pmT 5 Tally.enc ns_28 ((v_26.set i_32 (e_36.1,(⟨e_36.2.Player,e_36.2.Item,e_36.2.Day,(w64 (e_34.2.Many + 1)),e_36.2.Long⟩:Tally))).set i_38 (e_42.1,(⟨e_42.2.Player,e_42.2.Item,e_42.2.Day,e_42.2.Many,(w64 (e_40.2.Long + x_12.Long))⟩:Tally))))) [0] (by decide) rfl rfl)
   ·rintro ⟨s_15,ns_17⟩ ho_ sl_ H_ hp_ hq_
    subst ho_
    refine wH_at _ hp_ hq_ (wH_sr (h_opz .nil (h_nil (wH_seq (wH_sr (h_opz (.map n_9) (h_range (f:=(fun (e:Nat×Tally)=>((fun x=>D.agg (Tally.enc x)) e.2,V.ref (ns_17 e.1) 0 0))) (left:=(pmL s_15)) 0 (by kernel_rfl) rfl rfl (mapEs_pm _) wz (fun n_44=>h_nil (wH_new (fun n_51=>wH_ahead (C0:=([(n_44,some (iB (fun (e:Nat×Tally)=>((fun x=>D.agg (Tally.enc x)) e.2,V.ref (ns_17 e.1) 0 0)) none (pmL s_15)))]:Hp)) (T:=(pmT 5 Tally.enc ns_17 s_15)) (X:=([(n_51,gB 5 Tally.enc ([]:List Tally))]:Hp)) ?_))))))))))
    have hj_58:=overP_some hF
    refine wH_loopM (σ:=(List Tally)) (N:=Nm) (fun p=>(fun (s_50:(List Tally)) (n_53:Nm)=>([(12,(gV n_53 5 s_50))]:List (Nat×V))) p.1 p.2) (fun p=>(fun (s_50:(List Tally)) (n_53:Nm)=>(([(n_53,gB 5 Tally.enc s_50)]:Hp)++(pmT 5 Tally.enc ns_17 s_15))) p.1 p.2) (fun p=>(fun (s_50:(List Tally)) (n_53:Nm)=>([(12,(gV n_53 5 s_50)),(67,(.ref n_44 0 0))]:List (Nat×V))) p.1 p.2) (fun (l_45:List (Nat×Tally)) (cu_46:Option (Nat×Tally))=>(fun p=>(fun (s_50:(List Tally)) (n_53:Nm)=>(([(n_44,some (iB (fun (e:Nat×Tally)=>((fun x=>D.agg (Tally.enc x)) e.2,V.ref (ns_17 e.1) 0 0)) cu_46 l_45)),(n_53,gB 5 Tally.enc s_50)]:Hp)++(pmT 5 Tally.enc ns_17 s_15))) p.1 p.2)) (fun x s=>proof_Counts_L2 s_15 x s) _ _ (pmL s_15) (([]:List Tally),n_51) hj_58 rfl (pre_tl (C1:=([(n_44,some (iB (fun (e:Nat×Tally)=>((fun x=>D.agg (Tally.enc x)) e.2,V.ref (ns_17 e.1) 0 0)) none (pmL s_15))),(n_51,gB 5 Tally.enc ([]:List Tally))]:Hp)) (T:=(pmT 5 Tally.enc ns_17 s_15)) [0,1] (by decide) rfl rfl) ?_ ?_
    ·rintro ⟨l_45,cu_46,s_50,n_53⟩ hL_55
     dsimp only at hL_55
     refine wH_sr (h_next (f:=(fun (e:Nat×Tally)=>((fun x=>D.agg (Tally.enc x)) e.2,V.ref (ns_17 e.1) 0 0))) (cur:=cu_46) (left:=l_45) 0 rfl rfl wz (fun hl_ => ?_) (fun i_47 x_48 he_49 => ?_))
     ·refine h_op (vB false) wz rfl (h_nil ?_)
      refine wH_seq (wH_iff rfl rfl (wH_exit ?_))
      exact cut_mk (s_50,n_53) (hL_55 [] (by rw [hl_])) rfl (pre_tl (C1:=([(n_44,some (iB (fun (e:Nat×Tally)=>((fun x=>D.agg (Tally.enc x)) e.2,V.ref (ns_17 e.1) 0 0)) cu_46 l_45)),(n_53,gB 5 Tally.enc s_50)]:Hp)) (T:=(pmT 5 Tally.enc ns_17 s_15)) [1] (by decide) rfl rfl)
     ·obtain ⟨c_,hc_54,hM_56⟩:=over_step hL_55 he_49
      refine h_op (vB true) wz rfl (h_nil ?_)
      refine wH_seq (wH_ift rfl rfl (wH_skip ?_))
      unfold proof_Counts_L2 at hc_54
      refine wH_block (wH_sr (h_entry (f:=(fun (e:Nat×Tally)=>((fun x=>D.agg (Tally.enc x)) e.2,V.ref (ns_17 e.1) 0 0))) (e:=x_48) (left:=(l_45.eraseIdx i_47)) 0 rfl rfl (.tup [(.d (.agg (Tally.enc x_48.2))),(.ref (ns_17 x_48.1) 0 0)]) rfl wz (h_opz (.ref (ns_17 x_48.1) 0 0) (h_opz (.ref (ns_17 x_48.1) 0 0) (h_nil (wH_region (h_opz (gV n_53 5 s_50) (h_opz (.ref (ns_17 x_48.1) 0 0) (h_opz (.ref (ns_17 x_48.1) 0 0) ?_)))))))))
      obtain ⟨e_59,hy_60,hc_54⟩:=bind_some hc_54
      refine h_eqH (H0:=(([(n_44,some (iB (fun (e:Nat×Tally)=>((fun x=>D.agg (Tally.enc x)) e.2,V.ref (ns_17 e.1) 0 0)) (some x_48) (l_45.eraseIdx i_47))),(n_53,gB 5 Tally.enc s_50)]:Hp)++(pmT 5 Tally.enc ns_17 s_15))) rfl (h_pld 0 il ft sz55 ag55 rfl hy_60 (.d (.agg (Tally.enc e_59.2))) rfl wz (h_lit (([e_59.2]:List Tally).map Tally.enc) es34 ez34 rfl rfl rfl rfl rfl wz ?_))
      obtain ⟨a_61,hz_62,hc_54⟩:=bind_some hc_54
      refine h_appg 0 il ft (i:=1) el34 el34 sz55 z55 rfl (by decide) by55 (by decide) (fun _=>rfl) rfl rfl rfl hz_62 wz (fun n_63=>h_opz (gV n_63 5 a_61) (h_nil ?_))
      obtain rfl:=some_inj hc_54
      exact loop_mk (l_45.eraseIdx i_47,some x_48,a_61,n_63) (hM_56 _ rfl) (erase_lt he_49) rfl (pre_tl (C1:=([(n_44,some (iB (fun (e:Nat×Tally)=>((fun x=>D.agg (Tally.enc x)) e.2,V.ref (ns_17 e.1) 0 0)) (some x_48) (l_45.eraseIdx i_47))),(n_63,gB 5 Tally.enc a_61)]:Hp)) (T:=(pmT 5 Tally.enc ns_17 s_15)) [0,1] (by decide) rfl rfl)
    ·rintro ⟨s_50,n_53⟩ hF sl_ H_ hp_ hq_
     dsimp only [thenC]at hF
     refine wH_at _ hp_ hq_ (wH_sr (h_opz (gV n_53 5 s_50) ?_))
     obtain ⟨r_64,hr_65,hF⟩:=bind_some hF
     obtain ⟨_,hs_66,hF⟩:=bind_some hF
     replace hs_66:=sameL_eq hs_66
     refine h_callv 0 [] 0 0 il ft (slices_SortFunc_api_Tally_api_Tally_v1_ok hr_65) rfl hb31 rfl rfl rfl (by kernel_rfl) rfl (.inl rfl) rfl (by kernel_rfl) (by kernel_rfl) (by kernel_rfl) (by kernel_rfl) rfl (by decide) (by kernel_rfl) gB_ok (gB_ho hs_66) wz (([(n_53,gB 5 Tally.enc r_64)]:Hp)++(pmT 5 Tally.enc ns_17 s_15)) (by kernel_rfl) (h_re (v':=(gV n_53 5 r_64)) 12 rfl (gV_len hs_66.symm) (h_re (v':=(gV n_53 5 r_64)) 78 rfl (gV_len hs_66.symm) (h_nil (wH_sr (h_opz (gV n_53 5 r_64) (h_opz (gV n_53 5 r_64) (h_opz (vI 0) (h_nil (wH_frozg 0 rfl (wH_cog 4 0 rfl rfl (wH_cog 12 0 rfl rfl (wH_cog 78 0 rfl rfl (wH_cog 80 0 rfl rfl ?_)))))))))))))
     obtain rfl:=some_inj hF
     exact wH_ret (fin0r [(vL Tally.enc r_64),(vI 0)] ⟨rfl,⟨rfl,trivial⟩⟩)
theorem proof_Idle_ok {l_1:(List Play)} {player_2:ByteArray} {wv_3:Window} {r:(List Window)×Int} (hF:proof_Idle l_1 player_2 wv_3=some r) :
  FnM Try.prog 10 [(vL Play.enc l_1),(vS player_2),(.d (.agg (Window.enc wv_3)))] [] (.tup [(vL Window.enc r.1),(vI r.2)]) []:=by
 refine FnM.of_wH ⟨Try.prog,84,[],[]⟩ rfl Try.func10 rfl rfl (Nat.le_of_ble_eq_true rfl) (by kernel_rfl) ?_
 unfold proof_Idle at hF
 refine wH_sr (h_box 0 (.inl rfl) [(vI wv_3.From),(vI wv_3.To)] rfl rfl wz (fun n_4=>h_opz .nil (h_opz (vI 0) (h_nil (wH_seq (wH_sr (h_opz (vL Play.enc l_1) ?_)))))))
 obtain ⟨r_5,hr_6,hF⟩:=bind_some hF
 refine h_call0 (proof_CheckPlays_ok hr_6) rfl hb13 rfl rfl rfl rfl wz (h_opz (vI r_5) (h_nil (wH_sr (h_opz (vI r_5) (h_opz (vB (r_5 != 0)) (h_nil ?_))))))
 rcases cond_some hF with⟨hc_7,hF⟩ | ⟨hc_7,hF⟩
 ·refine wH_ift rfl hc_7 (wH_sr (h_opz (vI r_5) (h_opz .nil (h_opz (vI r_5) (h_nil ?_)))))
  obtain rfl:=some_inj hF
  exact wH_ret (fin0r [.nil,(vI r_5)] ⟨rfl,⟨rfl,trivial⟩⟩)
 ·refine wH_iff rfl hc_7 (wH_skip (wH_seq (wH_sr (h_opz (vS player_2) ?_))))
  obtain ⟨r_8,hr_9,hF⟩:=bind_some hF
  refine h_call0 (kit_IsKey_ok hr_9) rfl hb36 rfl rfl rfl rfl wz (h_opz (vB (!r_8)) (h_nil ?_))
  rcases cond_some hF with⟨hc_10,hF⟩ | ⟨hc_10,hF⟩
  ·refine wH_ift rfl hc_10 (wH_sr (h_opz .nil (h_opz (vI 5) (h_nil ?_))))
   obtain rfl:=some_inj hF
   exact wH_ret (fin0r [.nil,(vI 5)] ⟨rfl,⟨rfl,trivial⟩⟩)
  ·refine wH_iff rfl hc_10 (wH_skip (wH_seq (wH_seq ?_)))
   obtain ⟨v_11,h_12,hF⟩:=bind_some hF
   refine wH_joinU [(0,(vL Play.enc l_1)),(1,(vS player_2)),(5,(.ref n_4 0 0)),(31,(vB v_11))] [(n_4,some (.cells 2 [(vI wv_3.From),(vI wv_3.To)]))] ?_ ?_
   ·refine wH_region (h_far pl31_0 rfl 0 rfl wz (h_ldr 0 0 il ft sz3 ag3 rfl rfl (vI wv_3.From) rfl wz (h_far pl31_1 rfl 1 rfl wz (h_ldr 0 0 il ft sz3 ag3 rfl rfl (vI wv_3.To) rfl wz ?_))))
    obtain ⟨r_13,hr_14,h_12⟩:=bind_some h_12
    refine h_call0 (kit_Outside_ok hr_14) rfl hb29 rfl rfl rfl rfl wz ?_
    rcases cond_some h_12 with⟨hc_15,h_12⟩ | ⟨hc_15,h_12⟩
    ·refine h_movb rfl hc_15 wz (h_skipz (h_skipz (h_skipz (h_opz (vB true) (h_nil ?_)))))
     obtain rfl:=some_inj h_12
     exact cu
    ·refine h_movb rfl hc_15 wz (h_far pl31_1 rfl 1 rfl wa (h_ldr 0 0 il ft sz3 ag3 rfl rfl (vI wv_3.To) rfl wa (h_op (vB (decide (wv_3.To > 345686400000))) wa rfl (h_opz (vB (decide (wv_3.To > 345686400000))) (h_nil ?_)))))
     obtain rfl:=some_inj h_12
     exact cu
   ·rintro ⟨⟩ _ sl_ H_ hp_ hq_
    refine wH_at _ hp_ hq_ ?_
    rcases cond_some hF with⟨hc_16,hF⟩ | ⟨hc_16,hF⟩
    ·refine wH_ift rfl hc_16 (wH_sr (h_opz .nil (h_opz (vI 1) (h_nil ?_))))
     obtain rfl:=some_inj hF
     exact wH_ret (fin0r [.nil,(vI 1)] ⟨rfl,⟨rfl,trivial⟩⟩)
    ·refine wH_iff rfl hc_16 (wH_skip (wH_sr (h_opz .nil (h_nil (wH_sr (h_far pl31_0 rfl 0 rfl wz (h_ldr 0 0 il ft sz3 ag3 rfl rfl (vI wv_3.From) rfl wz (h_opz (vI wv_3.From) (h_nil (wH_seq (wH_sr (h_opz (vL Play.enc l_1) (h_len un26 rfl wz (h_opz (vI 0) (h_nil (wH_new (fun n_23 => ?_)))))))))))))))))
     obtain ⟨o_28,hj_29,hF⟩:=bind_some hF
     obtain ⟨hn_21,hj_29⟩:=forL_some hj_29
     refine wH_loopF (σ:=(List Window)×Int) (N:=Nm) (fun p=>(fun (s_22:(List Window)×Int) (n_25:Nm)=>([(5,(.ref n_4 0 0)),(9,(gV n_25 2 s_22.1)),(10,(vI s_22.2))]:List (Nat×V))) p.1 p.2) (fun p=>(fun (s_22:(List Window)×Int) (n_25:Nm)=>([(n_4,some (.cells 2 [(vI wv_3.From),(vI wv_3.To)])),(n_25,gB 2 Window.enc s_22.1)]:Hp)) p.1 p.2) (fun (k_17:Nat)=>(fun p=>(fun (s_22:(List Window)×Int) (n_25:Nm)=>([(1,(vS player_2)),(5,(.ref n_4 0 0)),(9,(gV n_25 2 s_22.1)),(10,(vI s_22.2)),(34,(vL Play.enc l_1)),(35,(vI (l_1.length:Int))),(36,(vI (k_17:Int)))]:List (Nat×V))) p.1 p.2)) (fun k x s=>proof_Idle_L1 player_2 wv_3 k x s) o_28 l_1 ((([]:List Window),wv_3.From),n_23) hj_29 rfl (pre_r rfl) ?_ ?_
     ·rintro ⟨k_17,l_18,s_22,n_25⟩ ⟨hL_27,hD_20⟩
      dsimp only at hL_27 hD_20
      cases l_18 with
      | nil =>
       obtain rfl:=some_inj hL_27
       refine wH_sr (h_opz (vB (decide ((k_17:Int) < (l_1.length:Int)))) (h_nil ?_))
       refine wH_seq (wH_iff rfl (drop_nil hD_20) (wH_exit ?_))
       exact cut_mk (s_22,n_25) rfl rfl (pre_r rfl)
      | cons x_19 l_18 =>
       obtain ⟨c_,hc_26,hL_27⟩:=bind_some hL_27
       refine wH_sr (h_opz (vB (decide ((k_17:Int) < (l_1.length:Int)))) (h_nil ?_))
       refine wH_seq (wH_ift rfl (drop_cons hD_20) (wH_skip ?_))
       unfold proof_Idle_L1 at hc_26
       refine wH_seq (wH_block (wH_sr (h_ia es26 rfl rfl (drop_idx hD_20) rfl wz (h_ldc sz65 ag65 rfl (.d (.agg (Play.enc x_19))) rfl wz (h_alloc 0 (.inl rfl) z65 rfl wz (fun n_30=>h_str 0 il ft 2 sz65 rfl rfl (Play.v x_19) rfl wz (h_nil (wH_seq (wH_seq ?_)))))))))
       obtain ⟨v_31,h_32,hc_26⟩:=bind_some hc_26
       refine wH_joinU [(1,(vS player_2)),(5,(.ref n_4 0 0)),(9,(gV n_25 2 s_22.1)),(10,(vI s_22.2)),(12,(.ref n_30 0 0)),(34,(vL Play.enc l_1)),(35,(vI (l_1.length:Int))),(36,(vI (k_17:Int))),(49,(vB v_31))] [(n_4,some (.cells 2 [(vI wv_3.From),(vI wv_3.To)])),(n_25,gB 2 Window.enc s_22.1),(n_30,some (.cells 4 (Play.v x_19)))] ?_ ?_
       ·refine wH_region (h_far pl65_0 rfl 0 rfl wz (h_ldr 0 2 il ft sz9 ag9 rfl rfl (vS x_19.Player) rfl wz (h_opz (vS player_2) (h_opz (vB (sNe x_19.Player player_2)) ?_))))
        rcases cond_some h_32 with⟨hc_33,h_32⟩ | ⟨hc_33,h_32⟩
        ·refine h_movb rfl hc_33 wz (h_skipz (h_skipz (h_skipz (h_skipz (h_opz (vB true) (h_nil ?_))))))
         obtain rfl:=some_inj h_32
         exact cu
        ·refine h_movb rfl hc_33 wz (h_op (vI s_22.2) wa rfl (h_far pl31_1 rfl 1 rfl wa (h_ldr 0 0 il ft sz3 ag3 rfl rfl (vI wv_3.To) rfl wa (h_op (vB (decide (s_22.2≥wv_3.To))) wa rfl (h_opz (vB (decide (s_22.2≥wv_3.To))) (h_nil ?_))))))
         obtain rfl:=some_inj h_32
         exact cu
       ·rintro ⟨⟩ _ sl_ H_ hp_ hq_
        refine wH_at _ hp_ hq_ ?_
        rcases cond_some hc_26 with⟨hc_34,hc_26⟩ | ⟨hc_34,hc_26⟩
        ·refine wH_ift rfl hc_34 (wH_exit (wH_region (h_opw (w64_next hD_20 hn_21) wz rfl (h_opz (vI ((k_17 + 1:Nat):Int)) (h_nil ?_)))))
         obtain rfl:=some_inj hc_26
         exact loop_mk (k_17 + 1,l_18,(s_22.1,s_22.2),n_25) ⟨hL_27,drop_next hD_20⟩ (Nat.lt_succ_self _) rfl (pre_r rfl)
        ·refine wH_iff rfl hc_34 (wH_skip (wH_seq (wH_sr (h_far pl65_2 rfl 2 rfl wz (h_ldr 0 2 il ft sz3 ag3 rfl rfl (vI x_19.At) rfl wz (h_far pl31_1 rfl 1 rfl wz (h_ldr 0 0 il ft sz3 ag3 rfl rfl (vI wv_3.To) rfl wz (h_minmax (vI (minI x_19.At wv_3.To)) rfl (.inl rfl) wz (h_opz (vI (minI x_19.At wv_3.To)) (h_nil (wH_sr (h_opz (vI (minI x_19.At wv_3.To)) (h_opz (vI s_22.2) (h_opz (vB (decide ((minI x_19.At wv_3.To) > s_22.2))) (h_nil ?_)))))))))))))))
         obtain ⟨v_35,h_36,hc_26⟩:=bind_some hc_26
         refine wH_join (β:=Nm) (fun (n_37:Nm)=>([(1,(vS player_2)),(5,(.ref n_4 0 0)),(9,(gV n_37 2 v_35)),(10,(vI s_22.2)),(12,(.ref n_30 0 0)),(34,(vL Play.enc l_1)),(35,(vI (l_1.length:Int))),(36,(vI (k_17:Int)))]:List (Nat×V))) (fun (n_37:Nm)=>([(n_4,some (.cells 2 [(vI wv_3.From),(vI wv_3.To)])),(n_37,gB 2 Window.enc v_35),(n_30,some (.cells 4 (Play.v x_19)))]:Hp)) (fun _=>True) ?_ ?_
         ·rcases cond_some h_36 with⟨hc_38,h_36⟩ | ⟨hc_38,h_36⟩
          ·refine wH_ift rfl hc_38 (wH_region (h_opz (gV n_25 2 s_22.1) (h_opz (vI s_22.2) (h_opz (vI (minI x_19.At wv_3.To)) (h_op (.d (.agg (Window.enc (⟨s_22.2,(minI x_19.At wv_3.To)⟩:Window)))) wz (by kernel_rfl) (h_lit (([(⟨s_22.2,(minI x_19.At wv_3.To)⟩:Window)]:List Window).map Window.enc) es38 ez38 rfl rfl rfl rfl rfl wz ?_))))))
           obtain ⟨a_39,hz_40,h_36⟩:=bind_some h_36
           refine h_appg 0 il ft (i:=1) el38 el38 sz31 z31 rfl (by decide) by31 (by decide) (fun _=>rfl) rfl rfl rfl hz_40 wz (fun n_41=>h_opz (gV n_41 2 a_39) (h_nil ?_))
           obtain rfl:=some_inj h_36
           exact cut_mk n_41 trivial rfl (pre_r rfl)
          ·refine wH_iff rfl hc_38 (wH_skip ?_)
           obtain rfl:=some_inj h_36
           exact cut_mk n_25 trivial rfl (pre_r rfl)
         ·rintro n_37 _ sl_ H_ hp_ hq_
          refine wH_at _ hp_ hq_ (wH_region (h_opz (vI s_22.2) (h_far pl65_2 rfl 2 rfl wz (h_ldr 0 2 il ft sz3 ag3 rfl rfl (vI x_19.At) rfl wz (h_far pl65_3 rfl 3 rfl wz (h_ldr 0 2 il ft sz3 ag3 rfl rfl (vI x_19.Long) rfl wz (h_opz (vI (w64 (x_19.At + x_19.Long))) (h_minmax (vI (maxI s_22.2 (w64 (x_19.At + x_19.Long)))) rfl (.inr rfl) wz (h_opz (vI (maxI s_22.2 (w64 (x_19.At + x_19.Long)))) (h_nil (wH_region (h_opw (w64_next hD_20 hn_21) wz rfl (h_opz (vI ((k_17 + 1:Nat):Int)) (h_nil ?_))))))))))))))
          obtain rfl:=some_inj hc_26
          exact loop_mk (k_17 + 1,l_18,(v_35,(maxI s_22.2 (w64 (x_19.At + x_19.Long)))),n_37) ⟨hL_27,drop_next hD_20⟩ (Nat.lt_succ_self _) rfl (pre_r rfl)
     ·rintro ⟨s_22,n_25⟩ ho_ sl_ H_ hp_ hq_
      subst ho_
      refine wH_at _ hp_ hq_ (wH_seq (wH_sr (h_opz (vI s_22.2) (h_far pl31_1 rfl 1 rfl wz (h_ldr 0 0 il ft sz3 ag3 rfl rfl (vI wv_3.To) rfl wz (h_opz (vB (decide (s_22.2 < wv_3.To))) (h_nil ?_)))))))
      obtain ⟨v_42,h_43,hF⟩:=bind_some hF
      refine wH_join (β:=Nm) (fun (n_44:Nm)=>([(9,(gV n_44 2 v_42))]:List (Nat×V))) (fun (n_44:Nm)=>([(n_4,some (.cells 2 [(vI wv_3.From),(vI wv_3.To)])),(n_44,gB 2 Window.enc v_42)]:Hp)) (fun _=>True) ?_ ?_
      ·rcases cond_some h_43 with⟨hc_45,h_43⟩ | ⟨hc_45,h_43⟩
       ·refine wH_ift rfl hc_45 (wH_region (h_opz (gV n_25 2 s_22.1) (h_opz (vI s_22.2) (h_far pl31_1 rfl 1 rfl wz (h_ldr 0 0 il ft sz3 ag3 rfl rfl (vI wv_3.To) rfl wz (h_op (.d (.agg (Window.enc (⟨s_22.2,wv_3.To⟩:Window)))) wz (by kernel_rfl) (h_lit (([(⟨s_22.2,wv_3.To⟩:Window)]:List Window).map Window.enc) es38 ez38 rfl rfl rfl rfl rfl wz ?_)))))))
        obtain ⟨a_46,hz_47,h_43⟩:=bind_some h_43
        refine h_appg 0 il ft (i:=1) el38 el38 sz31 z31 rfl (by decide) by31 (by decide) (fun _=>rfl) rfl rfl rfl hz_47 wz (fun n_48=>h_opz (gV n_48 2 a_46) (h_nil ?_))
        obtain rfl:=some_inj h_43
        exact cut_mk n_48 trivial rfl (pre_r rfl)
       ·refine wH_iff rfl hc_45 (wH_skip ?_)
        obtain rfl:=some_inj h_43
        exact cut_mk n_25 trivial rfl (pre_r rfl)
      ·rintro n_44 _ sl_ H_ hp_ hq_
       refine wH_at _ hp_ hq_ (wH_sr (h_opz (gV n_44 2 v_42) (h_opz (gV n_44 2 v_42) (h_opz (vI 0) (h_nil (wH_frozg 1 rfl (wH_cog 6 1 rfl rfl (wH_cog 9 1 rfl rfl (wH_cog 83 1 rfl rfl ?_)))))))))
       obtain rfl:=some_inj hF
       exact wH_ret (fin0r [(vL Window.enc v_42),(vI 0)] ⟨rfl,⟨rfl,trivial⟩⟩)
theorem proof_apart_ok {a_1:Int} {b_2:Int} {r:Int} (hF:proof_apart a_1 b_2=some r) :
  FnM Try.prog 37 [(vI a_1),(vI b_2)] [] (vI r) []:=by
 refine FnM.of_wH ⟨Try.prog,12,[],[]⟩ rfl Try.func37 rfl rfl (Nat.le_of_ble_eq_true rfl) (by kernel_rfl) ?_
 unfold proof_apart at hF
 refine wH_sr (h_opz (vI 0) (h_nil (wH_sr (h_opz (vI a_1) (h_opz (vI b_2) (h_opz (vI (w64 (a_1 - b_2))) (h_opz (vI b_2) (h_opz (vI a_1) (h_opz (vI (w64 (b_2 - a_1))) (h_minmax (vI (maxI (w64 (a_1 - b_2)) (w64 (b_2 - a_1)))) rfl (.inr rfl) wz (h_opz (vI (maxI (w64 (a_1 - b_2)) (w64 (b_2 - a_1)))) (h_nil ?_))))))))))))
 obtain rfl:=some_inj hF
 exact wH_ret (fin0r [(vI (maxI (w64 (a_1 - b_2)) (w64 (b_2 - a_1))))] ⟨rfl,trivial⟩)
theorem proof_Compare_ok {want_1:(List Play)} {havev_2:(List Play)} {most_3:Int} {r:(List Match)×(List Int)×Int} (hF:proof_Compare want_1 havev_2 most_3=some r) :
  FnM Try.prog 11 [(vL Play.enc want_1),(vL Play.enc havev_2),(vI most_3)] [] (.tup [(vL Match.enc r.1),(vL eI r.2.1),(vI r.2.2)]) []:=by
 refine FnM.of_wH ⟨Try.prog,128,[],[]⟩ rfl Try.func11 rfl rfl (Nat.le_of_ble_eq_true rfl) (by kernel_rfl) ?_
 unfold proof_Compare at hF
 refine wH_sr (h_opz .nil (h_opz .nil (h_opz (vI 0) (h_nil (wH_seq (wH_sr (h_opz (vL Play.enc want_1) (h_opz (vL Play.enc havev_2) (h_op (.d (.agg [dl Play.enc want_1,dl Play.enc havev_2])) wz (by kernel_rfl) (h_opz (vI 0) (h_nil ?_)))))))))))
 obtain ⟨o_12,hj_13,hF⟩:=bind_some hF
 obtain ⟨hn_8,hj_13⟩:=forL_some hj_13
 refine wH_loopF0 (fun (s_9:Unit) => [(0,(vL Play.enc want_1)),(1,(vL Play.enc havev_2)),(2,(vI most_3))]) (fun (s_9:Unit) => []) (fun (k_4:Nat)=>(fun (s_9:Unit) => [(0,(vL Play.enc want_1)),(1,(vL Play.enc havev_2)),(2,(vI most_3)),(24,(.d (.agg [dl Play.enc want_1,dl Play.enc havev_2]))),(25,(vI (k_4:Int)))])) (fun k x s=>proof_Compare_L1 want_1 havev_2 k x s) o_12 (List.range (2:Int).toNat) () hj_13 rfl (pre_r rfl) ?_ ?_
 ·rintro ⟨k_4,l_5,s_9⟩ ⟨hL_11,hD_7⟩
  dsimp only at hL_11 hD_7
  cases l_5 with
  | nil =>
   obtain rfl:=some_inj hL_11
   refine wH_sr (h_opz (vB (decide ((k_4:Int) < 2))) (h_nil ?_))
   refine wH_seq (wH_iff rfl (range_nil hD_7) (wH_exit ?_))
   exact cut_mk (s_9) rfl rfl (pre_r rfl)
  | cons x_6 l_5 =>
   obtain ⟨c_,hc_10,hL_11⟩:=bind_some hL_11
   refine wH_sr (h_opz (vB (decide ((k_4:Int) < 2))) (h_nil ?_))
   refine wH_seq (wH_ift rfl (range_cons hD_7) (wH_skip ?_))
   unfold proof_Compare_L1 at hc_10
   refine wH_seq (wH_block (wH_sr ?_))
   obtain ⟨y_14,hy_15,hc_10⟩:=bind_some hc_10
   refine h_idxa (enc:=(eL Play.enc)) (xs:=([want_1,havev_2]:List (List Play))) un74 sz26 ag26 rfl rfl rfl rfl hy_15 (fun _=>rfl) (.inr rfl) (vL Play.enc y_14) rfl wz (h_opz (vL Play.enc y_14) (h_nil (wH_sr (h_opz (vL Play.enc y_14) ?_))))
   obtain ⟨r_16,hr_17,hc_10⟩:=bind_some hc_10
   refine h_call0 (proof_CheckPlays_ok hr_17) rfl hb13 rfl rfl rfl rfl wz (h_opz (vI r_16) (h_nil (wH_sr (h_opz (vI r_16) (h_opz (vB (r_16 != 0)) (h_nil ?_))))))
   rcases cond_some hc_10 with⟨hc_18,hc_10⟩ | ⟨hc_18,hc_10⟩
   ·refine wH_ift rfl hc_18 (wH_sr (h_opz (vI r_16) (h_opz .nil (h_opz .nil (h_opz (vI r_16) (h_nil ?_))))))
    obtain rfl:=some_inj hc_10
    obtain rfl:=some_inj hL_11
    obtain rfl:=some_inj hF
    exact wH_ret (fin0r [.nil,.nil,(vI r_16)] ⟨rfl,⟨rfl,⟨rfl,trivial⟩⟩⟩)
   ·refine wH_iff rfl hc_18 (wH_skip (wH_region (h_opw (w64_nextr hD_7 hn_8) wz rfl (h_opz (vI ((k_4 + 1:Nat):Int)) (h_nil ?_)))))
    obtain rfl:=some_inj hc_10
    exact loop_mk (k_4 + 1,l_5,()) ⟨hL_11,drop_next hD_7⟩ (Nat.lt_succ_self _) rfl (pre_r rfl)
 ·rintro s_9 ho_ sl_ H_ hp_ hq_
  subst ho_
  refine wH_at _ hp_ hq_ (wH_seq (wH_sr (h_opz (vI most_3) ?_)))
  obtain ⟨r_19,hr_20,hF⟩:=bind_some hF
  refine h_call0 (kit_Outside_ok hr_20) rfl hb29 rfl rfl rfl rfl wz (h_nil ?_)
  rcases cond_some hF with⟨hc_21,hF⟩ | ⟨hc_21,hF⟩
  ·refine wH_ift rfl hc_21 (wH_sr (h_opz .nil (h_opz .nil (h_opz (vI 1) (h_nil ?_)))))
   obtain rfl:=some_inj hF
   exact wH_ret (fin0r [.nil,.nil,(vI 1)] ⟨rfl,⟨rfl,⟨rfl,trivial⟩⟩⟩)
  ·refine wH_iff rfl hc_21 (wH_skip (wH_sr (h_opz (vL Play.enc havev_2) (h_len un26 rfl wz ?_))))
   obtain ⟨m_22,hm_23,hF⟩:=bind_some hF
   refine h_mkslice (enc:=eB) 0 (.inl rfl) false el75 sz4 z4 by4 rfl rfl (by decide) rfl rfl rfl hm_23 wz (fun n_24=>h_opz (vV n_24 1 (List.replicate m_22 (false:Bool))) (h_nil (wH_sr (h_opz .nil (h_nil (wH_seq (wH_sr (h_opz (vL Play.enc want_1) (h_len un26 rfl wz (h_opz (vI 0) (h_nil (wH_new (fun n_31 => ?_)))))))))))))
   obtain ⟨o_36,hj_37,hF⟩:=bind_some hF
   obtain ⟨hn_29,hj_37⟩:=forL_some hj_37
   refine wH_loopF (σ:=(List Bool)×(List Match)) (N:=Nm) (fun p=>(fun (s_30:(List Bool)×(List Match)) (n_33:Nm)=>([(12,(vV n_24 1 s_30.1)),(13,(gV n_33 2 s_30.2))]:List (Nat×V))) p.1 p.2) (fun p=>(fun (s_30:(List Bool)×(List Match)) (n_33:Nm)=>([(n_24,some (bV 1 eB s_30.1)),(n_33,gB 2 Match.enc s_30.2)]:Hp)) p.1 p.2) (fun (k_25:Nat)=>(fun p=>(fun (s_30:(List Bool)×(List Match)) (n_33:Nm)=>([(1,(vL Play.enc havev_2)),(2,(vI most_3)),(12,(vV n_24 1 s_30.1)),(13,(gV n_33 2 s_30.2)),(39,(vL Play.enc want_1)),(40,(vI (want_1.length:Int))),(41,(vI (k_25:Int)))]:List (Nat×V))) p.1 p.2)) (fun k x s=>proof_Compare_L3 havev_2 most_3 k x s) o_36 want_1 (((List.replicate m_22 (false:Bool)),([]:List Match)),n_31) hj_37 rfl (pre_r rfl) ?_ ?_
   ·rintro ⟨k_25,l_26,s_30,n_33⟩ ⟨hL_35,hD_28⟩
    dsimp only at hL_35 hD_28
    cases l_26 with
    | nil =>
     obtain rfl:=some_inj hL_35
     refine wH_sr (h_opz (vB (decide ((k_25:Int) < (want_1.length:Int)))) (h_nil ?_))
     refine wH_seq (wH_iff rfl (drop_nil hD_28) (wH_exit ?_))
     exact cut_mk (s_30,n_33) rfl rfl (pre_r rfl)
    | cons x_27 l_26 =>
     obtain ⟨c_,hc_34,hL_35⟩:=bind_some hL_35
     refine wH_sr (h_opz (vB (decide ((k_25:Int) < (want_1.length:Int)))) (h_nil ?_))
     refine wH_seq (wH_ift rfl (drop_cons hD_28) (wH_skip ?_))
     unfold proof_Compare_L3 at hc_34
     refine wH_seq (wH_block (wH_sr (h_opz (vI (k_25:Int)) (h_ia es26 rfl rfl (drop_idx hD_28) rfl wz (h_ldc sz65 ag65 rfl (.d (.agg (Play.enc x_27))) rfl wz (h_alloc 0 (.inl rfl) z65 rfl wz (fun n_38=>h_opz (vI (k_25:Int)) (h_str 0 il ft 2 sz65 rfl rfl (Play.v x_27) rfl wz (h_nil (wH_sr (h_opz (vI (-1)) (h_nil (wH_seq (wH_sr (h_opz (vL Play.enc havev_2) (h_len un26 rfl wz (h_opz (vI 0) (h_nil ?_))))))))))))))))))
     obtain ⟨o_47,hj_48,hc_34⟩:=bind_some hc_34
     obtain ⟨hn_43,hj_48⟩:=forL_some hj_48
     refine wH_loopF0 (fun (s_44:Int) => [(1,(vL Play.enc havev_2)),(2,(vI most_3)),(12,(vV n_24 1 s_30.1)),(13,(gV n_33 2 s_30.2)),(14,(vI (k_25:Int))),(16,(vI s_44)),(39,(vL Play.enc want_1)),(40,(vI (want_1.length:Int))),(41,(vI (k_25:Int)))]) (fun (s_44:Int) => [(n_24,some (bV 1 eB s_30.1)),(n_33,gB 2 Match.enc s_30.2),(n_38,some (.cells 4 (Play.v x_27)))]) (fun (k_39:Nat)=>(fun (s_44:Int) => [(1,(vL Play.enc havev_2)),(2,(vI most_3)),(12,(vV n_24 1 s_30.1)),(13,(gV n_33 2 s_30.2)),(14,(vI (k_25:Int))),(15,(.ref n_38 0 0)),(16,(vI s_44)),(39,(vL Play.enc want_1)),(40,(vI (want_1.length:Int))),(41,(vI (k_25:Int))),(46,(vL Play.enc havev_2)),(47,(vI (havev_2.length:Int))),(48,(vI (k_39:Int)))])) (fun k x s=>proof_Compare_L2 s_30 x_27 most_3 havev_2 k x s) o_47 havev_2 (-1) hj_48 rfl (pre_r rfl) ?_ ?_
     ·rintro ⟨k_39,l_40,s_44⟩ ⟨hL_46,hD_42⟩
      dsimp only at hL_46 hD_42
      cases l_40 with
      | nil =>
       obtain rfl:=some_inj hL_46
       refine wH_sr (h_opz (vB (decide ((k_39:Int) < (havev_2.length:Int)))) (h_nil ?_))
       refine wH_seq (wH_iff rfl (drop_nil hD_42) (wH_exit ?_))
       exact cut_mk (s_44) rfl rfl (pre_r rfl)
      | cons x_41 l_40 =>
       obtain ⟨c_,hc_45,hL_46⟩:=bind_some hL_46
       refine wH_sr (h_opz (vB (decide ((k_39:Int) < (havev_2.length:Int)))) (h_nil ?_))
       refine wH_seq (wH_ift rfl (drop_cons hD_42) (wH_skip ?_))
       unfold proof_Compare_L2 at hc_45
       refine wH_seq (wH_block (wH_sr (h_opz (vI (k_39:Int)) (h_ia es26 rfl rfl (drop_idx hD_42) rfl wz (h_ldc sz65 ag65 rfl (.d (.agg (Play.enc x_41))) rfl wz (h_alloc 0 (.inl rfl) z65 rfl wz (fun n_49=>h_opz (vI (k_39:Int)) (h_str 0 il ft 3 sz65 rfl rfl (Play.v x_41) rfl wz (h_nil (wH_seq (wH_seq ?_)))))))))))
       obtain ⟨v_50,h_51,hc_45⟩:=bind_some hc_45
       refine wH_joinU [(1,(vL Play.enc havev_2)),(2,(vI most_3)),(12,(vV n_24 1 s_30.1)),(13,(gV n_33 2 s_30.2)),(14,(vI (k_25:Int))),(15,(.ref n_38 0 0)),(16,(vI s_44)),(17,(vI (k_39:Int))),(18,(.ref n_49 0 0)),(39,(vL Play.enc want_1)),(40,(vI (want_1.length:Int))),(41,(vI (k_25:Int))),(46,(vL Play.enc havev_2)),(47,(vI (havev_2.length:Int))),(48,(vI (k_39:Int))),(79,(vB v_50))] [(n_24,some (bV 1 eB s_30.1)),(n_33,gB 2 Match.enc s_30.2),(n_38,some (.cells 4 (Play.v x_27))),(n_49,some (.cells 4 (Play.v x_41)))] ?_ ?_
       ·refine wH_region (h_opz (vV n_24 1 s_30.1) (h_opz (vI (k_39:Int)) ?_))
        obtain ⟨_,hi_52,h_51⟩:=bind_some h_51
        refine h_iav es75 rfl rfl (inR_0 hi_52) (inR_lt hi_52) wz ?_
        obtain ⟨e_53,hy_54,h_51⟩:=bind_some h_51
        refine h_ldv 0 0 il ft sz4 ag4 rfl rfl hy_54 (vB e_53) rfl wz ?_
        rcases cond_some h_51 with⟨hc_55,h_51⟩ | ⟨hc_55,h_51⟩
        ·refine h_movb rfl hc_55 wz (h_skipz (h_skipz (h_skipz (h_skipz (h_skipz (h_opz (vB true) (h_opz (vB true) (h_skipz (h_skipz (h_skipz (h_skipz (h_skipz (h_opz (vB true) (h_opz (vB true) (h_skipz (h_skipz (h_skipz (h_skipz (h_skipz (h_skipz (h_skipz (h_opz (vB true) (h_nil ?_)))))))))))))))))))))))
         obtain rfl:=some_inj h_51
         exact cu
        ·refine h_movb rfl hc_55 wz (h_far pl65_0 rfl 0 rfl wa (h_ldr 0 3 il ft sz9 ag9 rfl rfl (vS x_41.Player) rfl wa (h_far pl65_0 rfl 0 rfl wa (h_ldr 0 2 il ft sz9 ag9 rfl rfl (vS x_27.Player) rfl wa (h_op (vB (sNe x_41.Player x_27.Player)) wa rfl (h_opz (vB (sNe x_41.Player x_27.Player)) ?_))))))
         rcases cond_some h_51 with⟨hc_56,h_51⟩ | ⟨hc_56,h_51⟩
         ·refine h_movb rfl hc_56 wz (h_skipz (h_skipz (h_skipz (h_skipz (h_skipz (h_opz (vB true) (h_opz (vB true) (h_skipz (h_skipz (h_skipz (h_skipz (h_skipz (h_skipz (h_skipz (h_opz (vB true) (h_nil ?_))))))))))))))))
          obtain rfl:=some_inj h_51
          exact cu
         ·refine h_movb rfl hc_56 wz (h_far pl65_1 rfl 1 rfl wa (h_ldr 0 3 il ft sz9 ag9 rfl rfl (vS x_41.Item) rfl wa (h_far pl65_1 rfl 1 rfl wa (h_ldr 0 2 il ft sz9 ag9 rfl rfl (vS x_27.Item) rfl wa (h_op (vB (sNe x_41.Item x_27.Item)) wa rfl (h_opz (vB (sNe x_41.Item x_27.Item)) ?_))))))
          rcases cond_some h_51 with⟨hc_57,h_51⟩ | ⟨hc_57,h_51⟩
          ·refine h_movb rfl hc_57 wz (h_skipz (h_skipz (h_skipz (h_skipz (h_skipz (h_skipz (h_skipz (h_opz (vB true) (h_nil ?_)))))))))
           obtain rfl:=some_inj h_51
           exact cu
          ·refine h_movb rfl hc_57 wz (h_far pl65_2 rfl 2 rfl wa (h_ldr 0 3 il ft sz3 ag3 rfl rfl (vI x_41.At) rfl wa (h_far pl65_2 rfl 2 rfl wa (h_ldr 0 2 il ft sz3 ag3 rfl rfl (vI x_27.At) rfl wa ?_))))
           obtain ⟨r_58,hr_59,h_51⟩:=bind_some h_51
           refine h_call0 (proof_apart_ok hr_59) rfl hb37 rfl rfl rfl rfl wa (h_op (vI most_3) wa rfl (h_op (vB (decide (r_58 > most_3))) wa rfl (h_opz (vB (decide (r_58 > most_3))) (h_nil ?_))))
           obtain rfl:=some_inj h_51
           exact cu
       ·rintro ⟨⟩ _ sl_ H_ hp_ hq_
        refine wH_at _ hp_ hq_ ?_
        rcases cond_some hc_45 with⟨hc_60,hc_45⟩ | ⟨hc_60,hc_45⟩
        ·refine wH_ift rfl hc_60 (wH_exit (wH_region (h_opw (w64_next hD_42 hn_43) wz rfl (h_opz (vI ((k_39 + 1:Nat):Int)) (h_nil ?_)))))
         obtain rfl:=some_inj hc_45
         exact loop_mk (k_39 + 1,l_40,s_44) ⟨hL_46,drop_next hD_42⟩ (Nat.lt_succ_self _) rfl (pre_r rfl)
        ·refine wH_iff rfl hc_60 (wH_skip (wH_seq ?_))
         obtain ⟨v_61,h_62,hc_45⟩:=bind_some hc_45
         refine wH_joinU [(1,(vL Play.enc havev_2)),(2,(vI most_3)),(12,(vV n_24 1 s_30.1)),(13,(gV n_33 2 s_30.2)),(14,(vI (k_25:Int))),(15,(.ref n_38 0 0)),(16,(vI s_44)),(17,(vI (k_39:Int))),(39,(vL Play.enc want_1)),(40,(vI (want_1.length:Int))),(41,(vI (k_25:Int))),(46,(vL Play.enc havev_2)),(47,(vI (havev_2.length:Int))),(48,(vI (k_39:Int))),(97,(vB v_61))] [(n_24,some (bV 1 eB s_30.1)),(n_33,gB 2 Match.enc s_30.2),(n_38,some (.cells 4 (Play.v x_27))),(n_49,some (.cells 4 (Play.v x_41)))] ?_ ?_
         ·refine wH_draws (h_opz (vI s_44) (h_opz (vB (decide (s_44 < 0))) ?_))
          rcases cond_some h_62 with⟨hc_63,h_62⟩ | ⟨hc_63,h_62⟩
          ·refine h_movb rfl hc_63 wz (h_skipz (h_skipz (h_skipz (h_skipz (h_skipz (h_skipz (h_skipz (h_skipz (h_skipz (h_skipz (h_skipz (h_skipz (h_skipz (h_skipz (h_opz (vB true) (h_nil ?_))))))))))))))))
           obtain rfl:=some_inj h_62
           exact cu
          ·refine h_movb rfl hc_63 wz (h_far pl65_2 rfl 2 rfl wa (h_ldr 4 3 (.inr (by kernel_rfl)) (fun _ _ ag=>trivial) sz3 ag3 rfl rfl (vI x_41.At) rfl wa (h_far pl65_2 rfl 2 rfl wa (h_ldr 6 2 (.inr (by kernel_rfl)) (fun _ _ ag=>⟨.inl ⟨rfl,rfl⟩,trivial⟩) sz3 ag3 rfl rfl (vI x_27.At) rfl wa ?_))))
           obtain ⟨r_64,hr_65,h_62⟩:=bind_some h_62
           refine h_call0 (proof_apart_ok hr_65) rfl hb37 rfl rfl rfl rfl wa (h_op (vL Play.enc havev_2) wa rfl (h_op (vI s_44) wa rfl ?_))
           obtain ⟨y_66,hy_67,h_62⟩:=bind_some h_62
           refine h_ia es26 rfl rfl hy_67 rfl wa (h_fac pl65_2 rfl [.int .i64 y_66.At,.int .i64 y_66.Long] rfl rfl wa (h_ldc sz3 ag3 rfl (vI y_66.At) rfl wa (h_far pl65_2 rfl 2 rfl wa (h_ldr 14 2 (.inr (by kernel_rfl)) (fun _ _ ag=>⟨.inl ⟨rfl,rfl⟩,⟨.inl ⟨rfl,rfl⟩,trivial⟩⟩) sz3 ag3 rfl rfl (vI x_27.At) rfl wa ?_))))
           obtain ⟨r_68,hr_69,h_62⟩:=bind_some h_62
           refine h_call0 (proof_apart_ok hr_69) rfl hb37 rfl rfl rfl rfl wa (h_op (vB (decide (r_64 < r_68))) wa rfl (h_opz (vB (decide (r_64 < r_68))) (h_nil ?_)))
           obtain rfl:=some_inj h_62
           exact cu
         ·rintro ⟨⟩ _ sl_ H_ hp_ hq_
          refine wH_at _ hp_ hq_ ?_
          obtain ⟨v_70,h_71,hc_45⟩:=bind_some hc_45
          refine wH_joinU [(1,(vL Play.enc havev_2)),(2,(vI most_3)),(12,(vV n_24 1 s_30.1)),(13,(gV n_33 2 s_30.2)),(14,(vI (k_25:Int))),(15,(.ref n_38 0 0)),(16,(vI v_70)),(39,(vL Play.enc want_1)),(40,(vI (want_1.length:Int))),(41,(vI (k_25:Int))),(46,(vL Play.enc havev_2)),(47,(vI (havev_2.length:Int))),(48,(vI (k_39:Int)))] [(n_24,some (bV 1 eB s_30.1)),(n_33,gB 2 Match.enc s_30.2),(n_38,some (.cells 4 (Play.v x_27))),(n_49,some (.cells 4 (Play.v x_41)))] ?_ ?_
          ·rcases cond_some h_71 with⟨hc_72,h_71⟩ | ⟨hc_72,h_71⟩
           ·refine wH_ift rfl hc_72 (wH_region (h_opz (vI (k_39:Int)) (h_opz (vI (k_39:Int)) (h_nil ?_))))
            obtain rfl:=some_inj h_71
            exact cu
           ·refine wH_iff rfl hc_72 (wH_skip ?_)
            obtain rfl:=some_inj h_71
            exact cu
          ·rintro ⟨⟩ _ sl_ H_ hp_ hq_
           refine wH_at _ hp_ hq_ (wH_region (h_opw (w64_next hD_42 hn_43) wz rfl (h_opz (vI ((k_39 + 1:Nat):Int)) (h_nil ?_))))
           obtain rfl:=some_inj hc_45
           exact loop_mk (k_39 + 1,l_40,v_70) ⟨hL_46,drop_next hD_42⟩ (Nat.lt_succ_self _) rfl (pre_r rfl)
     ·rintro s_44 ho_ sl_ H_ hp_ hq_
      subst ho_
      refine wH_at _ hp_ hq_ (wH_seq (wH_sr (h_opz (vI s_44) (h_opz (vB (decide (s_44≥0))) (h_nil ?_)))))
      obtain ⟨v_73,h_74,hc_34⟩:=bind_some hc_34
      refine wH_joinU [(1,(vL Play.enc havev_2)),(2,(vI most_3)),(12,(vV n_24 1 v_73)),(13,(gV n_33 2 s_30.2)),(14,(vI (k_25:Int))),(16,(vI s_44)),(39,(vL Play.enc want_1)),(40,(vI (want_1.length:Int))),(41,(vI (k_25:Int)))] [(n_24,some (bV 1 eB v_73)),(n_33,gB 2 Match.enc s_30.2),(n_38,some (.cells 4 (Play.v x_27)))] ?_ ?_
      ·rcases cond_some h_74 with⟨hc_75,h_74⟩ | ⟨hc_75,h_74⟩
       ·refine wH_ift rfl hc_75 (wH_region (h_opz (vV n_24 1 s_30.1) (h_opz (vI s_44) ?_)))
        obtain ⟨_,hi_76,h_74⟩:=bind_some h_74
        refine h_iav es75 rfl rfl (inR_0 hi_76) (inR_lt hi_76) wz ?_
        obtain ⟨e_77,hy_78,h_74⟩:=bind_some h_74
        refine h_stv 0 il ft 0 sz4 rfl rfl hy_78 true rfl wz (h_re (v':=(vV n_24 1 (s_30.1.set (0 + (s_44).toNat) true))) 12 rfl (vV_len (by simp)) (h_re (v':=(vV n_24 1 (s_30.1.set (0 + (s_44).toNat) true))) 102 rfl (vV_len (by simp)) (h_nil ?_)))
        obtain rfl:=some_inj h_74
        exact cu
       ·refine wH_iff rfl hc_75 (wH_skip ?_)
        obtain rfl:=some_inj h_74
        exact cu
      ·rintro ⟨⟩ _ sl_ H_ hp_ hq_
       refine wH_at _ hp_ hq_ (wH_region (h_opz (gV n_33 2 s_30.2) (h_opz (vI (k_25:Int)) (h_opz (vI s_44) (h_op (.d (.agg (Match.enc (⟨(k_25:Int),s_44⟩:Match)))) wz (by kernel_rfl) (h_lit (([(⟨(k_25:Int),s_44⟩:Match)]:List Match).map Match.enc) es41 ez41 rfl rfl rfl rfl rfl wz ?_))))))
       obtain ⟨a_79,hz_80,hc_34⟩:=bind_some hc_34
       refine h_appg 0 il ft (i:=1) el41 el41 sz59 z59 rfl (by decide) by59 (by decide) (fun _=>rfl) rfl rfl rfl hz_80 wz (fun n_81=>h_opz (gV n_81 2 a_79) (h_nil (wH_region (h_opw (w64_next hD_28 hn_29) wz rfl (h_opz (vI ((k_25 + 1:Nat):Int)) (h_nil ?_))))))
       obtain rfl:=some_inj hc_34
       exact loop_mk (k_25 + 1,l_26,(v_73,a_79),n_81) ⟨hL_35,drop_next hD_28⟩ (Nat.lt_succ_self _) rfl (pre_r rfl)
   ·rintro ⟨s_30,n_33⟩ ho_ sl_ H_ hp_ hq_
    subst ho_
    refine wH_at _ hp_ hq_ (wH_sr (h_opz .nil (h_nil (wH_seq (wH_sr (h_opz (vV n_24 1 s_30.1) (h_lenw un75 rfl wz (h_opz (vI 0) (h_nil (wH_froz 0 rfl (wH_co 12 0 rfl rfl (wH_co 112 0 rfl rfl (wH_new (fun n_88 => ?_))))))))))))))
    obtain ⟨o_93,hj_94,hF⟩:=bind_some hF
    obtain ⟨hn_86,hj_94⟩:=forL_some hj_94
    refine wH_loopF (σ:=(List Int)) (N:=Nm) (fun p=>(fun (s_87:(List Int)) (n_90:Nm)=>([(13,(gV n_33 2 s_30.2)),(19,(gV n_90 1 s_87))]:List (Nat×V))) p.1 p.2) (fun p=>(fun (s_87:(List Int)) (n_90:Nm)=>([(n_24,some (bF 1 eB s_30.1)),(n_33,gB 2 Match.enc s_30.2),(n_90,gB 1 eI s_87)]:Hp)) p.1 p.2) (fun (k_82:Nat)=>(fun p=>(fun (s_87:(List Int)) (n_90:Nm)=>([(13,(gV n_33 2 s_30.2)),(19,(gV n_90 1 s_87)),(112,(vL eB s_30.1)),(113,(vI (s_30.1.length:Int))),(114,(vI (k_82:Int)))]:List (Nat×V))) p.1 p.2)) (fun k x s=>proof_Compare_L4 k x s) o_93 s_30.1 (([]:List Int),n_88) hj_94 rfl (pre_r rfl) ?_ ?_
    ·rintro ⟨k_82,l_83,s_87,n_90⟩ ⟨hL_92,hD_85⟩
     dsimp only at hL_92 hD_85
     cases l_83 with
     | nil =>
      obtain rfl:=some_inj hL_92
      refine wH_sr (h_opz (vB (decide ((k_82:Int) < (s_30.1.length:Int)))) (h_nil ?_))
      refine wH_seq (wH_iff rfl (drop_nil hD_85) (wH_exit ?_))
      exact cut_mk (s_87,n_90) rfl rfl (pre_r rfl)
     | cons x_84 l_83 =>
      obtain ⟨c_,hc_91,hL_92⟩:=bind_some hL_92
      refine wH_sr (h_opz (vB (decide ((k_82:Int) < (s_30.1.length:Int)))) (h_nil ?_))
      refine wH_seq (wH_ift rfl (drop_cons hD_85) (wH_skip ?_))
      unfold proof_Compare_L4 at hc_91
      refine wH_seq (wH_block (wH_sr (h_opz (vI (k_82:Int)) (h_ia es75 rfl rfl (drop_idx hD_85) rfl wz (h_ldc sz4 ag4 rfl (vB x_84) rfl wz (h_opz (vI (k_82:Int)) (h_opz (vB x_84) (h_nil (wH_sr (h_opz (vB x_84) (h_opz (vB (!x_84)) (h_nil ?_))))))))))))
      obtain ⟨v_95,h_96,hc_91⟩:=bind_some hc_91
      refine wH_join (β:=Nm) (fun (n_97:Nm)=>([(13,(gV n_33 2 s_30.2)),(19,(gV n_97 1 v_95)),(112,(vL eB s_30.1)),(113,(vI (s_30.1.length:Int))),(114,(vI (k_82:Int)))]:List (Nat×V))) (fun (n_97:Nm)=>([(n_24,some (bF 1 eB s_30.1)),(n_33,gB 2 Match.enc s_30.2),(n_97,gB 1 eI v_95)]:Hp)) (fun _=>True) ?_ ?_
      ·rcases cond_some h_96 with⟨hc_98,h_96⟩ | ⟨hc_98,h_96⟩
       ·refine wH_ift rfl hc_98 (wH_region (h_opz (gV n_90 1 s_87) (h_opz (vI (k_82:Int)) (h_lit (([(k_82:Int)]:List Int).map eI) es22 ez22 rfl rfl rfl rfl rfl wz ?_))))
        obtain ⟨a_99,hz_100,h_96⟩:=bind_some h_96
        refine h_appg 0 il ft (i:=2) el22 el22 sz3 z3 rfl (by decide) by3 (by decide) (fun _=>rfl) rfl rfl rfl hz_100 wz (fun n_101=>h_opz (gV n_101 1 a_99) (h_nil ?_))
        obtain rfl:=some_inj h_96
        exact cut_mk n_101 trivial rfl (pre_r rfl)
       ·refine wH_iff rfl hc_98 (wH_skip ?_)
        obtain rfl:=some_inj h_96
        exact cut_mk n_90 trivial rfl (pre_r rfl)
      ·rintro n_97 _ sl_ H_ hp_ hq_
       refine wH_at _ hp_ hq_ (wH_region (h_opw (w64_next hD_85 hn_86) wz rfl (h_opz (vI ((k_82 + 1:Nat):Int)) (h_nil ?_))))
       obtain rfl:=some_inj hc_91
       exact loop_mk (k_82 + 1,l_83,v_95,n_97) ⟨hL_92,drop_next hD_85⟩ (Nat.lt_succ_self _) rfl (pre_r rfl)
    ·rintro ⟨s_87,n_90⟩ ho_ sl_ H_ hp_ hq_
     subst ho_
     refine wH_at _ hp_ hq_ (wH_sr (h_opz (gV n_33 2 s_30.2) (h_opz (gV n_90 1 s_87) (h_opz (gV n_33 2 s_30.2) (h_opz (gV n_90 1 s_87) (h_opz (vI 0) (h_nil (wH_frozg 1 rfl (wH_cog 6 1 rfl rfl (wH_cog 13 1 rfl rfl (wH_cog 126 1 rfl rfl (wH_frozg 2 rfl (wH_cog 7 2 rfl rfl (wH_cog 19 2 rfl rfl (wH_cog 127 2 rfl rfl ?_)))))))))))))))
     obtain rfl:=some_inj hF
     exact wH_ret (fin0r [(vL Match.enc s_30.2),(vL eI s_87),(vI 0)] ⟨rfl,⟨rfl,⟨rfl,trivial⟩⟩⟩)
theorem ref_in_ok {n_1:Int} {low_2:Int} {high_3:Int} {r:Bool} (hF:ref_in n_1 low_2 high_3=some r) :
  FnM Try.prog 42 [(vI n_1),(vI low_2),(vI high_3)] [] (vB r) []:=by
 refine FnM.of_wH ⟨Try.prog,15,[],[]⟩ rfl Try.func42 rfl rfl (Nat.le_of_ble_eq_true rfl) (by kernel_rfl) ?_
 unfold ref_in at hF
 refine wH_sr (h_opz (vB false) (h_nil (wH_seq ?_)))
 obtain ⟨v_4,h_5,hF⟩:=bind_some hF
 refine wH_joinU [(6,(vB v_4))] [] ?_ ?_
 ·refine wH_region (h_opz (vI low_2) (h_opz (vI n_1) (h_opz (vB (decide (low_2≤n_1))) ?_)))
  rcases cond_some h_5 with⟨hc_6,h_5⟩ | ⟨hc_6,h_5⟩
  ·refine h_movb rfl hc_6 wz (h_op (vI n_1) wa rfl (h_op (vI high_3) wa rfl (h_op (vB (decide (n_1≤high_3))) wa rfl (h_opz (vB (decide (n_1≤high_3))) (h_opz (vB (decide (n_1≤high_3))) (h_nil ?_))))))
   obtain rfl:=some_inj h_5
   exact cu
  ·refine h_movb rfl hc_6 wz (h_skipz (h_skipz (h_skipz (h_opz (vB false) (h_opz (vB false) (h_nil ?_))))))
   obtain rfl:=some_inj h_5
   exact cu
 ·rintro ⟨⟩ _ sl_ H_ hp_ hq_
  refine wH_at _ hp_ hq_ ?_
  obtain rfl:=some_inj hF
  exact wH_ret (fin0r [(vB v_4)] ⟨rfl,trivial⟩)
theorem internal_stringslite_IndexByte_ok {s_1:ByteArray} {c_2:Int} {r:Int} (hF:internal_stringslite_IndexByte s_1 c_2=some r) :
  FnM Try.prog 77 [(vS s_1),(.d (.int .u8 c_2))] [] (vI r) []:=by
 refine FnM.of_wH ⟨Try.prog,8,[],[]⟩ rfl Try.func77 rfl rfl (Nat.le_of_ble_eq_true rfl) (by kernel_rfl) ?_
 unfold internal_stringslite_IndexByte at hF
 refine wH_sr (h_opz (vI 0) (h_nil (wH_sr (h_opz (vS s_1) (h_opz (.d (.int .u8 c_2)) (h_ext (ext_ixB (f:=87) Try.func87 rfl rfl (by kernel_rfl) (by kernel_rfl) _ _) rfl nb87 rfl wz (h_opz (vI (ixB s_1 c_2)) (h_nil ?_))))))))
 obtain rfl:=some_inj hF
 exact wH_ret (fin0r [(vI (ixB s_1 c_2))] ⟨rfl,trivial⟩)
theorem strings_IndexByte_ok {s_1:ByteArray} {c_2:Int} {r:Int} (hF:strings_IndexByte s_1 c_2=some r) :
  FnM Try.prog 61 [(vS s_1),(.d (.int .u8 c_2))] [] (vI r) []:=by
 refine FnM.of_wH ⟨Try.prog,8,[],[]⟩ rfl Try.func61 rfl rfl (Nat.le_of_ble_eq_true rfl) (by kernel_rfl) ?_
 unfold strings_IndexByte at hF
 refine wH_sr (h_opz (vI 0) (h_nil (wH_sr (h_opz (vS s_1) (h_opz (.d (.int .u8 c_2)) ?_)))))
 obtain ⟨r_3,hr_4,hF⟩:=bind_some hF
 refine h_call0 (internal_stringslite_IndexByte_ok hr_4) rfl hb77 rfl rfl rfl rfl wz (h_opz (vI r_3) (h_nil ?_))
 obtain rfl:=some_inj hF
 exact wH_ret (fin0r [(vI r_3)] ⟨rfl,trivial⟩)
theorem ref_only_ok {s_1:ByteArray} {somev_2:ByteArray} {r:Bool} (hF:ref_only s_1 somev_2=some r) :
  FnM Try.prog 43 [(vS s_1),(vS somev_2)] [] (vB r) []:=by
 refine FnM.of_wH ⟨Try.prog,18,[],[]⟩ rfl Try.func43 rfl rfl (Nat.le_of_ble_eq_true rfl) (by kernel_rfl) ?_
 unfold ref_only at hF
 refine wH_sr (h_opz (vB false) (h_nil (wH_seq (wH_sr (h_opz (vS s_1) (h_lens un9 rfl wz (h_opz (vI 0) (h_nil ?_))))))))
 obtain ⟨o_11,hj_12,hF⟩:=bind_some hF
 obtain ⟨hn_7,hj_12⟩:=forL_some hj_12
 refine wH_loopF0 (fun (s_8:Unit) => []) (fun (s_8:Unit) => []) (fun (k_3:Nat)=>(fun (s_8:Unit) => [(0,(vS s_1)),(1,(vS somev_2)),(7,(vI (s_1.size:Int))),(8,(vI (k_3:Int)))])) (fun k x s=>ref_only_L1 s_1 somev_2 k x s) o_11 (List.range ((s_1.size:Int)).toNat) () hj_12 rfl (pre_r rfl) ?_ ?_
 ·rintro ⟨k_3,l_4,s_8⟩ ⟨hL_10,hD_6⟩
  dsimp only at hL_10 hD_6
  cases l_4 with
  | nil =>
   obtain rfl:=some_inj hL_10
   refine wH_sr (h_opz (vB (decide ((k_3:Int) < (s_1.size:Int)))) (h_nil ?_))
   refine wH_seq (wH_iff rfl (range_nil hD_6) (wH_exit ?_))
   exact cut_mk (s_8) rfl rfl (pre_r rfl)
  | cons x_5 l_4 =>
   obtain ⟨c_,hc_9,hL_10⟩:=bind_some hL_10
   refine wH_sr (h_opz (vB (decide ((k_3:Int) < (s_1.size:Int)))) (h_nil ?_))
   refine wH_seq (wH_ift rfl (range_cons hD_6) (wH_skip ?_))
   unfold ref_only_L1 at hc_9
   refine wH_seq (wH_block (wH_sr (h_opz (vI (k_3:Int)) (h_opz (vI (k_3:Int)) (h_nil (wH_sr (h_opz (vS somev_2) (h_opz (vS s_1) (h_opz (vI (k_3:Int)) ?_)))))))))
   obtain ⟨b_13,hy_14,hc_9⟩:=bind_some hc_9
   refine h_idxs un9 rfl rfl hy_14 wz ?_
   obtain ⟨r_15,hr_16,hc_9⟩:=bind_some hc_9
   refine h_call0 (strings_IndexByte_ok hr_16) rfl hb61 rfl rfl rfl rfl wz (h_opz (vB (decide (r_15 < 0))) (h_nil ?_))
   rcases cond_some hc_9 with⟨hc_17,hc_9⟩ | ⟨hc_17,hc_9⟩
   ·refine wH_ift rfl hc_17 (wH_sr (h_opz (vB false) (h_nil ?_)))
    obtain rfl:=some_inj hc_9
    obtain rfl:=some_inj hL_10
    obtain rfl:=some_inj hF
    exact wH_ret (fin0r [(vB false)] ⟨rfl,trivial⟩)
   ·refine wH_iff rfl hc_17 (wH_skip (wH_region (h_opw (w64_nextr hD_6 hn_7) wz rfl (h_opz (vI ((k_3 + 1:Nat):Int)) (h_nil ?_)))))
    obtain rfl:=some_inj hc_9
    exact loop_mk (k_3 + 1,l_4,()) ⟨hL_10,drop_next hD_6⟩ (Nat.lt_succ_self _) rfl (pre_r rfl)
 ·rintro s_8 ho_ sl_ H_ hp_ hq_
  subst ho_
  refine wH_at _ hp_ hq_ (wH_sr (h_opz (vB true) (h_nil ?_)))
  obtain rfl:=some_inj hF
  exact wH_ret (fin0r [(vB true)] ⟨rfl,trivial⟩)
theorem ref_Key_ok {s_1:ByteArray} {r:Bool} (hF:ref_Key s_1=some r) :
  FnM Try.prog 16 [(vS s_1)] [] (vB r) []:=by
 refine FnM.of_wH ⟨Try.prog,15,[],[]⟩ rfl Try.func16 rfl rfl (Nat.le_of_ble_eq_true rfl) (by kernel_rfl) ?_
 unfold ref_Key at hF
 refine wH_sr (h_opz (vB false) (h_nil (wH_seq ?_)))
 obtain ⟨v_2,h_3,hF⟩:=bind_some hF
 refine wH_joinU [(2,(vB v_2))] [] ?_ ?_
 ·refine wH_region (h_opz (vS s_1) (h_lens un9 rfl wz ?_))
  obtain ⟨r_4,hr_5,h_3⟩:=bind_some h_3
  refine h_call0 (ref_in_ok hr_5) rfl hb42 rfl rfl rfl rfl wz ?_
  rcases cond_some h_3 with⟨hc_6,h_3⟩ | ⟨hc_6,h_3⟩
  ·refine h_movb rfl hc_6 wz (h_op (vS s_1) wa rfl ?_)
   obtain ⟨y_7,hy_8,h_3⟩:=bind_some h_3
   refine h_subFalseTrue un9 rfl rfl hy_8 wa ?_
   obtain ⟨r_9,hr_10,h_3⟩:=bind_some h_3
   refine h_call0 (ref_only_ok hr_10) rfl hb43 rfl rfl rfl rfl wa (h_opz (vB r_9) ?_)
   rcases cond_some h_3 with⟨hc_11,h_3⟩ | ⟨hc_11,h_3⟩
   ·refine h_movb rfl hc_11 wz (h_op (vS s_1) wa rfl ?_)
    obtain ⟨r_12,hr_13,h_3⟩:=bind_some h_3
    refine h_call0 (ref_only_ok hr_13) rfl hb43 rfl rfl rfl rfl wa (h_opz (vB r_12) (h_opz (vB r_12) (h_nil ?_)))
    obtain rfl:=some_inj h_3
    exact cu
   ·refine h_movb rfl hc_11 wz (h_skipz (h_skipz (h_opz (vB false) (h_opz (vB false) (h_nil ?_)))))
    obtain rfl:=some_inj h_3
    exact cu
  ·refine h_movb rfl hc_6 wz (h_skipz (h_skipz (h_skipz (h_opz (vB false) (h_opz (vB false) (h_skipz (h_skipz (h_opz (vB false) (h_opz (vB false) (h_nil ?_))))))))))
   obtain rfl:=some_inj h_3
   exact cu
 ·rintro ⟨⟩ _ sl_ H_ hp_ hq_
  refine wH_at _ hp_ hq_ ?_
  obtain rfl:=some_inj hF
  exact wH_ret (fin0r [(vB v_2)] ⟨rfl,trivial⟩)
theorem ref_Moment_ok {atv_1:Int} {r:Bool} (hF:ref_Moment atv_1=some r) :
  FnM Try.prog 60 [(vI atv_1)] [] (vB r) []:=by
 refine FnM.of_wH ⟨Try.prog,5,[],[]⟩ rfl Try.func60 rfl rfl (Nat.le_of_ble_eq_true rfl) (by kernel_rfl) ?_
 unfold ref_Moment at hF
 refine wH_sr (h_opz (vB false) (h_nil (wH_sr (h_opz (vI atv_1) ?_))))
 obtain ⟨r_2,hr_3,hF⟩:=bind_some hF
 refine h_call0 (ref_in_ok hr_3) rfl hb42 rfl rfl rfl rfl wz (h_opz (vB r_2) (h_nil ?_))
 obtain rfl:=some_inj hF
 exact wH_ret (fin0r [(vB r_2)] ⟨rfl,trivial⟩)
theorem ref_PlayedFault_ok {l_1:(List Play)} {r:Int} (hF:ref_PlayedFault l_1=some r) :
  FnM Try.prog 38 [(vL Play.enc l_1)] [] (vI r) []:=by
 refine FnM.of_wH ⟨Try.prog,37,[],[]⟩ rfl Try.func38 rfl rfl (Nat.le_of_ble_eq_true rfl) (by kernel_rfl) ?_
 unfold ref_PlayedFault at hF
 refine wH_sr (h_opz (vI 0) (h_nil (wH_seq (wH_sr (h_opz (vL Play.enc l_1) (h_len un26 rfl wz (h_opz (vB (decide ((l_1.length:Int) > 3000))) (h_nil ?_))))))))
 rcases cond_some hF with⟨hc_2,hF⟩ | ⟨hc_2,hF⟩
 ·refine wH_ift rfl hc_2 (wH_sr (h_opz (vI 2) (h_nil ?_)))
  obtain rfl:=some_inj hF
  exact wH_ret (fin0r [(vI 2)] ⟨rfl,trivial⟩)
 ·refine wH_iff rfl hc_2 (wH_skip (wH_seq (wH_sr (h_opz (vL Play.enc l_1) (h_len un26 rfl wz (h_opz (vI 0) (h_nil ?_)))))))
  obtain ⟨o_11,hj_12,hF⟩:=bind_some hF
  obtain ⟨hn_7,hj_12⟩:=forL_some hj_12
  refine wH_loopF0 (fun (s_8:Unit) => []) (fun (s_8:Unit) => []) (fun (k_3:Nat)=>(fun (s_8:Unit) => [(8,(vL Play.enc l_1)),(9,(vI (l_1.length:Int))),(10,(vI (k_3:Int)))])) (fun k x s=>ref_PlayedFault_L1 k x s) o_11 l_1 () hj_12 rfl (pre_r rfl) ?_ ?_
  ·rintro ⟨k_3,l_4,s_8⟩ ⟨hL_10,hD_6⟩
   dsimp only at hL_10 hD_6
   cases l_4 with
   | nil =>
    obtain rfl:=some_inj hL_10
    refine wH_sr (h_opz (vB (decide ((k_3:Int) < (l_1.length:Int)))) (h_nil ?_))
    refine wH_seq (wH_iff rfl (drop_nil hD_6) (wH_exit ?_))
    exact cut_mk (s_8) rfl rfl (pre_r rfl)
   | cons x_5 l_4 =>
    obtain ⟨c_,hc_9,hL_10⟩:=bind_some hL_10
    refine wH_sr (h_opz (vB (decide ((k_3:Int) < (l_1.length:Int)))) (h_nil ?_))
    refine wH_seq (wH_ift rfl (drop_cons hD_6) (wH_skip ?_))
    unfold ref_PlayedFault_L1 at hc_9
    refine wH_seq (wH_block (wH_sr (h_ia es26 rfl rfl (drop_idx hD_6) rfl wz (h_ldc sz65 ag65 rfl (.d (.agg (Play.enc x_5))) rfl wz (h_alloc 0 (.inl rfl) z65 rfl wz (fun n_13=>h_str 0 il ft 0 sz65 rfl rfl (Play.v x_5) rfl wz (h_nil (wH_block (wH_seq ?_)))))))))
    obtain ⟨v_14,h_15,hc_9⟩:=bind_some hc_9
    refine wH_joinU [(4,(.ref n_13 0 0)),(8,(vL Play.enc l_1)),(9,(vI (l_1.length:Int))),(10,(vI (k_3:Int))),(14,(vB v_14))] [(n_13,some (.cells 4 (Play.v x_5)))] ?_ ?_
    ·refine wH_region (h_far pl65_0 rfl 0 rfl wz (h_ldr 0 0 il ft sz9 ag9 rfl rfl (vS x_5.Player) rfl wz ?_))
     obtain ⟨r_16,hr_17,h_15⟩:=bind_some h_15
     refine h_call0 (ref_Key_ok hr_17) rfl hb16 rfl rfl rfl rfl wz (h_opz (vB (!r_16)) ?_)
     rcases cond_some h_15 with⟨hc_18,h_15⟩ | ⟨hc_18,h_15⟩
     ·refine h_movb rfl hc_18 wz (h_skipz (h_skipz (h_skipz (h_skipz (h_opz (vB true) (h_opz (vB true) (h_nil ?_)))))))
      obtain rfl:=some_inj h_15
      exact cu
     ·refine h_movb rfl hc_18 wz (h_far pl65_1 rfl 1 rfl wa (h_ldr 0 0 il ft sz9 ag9 rfl rfl (vS x_5.Item) rfl wa ?_))
      obtain ⟨r_19,hr_20,h_15⟩:=bind_some h_15
      refine h_call0 (ref_Key_ok hr_20) rfl hb16 rfl rfl rfl rfl wa (h_op (vB (!r_19)) wa rfl (h_opz (vB (!r_19)) (h_opz (vB (!r_19)) (h_nil ?_))))
      obtain rfl:=some_inj h_15
      exact cu
    ·rintro ⟨⟩ _ sl_ H_ hp_ hq_
     refine wH_at _ hp_ hq_ ?_
     rcases cond_some hc_9 with⟨hc_21,hc_9⟩ | ⟨hc_21,hc_9⟩
     ·refine wH_ift rfl hc_21 (wH_sr (h_opz (vI 5) (h_nil ?_)))
      obtain rfl:=some_inj hc_9
      obtain rfl:=some_inj hL_10
      obtain rfl:=some_inj hF
      exact wH_ret (fin0r [(vI 5)] ⟨rfl,trivial⟩)
     ·refine wH_iff rfl hc_21 (wH_seq ?_)
      obtain ⟨v_22,h_23,hc_9⟩:=bind_some hc_9
      refine wH_joinU [(8,(vL Play.enc l_1)),(9,(vI (l_1.length:Int))),(10,(vI (k_3:Int))),(25,(vB v_22))] [(n_13,some (.cells 4 (Play.v x_5)))] ?_ ?_
      ·refine wH_region (h_far pl65_2 rfl 2 rfl wz (h_ldr 0 0 il ft sz3 ag3 rfl rfl (vI x_5.At) rfl wz ?_))
       obtain ⟨r_24,hr_25,h_23⟩:=bind_some h_23
       refine h_call0 (ref_Moment_ok hr_25) rfl hb60 rfl rfl rfl rfl wz (h_opz (vB (!r_24)) ?_)
       rcases cond_some h_23 with⟨hc_26,h_23⟩ | ⟨hc_26,h_23⟩
       ·refine h_movb rfl hc_26 wz (h_skipz (h_skipz (h_skipz (h_skipz (h_opz (vB true) (h_opz (vB true) (h_nil ?_)))))))
        obtain rfl:=some_inj h_23
        exact cu
       ·refine h_movb rfl hc_26 wz (h_far pl65_3 rfl 3 rfl wa (h_ldr 0 0 il ft sz3 ag3 rfl rfl (vI x_5.Long) rfl wa ?_))
        obtain ⟨r_27,hr_28,h_23⟩:=bind_some h_23
        refine h_call0 (ref_in_ok hr_28) rfl hb42 rfl rfl rfl rfl wa (h_op (vB (!r_27)) wa rfl (h_opz (vB (!r_27)) (h_opz (vB (!r_27)) (h_nil ?_))))
        obtain rfl:=some_inj h_23
        exact cu
      ·rintro ⟨⟩ _ sl_ H_ hp_ hq_
       refine wH_at _ hp_ hq_ ?_
       rcases cond_some hc_9 with⟨hc_29,hc_9⟩ | ⟨hc_29,hc_9⟩
       ·refine wH_ift rfl hc_29 (wH_sr (h_opz (vI 1) (h_nil ?_)))
        obtain rfl:=some_inj hc_9
        obtain rfl:=some_inj hL_10
        obtain rfl:=some_inj hF
        exact wH_ret (fin0r [(vI 1)] ⟨rfl,trivial⟩)
       ·refine wH_iff rfl hc_29 (wH_skip (wH_region (h_opw (w64_next hD_6 hn_7) wz rfl (h_opz (vI ((k_3 + 1:Nat):Int)) (h_nil ?_)))))
        obtain rfl:=some_inj hc_9
        exact loop_mk (k_3 + 1,l_4,()) ⟨hL_10,drop_next hD_6⟩ (Nat.lt_succ_self _) rfl (pre_r rfl)
  ·rintro s_8 ho_ sl_ H_ hp_ hq_
   subst ho_
   refine wH_at _ hp_ hq_ (wH_sr (h_opz (vI 0) (h_nil ?_)))
   obtain rfl:=some_inj hF
   exact wH_ret (fin0r [(vI 0)] ⟨rfl,trivial⟩)
theorem ref_sign_ok {n_1:Int} {r:Int} (hF:ref_sign n_1=some r) :
  FnM Try.prog 49 [(vI n_1)] [] (vI r) []:=by
 refine FnM.of_wH ⟨Try.prog,9,[],[]⟩ rfl Try.func49 rfl rfl (Nat.le_of_ble_eq_true rfl) (by kernel_rfl) ?_
 unfold ref_sign at hF
 refine wH_sr (h_opz (vI 0) (h_nil (wH_seq (wH_block (wH_sr (h_opz (vI n_1) (h_opz (vB (decide (n_1 < 0))) (h_opz (vB (decide (n_1 < 0))) (h_nil ?_)))))))))
 rcases cond_some hF with⟨hc_2,hF⟩ | ⟨hc_2,hF⟩
 ·refine wH_ift rfl hc_2 (wH_sr (h_opz (vI (-1)) (h_nil ?_)))
  obtain rfl:=some_inj hF
  exact wH_ret (fin0r [(vI (-1))] ⟨rfl,trivial⟩)
 ·refine wH_iff rfl hc_2 (wH_sr (h_opz (vI n_1) (h_opz (vB (decide (n_1 > 0))) (h_opz (vB (decide (n_1 > 0))) (h_nil ?_)))))
  rcases cond_some hF with⟨hc_3,hF⟩ | ⟨hc_3,hF⟩
  ·refine wH_ift rfl hc_3 (wH_sr (h_opz (vI 1) (h_nil ?_)))
   obtain rfl:=some_inj hF
   exact wH_ret (fin0r [(vI 1)] ⟨rfl,trivial⟩)
  ·refine wH_iff rfl hc_3 (wH_skip (wH_sr (h_opz (vI 0) (h_nil ?_))))
   obtain rfl:=some_inj hF
   exact wH_ret (fin0r [(vI 0)] ⟨rfl,trivial⟩)
theorem ref_PlayOrder_ok {a_1:Play} {b_2:Play} {r:Int} (hF:ref_PlayOrder a_1 b_2=some r) :
  FnM Try.prog 39 [(.d (.agg (Play.enc a_1))),(.d (.agg (Play.enc b_2)))] [] (vI r) []:=by
 refine FnM.of_wH ⟨Try.prog,21,[],[]⟩ rfl Try.func39 rfl rfl (Nat.le_of_ble_eq_true rfl) (by kernel_rfl) ?_
 unfold ref_PlayOrder at hF
 refine wH_sr (h_box 0 (.inl rfl) (Play.v a_1) rfl rfl wz (fun n_3=>h_box 0 (.inl rfl) (Play.v b_2) rfl rfl wz (fun n_4=>h_opz (vI 0) (h_nil (wH_seq (wH_sr (h_far pl65_0 rfl 0 rfl wz (h_ldr 0 0 il ft sz9 ag9 rfl rfl (vS a_1.Player) rfl wz (h_far pl65_0 rfl 0 rfl wz (h_ldr 0 1 il ft sz9 ag9 rfl rfl (vS b_2.Player) rfl wz (h_opz (vB (sNe a_1.Player b_2.Player)) (h_nil ?_))))))))))))
 rcases cond_some hF with⟨hc_5,hF⟩ | ⟨hc_5,hF⟩
 ·refine wH_ift rfl hc_5 (wH_sr (h_far pl65_0 rfl 0 rfl wz (h_ldr 0 0 il ft sz9 ag9 rfl rfl (vS a_1.Player) rfl wz (h_far pl65_0 rfl 0 rfl wz (h_ldr 0 1 il ft sz9 ag9 rfl rfl (vS b_2.Player) rfl wz ?_)))))
  obtain ⟨r_6,hr_7,hF⟩:=bind_some hF
  refine h_call0 (strings_Compare_ok hr_7) rfl hb34 rfl rfl rfl rfl wz (h_opz (vI r_6) (h_nil ?_))
  obtain rfl:=some_inj hF
  exact wH_ret (fin0r [(vI r_6)] ⟨rfl,trivial⟩)
 ·refine wH_iff rfl hc_5 (wH_skip (wH_sr (h_far pl65_2 rfl 2 rfl wz (h_ldr 0 0 il ft sz3 ag3 rfl rfl (vI a_1.At) rfl wz (h_far pl65_2 rfl 2 rfl wz (h_ldr 0 1 il ft sz3 ag3 rfl rfl (vI b_2.At) rfl wz (h_opz (vI (w64 (a_1.At - b_2.At))) ?_)))))))
  obtain ⟨r_8,hr_9,hF⟩:=bind_some hF
  refine h_call0 (ref_sign_ok hr_9) rfl hb49 rfl rfl rfl rfl wz (h_opz (vI r_8) (h_nil ?_))
  obtain rfl:=some_inj hF
  exact wH_ret (fin0r [(vI r_8)] ⟨rfl,trivial⟩)
theorem ref_PlaysFault_ok {l_1:(List Play)} {r:Int} (hF:ref_PlaysFault l_1=some r) :
  FnM Try.prog 12 [(vL Play.enc l_1)] [] (vI r) []:=by
 refine FnM.of_wH ⟨Try.prog,35,[],[]⟩ rfl Try.func12 rfl rfl (Nat.le_of_ble_eq_true rfl) (by kernel_rfl) ?_
 unfold ref_PlaysFault at hF
 refine wH_sr (h_opz (vI 0) (h_nil (wH_seq (wH_sr (h_opz (vL Play.enc l_1) (h_len un26 rfl wz (h_opz (vB (decide ((l_1.length:Int) > 3000))) (h_nil ?_))))))))
 rcases cond_some hF with⟨hc_2,hF⟩ | ⟨hc_2,hF⟩
 ·refine wH_ift rfl hc_2 (wH_sr (h_opz (vI 2) (h_nil ?_)))
  obtain rfl:=some_inj hF
  exact wH_ret (fin0r [(vI 2)] ⟨rfl,trivial⟩)
 ·refine wH_iff rfl hc_2 (wH_skip (wH_seq (wH_sr (h_opz (vL Play.enc l_1) (h_len un26 rfl wz (h_opz (vI 0) (h_nil ?_)))))))
  obtain ⟨o_11,hj_12,hF⟩:=bind_some hF
  obtain ⟨hn_7,hj_12⟩:=forL_some hj_12
  refine wH_loopF0 (fun (s_8:Unit) => []) (fun (s_8:Unit) => []) (fun (k_3:Nat)=>(fun (s_8:Unit) => [(0,(vL Play.enc l_1)),(9,(vL Play.enc l_1)),(10,(vI (l_1.length:Int))),(11,(vI (k_3:Int)))])) (fun k x s=>ref_PlaysFault_L1 l_1 k x s) o_11 l_1 () hj_12 rfl (pre_r rfl) ?_ ?_
  ·rintro ⟨k_3,l_4,s_8⟩ ⟨hL_10,hD_6⟩
   dsimp only at hL_10 hD_6
   cases l_4 with
   | nil =>
    obtain rfl:=some_inj hL_10
    refine wH_sr (h_opz (vB (decide ((k_3:Int) < (l_1.length:Int)))) (h_nil ?_))
    refine wH_seq (wH_iff rfl (drop_nil hD_6) (wH_exit ?_))
    exact cut_mk (s_8) rfl rfl (pre_r rfl)
   | cons x_5 l_4 =>
    obtain ⟨c_,hc_9,hL_10⟩:=bind_some hL_10
    refine wH_sr (h_opz (vB (decide ((k_3:Int) < (l_1.length:Int)))) (h_nil ?_))
    refine wH_seq (wH_ift rfl (drop_cons hD_6) (wH_skip ?_))
    unfold ref_PlaysFault_L1 at hc_9
    refine wH_seq (wH_block (wH_sr (h_opz (vI (k_3:Int)) (h_ia es26 rfl rfl (drop_idx hD_6) rfl wz (h_ldc sz65 ag65 rfl (.d (.agg (Play.enc x_5))) rfl wz (h_alloc 0 (.inl rfl) z65 rfl wz (fun n_13=>h_opz (vI (k_3:Int)) (h_str 0 il ft 0 sz65 rfl rfl (Play.v x_5) rfl wz (h_nil (wH_seq (wH_sr (h_ldr 0 0 il ft sz65 ag65 rfl rfl (.d (.agg (Play.enc x_5))) rfl wz (h_lit (([x_5]:List Play).map Play.enc) es26 ez26 rfl rfl rfl rfl rfl wz ?_)))))))))))))
    obtain ⟨r_14,hr_15,hc_9⟩:=bind_some hc_9
    refine h_call0 (ref_PlayedFault_ok hr_15) rfl hb38 rfl rfl rfl rfl wz (h_opz (vI r_14) (h_nil (wH_sr (h_opz (vI r_14) (h_opz (vB (r_14 != 0)) (h_nil ?_))))))
    rcases cond_some hc_9 with⟨hc_16,hc_9⟩ | ⟨hc_16,hc_9⟩
    ·refine wH_ift rfl hc_16 (wH_sr (h_opz (vI r_14) (h_opz (vI r_14) (h_nil ?_))))
     obtain rfl:=some_inj hc_9
     obtain rfl:=some_inj hL_10
     obtain rfl:=some_inj hF
     exact wH_ret (fin0r [(vI r_14)] ⟨rfl,trivial⟩)
    ·refine wH_iff rfl hc_16 (wH_skip (wH_seq ?_))
     obtain ⟨v_17,h_18,hc_9⟩:=bind_some hc_9
     refine wH_joinU [(0,(vL Play.enc l_1)),(9,(vL Play.enc l_1)),(10,(vI (l_1.length:Int))),(11,(vI (k_3:Int))),(33,(vB v_17))] [(n_13,some (.cells 4 (Play.v x_5)))] ?_ ?_
     ·refine wH_draws (h_opz (vI (k_3:Int)) (h_opz (vB (decide ((k_3:Int) > 0))) ?_))
      rcases cond_some h_18 with⟨hc_19,h_18⟩ | ⟨hc_19,h_18⟩
      ·refine h_movb rfl hc_19 wz (h_op (vL Play.enc l_1) wa rfl (h_op (vI (k_3:Int)) wa rfl (h_op (vI (w64 ((k_3:Int) - 1))) wa rfl ?_)))
       obtain ⟨y_20,hy_21,h_18⟩:=bind_some h_18
       refine h_ia es26 rfl rfl hy_21 rfl wa (h_ldc sz65 ag65 rfl (.d (.agg (Play.enc y_20))) rfl wa (h_ldr 8 0 (.inr (by kernel_rfl)) (fun _ _ ag=>trivial) sz65 ag65 rfl rfl (.d (.agg (Play.enc x_5))) rfl wa ?_))
       obtain ⟨r_22,hr_23,h_18⟩:=bind_some h_18
       refine h_call0 (ref_PlayOrder_ok hr_23) rfl hb39 rfl rfl rfl rfl wa (h_op (vB (decide (r_22≥0))) wa rfl (h_opz (vB (decide (r_22≥0))) (h_nil ?_)))
       obtain rfl:=some_inj h_18
       exact cu
      ·refine h_movb rfl hc_19 wz (h_skipz (h_skipz (h_skipz (h_skipz (h_skipz (h_skipz (h_skipz (h_skipz (h_opz (vB false) (h_nil ?_))))))))))
       obtain rfl:=some_inj h_18
       exact cu
     ·rintro ⟨⟩ _ sl_ H_ hp_ hq_
      refine wH_at _ hp_ hq_ ?_
      rcases cond_some hc_9 with⟨hc_24,hc_9⟩ | ⟨hc_24,hc_9⟩
      ·refine wH_ift rfl hc_24 (wH_sr (h_opz (vI 7) (h_nil ?_)))
       obtain rfl:=some_inj hc_9
       obtain rfl:=some_inj hL_10
       obtain rfl:=some_inj hF
       exact wH_ret (fin0r [(vI 7)] ⟨rfl,trivial⟩)
      ·refine wH_iff rfl hc_24 (wH_skip (wH_region (h_opw (w64_next hD_6 hn_7) wz rfl (h_opz (vI ((k_3 + 1:Nat):Int)) (h_nil ?_)))))
       obtain rfl:=some_inj hc_9
       exact loop_mk (k_3 + 1,l_4,()) ⟨hL_10,drop_next hD_6⟩ (Nat.lt_succ_self _) rfl (pre_r rfl)
  ·rintro s_8 ho_ sl_ H_ hp_ hq_
   subst ho_
   refine wH_at _ hp_ hq_ (wH_sr (h_opz (vI 0) (h_nil ?_)))
   obtain rfl:=some_inj hF
   exact wH_ret (fin0r [(vI 0)] ⟨rfl,trivial⟩)
theorem law_when_ok {is_1:Bool} {e_2:Int} {r:Int} (hF:law_when is_1 e_2=some r) :
  FnM Try.prog 15 [(vB is_1),(vI e_2)] [] (vI r) []:=by
 refine FnM.of_wH ⟨Try.prog,7,[],[]⟩ rfl Try.func15 rfl rfl (Nat.le_of_ble_eq_true rfl) (by kernel_rfl) ?_
 unfold law_when at hF
 refine wH_sr (h_opz (vI 0) (h_nil (wH_seq (wH_sr (h_opz (vB is_1) (h_nil ?_))))))
 rcases cond_some hF with⟨hc_3,hF⟩ | ⟨hc_3,hF⟩
 ·refine wH_ift rfl hc_3 (wH_sr (h_opz (vI e_2) (h_opz (vI e_2) (h_nil ?_))))
  obtain rfl:=some_inj hF
  exact wH_ret (fin0r [(vI e_2)] ⟨rfl,trivial⟩)
 ·refine wH_iff rfl hc_3 (wH_skip (wH_sr (h_opz (vI 0) (h_nil ?_))))
  obtain rfl:=some_inj hF
  exact wH_ret (fin0r [(vI 0)] ⟨rfl,trivial⟩)
theorem law_errs_ok {l_1:(List Int)} {r:Int} (hF:law_errs l_1=some r) :
  FnM Try.prog 14 [(vL eI l_1)] [] (vI r) []:=by
 refine FnM.of_wH ⟨Try.prog,15,[],[]⟩ rfl Try.func14 rfl rfl (Nat.le_of_ble_eq_true rfl) (by kernel_rfl) ?_
 unfold law_errs at hF
 refine wH_sr (h_opz (vI 0) (h_nil (wH_seq (wH_sr (h_opz (vL eI l_1) (h_len un77 rfl wz (h_opz (vI 0) (h_nil ?_))))))))
 obtain ⟨o_10,hj_11,hF⟩:=bind_some hF
 obtain ⟨hn_6,hj_11⟩:=forL_some hj_11
 refine wH_loopF0 (fun (s_7:Unit) => []) (fun (s_7:Unit) => []) (fun (k_2:Nat)=>(fun (s_7:Unit) => [(5,(vL eI l_1)),(6,(vI (l_1.length:Int))),(7,(vI (k_2:Int)))])) (fun k x s=>law_errs_L1 k x s) o_10 l_1 () hj_11 rfl (pre_r rfl) ?_ ?_
 ·rintro ⟨k_2,l_3,s_7⟩ ⟨hL_9,hD_5⟩
  dsimp only at hL_9 hD_5
  cases l_3 with
  | nil =>
   obtain rfl:=some_inj hL_9
   refine wH_sr (h_opz (vB (decide ((k_2:Int) < (l_1.length:Int)))) (h_nil ?_))
   refine wH_seq (wH_iff rfl (drop_nil hD_5) (wH_exit ?_))
   exact cut_mk (s_7) rfl rfl (pre_r rfl)
  | cons x_4 l_3 =>
   obtain ⟨c_,hc_8,hL_9⟩:=bind_some hL_9
   refine wH_sr (h_opz (vB (decide ((k_2:Int) < (l_1.length:Int)))) (h_nil ?_))
   refine wH_seq (wH_ift rfl (drop_cons hD_5) (wH_skip ?_))
   unfold law_errs_L1 at hc_8
   refine wH_seq (wH_block (wH_sr (h_ia es77 rfl rfl (drop_idx hD_5) rfl wz (h_ldc sz35 ag35 rfl (vI x_4) rfl wz (h_opz (vI x_4) (h_nil (wH_sr (h_opz (vI x_4) (h_opz (vB (x_4 != 0)) (h_nil ?_))))))))))
   rcases cond_some hc_8 with⟨hc_12,hc_8⟩ | ⟨hc_12,hc_8⟩
   ·refine wH_ift rfl hc_12 (wH_sr (h_opz (vI x_4) (h_opz (vI x_4) (h_nil ?_))))
    obtain rfl:=some_inj hc_8
    obtain rfl:=some_inj hL_9
    obtain rfl:=some_inj hF
    exact wH_ret (fin0r [(vI x_4)] ⟨rfl,trivial⟩)
   ·refine wH_iff rfl hc_12 (wH_skip (wH_region (h_opw (w64_next hD_5 hn_6) wz rfl (h_opz (vI ((k_2 + 1:Nat):Int)) (h_nil ?_)))))
    obtain rfl:=some_inj hc_8
    exact loop_mk (k_2 + 1,l_3,()) ⟨hL_9,drop_next hD_5⟩ (Nat.lt_succ_self _) rfl (pre_r rfl)
 ·rintro s_7 ho_ sl_ H_ hp_ hq_
  subst ho_
  refine wH_at _ hp_ hq_ (wH_sr (h_opz (vI 0) (h_nil ?_)))
  obtain rfl:=some_inj hF
  exact wH_ret (fin0r [(vI 0)] ⟨rfl,trivial⟩)
theorem ref_WindowFault_ok {wv_1:Window} {r:Int} (hF:ref_WindowFault wv_1=some r) :
  FnM Try.prog 17 [(.d (.agg (Window.enc wv_1)))] [] (vI r) []:=by
 refine FnM.of_wH ⟨Try.prog,14,[],[]⟩ rfl Try.func17 rfl rfl (Nat.le_of_ble_eq_true rfl) (by kernel_rfl) ?_
 unfold ref_WindowFault at hF
 refine wH_sr (h_box 0 (.inl rfl) [(vI wv_1.From),(vI wv_1.To)] rfl rfl wz (fun n_2=>h_opz (vI 0) (h_nil (wH_seq (wH_seq ?_)))))
 obtain ⟨v_3,h_4,hF⟩:=bind_some hF
 refine wH_joinU [(13,(vB v_3))] [(n_2,some (.cells 2 [(vI wv_1.From),(vI wv_1.To)]))] ?_ ?_
 ·refine wH_region (h_far pl31_0 rfl 0 rfl wz (h_ldr 0 0 il ft sz3 ag3 rfl rfl (vI wv_1.From) rfl wz (h_far pl31_1 rfl 1 rfl wz (h_ldr 0 0 il ft sz3 ag3 rfl rfl (vI wv_1.To) rfl wz ?_))))
  obtain ⟨r_5,hr_6,h_4⟩:=bind_some h_4
  refine h_call0 (ref_in_ok hr_6) rfl hb42 rfl rfl rfl rfl wz (h_opz (vB (!r_5)) ?_)
  rcases cond_some h_4 with⟨hc_7,h_4⟩ | ⟨hc_7,h_4⟩
  ·refine h_movb rfl hc_7 wz (h_skipz (h_skipz (h_skipz (h_opz (vB true) (h_nil ?_)))))
   obtain rfl:=some_inj h_4
   exact cu
  ·refine h_movb rfl hc_7 wz (h_far pl31_1 rfl 1 rfl wa (h_ldr 0 0 il ft sz3 ag3 rfl rfl (vI wv_1.To) rfl wa (h_op (vB (decide (wv_1.To > 345686400000))) wa rfl (h_opz (vB (decide (wv_1.To > 345686400000))) (h_nil ?_)))))
   obtain rfl:=some_inj h_4
   exact cu
 ·rintro ⟨⟩ _ sl_ H_ hp_ hq_
  refine wH_at _ hp_ hq_ ?_
  rcases cond_some hF with⟨hc_8,hF⟩ | ⟨hc_8,hF⟩
  ·refine wH_ift rfl hc_8 (wH_sr (h_opz (vI 1) (h_nil ?_)))
   obtain rfl:=some_inj hF
   exact wH_ret (fin0r [(vI 1)] ⟨rfl,trivial⟩)
  ·refine wH_iff rfl hc_8 (wH_skip (wH_sr (h_opz (vI 0) (h_nil ?_))))
   obtain rfl:=some_inj hF
   exact wH_ret (fin0r [(vI 0)] ⟨rfl,trivial⟩)
theorem ref_floor_ok {a_1:Int} {b_2:Int} {r:Int} (hF:ref_floor a_1 b_2=some r) :
  FnM Try.prog 44 [(vI a_1),(vI b_2)] [] (vI r) []:=by
 refine FnM.of_wH ⟨Try.prog,16,[],[]⟩ rfl Try.func44 rfl rfl (Nat.le_of_ble_eq_true rfl) (by kernel_rfl) ?_
 unfold ref_floor at hF
 refine wH_sr (h_opz (vI 0) (h_nil (wH_seq (wH_sr (h_opz (vI a_1) (h_opz (vI b_2) ?_))))))
 obtain ⟨q_3,hz_4,hF⟩:=bind_some hF
 refine h_rem rfl rfl hz_4 wz (h_opz (vB (decide (q_3 < 0))) (h_nil ?_))
 rcases cond_some hF with⟨hc_5,hF⟩ | ⟨hc_5,hF⟩
 ·refine wH_ift rfl hc_5 (wH_sr (h_opz (vI a_1) (h_opz (vI b_2) ?_)))
  obtain ⟨q_6,hz_7,hF⟩:=bind_some hF
  refine h_quo rfl rfl hz_7 wz (h_opz (vI (w64 (q_6 - 1))) (h_opz (vI (w64 (q_6 - 1))) (h_nil ?_)))
  obtain rfl:=some_inj hF
  exact wH_ret (fin0r [(vI (w64 (q_6 - 1)))] ⟨rfl,trivial⟩)
 ·refine wH_iff rfl hc_5 (wH_skip (wH_sr (h_opz (vI a_1) (h_opz (vI b_2) ?_))))
  obtain ⟨q_8,hz_9,hF⟩:=bind_some hF
  refine h_quo rfl rfl hz_9 wz (h_opz (vI q_8) (h_nil ?_))
  obtain rfl:=some_inj hF
  exact wH_ret (fin0r [(vI q_8)] ⟨rfl,trivial⟩)
theorem ref_CountsOf_1_ok {o_1:Tally} {p_2:Tally} {r:Bool} (hF:ref_CountsOf_1 o_1 p_2=some r) :
  FnM Try.prog 46 [(.d (.agg (Tally.enc o_1))),(.ref (extN 0) 0 0)] [(.cells 5 (Tally.v p_2))] (vB r) [some (.cells 5 (Tally.v p_2))]:=by
 refine FnM.of_wH ⟨Try.prog,23,[],[]⟩ rfl Try.func46 rfl rfl (Nat.le_of_ble_eq_true rfl) (by kernel_rfl) ?_
 unfold ref_CountsOf_1 at hF
 refine wH_sr (h_box 0 (.inl rfl) (Tally.v o_1) rfl rfl wz (fun n_3=>h_opz (vB false) (h_nil (wH_seq ?_))))
 obtain ⟨v_4,h_5,hF⟩:=bind_some hF
 refine wH_joinU [(3,(vB v_4))] [((extN 0),some (.cells 5 (Tally.v p_2))),(n_3,some (.cells 5 (Tally.v o_1)))] ?_ ?_
 ·refine wH_region (h_far pl55_0 rfl 0 rfl wz (h_ldr 0 1 il ft sz9 ag9 rfl rfl (vS o_1.Player) rfl wz (h_far pl55_0 rfl 0 rfl wz (h_ldr 0 0 il ft sz9 ag9 rfl rfl (vS p_2.Player) rfl wz (h_opz (vB (sEq o_1.Player p_2.Player)) ?_)))))
  rcases cond_some h_5 with⟨hc_6,h_5⟩ | ⟨hc_6,h_5⟩
  ·refine h_movb rfl hc_6 wz (h_far pl55_1 rfl 1 rfl wa (h_ldr 0 1 il ft sz9 ag9 rfl rfl (vS o_1.Item) rfl wa (h_far pl55_1 rfl 1 rfl wa (h_ldr 0 0 il ft sz9 ag9 rfl rfl (vS p_2.Item) rfl wa (h_op (vB (sEq o_1.Item p_2.Item)) wa rfl (h_opz (vB (sEq o_1.Item p_2.Item)) ?_))))))
   rcases cond_some h_5 with⟨hc_7,h_5⟩ | ⟨hc_7,h_5⟩
   ·refine h_movb rfl hc_7 wz (h_far pl55_2 rfl 2 rfl wa (h_ldr 0 1 il ft sz3 ag3 rfl rfl (vI o_1.Day) rfl wa (h_far pl55_2 rfl 2 rfl wa (h_ldr 0 0 il ft sz3 ag3 rfl rfl (vI p_2.Day) rfl wa (h_op (vB (o_1.Day == p_2.Day)) wa rfl (h_opz (vB (o_1.Day == p_2.Day)) (h_opz (vB (o_1.Day == p_2.Day)) (h_nil ?_))))))))
    obtain rfl:=some_inj h_5
    exact cu
   ·refine h_movb rfl hc_7 wz (h_skipz (h_skipz (h_skipz (h_skipz (h_skipz (h_opz (vB false) (h_opz (vB false) (h_nil ?_))))))))
    obtain rfl:=some_inj h_5
    exact cu
  ·refine h_movb rfl hc_6 wz (h_skipz (h_skipz (h_skipz (h_skipz (h_skipz (h_opz (vB false) (h_opz (vB false) (h_skipz (h_skipz (h_skipz (h_skipz (h_skipz (h_opz (vB false) (h_opz (vB false) (h_nil ?_)))))))))))))))
   obtain rfl:=some_inj h_5
   exact cu
 ·rintro ⟨⟩ _ sl_ H_ hp_ hq_
  refine wH_at _ hp_ hq_ ?_
  obtain rfl:=some_inj hF
  exact wH_ret (finB (.inr rfl) [(vB v_4)] _ [0] [extN 0] ⟨rfl,trivial⟩ (.cons (co_data rfl rfl) (.nil)) (by kernel_rfl) ⟨(by kernel_rfl),trivial⟩ (by decide) (by kernel_rfl))
theorem slices_IndexFunc_api_Tally_api_Tally_v1_ok {s_1:(List Tally)} {f2_3:Tally} {r:Int} (hF:slices_IndexFunc_api_Tally_api_Tally_v1 s_1 f2_3=some r) :
  FnM Try.prog 45 [(dV (extN 1) 5 s_1),(.fn 46 [(.ref (extN 0) 0 0)])] (([(.cells 5 (Tally.v f2_3))]:List Box)++gI 5 Tally.enc s_1) (vI r) (([(.cells 5 (Tally.v f2_3))]:List Box).map some++gT s_1 (gB 5 Tally.enc s_1)):=by
 refine FnM.of_wHv ⟨Try.prog,19,[],[]⟩ rfl Try.func45 rfl rfl (Nat.le_of_ble_eq_true rfl) (by kernel_rfl) ?_
 unfold slices_IndexFunc_api_Tally_api_Tally_v1 at hF
 refine wH_sr (h_opz (vI 0) (h_nil (wH_seq (wH_sr (h_opz (dV (extN 1) 5 s_1) (h_lend un34 rfl wz (h_opz (vI 0) (h_nil ?_))))))))
 obtain ⟨o_12,hj_13,hF⟩:=bind_some hF
 obtain ⟨hn_8,hj_13⟩:=forL_some hj_13
 refine wH_loopF0 (fun (s_9:Unit) => []) (fun (s_9:Unit) => [((extN 0),some (.cells 5 (Tally.v f2_3))),((extN 1),gB 5 Tally.enc s_1)]) (fun (k_4:Nat)=>(fun (s_9:Unit) => [(0,(dV (extN 1) 5 s_1)),(1,(.fn 46 [(.ref (extN 0) 0 0)])),(7,(vI (s_1.length:Int))),(8,(vI (k_4:Int)))])) (fun k x s=>slices_IndexFunc_api_Tally_api_Tally_v1_L1 s_1 f2_3 k x s) o_12 (List.range ((s_1.length:Int)).toNat) () hj_13 rfl (pre_r rfl) ?_ ?_
 ·rintro ⟨k_4,l_5,s_9⟩ ⟨hL_11,hD_7⟩
  dsimp only at hL_11 hD_7
  cases l_5 with
  | nil =>
   obtain rfl:=some_inj hL_11
   refine wH_sr (h_opz (vB (decide ((k_4:Int) < (s_1.length:Int)))) (h_nil ?_))
   refine wH_seq (wH_iff rfl (range_nil hD_7) (wH_exit ?_))
   exact cut_mk (s_9) rfl rfl (pre_r rfl)
  | cons x_6 l_5 =>
   obtain ⟨c_,hc_10,hL_11⟩:=bind_some hL_11
   refine wH_sr (h_opz (vB (decide ((k_4:Int) < (s_1.length:Int)))) (h_nil ?_))
   refine wH_seq (wH_ift rfl (range_cons hD_7) (wH_skip ?_))
   unfold slices_IndexFunc_api_Tally_api_Tally_v1_L1 at hc_10
   refine wH_seq (wH_block (wH_sr (h_opz (vI (k_4:Int)) (h_opz (vI (k_4:Int)) (h_nil (wH_sr (h_opz (.fn 46 [(.ref (extN 0) 0 0)]) (h_opz (dV (extN 1) 5 s_1) (h_opz (vI (k_4:Int)) ?_)))))))))
   obtain ⟨_,hi_14,hc_10⟩:=bind_some hc_10
   refine h_iavd es34 rfl rfl (inR_0 hi_14) (inR_lt hi_14) wz ?_
   obtain ⟨e_15,hy_16,hc_10⟩:=bind_some hc_10
   refine h_ldvg 0 1 il ft sz55 ag55 rfl rfl hy_16 (.d (.agg (Tally.enc e_15))) rfl wz ?_
   obtain ⟨r_17,hr_18,hc_10⟩:=bind_some hc_10
   refine h_callq 0 [0] il ft (ref_CountsOf_1_ok hr_18) rfl hb46 rfl (by kernel_rfl) (by kernel_rfl) (by kernel_rfl) (by kernel_rfl) (by kernel_rfl) (by kernel_rfl) (by kernel_rfl) (by decide) (by kernel_rfl) wz (vB r_17) (by kernel_rfl) ([((extN 0),some (.cells 5 (Tally.v f2_3))),((extN 1),gB 5 Tally.enc s_1)]:Hp) (by kernel_rfl) (h_nil ?_)
   rcases cond_some hc_10 with⟨hc_20,hc_10⟩ | ⟨hc_20,hc_10⟩
   ·refine wH_ift rfl hc_20 (wH_sr (h_opz (vI (k_4:Int)) (h_opz (vI (k_4:Int)) (h_nil ?_))))
    obtain rfl:=some_inj hc_10
    obtain rfl:=some_inj hL_11
    obtain rfl:=some_inj hF
    exact wH_ret (finV (bs:=([(.cells 5 (Tally.v f2_3))]:List Box)) (os:=([(.cells 5 (Tally.v f2_3))]:List Box)) (xs:=s_1) (o:=gB 5 Tally.enc s_1) (.inr rfl) [(vI (k_4:Int))] ⟨rfl,trivial⟩ rfl rfl rfl rfl rfl (by kernel_rfl) gB_ok rfl)
   ·refine wH_iff rfl hc_20 (wH_skip (wH_region (h_opw (w64_nextr hD_7 hn_8) wz rfl (h_opz (vI ((k_4 + 1:Nat):Int)) (h_nil ?_)))))
    obtain rfl:=some_inj hc_10
    exact loop_mk (k_4 + 1,l_5,()) ⟨hL_11,drop_next hD_7⟩ (Nat.lt_succ_self _) rfl (pre_r rfl)
 ·rintro s_9 ho_ sl_ H_ hp_ hq_
  subst ho_
  refine wH_at _ hp_ hq_ (wH_sr (h_opz (vI (-1)) (h_nil ?_)))
  obtain rfl:=some_inj hF
  exact wH_ret (finV (bs:=([(.cells 5 (Tally.v f2_3))]:List Box)) (os:=([(.cells 5 (Tally.v f2_3))]:List Box)) (xs:=s_1) (o:=gB 5 Tally.enc s_1) (.inr rfl) [(vI (-1))] ⟨rfl,trivial⟩ rfl rfl rfl rfl rfl (by kernel_rfl) gB_ok rfl)
theorem cmp_isNaN_string_ok {x_1:ByteArray} {r:Bool} (hF:cmp_isNaN_string x_1=some r) :
  FnM Try.prog 78 [(vS x_1)] [] (vB r) []:=by
 refine FnM.of_wH ⟨Try.prog,6,[],[]⟩ rfl Try.func78 rfl rfl (Nat.le_of_ble_eq_true rfl) (by kernel_rfl) ?_
 unfold cmp_isNaN_string at hF
 refine wH_sr (h_opz (vB false) (h_nil (wH_sr (h_opz (vS x_1) (h_opz (vS x_1) (h_opz (vB (sNe x_1 x_1)) (h_opz (vB (sNe x_1 x_1)) (h_nil ?_))))))))
 obtain rfl:=some_inj hF
 exact wH_ret (fin0r [(vB (sNe x_1 x_1))] ⟨rfl,trivial⟩)
theorem cmp_Compare_string_ok {x_1:ByteArray} {y_2:ByteArray} {r:Int} (hF:cmp_Compare_string x_1 y_2=some r) :
  FnM Try.prog 62 [(vS x_1),(vS y_2)] [] (vI r) []:=by
 refine FnM.of_wH ⟨Try.prog,20,[],[]⟩ rfl Try.func62 rfl rfl (Nat.le_of_ble_eq_true rfl) (by kernel_rfl) ?_
 unfold cmp_Compare_string at hF
 refine wH_sr (h_opz (vI 0) (h_nil (wH_sr (h_opz (vS x_1) ?_))))
 obtain ⟨r_3,hr_4,hF⟩:=bind_some hF
 refine h_call0 (cmp_isNaN_string_ok hr_4) rfl hb78 rfl rfl rfl rfl wz (h_opz (vB r_3) (h_nil (wH_sr (h_opz (vS y_2) ?_))))
 obtain ⟨r_5,hr_6,hF⟩:=bind_some hF
 refine h_call0 (cmp_isNaN_string_ok hr_6) rfl hb78 rfl rfl rfl rfl wz (h_opz (vB r_5) (h_nil (wH_seq (wH_sr (h_opz (vB r_3) (h_nil ?_))))))
 rcases cond_some hF with⟨hc_7,hF⟩ | ⟨hc_7,hF⟩
 ·refine wH_ift rfl hc_7 (wH_seq (wH_sr (h_opz (vB r_5) (h_nil ?_))))
  rcases cond_some hF with⟨hc_8,hF⟩ | ⟨hc_8,hF⟩
  ·refine wH_ift rfl hc_8 (wH_sr (h_opz (vI 0) (h_nil ?_)))
   obtain rfl:=some_inj hF
   exact wH_ret (fin0r [(vI 0)] ⟨rfl,trivial⟩)
  ·refine wH_iff rfl hc_8 (wH_skip (wH_sr (h_opz (vI (-1)) (h_nil ?_))))
   obtain rfl:=some_inj hF
   exact wH_ret (fin0r [(vI (-1))] ⟨rfl,trivial⟩)
 ·refine wH_iff rfl hc_7 (wH_skip (wH_seq (wH_sr (h_opz (vB r_5) (h_nil ?_)))))
  rcases cond_some hF with⟨hc_9,hF⟩ | ⟨hc_9,hF⟩
  ·refine wH_ift rfl hc_9 (wH_sr (h_opz (vI 1) (h_nil ?_)))
   obtain rfl:=some_inj hF
   exact wH_ret (fin0r [(vI 1)] ⟨rfl,trivial⟩)
  ·refine wH_iff rfl hc_9 (wH_skip (wH_seq (wH_sr (h_opz (vS x_1) (h_opz (vS y_2) (h_opz (vB (sLt x_1 y_2)) (h_nil ?_)))))))
   rcases cond_some hF with⟨hc_10,hF⟩ | ⟨hc_10,hF⟩
   ·refine wH_ift rfl hc_10 (wH_sr (h_opz (vI (-1)) (h_nil ?_)))
    obtain rfl:=some_inj hF
    exact wH_ret (fin0r [(vI (-1))] ⟨rfl,trivial⟩)
   ·refine wH_iff rfl hc_10 (wH_skip (wH_seq (wH_sr (h_opz (vS x_1) (h_opz (vS y_2) (h_opz (vB (sGt x_1 y_2)) (h_nil ?_)))))))
    rcases cond_some hF with⟨hc_11,hF⟩ | ⟨hc_11,hF⟩
    ·refine wH_ift rfl hc_11 (wH_sr (h_opz (vI 1) (h_nil ?_)))
     obtain rfl:=some_inj hF
     exact wH_ret (fin0r [(vI 1)] ⟨rfl,trivial⟩)
    ·refine wH_iff rfl hc_11 (wH_skip (wH_sr (h_opz (vI 0) (h_nil ?_))))
     obtain rfl:=some_inj hF
     exact wH_ret (fin0r [(vI 0)] ⟨rfl,trivial⟩)
theorem slices_Compare_string_string_ok {s1_1:(List ByteArray)} {s2_2:(List ByteArray)} {r:Int} (hF:slices_Compare_string_string s1_1 s2_2=some r) :
  FnM Try.prog 48 [(vL eS s1_1),(vL eS s2_2)] [] (vI r) []:=by
 refine FnM.of_wH ⟨Try.prog,36,[],[]⟩ rfl Try.func48 rfl rfl (Nat.le_of_ble_eq_true rfl) (by kernel_rfl) ?_
 unfold slices_Compare_string_string at hF
 refine wH_sr (h_opz (vI 0) (h_nil (wH_seq (wH_sr (h_opz (vL eS s1_1) (h_len un67 rfl wz (h_opz (vI 0) (h_nil ?_))))))))
 obtain ⟨o_11,hj_12,hF⟩:=bind_some hF
 obtain ⟨hn_7,hj_12⟩:=forL_some hj_12
 refine wH_loopF0 (fun (s_8:Unit) => [(0,(vL eS s1_1)),(1,(vL eS s2_2))]) (fun (s_8:Unit) => []) (fun (k_3:Nat)=>(fun (s_8:Unit) => [(0,(vL eS s1_1)),(1,(vL eS s2_2)),(9,(vL eS s1_1)),(10,(vI (s1_1.length:Int))),(11,(vI (k_3:Int)))])) (fun k x s=>slices_Compare_string_string_L1 s2_2 k x s) o_11 s1_1 () hj_12 rfl (pre_r rfl) ?_ ?_
 ·rintro ⟨k_3,l_4,s_8⟩ ⟨hL_10,hD_6⟩
  dsimp only at hL_10 hD_6
  cases l_4 with
  | nil =>
   obtain rfl:=some_inj hL_10
   refine wH_sr (h_opz (vB (decide ((k_3:Int) < (s1_1.length:Int)))) (h_nil ?_))
   refine wH_seq (wH_iff rfl (drop_nil hD_6) (wH_exit ?_))
   exact cut_mk (s_8) rfl rfl (pre_r rfl)
  | cons x_5 l_4 =>
   obtain ⟨c_,hc_9,hL_10⟩:=bind_some hL_10
   refine wH_sr (h_opz (vB (decide ((k_3:Int) < (s1_1.length:Int)))) (h_nil ?_))
   refine wH_seq (wH_ift rfl (drop_cons hD_6) (wH_skip ?_))
   unfold slices_Compare_string_string_L1 at hc_9
   refine wH_seq (wH_block (wH_sr (h_opz (vI (k_3:Int)) (h_ia es67 rfl rfl (drop_idx hD_6) rfl wz (h_ldc sz9 ag9 rfl (vS x_5) rfl wz (h_opz (vI (k_3:Int)) (h_opz (vS x_5) (h_nil (wH_seq (wH_sr (h_opz (vI (k_3:Int)) (h_opz (vL eS s2_2) (h_len un67 rfl wz (h_opz (vB (decide ((k_3:Int)≥(s2_2.length:Int)))) (h_nil ?_)))))))))))))))
   rcases cond_some hc_9 with⟨hc_13,hc_9⟩ | ⟨hc_13,hc_9⟩
   ·refine wH_ift rfl hc_13 (wH_sr (h_opz (vI 1) (h_nil ?_)))
    obtain rfl:=some_inj hc_9
    obtain rfl:=some_inj hL_10
    obtain rfl:=some_inj hF
    exact wH_ret (fin0r [(vI 1)] ⟨rfl,trivial⟩)
   ·refine wH_iff rfl hc_13 (wH_skip (wH_sr (h_opz (vL eS s2_2) (h_opz (vI (k_3:Int)) ?_))))
    obtain ⟨y_14,hy_15,hc_9⟩:=bind_some hc_9
    refine h_ia es67 rfl rfl hy_15 rfl wz (h_ldc sz9 ag9 rfl (vS y_14) rfl wz (h_opz (vS y_14) (h_nil (wH_sr (h_opz (vS x_5) (h_opz (vS y_14) ?_))))))
    obtain ⟨r_16,hr_17,hc_9⟩:=bind_some hc_9
    refine h_call0 (cmp_Compare_string_ok hr_17) rfl hb62 rfl rfl rfl rfl wz (h_opz (vI r_16) (h_nil (wH_sr (h_opz (vI r_16) (h_opz (vB (r_16 != 0)) (h_nil ?_))))))
    rcases cond_some hc_9 with⟨hc_18,hc_9⟩ | ⟨hc_18,hc_9⟩
    ·refine wH_ift rfl hc_18 (wH_sr (h_opz (vI r_16) (h_opz (vI r_16) (h_nil ?_))))
     obtain rfl:=some_inj hc_9
     obtain rfl:=some_inj hL_10
     obtain rfl:=some_inj hF
     exact wH_ret (fin0r [(vI r_16)] ⟨rfl,trivial⟩)
    ·refine wH_iff rfl hc_18 (wH_skip (wH_region (h_opw (w64_next hD_6 hn_7) wz rfl (h_opz (vI ((k_3 + 1:Nat):Int)) (h_nil ?_)))))
     obtain rfl:=some_inj hc_9
     exact loop_mk (k_3 + 1,l_4,()) ⟨hL_10,drop_next hD_6⟩ (Nat.lt_succ_self _) rfl (pre_r rfl)
 ·rintro s_8 ho_ sl_ H_ hp_ hq_
  subst ho_
  refine wH_at _ hp_ hq_ (wH_seq (wH_sr (h_opz (vL eS s1_1) (h_len un67 rfl wz (h_opz (vL eS s2_2) (h_len un67 rfl wz (h_opz (vB (decide ((s1_1.length:Int) < (s2_2.length:Int)))) (h_nil ?_))))))))
  rcases cond_some hF with⟨hc_19,hF⟩ | ⟨hc_19,hF⟩
  ·refine wH_ift rfl hc_19 (wH_sr (h_opz (vI (-1)) (h_nil ?_)))
   obtain rfl:=some_inj hF
   exact wH_ret (fin0r [(vI (-1))] ⟨rfl,trivial⟩)
  ·refine wH_iff rfl hc_19 (wH_skip (wH_sr (h_opz (vI 0) (h_nil ?_))))
   obtain rfl:=some_inj hF
   exact wH_ret (fin0r [(vI 0)] ⟨rfl,trivial⟩)
theorem ref_CountsOf_2_ok {a_1:Tally} {b_2:Tally} {r:Int} (hF:ref_CountsOf_2 a_1 b_2=some r) :
  FnM Try.prog 47 [(.d (.agg (Tally.enc a_1))),(.d (.agg (Tally.enc b_2)))] [] (vI r) []:=by
 refine FnM.of_wH ⟨Try.prog,26,[],[]⟩ rfl Try.func47 rfl rfl (Nat.le_of_ble_eq_true rfl) (by kernel_rfl) ?_
 unfold ref_CountsOf_2 at hF
 refine wH_sr (h_box 0 (.inl rfl) (Tally.v a_1) rfl rfl wz (fun n_3=>h_box 0 (.inl rfl) (Tally.v b_2) rfl rfl wz (fun n_4=>h_opz (vI 0) (h_nil (wH_seq (wH_sr (h_far pl55_0 rfl 0 rfl wz (h_ldr 0 0 il ft sz9 ag9 rfl rfl (vS a_1.Player) rfl wz (h_far pl55_1 rfl 1 rfl wz (h_ldr 0 0 il ft sz9 ag9 rfl rfl (vS a_1.Item) rfl wz (h_lit (([a_1.Player,a_1.Item]:List ByteArray).map eS) es67 ez67 rfl rfl rfl rfl rfl wz (h_far pl55_0 rfl 0 rfl wz (h_ldr 0 1 il ft sz9 ag9 rfl rfl (vS b_2.Player) rfl wz (h_far pl55_1 rfl 1 rfl wz (h_ldr 0 1 il ft sz9 ag9 rfl rfl (vS b_2.Item) rfl wz (h_lit (([b_2.Player,b_2.Item]:List ByteArray).map eS) es67 ez67 rfl rfl rfl rfl rfl wz ?_))))))))))))))))
 obtain ⟨r_5,hr_6,hF⟩:=bind_some hF
 refine h_call0 (slices_Compare_string_string_ok hr_6) rfl hb48 rfl rfl rfl rfl wz (h_opz (vI r_5) (h_nil (wH_sr (h_opz (vI r_5) (h_opz (vB (r_5 != 0)) (h_nil ?_))))))
 rcases cond_some hF with⟨hc_7,hF⟩ | ⟨hc_7,hF⟩
 ·refine wH_ift rfl hc_7 (wH_sr (h_opz (vI r_5) (h_opz (vI r_5) (h_nil ?_))))
  obtain rfl:=some_inj hF
  exact wH_ret (fin0r [(vI r_5)] ⟨rfl,trivial⟩)
 ·refine wH_iff rfl hc_7 (wH_skip (wH_sr (h_far pl55_2 rfl 2 rfl wz (h_ldr 0 0 il ft sz3 ag3 rfl rfl (vI a_1.Day) rfl wz (h_far pl55_2 rfl 2 rfl wz (h_ldr 0 1 il ft sz3 ag3 rfl rfl (vI b_2.Day) rfl wz (h_opz (vI (w64 (a_1.Day - b_2.Day))) ?_)))))))
  obtain ⟨r_8,hr_9,hF⟩:=bind_some hF
  refine h_call0 (ref_sign_ok hr_9) rfl hb49 rfl rfl rfl rfl wz (h_opz (vI r_8) (h_nil ?_))
  obtain rfl:=some_inj hF
  exact wH_ret (fin0r [(vI r_8)] ⟨rfl,trivial⟩)
end Go.Proofs.Ythcdokkcamcnmab.Law

