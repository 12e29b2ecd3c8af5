/-
 The machine computes these plain functions (written by a program of ours).
-/
import Derived.Test.YthcdokkcamcnmabFacts
import Derived.Test.YthcdokkcamcnmabDefs
import Derived.Test.YthcdokkcamcnmabPf3
open Go Go.Eng Go.Proofs
namespace Go.Proofs.Ythcdokkcamcnmab.Law
set_option maxRecDepth 100000
set_option linter.unusedVariables false
set_option maxHeartbeats 1000000
theorem proof_compareBeats_ok {a_1:Beat} {b_2:Beat} {r:Int} (hF:proof_compareBeats a_1 b_2=some r) :
  FnM Try.prog 88 [(.d (.agg (Beat.enc a_1))),(.d (.agg (Beat.enc b_2)))] [] (vI r) []:=by
 refine FnM.of_wH ⟨Try.prog,17,[],[]⟩ rfl Try.func88 rfl rfl (Nat.le_of_ble_eq_true rfl) (by kernel_rfl) ?_
 unfold proof_compareBeats at hF
 refine wH_sr (h_box 0 (.inl rfl) (Beat.v a_1) rfl rfl wz (fun n_3=>h_box 0 (.inl rfl) (Beat.v b_2) rfl rfl wz (fun n_4=>h_opz (vI 0) (h_nil (wH_seq (wH_draws (h_far pl88_0 rfl 0 rfl wz (h_ldr 1 0 (.inr (by kernel_rfl)) (fun _ _ ag=>trivial) sz9 ag9 rfl rfl (vS a_1.Player) rfl wz (h_far pl88_0 rfl 0 rfl wz (h_ldr 3 1 (.inr (by kernel_rfl)) (fun _ _ ag=>⟨.inl ⟨rfl,rfl⟩,trivial⟩) sz9 ag9 rfl rfl (vS b_2.Player) rfl wz ?_))))))))))
 obtain ⟨r_5,hr_6,hF⟩:=bind_some hF
 refine h_call0 (strings_Compare_ok hr_6) rfl hb34 rfl rfl rfl rfl wz (h_far pl88_1 rfl 1 rfl wz (h_ldr 6 0 (.inr (by kernel_rfl)) (fun _ _ ag=>⟨.inl ⟨rfl,rfl⟩,⟨.inl ⟨rfl,rfl⟩,trivial⟩⟩) sz3 ag3 rfl rfl (vI a_1.At) rfl wz (h_far pl88_1 rfl 1 rfl wz (h_ldr 8 1 (.inr (by kernel_rfl)) (fun _ _ ag=>⟨.inl ⟨rfl,rfl⟩,⟨.inl ⟨rfl,rfl⟩,⟨.inl ⟨rfl,rfl⟩,trivial⟩⟩⟩) sz3 ag3 rfl rfl (vI b_2.At) rfl wz ?_))))
 obtain ⟨r_7,hr_8,hF⟩:=bind_some hF
 refine h_call0 (cmp_Compare_int_ok hr_8) rfl hb35 rfl rfl rfl rfl wz (h_lit (([r_5,r_7]:List Int).map eI) es22 ez22 rfl rfl rfl rfl rfl wz ?_)
 obtain ⟨r_9,hr_10,hF⟩:=bind_some hF
 refine h_call0 (cmp_Or_int_ok hr_10) rfl hb33 rfl rfl rfl rfl wz (h_opz (vI r_9) (h_nil ?_))
 obtain rfl:=some_inj hF
 exact wH_ret (fin0r [(vI r_9)] ⟨rfl,trivial⟩)
theorem proof_CheckBeats_ok {l_1:(List Beat)} {r:Int} (hF:proof_CheckBeats l_1=some r) :
  FnM Try.prog 79 [(vL Beat.enc l_1)] [] (vI r) []:=by
 refine FnM.of_wH ⟨Try.prog,69,[],[]⟩ rfl Try.func79 rfl rfl (Nat.le_of_ble_eq_true rfl) (by kernel_rfl) ?_
 unfold proof_CheckBeats at hF
 refine wH_sr (h_opz (vI 0) (h_nil (wH_seq (wH_sr (h_opz (vL Beat.enc l_1) (h_len un89 rfl wz (h_opz (vB (decide ((l_1.length:Int) > 500))) (h_nil ?_))))))))
 rcases cond_some hF with⟨hc_2,hF⟩ | ⟨hc_2,hF⟩
 ·refine wH_ift rfl hc_2 (wH_sr (h_opz (vI 2) (h_nil ?_)))
  obtain rfl:=some_inj hF
  exact wH_ret (fin0r [(vI 2)] ⟨rfl,trivial⟩)
 ·refine wH_iff rfl hc_2 (wH_skip (wH_seq (wH_sr (h_opz (vL Beat.enc l_1) (h_len un89 rfl wz (h_opz (vI 0) (h_nil ?_)))))))
  obtain ⟨o_11,hj_12,hF⟩:=bind_some hF
  obtain ⟨hn_7,hj_12⟩:=forL_some hj_12
  refine wH_loopF0 (fun (s_8:Unit) => []) (fun (s_8:Unit) => []) (fun (k_3:Nat)=>(fun (s_8:Unit) => [(0,(vL Beat.enc l_1)),(8,(vL Beat.enc l_1)),(9,(vI (l_1.length:Int))),(10,(vI (k_3:Int)))])) (fun k x s=>proof_CheckBeats_L1 l_1 k x s) o_11 l_1 () hj_12 rfl (pre_r rfl) ?_ ?_
  ·rintro ⟨k_3,l_4,s_8⟩ ⟨hL_10,hD_6⟩
   dsimp only at hL_10 hD_6
   cases l_4 with
   | nil =>
    obtain rfl:=some_inj hL_10
    refine wH_sr (h_opz (vB (decide ((k_3:Int) < (l_1.length:Int)))) (h_nil ?_))
    refine wH_seq (wH_iff rfl (drop_nil hD_6) (wH_exit ?_))
    exact cut_mk (s_8) rfl rfl (pre_r rfl)
   | cons x_5 l_4 =>
    obtain ⟨c_,hc_9,hL_10⟩:=bind_some hL_10
    refine wH_sr (h_opz (vB (decide ((k_3:Int) < (l_1.length:Int)))) (h_nil ?_))
    refine wH_seq (wH_ift rfl (drop_cons hD_6) (wH_skip ?_))
    unfold proof_CheckBeats_L1 at hc_9
    refine wH_seq (wH_block (wH_sr (h_opz (vI (k_3:Int)) (h_ia es89 rfl rfl (drop_idx hD_6) rfl wz (h_ldc sz88 ag88 rfl (.d (.agg (Beat.enc x_5))) rfl wz (h_alloc 0 (.inl rfl) z88 rfl wz (fun n_13=>h_opz (vI (k_3:Int)) (h_str 0 il ft 0 sz88 rfl rfl (Beat.v x_5) rfl wz (h_nil (wH_block (wH_sr (h_far pl88_0 rfl 0 rfl wz (h_ldr 0 0 il ft sz9 ag9 rfl rfl (vS x_5.Player) rfl wz ?_)))))))))))))
    obtain ⟨r_14,hr_15,hc_9⟩:=bind_some hc_9
    refine h_call0 (kit_IsKey_ok hr_15) rfl hb36 rfl rfl rfl rfl wz (h_opz (vB (!r_14)) (h_opz (vB (!r_14)) (h_nil ?_)))
    rcases cond_some hc_9 with⟨hc_16,hc_9⟩ | ⟨hc_16,hc_9⟩
    ·refine wH_ift rfl hc_16 (wH_sr (h_opz (vI 5) (h_nil ?_)))
     obtain rfl:=some_inj hc_9
     obtain rfl:=some_inj hL_10
     obtain rfl:=some_inj hF
     exact wH_ret (fin0r [(vI 5)] ⟨rfl,trivial⟩)
    ·refine wH_iff rfl hc_16 (wH_seq ?_)
     obtain ⟨v_17,h_18,hc_9⟩:=bind_some hc_9
     refine wH_joinU [(0,(vL Beat.enc l_1)),(3,(vI (k_3:Int))),(4,(.ref n_13 0 0)),(8,(vL Beat.enc l_1)),(9,(vI (l_1.length:Int))),(10,(vI (k_3:Int))),(20,(vB v_17))] [(n_13,some (.cells 3 (Beat.v x_5)))] ?_ ?_
     ·refine wH_region (h_far pl88_1 rfl 1 rfl wz (h_ldr 0 0 il ft sz3 ag3 rfl rfl (vI x_5.At) rfl wz ?_))
      obtain ⟨r_19,hr_20,h_18⟩:=bind_some h_18
      refine h_call0 (kit_IsMoment_ok hr_20) rfl hb40 rfl rfl rfl rfl wz (h_opz (vB (!r_19)) ?_)
      rcases cond_some h_18 with⟨hc_21,h_18⟩ | ⟨hc_21,h_18⟩
      ·refine h_movb rfl hc_21 wz (h_skipz (h_skipz (h_skipz (h_opz (vB true) (h_opz (vB true) (h_nil ?_))))))
       obtain rfl:=some_inj h_18
       exact cu
      ·refine h_movb rfl hc_21 wz (h_far pl88_2 rfl 2 rfl wa (h_ldr 0 0 il ft sz3 ag3 rfl rfl (vI x_5.Clock) rfl wa ?_))
       obtain ⟨r_22,hr_23,h_18⟩:=bind_some h_18
       refine h_call0 (kit_Outside_ok hr_23) rfl hb29 rfl rfl rfl rfl wa (h_opz (vB r_22) (h_opz (vB r_22) (h_nil ?_)))
       obtain rfl:=some_inj h_18
       exact cu
     ·rintro ⟨⟩ _ sl_ H_ hp_ hq_
      refine wH_at _ hp_ hq_ ?_
      rcases cond_some hc_9 with⟨hc_24,hc_9⟩ | ⟨hc_24,hc_9⟩
      ·refine wH_ift rfl hc_24 (wH_sr (h_opz (vI 1) (h_nil ?_)))
       obtain rfl:=some_inj hc_9
       obtain rfl:=some_inj hL_10
       obtain rfl:=some_inj hF
       exact wH_ret (fin0r [(vI 1)] ⟨rfl,trivial⟩)
      ·refine wH_iff rfl hc_24 (wH_seq ?_)
       obtain ⟨v_25,h_26,hc_9⟩:=bind_some hc_9
       refine wH_joinU [(0,(vL Beat.enc l_1)),(3,(vI (k_3:Int))),(4,(.ref n_13 0 0)),(8,(vL Beat.enc l_1)),(9,(vI (l_1.length:Int))),(10,(vI (k_3:Int))),(30,(vB v_25))] [(n_13,some (.cells 3 (Beat.v x_5)))] ?_ ?_
       ·refine wH_draws (h_opz (vI (k_3:Int)) (h_opz (vB (decide ((k_3:Int) > 0))) ?_))
        rcases cond_some h_26 with⟨hc_27,h_26⟩ | ⟨hc_27,h_26⟩
        ·refine h_movb rfl hc_27 wz (h_op (vL Beat.enc l_1) wa rfl (h_op (vI (k_3:Int)) wa rfl (h_op (vI (w64 ((k_3:Int) - 1))) wa rfl ?_)))
         obtain ⟨y_28,hy_29,h_26⟩:=bind_some h_26
         refine h_ia es89 rfl rfl hy_29 rfl wa (h_ldc sz88 ag88 rfl (.d (.agg (Beat.enc y_28))) rfl wa (h_ldr 8 0 (.inr (by kernel_rfl)) (fun _ _ ag=>trivial) sz88 ag88 rfl rfl (.d (.agg (Beat.enc x_5))) rfl wa ?_))
         obtain ⟨r_30,hr_31,h_26⟩:=bind_some h_26
         refine h_call0 (proof_compareBeats_ok hr_31) rfl hb88 rfl rfl rfl rfl wa (h_op (vB (decide (r_30≥0))) wa rfl (h_opz (vB (decide (r_30≥0))) (h_opz (vB (decide (r_30≥0))) (h_nil ?_))))
         obtain rfl:=some_inj h_26
         exact cu
        ·refine h_movb rfl hc_27 wz (h_skipz (h_skipz (h_skipz (h_skipz (h_skipz (h_skipz (h_skipz (h_skipz (h_opz (vB false) (h_opz (vB false) (h_nil ?_)))))))))))
         obtain rfl:=some_inj h_26
         exact cu
       ·rintro ⟨⟩ _ sl_ H_ hp_ hq_
        refine wH_at _ hp_ hq_ ?_
        rcases cond_some hc_9 with⟨hc_32,hc_9⟩ | ⟨hc_32,hc_9⟩
        ·refine wH_ift rfl hc_32 (wH_sr (h_opz (vI 7) (h_nil ?_)))
         obtain rfl:=some_inj hc_9
         obtain rfl:=some_inj hL_10
         obtain rfl:=some_inj hF
         exact wH_ret (fin0r [(vI 7)] ⟨rfl,trivial⟩)
        ·refine wH_iff rfl hc_32 (wH_seq ?_)
         obtain ⟨v_33,h_34,hc_9⟩:=bind_some hc_9
         refine wH_joinU [(0,(vL Beat.enc l_1)),(8,(vL Beat.enc l_1)),(9,(vI (l_1.length:Int))),(10,(vI (k_3:Int))),(43,(vB v_33))] [(n_13,some (.cells 3 (Beat.v x_5)))] ?_ ?_
         ·refine wH_draws (h_opz (vI (k_3:Int)) (h_opz (vB (decide ((k_3:Int) > 0))) ?_))
          rcases cond_some h_34 with⟨hc_35,h_34⟩ | ⟨hc_35,h_34⟩
          ·refine h_movb rfl hc_35 wz (h_far pl88_0 rfl 0 rfl wa (h_ldr 4 0 (.inr (by kernel_rfl)) (fun _ _ ag=>trivial) sz9 ag9 rfl rfl (vS x_5.Player) rfl wa (h_op (vL Beat.enc l_1) wa rfl (h_op (vI (k_3:Int)) wa rfl (h_op (vI (w64 ((k_3:Int) - 1))) wa rfl ?_)))))
           obtain ⟨y_36,hy_37,h_34⟩:=bind_some h_34
           refine h_ia es89 rfl rfl hy_37 rfl wa (h_fac pl88_0 rfl [.str y_36.Player,.int .i64 y_36.At,.int .i64 y_36.Clock] rfl rfl wa (h_ldc sz9 ag9 rfl (vS y_36.Player) rfl wa (h_op (vB (sEq x_5.Player y_36.Player)) wa rfl (h_opz (vB (sEq x_5.Player y_36.Player)) ?_))))
           rcases cond_some h_34 with⟨hc_38,h_34⟩ | ⟨hc_38,h_34⟩
           ·refine h_movb rfl hc_38 wz (h_far pl88_2 rfl 2 rfl wa (h_ldr 15 0 (.inr (by kernel_rfl)) (fun _ _ ag=>⟨.inl ⟨rfl,rfl⟩,trivial⟩) sz3 ag3 rfl rfl (vI x_5.Clock) rfl wa (h_op (vL Beat.enc l_1) wa rfl (h_op (vI (k_3:Int)) wa rfl (h_op (vI (w64 ((k_3:Int) - 1))) wa rfl ?_)))))
            obtain ⟨y_39,hy_40,h_34⟩:=bind_some h_34
            refine h_ia es89 rfl rfl hy_40 rfl wa (h_fac pl88_2 rfl [.int .i64 y_39.Clock] rfl rfl wa (h_ldc sz3 ag3 rfl (vI y_39.Clock) rfl wa (h_op (vB (decide (x_5.Clock≤y_39.Clock))) wa rfl (h_opz (vB (decide (x_5.Clock≤y_39.Clock))) (h_opz (vB (decide (x_5.Clock≤y_39.Clock))) (h_nil ?_))))))
            obtain rfl:=some_inj h_34
            exact cu
           ·refine h_movb rfl hc_38 wz (h_skipz (h_skipz (h_skipz (h_skipz (h_skipz (h_skipz (h_skipz (h_skipz (h_skipz (h_opz (vB false) (h_opz (vB false) (h_nil ?_))))))))))))
            obtain rfl:=some_inj h_34
            exact cu
          ·refine h_movb rfl hc_35 wz (h_skipz (h_skipz (h_skipz (h_skipz (h_skipz (h_skipz (h_skipz (h_skipz (h_skipz (h_opz (vB false) (h_opz (vB false) (h_skipz (h_skipz (h_skipz (h_skipz (h_skipz (h_skipz (h_skipz (h_skipz (h_skipz (h_opz (vB false) (h_opz (vB false) (h_nil ?_)))))))))))))))))))))))
           obtain rfl:=some_inj h_34
           exact cu
         ·rintro ⟨⟩ _ sl_ H_ hp_ hq_
          refine wH_at _ hp_ hq_ ?_
          rcases cond_some hc_9 with⟨hc_41,hc_9⟩ | ⟨hc_41,hc_9⟩
          ·refine wH_ift rfl hc_41 (wH_sr (h_opz (vI 16) (h_nil ?_)))
           obtain rfl:=some_inj hc_9
           obtain rfl:=some_inj hL_10
           obtain rfl:=some_inj hF
           exact wH_ret (fin0r [(vI 16)] ⟨rfl,trivial⟩)
          ·refine wH_iff rfl hc_41 (wH_skip (wH_region (h_opw (w64_next hD_6 hn_7) wz rfl (h_opz (vI ((k_3 + 1:Nat):Int)) (h_nil ?_)))))
           obtain rfl:=some_inj hc_9
           exact loop_mk (k_3 + 1,l_4,()) ⟨hL_10,drop_next hD_6⟩ (Nat.lt_succ_self _) rfl (pre_r rfl)
  ·rintro s_8 ho_ sl_ H_ hp_ hq_
   subst ho_
   refine wH_at _ hp_ hq_ (wH_sr (h_opz (vI 0) (h_nil ?_)))
   obtain rfl:=some_inj hF
   exact wH_ret (fin0r [(vI 0)] ⟨rfl,trivial⟩)
theorem proof_beatsOf_ok {l_1:(List Beat)} {player_2:ByteArray} {back_3:Bool} {r:(List Beat_)} (hF:proof_beatsOf l_1 player_2 back_3=some r) :
  FnM Try.prog 81 [(vL Beat.enc l_1),(vS player_2),(vB back_3)] [] (vL Beat_.enc r) []:=by
 refine FnM.of_wH ⟨Try.prog,41,[],[]⟩ rfl Try.func81 rfl rfl (Nat.le_of_ble_eq_true rfl) (by kernel_rfl) ?_
 unfold proof_beatsOf at hF
 refine wH_sr (h_opz .nil (h_nil (wH_sr (h_opz .nil (h_nil (wH_seq (wH_sr (h_opz (vL Beat.enc l_1) (h_len un89 rfl wz (h_opz (vI 0) (h_nil (wH_new (fun n_10 => ?_)))))))))))))
 obtain ⟨o_15,hj_16,hF⟩:=bind_some hF
 obtain ⟨hn_8,hj_16⟩:=forL_some hj_16
 refine wH_loopF (σ:=(List Beat_)) (N:=Nm) (fun p=>(fun (s_9:(List Beat_)) (n_12:Nm)=>([(7,(gV n_12 2 s_9))]:List (Nat×V))) p.1 p.2) (fun p=>(fun (s_9:(List Beat_)) (n_12:Nm)=>([(n_12,gB 2 Beat_.enc s_9)]:Hp)) p.1 p.2) (fun (k_4:Nat)=>(fun p=>(fun (s_9:(List Beat_)) (n_12:Nm)=>([(1,(vS player_2)),(2,(vB back_3)),(7,(gV n_12 2 s_9)),(10,(vL Beat.enc l_1)),(11,(vI (l_1.length:Int))),(12,(vI (k_4:Int)))]:List (Nat×V))) p.1 p.2)) (fun k x s=>proof_beatsOf_L1 player_2 back_3 k x s) o_15 l_1 (([]:List Beat_),n_10) hj_16 rfl (pre_r rfl) ?_ ?_
 ·rintro ⟨k_4,l_5,s_9,n_12⟩ ⟨hL_14,hD_7⟩
  dsimp only at hL_14 hD_7
  cases l_5 with
  | nil =>
   obtain rfl:=some_inj hL_14
   refine wH_sr (h_opz (vB (decide ((k_4:Int) < (l_1.length:Int)))) (h_nil ?_))
   refine wH_seq (wH_iff rfl (drop_nil hD_7) (wH_exit ?_))
   exact cut_mk (s_9,n_12) rfl rfl (pre_r rfl)
  | cons x_6 l_5 =>
   obtain ⟨c_,hc_13,hL_14⟩:=bind_some hL_14
   refine wH_sr (h_opz (vB (decide ((k_4:Int) < (l_1.length:Int)))) (h_nil ?_))
   refine wH_seq (wH_ift rfl (drop_cons hD_7) (wH_skip ?_))
   unfold proof_beatsOf_L1 at hc_13
   refine wH_seq (wH_block (wH_sr (h_ia es89 rfl rfl (drop_idx hD_7) rfl wz (h_ldc sz88 ag88 rfl (.d (.agg (Beat.enc x_6))) rfl wz (h_alloc 0 (.inl rfl) z88 rfl wz (fun n_17=>h_str 0 il ft 1 sz88 rfl rfl (Beat.v x_6) rfl wz (h_nil (wH_block (wH_sr (h_far pl88_0 rfl 0 rfl wz (h_ldr 0 1 il ft sz9 ag9 rfl rfl (vS x_6.Player) rfl wz (h_opz (vS player_2) (h_opz (vB (sNe x_6.Player player_2)) (h_opz (vB (sNe x_6.Player player_2)) (h_nil ?_)))))))))))))))
   obtain ⟨v_18,h_19,hc_13⟩:=bind_some hc_13
   refine wH_join (β:=Nm) (fun (n_20:Nm)=>([(1,(vS player_2)),(2,(vB back_3)),(7,(gV n_20 2 v_18)),(10,(vL Beat.enc l_1)),(11,(vI (l_1.length:Int))),(12,(vI (k_4:Int)))]:List (Nat×V))) (fun (n_20:Nm)=>([(n_20,gB 2 Beat_.enc v_18),(n_17,some (.cells 3 (Beat.v x_6)))]:Hp)) (fun _=>True) ?_ ?_
   ·rcases cond_some h_19 with⟨hc_21,h_19⟩ | ⟨hc_21,h_19⟩
    ·refine wH_ift rfl hc_21 (wH_skip ?_)
     obtain rfl:=some_inj h_19
     exact cut_mk n_12 trivial rfl (pre_r rfl)
    ·refine wH_iff rfl hc_21 (wH_sr (h_opz (vB back_3) (h_opz (vB back_3) (h_nil ?_))))
     rcases cond_some h_19 with⟨hc_22,h_19⟩ | ⟨hc_22,h_19⟩
     ·refine wH_ift rfl hc_22 (wH_region (h_opz (gV n_12 2 s_9) (h_far pl88_1 rfl 1 rfl wz (h_ldr 0 1 il ft sz3 ag3 rfl rfl (vI x_6.At) rfl wz (h_far pl88_2 rfl 2 rfl wz (h_ldr 0 1 il ft sz3 ag3 rfl rfl (vI x_6.Clock) rfl wz (h_op (.d (.agg (Beat_.enc (⟨x_6.At,x_6.Clock⟩:Beat_)))) wz (by kernel_rfl) (h_lit (([(⟨x_6.At,x_6.Clock⟩:Beat_)]:List Beat_).map Beat_.enc) es111 ez111 rfl rfl rfl rfl rfl wz ?_))))))))
      obtain ⟨a_23,hz_24,h_19⟩:=bind_some h_19
      refine h_appg 0 il ft (i:=0) el111 el111 sz121 z121 rfl (by decide) by121 (by decide) (fun _=>rfl) rfl rfl rfl hz_24 wz (fun n_25=>h_opz (gV n_25 2 a_23) (h_nil ?_))
      obtain rfl:=some_inj h_19
      exact cut_mk n_25 trivial rfl (pre_r rfl)
     ·refine wH_iff rfl hc_22 (wH_region (h_opz (gV n_12 2 s_9) (h_far pl88_2 rfl 2 rfl wz (h_ldr 0 1 il ft sz3 ag3 rfl rfl (vI x_6.Clock) rfl wz (h_far pl88_1 rfl 1 rfl wz (h_ldr 0 1 il ft sz3 ag3 rfl rfl (vI x_6.At) rfl wz (h_op (.d (.agg (Beat_.enc (⟨x_6.Clock,x_6.At⟩:Beat_)))) wz (by kernel_rfl) (h_lit (([(⟨x_6.Clock,x_6.At⟩:Beat_)]:List Beat_).map Beat_.enc) es111 ez111 rfl rfl rfl rfl rfl wz ?_))))))))
      obtain ⟨a_26,hz_27,h_19⟩:=bind_some h_19
      refine h_appg 0 il ft (i:=0) el111 el111 sz121 z121 rfl (by decide) by121 (by decide) (fun _=>rfl) rfl rfl rfl hz_27 wz (fun n_28=>h_opz (gV n_28 2 a_26) (h_nil ?_))
      obtain rfl:=some_inj h_19
      exact cut_mk n_28 trivial rfl (pre_r rfl)
   ·rintro n_20 _ sl_ H_ hp_ hq_
    refine wH_at _ hp_ hq_ (wH_region (h_opw (w64_next hD_7 hn_8) wz rfl (h_opz (vI ((k_4 + 1:Nat):Int)) (h_nil ?_))))
    obtain rfl:=some_inj hc_13
    exact loop_mk (k_4 + 1,l_5,v_18,n_20) ⟨hL_14,drop_next hD_7⟩ (Nat.lt_succ_self _) rfl (pre_r rfl)
 ·rintro ⟨s_9,n_12⟩ ho_ sl_ H_ hp_ hq_
  subst ho_
  refine wH_at _ hp_ hq_ (wH_sr (h_opz (gV n_12 2 s_9) (h_opz (gV n_12 2 s_9) (h_nil (wH_frozg 0 rfl (wH_cog 6 0 rfl rfl (wH_cog 7 0 rfl rfl (wH_cog 40 0 rfl rfl ?_))))))))
  obtain rfl:=some_inj hF
  exact wH_ret (fin0r [(vL Beat_.enc s_9)] ⟨rfl,trivial⟩)
theorem proof_mapped_ok {l_1:(List Beat_)} {n_2:Int} {r:Int×Int} (hF:proof_mapped l_1 n_2=some r) :
  FnM Try.prog 80 [(vL Beat_.enc l_1),(vI n_2)] [] (.tup [(vI r.1),(vI r.2)]) []:=by
 refine FnM.of_wH ⟨Try.prog,108,[],[]⟩ rfl Try.func80 rfl rfl (Nat.le_of_ble_eq_true rfl) (by kernel_rfl) ?_
 unfold proof_mapped at hF
 refine wH_sr (h_opz (vI 0) (h_opz (vI 0) (h_nil (wH_seq (wH_sr (h_opz (vL Beat_.enc l_1) (h_len un111 rfl wz (h_opz (vB ((l_1.length:Int) == 0)) (h_nil ?_)))))))))
 rcases cond_some hF with⟨hc_3,hF⟩ | ⟨hc_3,hF⟩
 ·refine wH_ift rfl hc_3 (wH_sr (h_opz (vI 0) (h_opz (vI 8) (h_nil ?_))))
  obtain rfl:=some_inj hF
  exact wH_ret (fin0r [(vI 0),(vI 8)] ⟨rfl,⟨rfl,trivial⟩⟩)
 ·refine wH_iff rfl hc_3 (wH_skip (wH_sr (h_opz (vI 0) (h_nil (wH_seq ?_)))))
  obtain ⟨o_12,hj_13,hF⟩:=bind_some hF
  obtain ⟨nq_51,hj_13⟩:=loopO_iter hj_13
  refine wH_loopI0 (fun (s_9:Int) => [(0,(vL Beat_.enc l_1)),(1,(vI n_2)),(6,(vI s_9))]) (fun (s_9:Int) => []) (fun (k_4:Nat)=>(fun (s_9:Int) => [(0,(vL Beat_.enc l_1)),(1,(vI n_2)),(6,(vI s_9))])) (fun s=>proof_mapped_L1 l_1 n_2 s) o_12 nq_51 0 hj_13 rfl (pre_r rfl) ?_ ?_
  ·rintro ⟨k_4,s_9⟩ hL_11
   dsimp only at hL_11
   cases k_4 with
   | zero=>cases hL_11
   | succ k_4 =>
    obtain ⟨c_,hc_10,hL_11⟩:=bind_some hL_11
    unfold proof_mapped_L1 at hc_10
    refine wH_seq (wH_seq ?_)
    obtain ⟨v_14,h_15,hc_10⟩:=bind_some hc_10
    refine wH_joinU [(0,(vL Beat_.enc l_1)),(1,(vI n_2)),(6,(vI s_9)),(25,(vB v_14))] [] ?_ ?_
    ·refine wH_region (h_opz (vI s_9) (h_opz (vL Beat_.enc l_1) (h_len un111 rfl wz (h_opz (vB (decide (s_9 < (l_1.length:Int)))) ?_))))
     rcases cond_some h_15 with⟨hc_16,h_15⟩ | ⟨hc_16,h_15⟩
     ·refine h_movb rfl hc_16 wz (h_op (vL Beat_.enc l_1) wa rfl (h_op (vI s_9) wa rfl ?_))
      obtain ⟨y_17,hy_18,h_15⟩:=bind_some h_15
      refine h_ia es111 rfl rfl hy_18 rfl wa (h_fac pl121_0 rfl [.int .i64 y_17.f_from,.int .i64 y_17.f_to] rfl rfl wa (h_ldc sz3 ag3 rfl (vI y_17.f_from) rfl wa (h_op (vI n_2) wa rfl (h_op (vB (decide (y_17.f_from≤n_2))) wa rfl (h_opz (vB (decide (y_17.f_from≤n_2))) (h_nil ?_))))))
      obtain rfl:=some_inj h_15
      exact cu
     ·refine h_movb rfl hc_16 wz (h_skipz (h_skipz (h_skipz (h_skipz (h_skipz (h_skipz (h_skipz (h_opz (vB false) (h_nil ?_)))))))))
      obtain rfl:=some_inj h_15
      exact cu
    ·rintro ⟨⟩ _ sl_ H_ hp_ hq_
     refine wH_at _ hp_ hq_ ?_
     rcases cond_some hc_10 with⟨hc_19,hc_10⟩ | ⟨hc_19,hc_10⟩
     ·refine wH_ift rfl hc_19 (wH_skip (wH_block (wH_region (h_opz (vI s_9) (h_opz (vI (w64 (s_9 + 1))) (h_opz (vI (w64 (s_9 + 1))) (h_nil ?_)))))))
      obtain rfl:=some_inj hc_10
      exact loop_mk (k_4,(w64 (s_9 + 1))) hL_11 (Nat.lt_succ_self _) rfl (pre_r rfl)
     ·refine wH_iff rfl hc_19 (wH_exit ?_)
      obtain rfl:=some_inj hc_10
      obtain rfl:=some_inj hL_11
      exact cut_mk (s_9) rfl rfl (pre_r rfl)
  ·rintro s_9 ho_ sl_ H_ hp_ hq_
   subst ho_
   refine wH_at _ hp_ hq_ (wH_sr (h_opz (vI 0) (h_nil (wH_seq (wH_block (wH_sr (h_opz (vI s_9) (h_opz (vB (s_9 == 0)) (h_opz (vB (s_9 == 0)) (h_nil ?_))))))))))
   rcases cond_some hF with⟨hc_20,hF⟩ | ⟨hc_20,hF⟩
   ·refine wH_ift rfl hc_20 (wH_draws (h_opz (vL Beat_.enc l_1) ?_))
    obtain ⟨y_21,hy_22,hF⟩:=bind_some hF
    refine h_ia es111 rfl rfl hy_22 rfl wz (h_fac pl121_1 rfl [.int .i64 y_21.f_to] rfl rfl wz (h_ldc sz3 ag3 rfl (vI y_21.f_to) rfl wz (h_opz (vL Beat_.enc l_1) ?_)))
    obtain ⟨y_23,hy_24,hF⟩:=bind_some hF
    refine h_ia es111 rfl rfl hy_24 rfl wz (h_fac pl121_0 rfl [.int .i64 y_23.f_from,.int .i64 y_23.f_to] rfl rfl wz (h_ldc sz3 ag3 rfl (vI y_23.f_from) rfl wz (h_opz (vI n_2) (h_opz (vI (w64 (y_23.f_from - n_2))) (h_opz (vI (w64 (y_21.f_to - (w64 (y_23.f_from - n_2))))) (h_opz (vI (w64 (y_21.f_to - (w64 (y_23.f_from - n_2))))) (h_nil (wH_seq (wH_sr (h_opz (vI (w64 (y_21.f_to - (w64 (y_23.f_from - n_2))))) ?_))))))))))
    obtain ⟨r_25,hr_26,hF⟩:=bind_some hF
    refine h_call0 (kit_IsMoment_ok hr_26) rfl hb40 rfl rfl rfl rfl wz (h_opz (vB (!r_25)) (h_nil ?_))
    rcases cond_some hF with⟨hc_27,hF⟩ | ⟨hc_27,hF⟩
    ·refine wH_ift rfl hc_27 (wH_sr (h_opz (vI 0) (h_opz (vI 11) (h_nil ?_))))
     obtain rfl:=some_inj hF
     exact wH_ret (fin0r [(vI 0),(vI 11)] ⟨rfl,⟨rfl,trivial⟩⟩)
    ·refine wH_iff rfl hc_27 (wH_skip (wH_sr (h_opz (vI (w64 (y_21.f_to - (w64 (y_23.f_from - n_2))))) (h_opz (vI (w64 (y_21.f_to - (w64 (y_23.f_from - n_2))))) (h_opz (vI 0) (h_nil ?_))))))
     obtain rfl:=some_inj hF
     exact wH_ret (fin0r [(vI (w64 (y_21.f_to - (w64 (y_23.f_from - n_2))))),(vI 0)] ⟨rfl,⟨rfl,trivial⟩⟩)
   ·refine wH_iff rfl hc_20 (wH_sr (h_opz (vI s_9) (h_opz (vL Beat_.enc l_1) (h_len un111 rfl wz (h_opz (vB (s_9 == (l_1.length:Int))) (h_opz (vB (s_9 == (l_1.length:Int))) (h_nil ?_)))))))
    rcases cond_some hF with⟨hc_28,hF⟩ | ⟨hc_28,hF⟩
    ·refine wH_ift rfl hc_28 (wH_draws (h_opz (vL Beat_.enc l_1) (h_opz (vI s_9) (h_opz (vI (w64 (s_9 - 1))) ?_))))
     obtain ⟨y_29,hy_30,hF⟩:=bind_some hF
     refine h_ia es111 rfl rfl hy_30 rfl wz (h_fac pl121_1 rfl [.int .i64 y_29.f_to] rfl rfl wz (h_ldc sz3 ag3 rfl (vI y_29.f_to) rfl wz (h_opz (vI n_2) (h_opz (vI (w64 (y_29.f_to + n_2))) (h_opz (vL Beat_.enc l_1) (h_opz (vI s_9) (h_opz (vI (w64 (s_9 - 1))) ?_)))))))
     obtain ⟨y_31,hy_32,hF⟩:=bind_some hF
     refine h_ia es111 rfl rfl hy_32 rfl wz (h_fac pl121_0 rfl [.int .i64 y_31.f_from,.int .i64 y_31.f_to] rfl rfl wz (h_ldc sz3 ag3 rfl (vI y_31.f_from) rfl wz (h_opz (vI (w64 ((w64 (y_29.f_to + n_2)) - y_31.f_from))) (h_opz (vI (w64 ((w64 (y_29.f_to + n_2)) - y_31.f_from))) (h_nil (wH_seq (wH_sr (h_opz (vI (w64 ((w64 (y_29.f_to + n_2)) - y_31.f_from))) ?_))))))))
     obtain ⟨r_33,hr_34,hF⟩:=bind_some hF
     refine h_call0 (kit_IsMoment_ok hr_34) rfl hb40 rfl rfl rfl rfl wz (h_opz (vB (!r_33)) (h_nil ?_))
     rcases cond_some hF with⟨hc_35,hF⟩ | ⟨hc_35,hF⟩
     ·refine wH_ift rfl hc_35 (wH_sr (h_opz (vI 0) (h_opz (vI 11) (h_nil (wH_at (H0:=([]:Hp)) ([(4,(vI 0)),(5,(vI 11))]:List (Nat×V)) (by kernel_rfl) (pre_mk (by kernel_rfl)) ?_)))))
      obtain rfl:=some_inj hF
      exact wH_ret (fin0r [(vI 0),(vI 11)] ⟨rfl,⟨rfl,trivial⟩⟩)
     ·refine wH_iff rfl hc_35 (wH_skip (wH_sr (h_opz (vI (w64 ((w64 (y_29.f_to + n_2)) - y_31.f_from))) (h_opz (vI (w64 ((w64 (y_29.f_to + n_2)) - y_31.f_from))) (h_opz (vI 0) (h_nil (wH_at (H0:=([]:Hp)) ([(4,(vI (w64 ((w64 (y_29.f_to + n_2)) - y_31.f_from)))),(5,(vI 0))]:List (Nat×V)) (by kernel_rfl) (pre_mk (by kernel_rfl)) ?_)))))))
      obtain rfl:=some_inj hF
      exact wH_ret (fin0r [(vI (w64 ((w64 (y_29.f_to + n_2)) - y_31.f_from))),(vI 0)] ⟨rfl,⟨rfl,trivial⟩⟩)
    ·refine wH_iff rfl hc_28 (wH_seq (wH_draws (h_opz (vL Beat_.enc l_1) (h_opz (vI s_9) (h_opz (vI (w64 (s_9 - 1))) ?_)))))
     obtain ⟨y_36,hy_37,hF⟩:=bind_some hF
     refine h_ia es111 rfl rfl hy_37 rfl wz (h_ldc sz121 ag121 rfl (.d (.agg (Beat_.enc y_36))) rfl wz (h_opz (vL Beat_.enc l_1) (h_opz (vI s_9) ?_)))
     obtain ⟨y_38,hy_39,hF⟩:=bind_some hF
     refine h_ia es111 rfl rfl hy_39 rfl wz (h_ldc sz121 ag121 rfl (.d (.agg (Beat_.enc y_38))) rfl wz (h_alloc 9 (.inr (by kernel_rfl)) z121 rfl wz (fun n_40=>h_alloc 10 (.inr (by kernel_rfl)) z121 rfl wz (fun n_41=>h_str 11 (.inr (by kernel_rfl)) (fun _ _ ag=>⟨.inr (.inr (by kernel_rfl)),⟨.inr (.inr (by kernel_rfl)),trivial⟩⟩) 0 sz121 rfl rfl [(vI y_36.f_from),(vI y_36.f_to)] rfl wz (h_str 12 (.inr (by kernel_rfl)) (fun _ _ ag=>⟨.inr (.inr (by kernel_rfl)),⟨.inr (.inr (by kernel_rfl)),⟨.inr (.inr (by kernel_rfl)),trivial⟩⟩⟩) 1 sz121 rfl rfl [(vI y_38.f_from),(vI y_38.f_to)] rfl wz (h_nil (wH_seq (wH_seq ?_))))))))
     obtain ⟨v_42,h_43,hF⟩:=bind_some hF
     refine wH_joinU [(1,(vI n_2)),(8,(.ref n_40 0 0)),(9,(.ref n_41 0 0)),(50,(vB v_42))] [(n_40,some (.cells 2 [(vI y_36.f_from),(vI y_36.f_to)])),(n_41,some (.cells 2 [(vI y_38.f_from),(vI y_38.f_to)]))] ?_ ?_
     ·refine wH_region (h_far pl121_0 rfl 0 rfl wz (h_ldr 0 1 il ft sz3 ag3 rfl rfl (vI y_38.f_from) rfl wz (h_far pl121_0 rfl 0 rfl wz (h_ldr 0 0 il ft sz3 ag3 rfl rfl (vI y_36.f_from) rfl wz (h_opz (vI (w64 (y_38.f_from - y_36.f_from))) (h_opz (vB (decide ((w64 (y_38.f_from - y_36.f_from)) > 2592000000))) ?_))))))
      rcases cond_some h_43 with⟨hc_44,h_43⟩ | ⟨hc_44,h_43⟩
      ·refine h_movb rfl hc_44 wz (h_skipz (h_skipz (h_skipz (h_skipz (h_skipz (h_skipz (h_opz (vB true) (h_nil ?_))))))))
       obtain rfl:=some_inj h_43
       exact cu
      ·refine h_movb rfl hc_44 wz (h_far pl121_1 rfl 1 rfl wa (h_ldr 0 1 il ft sz3 ag3 rfl rfl (vI y_38.f_to) rfl wa (h_far pl121_1 rfl 1 rfl wa (h_ldr 0 0 il ft sz3 ag3 rfl rfl (vI y_36.f_to) rfl wa (h_op (vI (w64 (y_38.f_to - y_36.f_to))) wa rfl (h_op (vB (decide ((w64 (y_38.f_to - y_36.f_to)) > 2592000000))) wa rfl (h_opz (vB (decide ((w64 (y_38.f_to - y_36.f_to)) > 2592000000))) (h_nil ?_))))))))
       obtain rfl:=some_inj h_43
       exact cu
     ·rintro ⟨⟩ _ sl_ H_ hp_ hq_
      refine wH_at _ hp_ hq_ ?_
      rcases cond_some hF with⟨hc_45,hF⟩ | ⟨hc_45,hF⟩
      ·refine wH_ift rfl hc_45 (wH_sr (h_opz (vI 0) (h_opz (vI 2) (h_nil ?_))))
       obtain rfl:=some_inj hF
       exact wH_ret (fin0r [(vI 0),(vI 2)] ⟨rfl,⟨rfl,trivial⟩⟩)
      ·refine wH_iff rfl hc_45 (wH_skip (wH_draws (h_far pl121_1 rfl 1 rfl wz (h_ldr 1 0 (.inr (by kernel_rfl)) (fun _ _ ag=>trivial) sz3 ag3 rfl rfl (vI y_36.f_to) rfl wz (h_opz (vI n_2) (h_far pl121_0 rfl 0 rfl wz (h_ldr 4 0 (.inr (by kernel_rfl)) (fun _ _ ag=>⟨.inl ⟨rfl,rfl⟩,trivial⟩) sz3 ag3 rfl rfl (vI y_36.f_from) rfl wz (h_opz (vI (w64 (n_2 - y_36.f_from))) (h_far pl121_1 rfl 1 rfl wz (h_ldr 7 1 (.inr (by kernel_rfl)) (fun _ _ ag=>⟨.inl ⟨rfl,rfl⟩,⟨.inl ⟨rfl,rfl⟩,trivial⟩⟩) sz3 ag3 rfl rfl (vI y_38.f_to) rfl wz (h_far pl121_1 rfl 1 rfl wz (h_ldr 9 0 (.inr (by kernel_rfl)) (fun _ _ ag=>⟨.inl ⟨rfl,rfl⟩,⟨.inl ⟨rfl,rfl⟩,⟨.inl ⟨rfl,rfl⟩,trivial⟩⟩⟩) sz3 ag3 rfl rfl (vI y_36.f_to) rfl wz (h_opz (vI (w64 (y_38.f_to - y_36.f_to))) (h_opz (vI (w64 ((w64 (n_2 - y_36.f_from)) * (w64 (y_38.f_to - y_36.f_to))))) (h_far pl121_0 rfl 0 rfl wz (h_ldr 13 1 (.inr (by kernel_rfl)) (fun _ _ ag=>⟨.inl ⟨rfl,rfl⟩,⟨.inl ⟨rfl,rfl⟩,⟨.inl ⟨rfl,rfl⟩,⟨.inl ⟨rfl,rfl⟩,trivial⟩⟩⟩⟩) sz3 ag3 rfl rfl (vI y_38.f_from) rfl wz (h_far pl121_0 rfl 0 rfl wz (h_ldr 15 0 (.inr (by kernel_rfl)) (fun _ _ ag=>⟨.inl ⟨rfl,rfl⟩,⟨.inl ⟨rfl,rfl⟩,⟨.inl ⟨rfl,rfl⟩,⟨.inl ⟨rfl,rfl⟩,⟨.inl ⟨rfl,rfl⟩,trivial⟩⟩⟩⟩⟩) sz3 ag3 rfl rfl (vI y_36.f_from) rfl wz (h_opz (vI (w64 (y_38.f_from - y_36.f_from))) ?_)))))))))))))))))))
       obtain ⟨q_46,hz_47,hF⟩:=bind_some hF
       refine h_quo rfl rfl hz_47 wz (h_opz (vI (w64 (y_36.f_to + q_46))) (h_opz (vI (w64 (y_36.f_to + q_46))) (h_nil (wH_seq (wH_sr (h_opz (vI (w64 (y_36.f_to + q_46))) ?_))))))
       obtain ⟨r_48,hr_49,hF⟩:=bind_some hF
       refine h_call0 (kit_IsMoment_ok hr_49) rfl hb40 rfl rfl rfl rfl wz (h_opz (vB (!r_48)) (h_nil ?_))
       rcases cond_some hF with⟨hc_50,hF⟩ | ⟨hc_50,hF⟩
       ·refine wH_ift rfl hc_50 (wH_sr (h_opz (vI 0) (h_opz (vI 11) (h_nil ?_))))
        obtain rfl:=some_inj hF
        exact wH_ret (fin0r [(vI 0),(vI 11)] ⟨rfl,⟨rfl,trivial⟩⟩)
       ·refine wH_iff rfl hc_50 (wH_skip (wH_sr (h_opz (vI (w64 (y_36.f_to + q_46))) (h_opz (vI (w64 (y_36.f_to + q_46))) (h_opz (vI 0) (h_nil ?_))))))
        obtain rfl:=some_inj hF
        exact wH_ret (fin0r [(vI (w64 (y_36.f_to + q_46))),(vI 0)] ⟨rfl,⟨rfl,trivial⟩⟩)
theorem proof_asked_ok {l_1:(List Beat)} {player_2:ByteArray} {n_3:Int} {back_4:Bool} {r:Int×Int} (hF:proof_asked l_1 player_2 n_3 back_4=some r) :
  FnM Try.prog 65 [(vL Beat.enc l_1),(vS player_2),(vI n_3),(vB back_4)] [] (.tup [(vI r.1),(vI r.2)]) []:=by
 refine FnM.of_wH ⟨Try.prog,30,[],[]⟩ rfl Try.func65 rfl rfl (Nat.le_of_ble_eq_true rfl) (by kernel_rfl) ?_
 unfold proof_asked at hF
 refine wH_sr (h_opz (vI 0) (h_opz (vI 0) (h_nil (wH_seq (wH_sr (h_opz (vL Beat.enc l_1) ?_))))))
 obtain ⟨r_5,hr_6,hF⟩:=bind_some hF
 refine h_call0 (proof_CheckBeats_ok hr_6) rfl hb79 rfl rfl rfl rfl wz (h_opz (vI r_5) (h_nil (wH_sr (h_opz (vI r_5) (h_opz (vB (r_5 != 0)) (h_nil ?_))))))
 rcases cond_some hF with⟨hc_7,hF⟩ | ⟨hc_7,hF⟩
 ·refine wH_ift rfl hc_7 (wH_sr (h_opz (vI r_5) (h_opz (vI 0) (h_opz (vI r_5) (h_nil ?_)))))
  obtain rfl:=some_inj hF
  exact wH_ret (fin0r [(vI 0),(vI r_5)] ⟨rfl,⟨rfl,trivial⟩⟩)
 ·refine wH_iff rfl hc_7 (wH_skip (wH_seq (wH_sr (h_opz (vS player_2) ?_))))
  obtain ⟨r_8,hr_9,hF⟩:=bind_some hF
  refine h_call0 (kit_IsKey_ok hr_9) rfl hb36 rfl rfl rfl rfl wz (h_opz (vB (!r_8)) (h_nil ?_))
  rcases cond_some hF with⟨hc_10,hF⟩ | ⟨hc_10,hF⟩
  ·refine wH_ift rfl hc_10 (wH_sr (h_opz (vI 0) (h_opz (vI 5) (h_nil ?_))))
   obtain rfl:=some_inj hF
   exact wH_ret (fin0r [(vI 0),(vI 5)] ⟨rfl,⟨rfl,trivial⟩⟩)
  ·refine wH_iff rfl hc_10 (wH_skip (wH_seq (wH_sr (h_opz (vI n_3) ?_))))
   obtain ⟨r_11,hr_12,hF⟩:=bind_some hF
   refine h_call0 (kit_IsMoment_ok hr_12) rfl hb40 rfl rfl rfl rfl wz (h_opz (vB (!r_11)) (h_nil ?_))
   rcases cond_some hF with⟨hc_13,hF⟩ | ⟨hc_13,hF⟩
   ·refine wH_ift rfl hc_13 (wH_sr (h_opz (vI 0) (h_opz (vI 1) (h_nil ?_))))
    obtain rfl:=some_inj hF
    exact wH_ret (fin0r [(vI 0),(vI 1)] ⟨rfl,⟨rfl,trivial⟩⟩)
   ·refine wH_iff rfl hc_13 (wH_skip (wH_sr (h_opz (vL Beat.enc l_1) (h_opz (vS player_2) (h_opz (vB back_4) ?_)))))
    obtain ⟨r_14,hr_15,hF⟩:=bind_some hF
    refine h_call0 (proof_beatsOf_ok hr_15) rfl hb81 rfl rfl rfl rfl wz (h_opz (vI n_3) ?_)
    obtain ⟨r_16,hr_17,hF⟩:=bind_some hF
    refine h_call0 (proof_mapped_ok hr_17) rfl hb80 rfl rfl rfl rfl wz (h_opz (vI r_16.1) (h_opz (vI r_16.2) (h_opz (vI r_16.1) (h_opz (vI r_16.2) (h_nil ?_)))))
    obtain rfl:=some_inj hF
    exact wH_ret (fin0r [(vI r_16.1),(vI r_16.2)] ⟨rfl,⟨rfl,trivial⟩⟩)
theorem proof_Right_ok {l_1:(List Beat)} {player_2:ByteArray} {clock_3:Int} {r:Int×Int} (hF:proof_Right l_1 player_2 clock_3=some r) :
  FnM Try.prog 54 [(vL Beat.enc l_1),(vS player_2),(vI clock_3)] [] (.tup [(vI r.1),(vI r.2)]) []:=by
 refine FnM.of_wH ⟨Try.prog,14,[],[]⟩ rfl Try.func54 rfl rfl (Nat.le_of_ble_eq_true rfl) (by kernel_rfl) ?_
 unfold proof_Right at hF
 refine wH_sr (h_opz (vI 0) (h_opz (vI 0) (h_nil (wH_sr (h_opz (vL Beat.enc l_1) (h_opz (vS player_2) (h_opz (vI clock_3) ?_)))))))
 obtain ⟨r_4,hr_5,hF⟩:=bind_some hF
 refine h_call0 (proof_asked_ok hr_5) rfl hb65 rfl rfl rfl rfl wz (h_opz (vI r_4.1) (h_opz (vI r_4.2) (h_opz (vI r_4.1) (h_opz (vI r_4.2) (h_nil ?_)))))
 obtain rfl:=some_inj hF
 exact wH_ret (fin0r [(vI r_4.1),(vI r_4.2)] ⟨rfl,⟨rfl,trivial⟩⟩)
theorem law_proved_ok {r:Bool} (hF:law_proved  = some r) :
  FnM Try.prog 25 [] [] (vB r) []:=by
 refine FnM.of_wH ⟨Try.prog,16,[],[]⟩ rfl Try.func25 rfl rfl (Nat.le_of_ble_eq_true rfl) (by kernel_rfl) ?_
 unfold law_proved at hF
 refine wH_sr (h_opz (vB false) (h_nil (wH_sr (h_op (.d (.agg (Beat.enc (⟨(⟨#[112]⟩:ByteArray),0,100⟩:Beat)))) wz (by kernel_rfl) (h_op (.d (.agg (Beat.enc (⟨(⟨#[112]⟩:ByteArray),1000,1300⟩:Beat)))) wz (by kernel_rfl) (h_lit (([(⟨(⟨#[112]⟩:ByteArray),0,100⟩:Beat),(⟨(⟨#[112]⟩:ByteArray),1000,1300⟩:Beat)]:List Beat).map Beat.enc) es89 ez89 rfl rfl rfl rfl rfl wz ?_))))))
 obtain ⟨r_1,hr_2,hF⟩:=bind_some hF
 refine h_call0 (proof_Right_ok hr_2) rfl hb54 rfl rfl rfl rfl wz (h_opz (.tup [(vI r_1.1),(vI r_1.2)]) (h_opz (vI r_1.1) (h_opz (vI r_1.2) (h_opz (vI r_1.1) (h_opz (vI r_1.2) (h_nil (wH_seq ?_)))))))
 obtain ⟨v_3,h_4,hF⟩:=bind_some hF
 refine wH_joinU [(0,(vB v_3))] [] ?_ ?_
 ·refine wH_region (h_opz (vI r_1.2) (h_opz (vB (r_1.2 == 0)) ?_))
  rcases cond_some h_4 with⟨hc_5,h_4⟩ | ⟨hc_5,h_4⟩
  ·refine h_movb rfl hc_5 wz (h_op (vI r_1.1) wa rfl (h_op (vB (r_1.1 == 500)) wa rfl (h_opz (vB (r_1.1 == 500)) (h_opz (vB (r_1.1 == 500)) (h_nil ?_)))))
   obtain rfl:=some_inj h_4
   exact cu
  ·refine h_movb rfl hc_5 wz (h_skipz (h_skipz (h_opz (vB false) (h_opz (vB false) (h_nil ?_)))))
   obtain rfl:=some_inj h_4
   exact cu
 ·rintro ⟨⟩ _ sl_ H_ hp_ hq_
  refine wH_at _ hp_ hq_ ?_
  obtain rfl:=some_inj hF
  exact wH_ret (fin0r [(vB v_3)] ⟨rfl,trivial⟩)
theorem law_PlaysCounted_ok {l_1:(List Int)} {r:Bool} (hF:law_PlaysCounted l_1=some r) :
  FnM Try.prog 3 [(vL eI l_1)] [] (vB r) []:=by
 refine FnM.of_wH ⟨Try.prog,165,[],[]⟩ rfl Try.func3 rfl rfl (Nat.le_of_ble_eq_true rfl) (by kernel_rfl) ?_
 unfold law_PlaysCounted at hF
 refine wH_sr (h_opz (vB false) (h_nil (wH_sr (h_opz (vL eI l_1) (h_op (.d (.agg (Stream.enc (⟨l_1,0⟩:Stream)))) wz (by kernel_rfl) (h_box 0 (.inl rfl) [(vL eI l_1),(vI 0)] rfl rfl wz (fun n_2=>h_opz (.ref n_2 0 0) (h_nil (wH_sr (h_opz (.ref n_2 0 0) ?_))))))))))
 obtain ⟨r_3,hr_4,hF⟩:=bind_some hF
 refine h_callq 0 [0] il ft (mk_Stream_Plays_ok hr_4) rfl hb4 rfl (by kernel_rfl) (by kernel_rfl) (by kernel_rfl) (by kernel_rfl) (by kernel_rfl) (by kernel_rfl) (by kernel_rfl) (by decide) (by kernel_rfl) wz (vL Play.enc r_3.1) (by kernel_rfl) ([(n_2,some (.cells 2 [(vL eI r_3.2.L),(vI r_3.2.f_at)]))]:Hp) (by kernel_rfl) (h_opz (.ref n_2 0 0) ?_)
 obtain ⟨r_6,hr_7,hF⟩:=bind_some hF
 refine h_callq 0 [0] il ft (mk_Stream_Plays_ok hr_7) rfl hb4 rfl (by kernel_rfl) (by kernel_rfl) (by kernel_rfl) (by kernel_rfl) (by kernel_rfl) (by kernel_rfl) (by kernel_rfl) (by decide) (by kernel_rfl) wz (vL Play.enc r_6.1) (by kernel_rfl) ([(n_2,some (.cells 2 [(vL eI r_6.2.L),(vI r_6.2.f_at)]))]:Hp) (by kernel_rfl) (h_opz (.ref n_2 0 0) (h_lit (([0,0,60,(-60),1440,1441]:List Int).map eI) es22 ez22 rfl rfl rfl rfl rfl wz ?_))
 obtain ⟨r_9,hr_10,hF⟩:=bind_some hF
 refine h_callq 0 [0] il ft (mk_Stream_Pick_ok hr_10) rfl hb5 rfl (by kernel_rfl) (by kernel_rfl) (by kernel_rfl) (by kernel_rfl) (by kernel_rfl) (by kernel_rfl) (by kernel_rfl) (by decide) (by kernel_rfl) wz (vI r_9.1) (by kernel_rfl) ([(n_2,some (.cells 2 [(vL eI r_9.2.L),(vI r_9.2.f_at)]))]:Hp) (by kernel_rfl) (h_opz (.ref n_2 0 0) (h_lit (([(⟨#[112,97]⟩:ByteArray),(⟨#[112,98]⟩:ByteArray),(⟨#[112,122]⟩:ByteArray),(⟨#[]⟩:ByteArray)]:List ByteArray).map eS) es67 ez67 rfl rfl rfl rfl rfl wz ?_))
 obtain ⟨r_12,hr_13,hF⟩:=bind_some hF
 refine h_callq 0 [0] il ft (mk_Stream_Some_ok hr_13) rfl hb6 rfl (by kernel_rfl) (by kernel_rfl) (by kernel_rfl) (by kernel_rfl) (by kernel_rfl) (by kernel_rfl) (by kernel_rfl) (by decide) (by kernel_rfl) wz (vS r_12.1) (by kernel_rfl) ([(n_2,some (.cells 2 [(vL eI r_12.2.L),(vI r_12.2.f_at)]))]:Hp) (by kernel_rfl) (h_opz (.ref n_2 0 0) (h_lit (([0,5,20,1000,(-1),86400001]:List Int).map eI) es22 ez22 rfl rfl rfl rfl rfl wz ?_))
 obtain ⟨r_15,hr_16,hF⟩:=bind_some hF
 refine h_callq 0 [0] il ft (mk_Stream_Pick_ok hr_16) rfl hb5 rfl (by kernel_rfl) (by kernel_rfl) (by kernel_rfl) (by kernel_rfl) (by kernel_rfl) (by kernel_rfl) (by kernel_rfl) (by decide) (by kernel_rfl) wz (vI r_15.1) (by kernel_rfl) ([(n_2,some (.cells 2 [(vL eI r_15.2.L),(vI r_15.2.f_at)]))]:Hp) (by kernel_rfl) (h_opz (vL Play.enc r_3.1) (h_opz (vL Play.enc r_6.1) (h_opz (vI r_9.1) (h_opz (vS r_12.1) (h_opz (vI r_15.1) (h_nil (wH_sr (h_opz (.ref n_2 0 0) (h_lit (([0,3,10]:List Int).map eI) es22 ez22 rfl rfl rfl rfl rfl wz ?_)))))))))
 obtain ⟨r_18,hr_19,hF⟩:=bind_some hF
 refine h_callq 0 [0] il ft (mk_Stream_Pick_ok hr_19) rfl hb5 rfl (by kernel_rfl) (by kernel_rfl) (by kernel_rfl) (by kernel_rfl) (by kernel_rfl) (by kernel_rfl) (by kernel_rfl) (by decide) (by kernel_rfl) wz (vI r_18.1) (by kernel_rfl) ([(n_2,some (.cells 2 [(vL eI r_18.2.L),(vI r_18.2.f_at)]))]:Hp) (by kernel_rfl) (h_opz (.ref n_2 0 0) (h_lit (([5,50,200]:List Int).map eI) es22 ez22 rfl rfl rfl rfl rfl wz ?_))
 obtain ⟨r_21,hr_22,hF⟩:=bind_some hF
 refine h_callq 0 [0] il ft (mk_Stream_Pick_ok hr_22) rfl hb5 rfl (by kernel_rfl) (by kernel_rfl) (by kernel_rfl) (by kernel_rfl) (by kernel_rfl) (by kernel_rfl) (by kernel_rfl) (by decide) (by kernel_rfl) wz (vI r_21.1) (by kernel_rfl) ([(n_2,some (.cells 2 [(vL eI r_21.2.L),(vI r_21.2.f_at)]))]:Hp) (by kernel_rfl) (h_op (.d (.agg (Window.enc (⟨r_18.1,r_21.1⟩:Window)))) wz (by kernel_rfl) (h_alloc 0 (.inl rfl) z31 rfl wz (fun n_24=>h_str 0 il ft 1 sz31 rfl rfl [(vI r_18.1),(vI r_21.1)] rfl wz (h_nil (wH_at (H0:=([(n_2,some (.cells 2 [(vL eI r_21.2.L),(vI r_21.2.f_at)])),(n_24,some (.cells 2 [(vI r_18.1),(vI r_21.1)]))]:Hp)) ([(3,(.ref n_2 0 0)),(4,(vL Play.enc r_3.1)),(5,(vL Play.enc r_6.1)),(6,(vI r_9.1)),(7,(vS r_12.1)),(8,(vI r_15.1)),(9,(.ref n_24 0 0))]:List (Nat×V)) (by kernel_rfl) (pre_mk (by kernel_rfl)) (wH_seq (wH_sr (h_opz (.ref n_2 0 0) ?_))))))))
 obtain ⟨r_25,hr_26,hF⟩:=bind_some hF
 refine h_callq 0 [0] il ft (mk_Stream_Flip_ok hr_26) rfl hb7 rfl (by kernel_rfl) (by kernel_rfl) (by kernel_rfl) (by kernel_rfl) (by kernel_rfl) (by kernel_rfl) (by kernel_rfl) (by decide) (by kernel_rfl) wz (vB r_25.1) (by kernel_rfl) ([(n_2,some (.cells 2 [(vL eI r_25.2.L),(vI r_25.2.f_at)])),(n_24,some (.cells 2 [(vI r_18.1),(vI r_21.1)]))]:Hp) (by kernel_rfl) (h_nil ?_)
 obtain ⟨v_28,h_29,hF⟩:=bind_some hF
 refine wH_joinU [(4,(vL Play.enc r_3.1)),(5,(vL Play.enc r_6.1)),(6,(vI r_9.1)),(7,(vS r_12.1)),(8,(vI r_15.1)),(9,(.ref n_24 0 0))] [(n_2,some (.cells 2 [(vL eI v_28.1),(vI v_28.2.1)])),(n_24,some (.cells 2 [(vI v_28.2.2.1),(vI v_28.2.2.2)]))] ?_ ?_
 ·rcases cond_some h_29 with⟨hc_30,h_29⟩ | ⟨hc_30,h_29⟩
  ·refine wH_ift rfl hc_30 (wH_region (h_opz (.ref n_2 0 0) ?_))
   obtain ⟨r_31,hr_32,h_29⟩:=bind_some h_29
   refine h_callq 0 [0] il ft (mk_Stream_Odd_ok hr_32) rfl hb8 rfl (by kernel_rfl) (by kernel_rfl) (by kernel_rfl) (by kernel_rfl) (by kernel_rfl) (by kernel_rfl) (by kernel_rfl) (by decide) (by kernel_rfl) wz (vI r_31.1) (by kernel_rfl) ([(n_2,some (.cells 2 [(vL eI r_31.2.L),(vI r_31.2.f_at)])),(n_24,some (.cells 2 [(vI r_18.1),(vI r_21.1)]))]:Hp) (by kernel_rfl) (h_opz (.ref n_2 0 0) ?_)
   obtain ⟨r_34,hr_35,h_29⟩:=bind_some h_29
   refine h_callq 0 [0] il ft (mk_Stream_Odd_ok hr_35) rfl hb8 rfl (by kernel_rfl) (by kernel_rfl) (by kernel_rfl) (by kernel_rfl) (by kernel_rfl) (by kernel_rfl) (by kernel_rfl) (by decide) (by kernel_rfl) wz (vI r_34.1) (by kernel_rfl) ([(n_2,some (.cells 2 [(vL eI r_34.2.L),(vI r_34.2.f_at)])),(n_24,some (.cells 2 [(vI r_18.1),(vI r_21.1)]))]:Hp) (by kernel_rfl) (h_op (.d (.agg (Window.enc (⟨r_31.1,r_34.1⟩:Window)))) wz (by kernel_rfl) (h_str 0 il ft 1 sz31 rfl rfl [(vI r_31.1),(vI r_34.1)] rfl wz (h_nil ?_)))
   obtain rfl:=some_inj h_29
   exact cu
  ·refine wH_iff rfl hc_30 (wH_skip ?_)
   obtain rfl:=some_inj h_29
   exact cu
 ·rintro ⟨⟩ _ sl_ H_ hp_ hq_
  refine wH_at _ hp_ hq_ (wH_sr (h_opz (vL Play.enc r_3.1) (h_opz (vI r_9.1) ?_)))
  obtain ⟨r_37,hr_38,hF⟩:=bind_some hF
  refine h_call0 (proof_Counts_ok hr_38) rfl hb9 rfl rfl rfl rfl wz (h_opz (.tup [(vL Tally.enc r_37.1),(vI r_37.2)]) (h_opz (vL Tally.enc r_37.1) (h_opz (vI r_37.2) (h_opz (vL Tally.enc r_37.1) (h_opz (vI r_37.2) (h_nil (wH_sr (h_opz (vL Play.enc r_3.1) (h_opz (vS r_12.1) (h_ldr 0 1 il ft sz31 ag31 rfl rfl (.d (.agg (Window.enc (⟨v_28.2.2.1,v_28.2.2.2⟩:Window)))) rfl wz ?_))))))))))
  obtain ⟨r_39,hr_40,hF⟩:=bind_some hF
  refine h_call0 (proof_Idle_ok hr_40) rfl hb10 rfl rfl rfl rfl wz (h_opz (.tup [(vL Window.enc r_39.1),(vI r_39.2)]) (h_opz (vL Window.enc r_39.1) (h_opz (vI r_39.2) (h_opz (vL Window.enc r_39.1) (h_opz (vI r_39.2) (h_nil (wH_sr (h_opz (vL Play.enc r_3.1) (h_opz (vL Play.enc r_6.1) (h_opz (vI r_15.1) ?_))))))))))
  obtain ⟨r_41,hr_42,hF⟩:=bind_some hF
  refine h_call0 (proof_Compare_ok hr_42) rfl hb11 rfl rfl rfl rfl wz (h_opz (.tup [(vL Match.enc r_41.1),(vL eI r_41.2.1),(vI r_41.2.2)]) (h_opz (vL Match.enc r_41.1) (h_opz (vL eI r_41.2.1) (h_opz (vI r_41.2.2) (h_opz (vL Match.enc r_41.1) (h_opz (vL eI r_41.2.1) (h_opz (vI r_41.2.2) (h_nil (wH_sr (h_opz (vL Play.enc r_3.1) ?_))))))))))
  obtain ⟨r_43,hr_44,hF⟩:=bind_some hF
  refine h_call0 (ref_PlaysFault_ok hr_44) rfl hb12 rfl rfl rfl rfl wz (h_opz (vI r_43) (h_nil (wH_at (H0:=([(n_2,some (.cells 2 [(vL eI v_28.1),(vI v_28.2.1)])),(n_24,some (.cells 2 [(vI v_28.2.2.1),(vI v_28.2.2.2)]))]:Hp)) ([(4,(vL Play.enc r_3.1)),(5,(vL Play.enc r_6.1)),(6,(vI r_9.1)),(7,(vS r_12.1)),(8,(vI r_15.1)),(9,(.ref n_24 0 0)),(10,(vL Tally.enc r_37.1)),(11,(vI r_37.2)),(12,(vL Window.enc r_39.1)),(13,(vI r_39.2)),(14,(vL Match.enc r_41.1)),(15,(vL eI r_41.2.1)),(16,(vI r_41.2.2)),(17,(vI r_43))]:List (Nat×V)) (by kernel_rfl) (pre_mk (by kernel_rfl)) (wH_seq (wH_sr (h_opz (vL Play.enc r_3.1) ?_))))))
  obtain ⟨r_45,hr_46,hF⟩:=bind_some hF
  refine h_call0 (proof_CheckPlays_ok hr_46) rfl hb13 rfl rfl rfl rfl wz (h_opz (vI r_43) (h_opz (vB (r_45 != r_43)) (h_nil ?_)))
  rcases cond_some hF with⟨hc_47,hF⟩ | ⟨hc_47,hF⟩
  ·refine wH_ift rfl hc_47 (wH_sr (h_opz (vB false) (h_nil ?_)))
   obtain rfl:=some_inj hF
   exact wH_ret (fin0r [(vB false)] ⟨rfl,trivial⟩)
  ·refine wH_iff rfl hc_47 (wH_skip (wH_seq (wH_draws (h_opz (vI r_43) (h_opz (vI r_9.1) (h_opz (vB (decide (r_9.1 > 1440))) ?_))))))
   obtain ⟨r_48,hr_49,hF⟩:=bind_some hF
   refine h_call0 (law_when_ok hr_49) rfl hb15 rfl rfl rfl rfl wz (h_lit (([r_43,r_48]:List Int).map eI) es77 ez77 rfl rfl rfl rfl rfl wz ?_)
   obtain ⟨r_50,hr_51,hF⟩:=bind_some hF
   refine h_call0 (law_errs_ok hr_51) rfl hb14 rfl rfl rfl rfl wz (h_opz (vI r_43) (h_opz (vS r_12.1) ?_))
   obtain ⟨r_52,hr_53,hF⟩:=bind_some hF
   refine h_call0 (ref_Key_ok hr_53) rfl hb16 rfl rfl rfl rfl wz (h_opz (vB (!r_52)) ?_)
   obtain ⟨r_54,hr_55,hF⟩:=bind_some hF
   refine h_call0 (law_when_ok hr_55) rfl hb15 rfl rfl rfl rfl wz (h_ldr 11 1 (.inr (by kernel_rfl)) (fun _ _ ag=>trivial) sz31 ag31 rfl rfl (.d (.agg (Window.enc (⟨v_28.2.2.1,v_28.2.2.2⟩:Window)))) rfl wz ?_)
   obtain ⟨r_56,hr_57,hF⟩:=bind_some hF
   refine h_call0 (ref_WindowFault_ok hr_57) rfl hb17 rfl rfl rfl rfl wz (h_lit (([r_43,r_54,r_56]:List Int).map eI) es77 ez77 rfl rfl rfl rfl rfl wz ?_)
   obtain ⟨r_58,hr_59,hF⟩:=bind_some hF
   refine h_call0 (law_errs_ok hr_59) rfl hb14 rfl rfl rfl rfl wz (h_opz (vI r_50) (h_opz (vI r_58) (h_nil (wH_seq ?_))))
   obtain ⟨v_60,h_61,hF⟩:=bind_some hF
   refine wH_joinU [(4,(vL Play.enc r_3.1)),(5,(vL Play.enc r_6.1)),(6,(vI r_9.1)),(7,(vS r_12.1)),(8,(vI r_15.1)),(9,(.ref n_24 0 0)),(10,(vL Tally.enc r_37.1)),(11,(vI r_37.2)),(12,(vL Window.enc r_39.1)),(13,(vI r_39.2)),(14,(vL Match.enc r_41.1)),(15,(vL eI r_41.2.1)),(16,(vI r_41.2.2)),(18,(vI r_50)),(19,(vI r_58)),(20,(vI v_60))] [(n_2,some (.cells 2 [(vL eI v_28.1),(vI v_28.2.1)])),(n_24,some (.cells 2 [(vI v_28.2.2.1),(vI v_28.2.2.2)]))] ?_ ?_
   ·refine wH_region (h_opz (vI r_43) (h_opz (vL Play.enc r_6.1) ?_))
    obtain ⟨r_62,hr_63,h_61⟩:=bind_some h_61
    refine h_call0 (ref_PlaysFault_ok hr_63) rfl hb12 rfl rfl rfl rfl wz (h_opz (vI r_15.1) (h_opz (vB (decide (r_15.1 < 0))) ?_))
    rcases cond_some h_61 with⟨hc_64,h_61⟩ | ⟨hc_64,h_61⟩
    ·refine h_movb rfl hc_64 wz (h_skipz (h_skipz (h_opz (vB true) ?_)))
     obtain ⟨r_65,hr_66,h_61⟩:=bind_some h_61
     refine h_call0 (law_when_ok hr_66) rfl hb15 rfl rfl rfl rfl wz (h_lit (([r_43,r_62,r_65]:List Int).map eI) es77 ez77 rfl rfl rfl rfl rfl wz ?_)
     obtain ⟨r_67,hr_68,h_61⟩:=bind_some h_61
     refine h_call0 (law_errs_ok hr_68) rfl hb14 rfl rfl rfl rfl wz (h_opz (vI r_67) (h_nil ?_))
     obtain rfl:=some_inj h_61
     exact cu
    ·refine h_movb rfl hc_64 wz (h_op (vI r_15.1) wa rfl (h_op (vB (decide (r_15.1 > 86400000))) wa rfl (h_opz (vB (decide (r_15.1 > 86400000))) ?_)))
     obtain ⟨r_69,hr_70,h_61⟩:=bind_some h_61
     refine h_call0 (law_when_ok hr_70) rfl hb15 rfl rfl rfl rfl wz (h_lit (([r_43,r_62,r_69]:List Int).map eI) es77 ez77 rfl rfl rfl rfl rfl wz ?_)
     obtain ⟨r_71,hr_72,h_61⟩:=bind_some h_61
     refine h_call0 (law_errs_ok hr_72) rfl hb14 rfl rfl rfl rfl wz (h_opz (vI r_71) (h_nil ?_))
     obtain rfl:=some_inj h_61
     exact cu
   ·rintro ⟨⟩ _ sl_ H_ hp_ hq_
    refine wH_at _ hp_ hq_ (wH_sr (h_opz .nil (h_nil (wH_sr (h_opz .nil (h_nil (wH_sr (h_opz .nil (h_nil (wH_sr (h_opz .nil (h_nil (wH_seq (wH_sr (h_opz (vI r_50) (h_opz (vB (r_50 == 0)) (h_nil (wH_nilL Tally.enc 21 rfl ?_))))))))))))))))))
    obtain ⟨v_75,h_76,hF⟩:=bind_some hF
    refine wH_joinU [(4,(vL Play.enc r_3.1)),(5,(vL Play.enc r_6.1)),(7,(vS r_12.1)),(8,(vI r_15.1)),(9,(.ref n_24 0 0)),(10,(vL Tally.enc r_37.1)),(11,(vI r_37.2)),(12,(vL Window.enc r_39.1)),(13,(vI r_39.2)),(14,(vL Match.enc r_41.1)),(15,(vL eI r_41.2.1)),(16,(vI r_41.2.2)),(18,(vI r_50)),(19,(vI r_58)),(20,(vI v_60)),(21,(vL Tally.enc v_75)),(22,.nil),(23,.nil),(24,.nil)] [(n_2,some (.cells 2 [(vL eI v_28.1),(vI v_28.2.1)])),(n_24,some (.cells 2 [(vI v_28.2.2.1),(vI v_28.2.2.2)]))] ?_ ?_
    ·rcases cond_some h_76 with⟨hc_77,h_76⟩ | ⟨hc_77,h_76⟩
     ·refine wH_ift rfl hc_77 (wH_region (h_opz (vL Play.enc r_3.1) (h_opz (vI r_9.1) ?_)))
      obtain ⟨r_78,hr_79,h_76⟩:=bind_some h_76
      refine h_call0 (ref_CountsOf_ok hr_79) rfl hb18 rfl rfl rfl rfl wz (h_opz (vL Tally.enc r_78) (h_nil ?_))
      obtain rfl:=some_inj h_76
      exact cu
     ·refine wH_iff rfl hc_77 (wH_skip ?_)
      obtain rfl:=some_inj h_76
      exact cu
    ·rintro ⟨⟩ _ sl_ H_ hp_ hq_
     refine wH_at _ hp_ hq_ (wH_seq (wH_sr (h_opz (vI r_58) (h_opz (vB (r_58 == 0)) (h_nil (wH_nilL Window.enc 22 rfl ?_))))))
     obtain ⟨v_82,h_83,hF⟩:=bind_some hF
     refine wH_joinU [(4,(vL Play.enc r_3.1)),(5,(vL Play.enc r_6.1)),(8,(vI r_15.1)),(10,(vL Tally.enc r_37.1)),(11,(vI r_37.2)),(12,(vL Window.enc r_39.1)),(13,(vI r_39.2)),(14,(vL Match.enc r_41.1)),(15,(vL eI r_41.2.1)),(16,(vI r_41.2.2)),(18,(vI r_50)),(19,(vI r_58)),(20,(vI v_60)),(21,(vL Tally.enc v_75)),(22,(vL Window.enc v_82)),(23,.nil),(24,.nil)] [(n_2,some (.cells 2 [(vL eI v_28.1),(vI v_28.2.1)])),(n_24,some (.cells 2 [(vI v_28.2.2.1),(vI v_28.2.2.2)]))] ?_ ?_
     ·rcases cond_some h_83 with⟨hc_84,h_83⟩ | ⟨hc_84,h_83⟩
      ·refine wH_ift rfl hc_84 (wH_region (h_opz (vL Play.enc r_3.1) (h_opz (vS r_12.1) (h_ldr 0 1 il ft sz31 ag31 rfl rfl (.d (.agg (Window.enc (⟨v_28.2.2.1,v_28.2.2.2⟩:Window)))) rfl wz ?_))))
       obtain ⟨r_85,hr_86,h_83⟩:=bind_some h_83
       refine h_call0 (ref_IdleOf_ok hr_86) rfl hb19 rfl rfl rfl rfl wz (h_opz (vL Window.enc r_85) (h_nil ?_))
       obtain rfl:=some_inj h_83
       exact cu
      ·refine wH_iff rfl hc_84 (wH_skip ?_)
       obtain rfl:=some_inj h_83
       exact cu
     ·rintro ⟨⟩ _ sl_ H_ hp_ hq_
      refine wH_at _ hp_ hq_ (wH_seq (wH_sr (h_opz (vI v_60) (h_opz (vB (v_60 == 0)) (h_nil (wH_nilL Match.enc 23 rfl (wH_nilL eI 24 rfl ?_)))))))
      obtain ⟨v_91,h_92,hF⟩:=bind_some hF
      refine wH_joinU [(10,(vL Tally.enc r_37.1)),(11,(vI r_37.2)),(12,(vL Window.enc r_39.1)),(13,(vI r_39.2)),(14,(vL Match.enc r_41.1)),(15,(vL eI r_41.2.1)),(16,(vI r_41.2.2)),(18,(vI r_50)),(19,(vI r_58)),(20,(vI v_60)),(21,(vL Tally.enc v_75)),(22,(vL Window.enc v_82)),(23,(vL Match.enc v_91.1)),(24,(vL eI v_91.2))] [(n_2,some (.cells 2 [(vL eI v_28.1),(vI v_28.2.1)])),(n_24,some (.cells 2 [(vI v_28.2.2.1),(vI v_28.2.2.2)]))] ?_ ?_
      ·rcases cond_some h_92 with⟨hc_93,h_92⟩ | ⟨hc_93,h_92⟩
       ·refine wH_ift rfl hc_93 (wH_region (h_opz (vL Play.enc r_3.1) (h_opz (vL Play.enc r_6.1) (h_opz (vI r_15.1) ?_))))
        obtain ⟨r_94,hr_95,h_92⟩:=bind_some h_92
        refine h_call0 (ref_CompareOf_ok hr_95) rfl hb20 rfl rfl rfl rfl wz (h_opz (.tup [(vL Match.enc r_94.1),(vL eI r_94.2)]) (h_opz (vL Match.enc r_94.1) (h_opz (vL eI r_94.2) (h_opz (vL Match.enc r_94.1) (h_opz (vL eI r_94.2) (h_nil ?_))))))
        obtain rfl:=some_inj h_92
        exact cu
       ·refine wH_iff rfl hc_93 (wH_skip ?_)
        obtain rfl:=some_inj h_92
        exact cu
      ·rintro ⟨⟩ _ sl_ H_ hp_ hq_
       refine wH_at _ hp_ hq_ (wH_seq ?_)
       obtain ⟨v_96,h_97,hF⟩:=bind_some hF
       refine wH_joinU [(2,(vB v_96))] [(n_2,some (.cells 2 [(vL eI v_28.1),(vI v_28.2.1)])),(n_24,some (.cells 2 [(vI v_28.2.2.1),(vI v_28.2.2.2)]))] ?_ ?_
       ·refine wH_region (h_opz (vI r_37.2) (h_opz (vI r_50) (h_opz (vB (r_37.2 == r_50)) ?_)))
        rcases cond_some h_97 with⟨hc_98,h_97⟩ | ⟨hc_98,h_97⟩
        ·refine h_movb rfl hc_98 wz (h_op (vL Tally.enc r_37.1) wa rfl (h_op (vL Tally.enc v_75) wa rfl ?_))
         obtain ⟨r_99,hr_100,h_97⟩:=bind_some h_97
         refine h_call0 (slices_Equal_api_Tally_api_Tally_ok hr_100) rfl hb21 rfl rfl rfl rfl wa (h_opz (vB r_99) ?_)
         rcases cond_some h_97 with⟨hc_101,h_97⟩ | ⟨hc_101,h_97⟩
         ·refine h_movb rfl hc_101 wz (h_op (vI r_39.2) wa rfl (h_op (vI r_58) wa rfl (h_op (vB (r_39.2 == r_58)) wa rfl (h_opz (vB (r_39.2 == r_58)) ?_))))
          rcases cond_some h_97 with⟨hc_102,h_97⟩ | ⟨hc_102,h_97⟩
          ·refine h_movb rfl hc_102 wz (h_op (vL Window.enc r_39.1) wa rfl (h_op (vL Window.enc v_82) wa rfl ?_))
           obtain ⟨r_103,hr_104,h_97⟩:=bind_some h_97
           refine h_call0 (slices_Equal_api_Window_api_Window_ok hr_104) rfl hb22 rfl rfl rfl rfl wa (h_opz (vB r_103) ?_)
           rcases cond_some h_97 with⟨hc_105,h_97⟩ | ⟨hc_105,h_97⟩
           ·refine h_movb rfl hc_105 wz (h_op (vI r_41.2.2) wa rfl (h_op (vI v_60) wa rfl (h_op (vB (r_41.2.2 == v_60)) wa rfl (h_opz (vB (r_41.2.2 == v_60)) ?_))))
            rcases cond_some h_97 with⟨hc_106,h_97⟩ | ⟨hc_106,h_97⟩
            ·refine h_movb rfl hc_106 wz (h_op (vL Match.enc r_41.1) wa rfl (h_op (vL Match.enc v_91.1) wa rfl ?_))
             obtain ⟨r_107,hr_108,h_97⟩:=bind_some h_97
             refine h_call0 (slices_Equal_api_Match_api_Match_ok hr_108) rfl hb23 rfl rfl rfl rfl wa (h_opz (vB r_107) ?_)
             rcases cond_some h_97 with⟨hc_109,h_97⟩ | ⟨hc_109,h_97⟩
             ·refine h_movb rfl hc_109 wz (h_op (vL eI r_41.2.1) wa rfl (h_op (vL eI v_91.2) wa rfl ?_))
              obtain ⟨r_110,hr_111,h_97⟩:=bind_some h_97
              refine h_call0 (slices_Equal_int_int_ok hr_111) rfl hb24 rfl rfl rfl rfl wa (h_opz (vB r_110) ?_)
              rcases cond_some h_97 with⟨hc_112,h_97⟩ | ⟨hc_112,h_97⟩
              ·refine h_movb rfl hc_112 wz ?_
               obtain ⟨r_113,hr_114,h_97⟩:=bind_some h_97
               refine h_call0 (law_proved_ok hr_114) rfl hb25 rfl rfl rfl rfl wa (h_opz (vB r_113) (h_opz (vB r_113) (h_nil ?_)))
               obtain rfl:=some_inj h_97
               exact cu
              ·refine h_movb rfl hc_112 wz (h_skipz (h_opz (vB false) (h_opz (vB false) (h_nil ?_))))
               obtain rfl:=some_inj h_97
               exact cu
             ·refine h_movb rfl hc_109 wz (h_skipz (h_skipz (h_skipz (h_opz (vB false) (h_opz (vB false) (h_skipz (h_opz (vB false) (h_opz (vB false) (h_nil ?_)))))))))
              obtain rfl:=some_inj h_97
              exact cu
            ·refine h_movb rfl hc_106 wz (h_skipz (h_skipz (h_skipz (h_opz (vB false) (h_opz (vB false) (h_skipz (h_skipz (h_skipz (h_opz (vB false) (h_opz (vB false) (h_skipz (h_opz (vB false) (h_opz (vB false) (h_nil ?_))))))))))))))
             obtain rfl:=some_inj h_97
             exact cu
           ·refine h_movb rfl hc_105 wz (h_skipz (h_skipz (h_skipz (h_opz (vB false) (h_opz (vB false) (h_skipz (h_skipz (h_skipz (h_opz (vB false) (h_opz (vB false) (h_skipz (h_skipz (h_skipz (h_opz (vB false) (h_opz (vB false) (h_skipz (h_opz (vB false) (h_opz (vB false) (h_nil ?_)))))))))))))))))))
            obtain rfl:=some_inj h_97
            exact cu
          ·refine h_movb rfl hc_102 wz (h_skipz (h_skipz (h_skipz (h_opz (vB false) (h_opz (vB false) (h_skipz (h_skipz (h_skipz (h_opz (vB false) (h_opz (vB false) (h_skipz (h_skipz (h_skipz (h_opz (vB false) (h_opz (vB false) (h_skipz (h_skipz (h_skipz (h_opz (vB false) (h_opz (vB false) (h_skipz (h_opz (vB false) (h_opz (vB false) ?_)))))))))))))))))))))))
           refine h_nil ?_
           obtain rfl:=some_inj h_97
           exact cu
         ·refine h_movb rfl hc_101 wz (h_skipz (h_skipz (h_skipz (h_opz (vB false) (h_opz (vB false) (h_skipz (h_skipz (h_skipz (h_opz (vB false) (h_opz (vB false) (h_skipz (h_skipz (h_skipz (h_opz (vB false) (h_opz (vB false) (h_skipz (h_skipz (h_skipz (h_opz (vB false) (h_opz (vB false) (h_skipz (h_skipz (h_skipz ?_)))))))))))))))))))))))
          refine h_opz (vB false) (h_opz (vB false) (h_skipz (h_opz (vB false) (h_opz (vB false) (h_nil ?_)))))
          obtain rfl:=some_inj h_97
          exact cu
        ·refine h_movb rfl hc_98 wz (h_skipz (h_skipz (h_skipz (h_opz (vB false) (h_opz (vB false) (h_skipz (h_skipz (h_skipz (h_opz (vB false) (h_opz (vB false) (h_skipz (h_skipz (h_skipz (h_opz (vB false) (h_opz (vB false) (h_skipz (h_skipz (h_skipz (h_opz (vB false) (h_opz (vB false) (h_skipz (h_skipz (h_skipz ?_)))))))))))))))))))))))
         refine h_opz (vB false) (h_opz (vB false) (h_skipz (h_skipz (h_skipz (h_opz (vB false) (h_opz (vB false) (h_skipz (h_opz (vB false) (h_opz (vB false) (h_nil ?_))))))))))
         obtain rfl:=some_inj h_97
         exact cu
       ·rintro ⟨⟩ _ sl_ H_ hp_ hq_
        refine wH_at _ hp_ hq_ ?_
        obtain rfl:=some_inj hF
        exact wH_ret (fin0r [(vB v_96)] ⟨rfl,trivial⟩)
end Go.Proofs.Ythcdokkcamcnmab.Law

