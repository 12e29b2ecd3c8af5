/-
 The machine computes these plain functions (written by a program of ours).
-/
import Derived.Test.YtipjpkpmkijdoabFacts
import Derived.Test.YtipjpkpmkijdoabDefs
import Derived.Test.YtipjpkpmkijdoabPf1
open Go Go.Eng Go.Proofs
namespace Go.Proofs.Ytipjpkpmkijdoab.Law
set_option maxRecDepth 100000
set_option linter.unusedVariables false
set_option maxHeartbeats 1000000
theorem ref_risingFault_ok {l_1:(List ByteArray)} {r:Int} (hF:ref_risingFault l_1=some r) :
  FnM Try.prog 60 [(vL eS l_1)] [] (vI r) []:=by
 refine FnM.of_wH ⟨Try.prog,27,[],[]⟩ rfl Try.func60 rfl rfl (Nat.le_of_ble_eq_true rfl) (by kernel_rfl) ?_
 unfold ref_risingFault at hF
 refine wH_sr (h_opz (vI 0) (h_nil (wH_seq (wH_sr (h_opz (vL eS l_1) (h_len un35 rfl wz (h_opz (vI 0) (h_nil ?_))))))))
 obtain ⟨o_10,hj_11,hF⟩:=bind_some hF
 obtain ⟨hn_6,hj_11⟩:=forL_some hj_11
 refine wH_loopF0 (fun (s_7:Unit) => []) (fun (s_7:Unit) => []) (fun (k_2:Nat)=>(fun (s_7:Unit) => [(0,(vL eS l_1)),(5,(vL eS l_1)),(6,(vI (l_1.length:Int))),(7,(vI (k_2:Int)))])) (fun k x s=>ref_risingFault_L1 l_1 k x s) o_10 l_1 () hj_11 rfl (pre_r rfl) ?_ ?_
 ·rintro ⟨k_2,l_3,s_7⟩ ⟨hL_9,hD_5⟩
  dsimp only at hL_9 hD_5
  cases l_3 with
  | nil =>
   obtain rfl:=some_inj hL_9
   refine wH_sr (h_opz (vB (decide ((k_2:Int) < (l_1.length:Int)))) (h_nil ?_))
   refine wH_seq (wH_iff rfl (drop_nil hD_5) (wH_exit ?_))
   exact cut_mk (s_7) rfl rfl (pre_r rfl)
  | cons x_4 l_3 =>
   obtain ⟨c_,hc_8,hL_9⟩:=bind_some hL_9
   refine wH_sr (h_opz (vB (decide ((k_2:Int) < (l_1.length:Int)))) (h_nil ?_))
   refine wH_seq (wH_ift rfl (drop_cons hD_5) (wH_skip ?_))
   unfold ref_risingFault_L1 at hc_8
   refine wH_seq (wH_block (wH_sr (h_opz (vI (k_2:Int)) (h_ia es35 rfl rfl (drop_idx hD_5) rfl wz (h_ldc sz9 ag9 rfl (vS x_4) rfl wz (h_opz (vI (k_2:Int)) (h_opz (vS x_4) (h_nil (wH_seq (wH_sr (h_opz (vS x_4) ?_)))))))))))
   obtain ⟨r_12,hr_13,hc_8⟩:=bind_some hc_8
   refine h_call0 (ref_Key_ok hr_13) rfl hb35 rfl rfl rfl rfl wz (h_opz (vB (!r_12)) (h_nil ?_))
   rcases cond_some hc_8 with⟨hc_14,hc_8⟩ | ⟨hc_14,hc_8⟩
   ·refine wH_ift rfl hc_14 (wH_sr (h_opz (vI 5) (h_nil ?_)))
    obtain rfl:=some_inj hc_8
    obtain rfl:=some_inj hL_9
    obtain rfl:=some_inj hF
    exact wH_ret (fin0r [(vI 5)] ⟨rfl,trivial⟩)
   ·refine wH_iff rfl hc_14 (wH_skip (wH_seq ?_))
    obtain ⟨v_15,h_16,hc_8⟩:=bind_some hc_8
    refine wH_joinU [(0,(vL eS l_1)),(5,(vL eS l_1)),(6,(vI (l_1.length:Int))),(7,(vI (k_2:Int))),(25,(vB v_15))] [] ?_ ?_
    ·refine wH_region (h_opz (vI (k_2:Int)) (h_opz (vB (decide ((k_2:Int) > 0))) ?_))
     rcases cond_some h_16 with⟨hc_17,h_16⟩ | ⟨hc_17,h_16⟩
     ·refine h_movb rfl hc_17 wz (h_op (vS x_4) wa rfl (h_op (vL eS l_1) wa rfl (h_op (vI (k_2:Int)) wa rfl (h_op (vI (w64 ((k_2:Int) - 1))) wa rfl ?_))))
      obtain ⟨y_18,hy_19,h_16⟩:=bind_some h_16
      refine h_ia es35 rfl rfl hy_19 rfl wa (h_ldc sz9 ag9 rfl (vS y_18) rfl wa (h_op (vB (sLe x_4 y_18)) wa rfl (h_opz (vB (sLe x_4 y_18)) (h_nil ?_))))
      obtain rfl:=some_inj h_16
      exact cu
     ·refine h_movb rfl hc_17 wz (h_skipz (h_skipz (h_skipz (h_skipz (h_skipz (h_skipz (h_skipz (h_opz (vB false) (h_nil ?_)))))))))
      obtain rfl:=some_inj h_16
      exact cu
    ·rintro ⟨⟩ _ sl_ H_ hp_ hq_
     refine wH_at _ hp_ hq_ ?_
     rcases cond_some hc_8 with⟨hc_20,hc_8⟩ | ⟨hc_20,hc_8⟩
     ·refine wH_ift rfl hc_20 (wH_sr (h_opz (vI 7) (h_nil ?_)))
      obtain rfl:=some_inj hc_8
      obtain rfl:=some_inj hL_9
      obtain rfl:=some_inj hF
      exact wH_ret (fin0r [(vI 7)] ⟨rfl,trivial⟩)
     ·refine wH_iff rfl hc_20 (wH_skip (wH_region (h_opw (w64_next hD_5 hn_6) wz rfl (h_opz (vI ((k_2 + 1:Nat):Int)) (h_nil ?_)))))
      obtain rfl:=some_inj hc_8
      exact loop_mk (k_2 + 1,l_3,()) ⟨hL_9,drop_next hD_5⟩ (Nat.lt_succ_self _) rfl (pre_r rfl)
 ·rintro s_7 ho_ sl_ H_ hp_ hq_
  subst ho_
  refine wH_at _ hp_ hq_ (wH_sr (h_opz (vI 0) (h_nil ?_)))
  obtain rfl:=some_inj hF
  exact wH_ret (fin0r [(vI 0)] ⟨rfl,trivial⟩)
theorem ref_TagsFault_ok {l_1:(List ByteArray)} {r:Int} (hF:ref_TagsFault l_1=some r) :
  FnM Try.prog 37 [(vL eS l_1)] [] (vI r) []:=by
 refine FnM.of_wH ⟨Try.prog,8,[],[]⟩ rfl Try.func37 rfl rfl (Nat.le_of_ble_eq_true rfl) (by kernel_rfl) ?_
 unfold ref_TagsFault at hF
 refine wH_sr (h_opz (vI 0) (h_nil (wH_seq (wH_sr (h_opz (vL eS l_1) (h_len un35 rfl wz (h_opz (vB (decide ((l_1.length:Int) > 20))) (h_nil ?_))))))))
 rcases cond_some hF with⟨hc_2,hF⟩ | ⟨hc_2,hF⟩
 ·refine wH_ift rfl hc_2 (wH_sr (h_opz (vI 2) (h_nil ?_)))
  obtain rfl:=some_inj hF
  exact wH_ret (fin0r [(vI 2)] ⟨rfl,trivial⟩)
 ·refine wH_iff rfl hc_2 (wH_skip (wH_sr (h_opz (vL eS l_1) ?_)))
  obtain ⟨r_3,hr_4,hF⟩:=bind_some hF
  refine h_call0 (ref_risingFault_ok hr_4) rfl hb60 rfl rfl rfl rfl wz (h_opz (vI r_3) (h_nil ?_))
  obtain rfl:=some_inj hF
  exact wH_ret (fin0r [(vI r_3)] ⟨rfl,trivial⟩)
theorem ref_SpotsFault_ok {l_1:(List Spot)} {r:Int} (hF:ref_SpotsFault l_1=some r) :
  FnM Try.prog 23 [(vL Spot.enc l_1)] [] (vI r) []:=by
 refine FnM.of_wH ⟨Try.prog,61,[],[]⟩ rfl Try.func23 rfl rfl (Nat.le_of_ble_eq_true rfl) (by kernel_rfl) ?_
 unfold ref_SpotsFault at hF
 refine wH_sr (h_opz (vI 0) (h_nil (wH_seq (wH_sr (h_opz (vL Spot.enc l_1) (h_len un26 rfl wz (h_opz (vB (decide ((l_1.length:Int) > 60))) (h_nil ?_))))))))
 rcases cond_some hF with⟨hc_2,hF⟩ | ⟨hc_2,hF⟩
 ·refine wH_ift rfl hc_2 (wH_sr (h_opz (vI 2) (h_nil ?_)))
  obtain rfl:=some_inj hF
  exact wH_ret (fin0r [(vI 2)] ⟨rfl,trivial⟩)
 ·refine wH_iff rfl hc_2 (wH_skip (wH_sr (h_opz (vS (⟨#[]⟩:ByteArray)) (h_nil (wH_seq (wH_sr (h_opz (vL Spot.enc l_1) (h_len un26 rfl wz (h_opz (vI 0) (h_nil ?_))))))))))
  obtain ⟨o_11,hj_12,hF⟩:=bind_some hF
  obtain ⟨hn_7,hj_12⟩:=forL_some hj_12
  refine wH_loopF0 (fun (s_8:ByteArray) => []) (fun (s_8:ByteArray) => []) (fun (k_3:Nat)=>(fun (s_8:ByteArray) => [(3,(vS s_8)),(10,(vL Spot.enc l_1)),(11,(vI (l_1.length:Int))),(12,(vI (k_3:Int)))])) (fun k x s=>ref_SpotsFault_L1 k x s) o_11 l_1 (⟨#[]⟩:ByteArray) hj_12 rfl (pre_r rfl) ?_ ?_
  ·rintro ⟨k_3,l_4,s_8⟩ ⟨hL_10,hD_6⟩
   dsimp only at hL_10 hD_6
   cases l_4 with
   | nil =>
    obtain rfl:=some_inj hL_10
    refine wH_sr (h_opz (vB (decide ((k_3:Int) < (l_1.length:Int)))) (h_nil ?_))
    refine wH_seq (wH_iff rfl (drop_nil hD_6) (wH_exit ?_))
    exact cut_mk (s_8) rfl rfl (pre_r rfl)
   | cons x_5 l_4 =>
    obtain ⟨c_,hc_9,hL_10⟩:=bind_some hL_10
    refine wH_sr (h_opz (vB (decide ((k_3:Int) < (l_1.length:Int)))) (h_nil ?_))
    refine wH_seq (wH_ift rfl (drop_cons hD_6) (wH_skip ?_))
    unfold ref_SpotsFault_L1 at hc_9
    refine wH_seq (wH_block (wH_sr (h_ia es26 rfl rfl (drop_idx hD_6) rfl wz (h_ldc sz69 ag69 rfl (.d (.agg (Spot.enc x_5))) rfl wz (h_alloc 0 (.inl rfl) z69 rfl wz (fun n_13=>h_str 0 il ft 0 sz69 rfl rfl (Spot.v x_5) rfl wz (h_nil (wH_seq (wH_block (wH_sr (h_far pl69_0 rfl 0 rfl wz (h_ldr 0 0 il ft sz9 ag9 rfl rfl (vS x_5.Key) rfl wz ?_))))))))))))
    obtain ⟨r_14,hr_15,hc_9⟩:=bind_some hc_9
    refine h_call0 (ref_Key_ok hr_15) rfl hb35 rfl rfl rfl rfl wz (h_opz (vB (!r_14)) (h_opz (vB (!r_14)) (h_nil ?_)))
    rcases cond_some hc_9 with⟨hc_16,hc_9⟩ | ⟨hc_16,hc_9⟩
    ·refine wH_ift rfl hc_16 (wH_sr (h_opz (vI 5) (h_nil ?_)))
     obtain rfl:=some_inj hc_9
     obtain rfl:=some_inj hL_10
     obtain rfl:=some_inj hF
     exact wH_ret (fin0r [(vI 5)] ⟨rfl,trivial⟩)
    ·refine wH_iff rfl hc_16 (wH_sr (h_far pl69_0 rfl 0 rfl wz (h_ldr 0 0 il ft sz9 ag9 rfl rfl (vS x_5.Key) rfl wz (h_opz (vS s_8) (h_opz (vB (sLe x_5.Key s_8)) (h_opz (vB (sLe x_5.Key s_8)) (h_nil ?_)))))))
     rcases cond_some hc_9 with⟨hc_17,hc_9⟩ | ⟨hc_17,hc_9⟩
     ·refine wH_ift rfl hc_17 (wH_sr (h_opz (vI 7) (h_nil ?_)))
      obtain rfl:=some_inj hc_9
      obtain rfl:=some_inj hL_10
      obtain rfl:=some_inj hF
      exact wH_ret (fin0r [(vI 7)] ⟨rfl,trivial⟩)
     ·refine wH_iff rfl hc_17 (wH_seq ?_)
      obtain ⟨v_18,h_19,hc_9⟩:=bind_some hc_9
      refine wH_joinU [(5,(.ref n_13 0 0)),(10,(vL Spot.enc l_1)),(11,(vI (l_1.length:Int))),(12,(vI (k_3:Int))),(26,(vB v_18))] [(n_13,some (.cells 5 (Spot.v x_5)))] ?_ ?_
      ·refine wH_region (h_far pl69_1 rfl 1 rfl wz (h_far pl34_0 rfl 1 rfl wz (h_ldr 0 0 il ft sz3 ag3 rfl rfl (vI x_5.Time.From) rfl wz (h_opz (vB (decide (x_5.Time.From < 0))) ?_))))
       rcases cond_some h_19 with⟨hc_20,h_19⟩ | ⟨hc_20,h_19⟩
       ·refine h_movb rfl hc_20 wz (h_skipz (h_skipz (h_skipz (h_skipz (h_skipz (h_skipz (h_skipz (h_opz (vB true) (h_opz (vB true) (h_skipz (h_skipz (h_skipz (h_skipz (h_opz (vB true) (h_opz (vB true) (h_skipz (h_skipz (h_skipz (h_skipz (h_opz (vB true) (h_opz (vB true) (h_nil ?_))))))))))))))))))))))
        obtain rfl:=some_inj h_19
        exact cu
       ·refine h_movb rfl hc_20 wz (h_far pl69_1 rfl 1 rfl wa (h_far pl34_0 rfl 1 rfl wa (h_ldr 0 0 il ft sz3 ag3 rfl rfl (vI x_5.Time.From) rfl wa (h_far pl69_1 rfl 1 rfl wa (h_far pl34_1 rfl 2 rfl wa (h_ldr 0 0 il ft sz3 ag3 rfl rfl (vI x_5.Time.To) rfl wa (h_op (vB (decide (x_5.Time.From≥x_5.Time.To))) wa rfl (h_opz (vB (decide (x_5.Time.From≥x_5.Time.To))) ?_))))))))
        rcases cond_some h_19 with⟨hc_21,h_19⟩ | ⟨hc_21,h_19⟩
        ·refine h_movb rfl hc_21 wz (h_skipz (h_skipz (h_skipz (h_skipz (h_opz (vB true) (h_opz (vB true) (h_skipz (h_skipz (h_skipz (h_skipz (h_opz (vB true) (h_opz (vB true) (h_nil ?_)))))))))))))
         obtain rfl:=some_inj h_19
         exact cu
        ·refine h_movb rfl hc_21 wz (h_far pl69_1 rfl 1 rfl wa (h_far pl34_1 rfl 2 rfl wa (h_ldr 0 0 il ft sz3 ag3 rfl rfl (vI x_5.Time.To) rfl wa (h_op (vB (decide (x_5.Time.To > 345686400000))) wa rfl (h_opz (vB (decide (x_5.Time.To > 345686400000))) ?_)))))
         rcases cond_some h_19 with⟨hc_22,h_19⟩ | ⟨hc_22,h_19⟩
         ·refine h_movb rfl hc_22 wz (h_skipz (h_skipz (h_skipz (h_skipz (h_opz (vB true) (h_opz (vB true) (h_nil ?_)))))))
          obtain rfl:=some_inj h_19
          exact cu
         ·refine h_movb rfl hc_22 wz (h_far pl69_2 rfl 3 rfl wa (h_ldr 0 0 il ft sz3 ag3 rfl rfl (vI x_5.Room) rfl wa ?_))
          obtain ⟨r_23,hr_24,h_19⟩:=bind_some h_19
          refine h_call0 (ref_in_ok hr_24) rfl hb36 rfl rfl rfl rfl wa (h_op (vB (!r_23)) wa rfl (h_opz (vB (!r_23)) (h_opz (vB (!r_23)) (h_nil ?_))))
          obtain rfl:=some_inj h_19
          exact cu
      ·rintro ⟨⟩ _ sl_ H_ hp_ hq_
       refine wH_at _ hp_ hq_ ?_
       rcases cond_some hc_9 with⟨hc_25,hc_9⟩ | ⟨hc_25,hc_9⟩
       ·refine wH_ift rfl hc_25 (wH_sr (h_opz (vI 1) (h_nil ?_)))
        obtain rfl:=some_inj hc_9
        obtain rfl:=some_inj hL_10
        obtain rfl:=some_inj hF
        exact wH_ret (fin0r [(vI 1)] ⟨rfl,trivial⟩)
       ·refine wH_iff rfl hc_25 (wH_skip (wH_sr (h_far pl69_0 rfl 0 rfl wz (h_ldr 0 0 il ft sz9 ag9 rfl rfl (vS x_5.Key) rfl wz (h_opz (vS x_5.Key) (h_nil (wH_sr (h_far pl69_3 rfl 4 rfl wz (h_ldr 0 0 il ft sz35 ag35 rfl rfl (vL eS x_5.Tags) rfl wz ?_)))))))))
        obtain ⟨r_26,hr_27,hc_9⟩:=bind_some hc_9
        refine h_call0 (ref_TagsFault_ok hr_27) rfl hb37 rfl rfl rfl rfl wz (h_opz (vI r_26) (h_nil (wH_sr (h_opz (vI r_26) (h_opz (vB (r_26 != 0)) (h_nil ?_))))))
        rcases cond_some hc_9 with⟨hc_28,hc_9⟩ | ⟨hc_28,hc_9⟩
        ·refine wH_ift rfl hc_28 (wH_sr (h_opz (vI r_26) (h_opz (vI r_26) (h_nil ?_))))
         obtain rfl:=some_inj hc_9
         obtain rfl:=some_inj hL_10
         obtain rfl:=some_inj hF
         exact wH_ret (fin0r [(vI r_26)] ⟨rfl,trivial⟩)
        ·refine wH_iff rfl hc_28 (wH_skip (wH_region (h_opw (w64_next hD_6 hn_7) wz rfl (h_opz (vI ((k_3 + 1:Nat):Int)) (h_nil ?_)))))
         obtain rfl:=some_inj hc_9
         exact loop_mk (k_3 + 1,l_4,x_5.Key) ⟨hL_10,drop_next hD_6⟩ (Nat.lt_succ_self _) rfl (pre_r rfl)
  ·rintro s_8 ho_ sl_ H_ hp_ hq_
   subst ho_
   refine wH_at _ hp_ hq_ (wH_sr (h_opz (vI 0) (h_nil ?_)))
   obtain rfl:=some_inj hF
   exact wH_ret (fin0r [(vI 0)] ⟨rfl,trivial⟩)
theorem ref_CampaignsFault_ok {l_1:(List Campaign)} {r:Int} (hF:ref_CampaignsFault l_1=some r) :
  FnM Try.prog 11 [(vL Campaign.enc l_1)] [] (vI r) []:=by
 refine FnM.of_wH ⟨Try.prog,84,[],[]⟩ rfl Try.func11 rfl rfl (Nat.le_of_ble_eq_true rfl) (by kernel_rfl) ?_
 unfold ref_CampaignsFault at hF
 refine wH_sr (h_opz (vI 0) (h_nil (wH_seq (wH_sr (h_opz (vL Campaign.enc l_1) (h_len un27 rfl wz (h_opz (vB (decide ((l_1.length:Int) > 30))) (h_nil ?_))))))))
 rcases cond_some hF with⟨hc_2,hF⟩ | ⟨hc_2,hF⟩
 ·refine wH_ift rfl hc_2 (wH_sr (h_opz (vI 2) (h_nil ?_)))
  obtain rfl:=some_inj hF
  exact wH_ret (fin0r [(vI 2)] ⟨rfl,trivial⟩)
 ·refine wH_iff rfl hc_2 (wH_skip (wH_sr (h_opz (vS (⟨#[]⟩:ByteArray)) (h_nil (wH_seq (wH_sr (h_opz (vL Campaign.enc l_1) (h_len un27 rfl wz (h_opz (vI 0) (h_nil ?_))))))))))
  obtain ⟨o_11,hj_12,hF⟩:=bind_some hF
  obtain ⟨hn_7,hj_12⟩:=forL_some hj_12
  refine wH_loopF0 (fun (s_8:ByteArray) => []) (fun (s_8:ByteArray) => []) (fun (k_3:Nat)=>(fun (s_8:ByteArray) => [(3,(vS s_8)),(10,(vL Campaign.enc l_1)),(11,(vI (l_1.length:Int))),(12,(vI (k_3:Int)))])) (fun k x s=>ref_CampaignsFault_L1 k x s) o_11 l_1 (⟨#[]⟩:ByteArray) hj_12 rfl (pre_r rfl) ?_ ?_
  ·rintro ⟨k_3,l_4,s_8⟩ ⟨hL_10,hD_6⟩
   dsimp only at hL_10 hD_6
   cases l_4 with
   | nil =>
    obtain rfl:=some_inj hL_10
    refine wH_sr (h_opz (vB (decide ((k_3:Int) < (l_1.length:Int)))) (h_nil ?_))
    refine wH_seq (wH_iff rfl (drop_nil hD_6) (wH_exit ?_))
    exact cut_mk (s_8) rfl rfl (pre_r rfl)
   | cons x_5 l_4 =>
    obtain ⟨c_,hc_9,hL_10⟩:=bind_some hL_10
    refine wH_sr (h_opz (vB (decide ((k_3:Int) < (l_1.length:Int)))) (h_nil ?_))
    refine wH_seq (wH_ift rfl (drop_cons hD_6) (wH_skip ?_))
    unfold ref_CampaignsFault_L1 at hc_9
    refine wH_seq (wH_block (wH_sr (h_ia es27 rfl rfl (drop_idx hD_6) rfl wz (h_ldc sz37 ag37 rfl (.d (.agg (Campaign.enc x_5))) rfl wz (h_alloc 0 (.inl rfl) z37 rfl wz (fun n_13=>h_str 0 il ft 0 sz37 rfl rfl (Campaign.v x_5) rfl wz (h_nil (wH_seq (wH_block (wH_seq ?_))))))))))
    obtain ⟨v_14,h_15,hc_9⟩:=bind_some hc_9
    refine wH_joinU [(3,(vS s_8)),(5,(.ref n_13 0 0)),(10,(vL Campaign.enc l_1)),(11,(vI (l_1.length:Int))),(12,(vI (k_3:Int))),(16,(vB v_14))] [(n_13,some (.cells 8 (Campaign.v x_5)))] ?_ ?_
    ·refine wH_region (h_far pl37_0 rfl 0 rfl wz (h_ldr 0 0 il ft sz9 ag9 rfl rfl (vS x_5.Key) rfl wz ?_))
     obtain ⟨r_16,hr_17,h_15⟩:=bind_some h_15
     refine h_call0 (ref_Key_ok hr_17) rfl hb35 rfl rfl rfl rfl wz (h_opz (vB (!r_16)) ?_)
     rcases cond_some h_15 with⟨hc_18,h_15⟩ | ⟨hc_18,h_15⟩
     ·refine h_movb rfl hc_18 wz (h_skipz (h_skipz (h_skipz (h_skipz (h_skip (wn rfl rfl) (h_skip (wn rfl rfl) (h_skip (wn rfl rfl) (h_skip (wn rfl rfl) (h_skipz (h_opz (vB true) (h_opz (vB true) (h_nil ?_))))))))))))
      obtain rfl:=some_inj h_15
      exact cu
     ·refine h_movb rfl hc_18 wz (h_far pl37_1 rfl 1 rfl wa (h_ldr 0 0 il ft sz9 ag9 rfl rfl (vS x_5.Class) rfl wa (h_op (vB (sNe x_5.Class (⟨#[]⟩:ByteArray))) wa rfl ?_)))
      rcases cond_some h_15 with⟨hc_19,h_15⟩ | ⟨hc_19,h_15⟩
      ·refine h_movb rfl hc_19 wa (h_far pl37_1 rfl 1 rfl wa (h_ldr 0 0 il ft sz9 ag9 rfl rfl (vS x_5.Class) rfl wa ?_))
       obtain ⟨r_20,hr_21,h_15⟩:=bind_some h_15
       refine h_call0 (ref_Key_ok hr_21) rfl hb35 rfl rfl rfl rfl wa (h_op (vB (!r_20)) wa rfl (h_op (vB (!r_20)) wa rfl (h_opz (vB (!r_20)) (h_opz (vB (!r_20)) (h_nil ?_)))))
       obtain rfl:=some_inj h_15
       exact cu
      ·refine h_movb rfl hc_19 wa (h_skipz (h_skipz (h_skipz (h_skipz (h_op (vB false) wa rfl (h_opz (vB false) (h_opz (vB false) (h_nil ?_))))))))
       obtain rfl:=some_inj h_15
       exact cu
    ·rintro ⟨⟩ _ sl_ H_ hp_ hq_
     refine wH_at _ hp_ hq_ ?_
     rcases cond_some hc_9 with⟨hc_22,hc_9⟩ | ⟨hc_22,hc_9⟩
     ·refine wH_ift rfl hc_22 (wH_sr (h_opz (vI 5) (h_nil ?_)))
      obtain rfl:=some_inj hc_9
      obtain rfl:=some_inj hL_10
      obtain rfl:=some_inj hF
      exact wH_ret (fin0r [(vI 5)] ⟨rfl,trivial⟩)
     ·refine wH_iff rfl hc_22 (wH_sr (h_far pl37_0 rfl 0 rfl wz (h_ldr 0 0 il ft sz9 ag9 rfl rfl (vS x_5.Key) rfl wz (h_opz (vS s_8) (h_opz (vB (sLe x_5.Key s_8)) (h_opz (vB (sLe x_5.Key s_8)) (h_nil ?_)))))))
      rcases cond_some hc_9 with⟨hc_23,hc_9⟩ | ⟨hc_23,hc_9⟩
      ·refine wH_ift rfl hc_23 (wH_sr (h_opz (vI 7) (h_nil ?_)))
       obtain rfl:=some_inj hc_9
       obtain rfl:=some_inj hL_10
       obtain rfl:=some_inj hF
       exact wH_ret (fin0r [(vI 7)] ⟨rfl,trivial⟩)
      ·refine wH_iff rfl hc_23 (wH_seq ?_)
       obtain ⟨v_24,h_25,hc_9⟩:=bind_some hc_9
       refine wH_joinU [(5,(.ref n_13 0 0)),(10,(vL Campaign.enc l_1)),(11,(vI (l_1.length:Int))),(12,(vI (k_3:Int))),(37,(vB v_24))] [(n_13,some (.cells 8 (Campaign.v x_5)))] ?_ ?_
       ·refine wH_region (h_far pl37_2 rfl 2 rfl wz (h_far pl34_0 rfl 2 rfl wz (h_ldr 0 0 il ft sz3 ag3 rfl rfl (vI x_5.Time.From) rfl wz (h_opz (vB (decide (x_5.Time.From < 0))) ?_))))
        rcases cond_some h_25 with⟨hc_26,h_25⟩ | ⟨hc_26,h_25⟩
        ·refine h_movb rfl hc_26 wz (h_skipz (h_skipz (h_skipz (h_skipz (h_skipz (h_skipz (h_skipz (h_opz (vB true) (h_opz (vB true) (h_skipz (h_skipz (h_skipz (h_skipz (h_opz (vB true) (h_opz (vB true) (h_skipz (h_skipz (h_skipz (h_skipz (h_opz (vB true) (h_opz (vB true) (h_skipz (h_skipz ?_)))))))))))))))))))))))
         refine h_skipz (h_skipz (h_opz (vB true) (h_opz (vB true) (h_skipz (h_skipz (h_skipz (h_skipz (h_opz (vB true) (h_opz (vB true) (h_nil ?_))))))))))
         obtain rfl:=some_inj h_25
         exact cu
        ·refine h_movb rfl hc_26 wz (h_far pl37_2 rfl 2 rfl wa (h_far pl34_0 rfl 2 rfl wa (h_ldr 0 0 il ft sz3 ag3 rfl rfl (vI x_5.Time.From) rfl wa (h_far pl37_2 rfl 2 rfl wa (h_far pl34_1 rfl 3 rfl wa (h_ldr 0 0 il ft sz3 ag3 rfl rfl (vI x_5.Time.To) rfl wa (h_op (vB (decide (x_5.Time.From≥x_5.Time.To))) wa rfl (h_opz (vB (decide (x_5.Time.From≥x_5.Time.To))) ?_))))))))
         rcases cond_some h_25 with⟨hc_27,h_25⟩ | ⟨hc_27,h_25⟩
         ·refine h_movb rfl hc_27 wz (h_skipz (h_skipz (h_skipz (h_skipz (h_opz (vB true) (h_opz (vB true) (h_skipz (h_skipz (h_skipz (h_skipz (h_opz (vB true) (h_opz (vB true) (h_skipz (h_skipz (h_skipz (h_skipz (h_opz (vB true) (h_opz (vB true) (h_skipz (h_skipz (h_skipz (h_skipz (h_opz (vB true) ?_)))))))))))))))))))))))
          refine h_opz (vB true) (h_nil ?_)
          obtain rfl:=some_inj h_25
          exact cu
         ·refine h_movb rfl hc_27 wz (h_far pl37_2 rfl 2 rfl wa (h_far pl34_1 rfl 3 rfl wa (h_ldr 0 0 il ft sz3 ag3 rfl rfl (vI x_5.Time.To) rfl wa (h_op (vB (decide (x_5.Time.To > 345686400000))) wa rfl (h_opz (vB (decide (x_5.Time.To > 345686400000))) ?_)))))
          rcases cond_some h_25 with⟨hc_28,h_25⟩ | ⟨hc_28,h_25⟩
          ·refine h_movb rfl hc_28 wz (h_skipz (h_skipz (h_skipz (h_skipz (h_opz (vB true) (h_opz (vB true) (h_skipz (h_skipz (h_skipz (h_skipz (h_opz (vB true) (h_opz (vB true) (h_skipz (h_skipz (h_skipz (h_skipz (h_opz (vB true) (h_opz (vB true) (h_nil ?_)))))))))))))))))))
           obtain rfl:=some_inj h_25
           exact cu
          ·refine h_movb rfl hc_28 wz (h_far pl37_4 rfl 5 rfl wa (h_ldr 0 0 il ft sz3 ag3 rfl rfl (vI x_5.Goal) rfl wa ?_))
           obtain ⟨r_29,hr_30,h_25⟩:=bind_some h_25
           refine h_call0 (ref_in_ok hr_30) rfl hb36 rfl rfl rfl rfl wa (h_op (vB (!r_29)) wa rfl (h_opz (vB (!r_29)) ?_))
           rcases cond_some h_25 with⟨hc_31,h_25⟩ | ⟨hc_31,h_25⟩
           ·refine h_movb rfl hc_31 wz (h_skipz (h_skipz (h_skipz (h_skipz (h_opz (vB true) (h_opz (vB true) (h_skipz (h_skipz (h_skipz (h_skipz (h_opz (vB true) (h_opz (vB true) (h_nil ?_)))))))))))))
            obtain rfl:=some_inj h_25
            exact cu
           ·refine h_movb rfl hc_31 wz (h_far pl37_5 rfl 6 rfl wa (h_ldr 0 0 il ft sz3 ag3 rfl rfl (vI x_5.Most) rfl wa ?_))
            obtain ⟨r_32,hr_33,h_25⟩:=bind_some h_25
            refine h_call0 (ref_in_ok hr_33) rfl hb36 rfl rfl rfl rfl wa (h_op (vB (!r_32)) wa rfl (h_opz (vB (!r_32)) ?_))
            rcases cond_some h_25 with⟨hc_34,h_25⟩ | ⟨hc_34,h_25⟩
            ·refine h_movb rfl hc_34 wz (h_skipz (h_skipz (h_skipz (h_skipz (h_opz (vB true) (h_opz (vB true) (h_nil ?_)))))))
             obtain rfl:=some_inj h_25
             exact cu
            ·refine h_movb rfl hc_34 wz (h_far pl37_6 rfl 7 rfl wa (h_ldr 0 0 il ft sz3 ag3 rfl rfl (vI x_5.Cents) rfl wa ?_))
             obtain ⟨r_35,hr_36,h_25⟩:=bind_some h_25
             refine h_call0 (ref_in_ok hr_36) rfl hb36 rfl rfl rfl rfl wa (h_op (vB (!r_35)) wa rfl (h_opz (vB (!r_35)) (h_opz (vB (!r_35)) (h_nil ?_))))
             obtain rfl:=some_inj h_25
             exact cu
       ·rintro ⟨⟩ _ sl_ H_ hp_ hq_
        refine wH_at _ hp_ hq_ ?_
        rcases cond_some hc_9 with⟨hc_37,hc_9⟩ | ⟨hc_37,hc_9⟩
        ·refine wH_ift rfl hc_37 (wH_sr (h_opz (vI 1) (h_nil ?_)))
         obtain rfl:=some_inj hc_9
         obtain rfl:=some_inj hL_10
         obtain rfl:=some_inj hF
         exact wH_ret (fin0r [(vI 1)] ⟨rfl,trivial⟩)
        ·refine wH_iff rfl hc_37 (wH_skip (wH_sr (h_far pl37_0 rfl 0 rfl wz (h_ldr 0 0 il ft sz9 ag9 rfl rfl (vS x_5.Key) rfl wz (h_opz (vS x_5.Key) (h_nil (wH_sr (h_far pl37_3 rfl 4 rfl wz (h_ldr 0 0 il ft sz35 ag35 rfl rfl (vL eS x_5.Tags) rfl wz ?_)))))))))
         obtain ⟨r_38,hr_39,hc_9⟩:=bind_some hc_9
         refine h_call0 (ref_TagsFault_ok hr_39) rfl hb37 rfl rfl rfl rfl wz (h_opz (vI r_38) (h_nil (wH_sr (h_opz (vI r_38) (h_opz (vB (r_38 != 0)) (h_nil ?_))))))
         rcases cond_some hc_9 with⟨hc_40,hc_9⟩ | ⟨hc_40,hc_9⟩
         ·refine wH_ift rfl hc_40 (wH_sr (h_opz (vI r_38) (h_opz (vI r_38) (h_nil ?_))))
          obtain rfl:=some_inj hc_9
          obtain rfl:=some_inj hL_10
          obtain rfl:=some_inj hF
          exact wH_ret (fin0r [(vI r_38)] ⟨rfl,trivial⟩)
         ·refine wH_iff rfl hc_40 (wH_skip (wH_region (h_opw (w64_next hD_6 hn_7) wz rfl (h_opz (vI ((k_3 + 1:Nat):Int)) (h_nil ?_)))))
          obtain rfl:=some_inj hc_9
          exact loop_mk (k_3 + 1,l_4,x_5.Key) ⟨hL_10,drop_next hD_6⟩ (Nat.lt_succ_self _) rfl (pre_r rfl)
  ·rintro s_8 ho_ sl_ H_ hp_ hq_
   subst ho_
   refine wH_at _ hp_ hq_ (wH_sr (h_opz (vI 0) (h_nil ?_)))
   obtain rfl:=some_inj hF
   exact wH_ret (fin0r [(vI 0)] ⟨rfl,trivial⟩)
theorem law_errs_ok {l_1:(List Int)} {r:Int} (hF:law_errs l_1=some r) :
  FnM Try.prog 10 [(vL eI l_1)] [] (vI r) []:=by
 refine FnM.of_wH ⟨Try.prog,15,[],[]⟩ rfl Try.func10 rfl rfl (Nat.le_of_ble_eq_true rfl) (by kernel_rfl) ?_
 unfold law_errs at hF
 refine wH_sr (h_opz (vI 0) (h_nil (wH_seq (wH_sr (h_opz (vL eI l_1) (h_len un74 rfl wz (h_opz (vI 0) (h_nil ?_))))))))
 obtain ⟨o_10,hj_11,hF⟩:=bind_some hF
 obtain ⟨hn_6,hj_11⟩:=forL_some hj_11
 refine wH_loopF0 (fun (s_7:Unit) => []) (fun (s_7:Unit) => []) (fun (k_2:Nat)=>(fun (s_7:Unit) => [(5,(vL eI l_1)),(6,(vI (l_1.length:Int))),(7,(vI (k_2:Int)))])) (fun k x s=>law_errs_L1 k x s) o_10 l_1 () hj_11 rfl (pre_r rfl) ?_ ?_
 ·rintro ⟨k_2,l_3,s_7⟩ ⟨hL_9,hD_5⟩
  dsimp only at hL_9 hD_5
  cases l_3 with
  | nil =>
   obtain rfl:=some_inj hL_9
   refine wH_sr (h_opz (vB (decide ((k_2:Int) < (l_1.length:Int)))) (h_nil ?_))
   refine wH_seq (wH_iff rfl (drop_nil hD_5) (wH_exit ?_))
   exact cut_mk (s_7) rfl rfl (pre_r rfl)
  | cons x_4 l_3 =>
   obtain ⟨c_,hc_8,hL_9⟩:=bind_some hL_9
   refine wH_sr (h_opz (vB (decide ((k_2:Int) < (l_1.length:Int)))) (h_nil ?_))
   refine wH_seq (wH_ift rfl (drop_cons hD_5) (wH_skip ?_))
   unfold law_errs_L1 at hc_8
   refine wH_seq (wH_block (wH_sr (h_ia es74 rfl rfl (drop_idx hD_5) rfl wz (h_ldc sz28 ag28 rfl (vI x_4) rfl wz (h_opz (vI x_4) (h_nil (wH_sr (h_opz (vI x_4) (h_opz (vB (x_4 != 0)) (h_nil ?_))))))))))
   rcases cond_some hc_8 with⟨hc_12,hc_8⟩ | ⟨hc_12,hc_8⟩
   ·refine wH_ift rfl hc_12 (wH_sr (h_opz (vI x_4) (h_opz (vI x_4) (h_nil ?_))))
    obtain rfl:=some_inj hc_8
    obtain rfl:=some_inj hL_9
    obtain rfl:=some_inj hF
    exact wH_ret (fin0r [(vI x_4)] ⟨rfl,trivial⟩)
   ·refine wH_iff rfl hc_12 (wH_skip (wH_region (h_opw (w64_next hD_5 hn_6) wz rfl (h_opz (vI ((k_2 + 1:Nat):Int)) (h_nil ?_)))))
    obtain rfl:=some_inj hc_8
    exact loop_mk (k_2 + 1,l_3,()) ⟨hL_9,drop_next hD_5⟩ (Nat.lt_succ_self _) rfl (pre_r rfl)
 ·rintro s_7 ho_ sl_ H_ hp_ hq_
  subst ho_
  refine wH_at _ hp_ hq_ (wH_sr (h_opz (vI 0) (h_nil ?_)))
  obtain rfl:=some_inj hF
  exact wH_ret (fin0r [(vI 0)] ⟨rfl,trivial⟩)
theorem law_office_ok {s_1:Stream} {r:(List Spot)×(List Campaign)×Int×Stream} (hF:law_office s_1=some r) :
  FnM Try.prog 4 [(.ref (extN 0) 0 0)] [(.cells 2 [(vL eI s_1.L),(vI s_1.f_at)])] (.tup [(vL Spot.enc r.1),(vL Campaign.enc r.2.1),(vI r.2.2.1)]) [some (.cells 2 [(vL eI r.2.2.2.L),(vI r.2.2.2.f_at)])]:=by
 refine FnM.of_wH ⟨Try.prog,19,[],[]⟩ rfl Try.func4 rfl rfl (Nat.le_of_ble_eq_true rfl) (by kernel_rfl) ?_
 unfold law_office at hF
 refine wH_sr (h_opz .nil (h_opz .nil (h_opz (vI 0) (h_nil (wH_sr (h_opz (.ref (extN 0) 0 0) ?_))))))
 obtain ⟨r_2,hr_3,hF⟩:=bind_some hF
 refine h_callq 0 [0] il ft (mk_Stream_Spots_ok hr_3) rfl hb21 rfl (by kernel_rfl) (by kernel_rfl) (by kernel_rfl) (by kernel_rfl) (by kernel_rfl) (by kernel_rfl) (by kernel_rfl) (by decide) (by kernel_rfl) wz (vL Spot.enc r_2.1) (by kernel_rfl) ([((extN 0),some (.cells 2 [(vL eI r_2.2.L),(vI r_2.2.f_at)]))]:Hp) (by kernel_rfl) (h_opz (.ref (extN 0) 0 0) ?_)
 obtain ⟨r_5,hr_6,hF⟩:=bind_some hF
 refine h_callq 0 [0] il ft (mk_Stream_Campaigns_ok hr_6) rfl hb22 rfl (by kernel_rfl) (by kernel_rfl) (by kernel_rfl) (by kernel_rfl) (by kernel_rfl) (by kernel_rfl) (by kernel_rfl) (by decide) (by kernel_rfl) wz (vL Campaign.enc r_5.1) (by kernel_rfl) ([((extN 0),some (.cells 2 [(vL eI r_5.2.L),(vI r_5.2.f_at)]))]:Hp) (by kernel_rfl) (h_opz (vL Spot.enc r_2.1) (h_opz (vL Campaign.enc r_5.1) (h_nil (wH_sr (h_opz (vL Spot.enc r_2.1) (h_opz (vL Campaign.enc r_5.1) (h_opz (vL Spot.enc r_2.1) ?_)))))))
 obtain ⟨r_8,hr_9,hF⟩:=bind_some hF
 refine h_call0 (ref_SpotsFault_ok hr_9) rfl hb23 rfl rfl rfl rfl wz (h_opz (vL Campaign.enc r_5.1) ?_)
 obtain ⟨r_10,hr_11,hF⟩:=bind_some hF
 refine h_call0 (ref_CampaignsFault_ok hr_11) rfl hb11 rfl rfl rfl rfl wz (h_lit (([r_8,r_10]:List Int).map eI) es74 ez74 rfl rfl rfl rfl rfl wz ?_)
 obtain ⟨r_12,hr_13,hF⟩:=bind_some hF
 refine h_call0 (law_errs_ok hr_13) rfl hb10 rfl rfl rfl rfl wz (h_opz (vL Spot.enc r_2.1) (h_opz (vL Campaign.enc r_5.1) (h_opz (vI r_12) (h_nil ?_))))
 obtain rfl:=some_inj hF
 exact wH_ret (finB (.inr rfl) [(vL Spot.enc r_2.1),(vL Campaign.enc r_5.1),(vI r_12)] _ [0] [extN 0] ⟨rfl,⟨rfl,⟨rfl,trivial⟩⟩⟩ (.cons (co_data rfl rfl) (.cons (co_data rfl rfl) (.cons (co_data rfl rfl) (.nil)))) (by kernel_rfl) ⟨(by kernel_rfl),trivial⟩ (by decide) (by kernel_rfl))
theorem kit_IsKey_ok {s_1:ByteArray} {r:Bool} (hF:kit_IsKey s_1=some r) :
  FnM Try.prog 51 [(vS s_1)] [] (vB r) []:=by
 refine FnM.of_wH ⟨Try.prog,48,[],[]⟩ rfl Try.func51 rfl rfl (Nat.le_of_ble_eq_true rfl) (by kernel_rfl) ?_
 unfold kit_IsKey at hF
 refine wH_sr (h_opz (vB false) (h_nil (wH_seq (wH_sr (h_opz (vI 0) (h_nil ?_))))))
 obtain ⟨o_10,hj_11,hF⟩:=bind_some hF
 obtain ⟨nq_33,hj_11⟩:=loopO_iter hj_11
 refine wH_loopI0 (fun (s_7:Int) => [(0,(vS s_1))]) (fun (s_7:Int) => []) (fun (k_2:Nat)=>(fun (s_7:Int) => [(0,(vS s_1)),(3,(vI s_7))])) (fun s=>kit_IsKey_L1 s_1 s) o_10 nq_33 0 hj_11 rfl (pre_r rfl) ?_ ?_
 ·rintro ⟨k_2,s_7⟩ hL_9
  dsimp only at hL_9
  cases k_2 with
  | zero=>cases hL_9
  | succ k_2 =>
   obtain ⟨c_,hc_8,hL_9⟩:=bind_some hL_9
   unfold kit_IsKey_L1 at hc_8
   refine wH_seq (wH_sr (h_opz (vI s_7) (h_opz (vS s_1) (h_lens un9 rfl wz (h_opz (vB (decide (s_7 < (s_1.size:Int)))) (h_nil ?_))))))
   rcases cond_some hc_8 with⟨hc_12,hc_8⟩ | ⟨hc_12,hc_8⟩
   ·refine wH_ift rfl hc_12 (wH_skip (wH_seq (wH_block (wH_sr (h_opz (vS s_1) (h_opz (vI s_7) ?_))))))
    obtain ⟨b_13,hy_14,hc_8⟩:=bind_some hc_8
    refine h_idxs un9 rfl rfl hy_14 wz (h_opz (.d (.int .u8 (b_13.toNat:Int))) (h_nil (wH_seq ?_)))
    obtain ⟨v_15,h_16,hc_8⟩:=bind_some hc_8
    refine wH_joinU [(0,(vS s_1)),(3,(vI s_7)),(40,(vB v_15))] [] ?_ ?_
    ·refine wH_region (h_opz (.d (.int .u8 (b_13.toNat:Int))) (h_opz (vB (decide ((b_13.toNat:Int)≥97))) ?_))
     rcases cond_some h_16 with⟨hc_17,h_16⟩ | ⟨hc_17,h_16⟩
     ·refine h_movb rfl hc_17 wz (h_op (.d (.int .u8 (b_13.toNat:Int))) wa rfl (h_op (vB (decide ((b_13.toNat:Int)≤122))) wa rfl (h_opz (vB (decide ((b_13.toNat:Int)≤122))) ?_)))
      rcases cond_some h_16 with⟨hc_18,h_16⟩ | ⟨hc_18,h_16⟩
      ·refine h_movb rfl hc_18 wz (h_skipz (h_skipz (h_skipz (h_skip (wn rfl rfl) (h_skip (wn rfl rfl) (h_skip (wn rfl rfl) (h_skip (wn rfl rfl) (h_skip (wn rfl rfl) (h_skip (wn rfl rfl) (h_skip (wn rfl rfl) (h_skip (wn rfl rfl) (h_skip (wn rfl rfl) (h_skip (wn rfl rfl) (h_skip (wn rfl rfl) (h_skip (wn rfl rfl) (h_skip (wn rfl rfl) (h_skip (wn rfl rfl) (h_skipz (h_opz (vB true) (h_opz (vB false) (h_nil ?_)))))))))))))))))))))
       obtain rfl:=some_inj h_16
       exact cu
      ·refine h_movb rfl hc_18 wz (h_op (vI s_7) wa rfl (h_op (vB (decide (s_7 > 0))) wa rfl ?_))
       rcases cond_some h_16 with⟨hc_19,h_16⟩ | ⟨hc_19,h_16⟩
       ·refine h_movb rfl hc_19 wa (h_op (.d (.int .u8 (b_13.toNat:Int))) wa rfl (h_op (vB (decide ((b_13.toNat:Int)≥48))) wa rfl ?_))
        rcases cond_some h_16 with⟨hc_20,h_16⟩ | ⟨hc_20,h_16⟩
        ·refine h_movb rfl hc_20 wa (h_op (.d (.int .u8 (b_13.toNat:Int))) wa rfl (h_op (vB (decide ((b_13.toNat:Int)≤57))) wa rfl (h_op (vB (decide ((b_13.toNat:Int)≤57))) wa rfl ?_)))
         rcases cond_some h_16 with⟨hc_21,h_16⟩ | ⟨hc_21,h_16⟩
         ·refine h_movb rfl hc_21 wa (h_skipz (h_skipz (h_op (vB true) wa rfl (h_op (vB true) wa rfl (h_skipz (h_skipz (h_op (vB true) wa rfl (h_op (vB true) wa rfl (h_opz (vB true) (h_opz (vB false) (h_nil ?_)))))))))))
          obtain rfl:=some_inj h_16
          exact cu
         ·refine h_movb rfl hc_21 wa (h_op (.d (.int .u8 (b_13.toNat:Int))) wa rfl (h_op (vB ((b_13.toNat:Int) == 45)) wa rfl (h_op (vB ((b_13.toNat:Int) == 45)) wa rfl ?_)))
          rcases cond_some h_16 with⟨hc_22,h_16⟩ | ⟨hc_22,h_16⟩
          ·refine h_movb rfl hc_22 wa (h_skipz (h_skipz (h_op (vB true) wa rfl (h_op (vB true) wa rfl (h_opz (vB true) (h_opz (vB false) (h_nil ?_)))))))
           obtain rfl:=some_inj h_16
           exact cu
          ·refine h_movb rfl hc_22 wa (h_op (.d (.int .u8 (b_13.toNat:Int))) wa rfl (h_op (vB ((b_13.toNat:Int) == 95)) wa rfl (h_op (vB ((b_13.toNat:Int) == 95)) wa rfl (h_op (vB ((b_13.toNat:Int) == 95)) wa rfl (h_opz (vB ((b_13.toNat:Int) == 95)) (h_opz (vB (!((b_13.toNat:Int) == 95))) (h_nil ?_)))))))
           obtain rfl:=some_inj h_16
           exact cu
        ·refine h_movb rfl hc_20 wa (h_skipz (h_skipz (h_op (vB false) wa rfl (h_op (vB false) wa rfl (h_op (.d (.int .u8 (b_13.toNat:Int))) wa rfl (h_op (vB ((b_13.toNat:Int) == 45)) wa rfl (h_op (vB ((b_13.toNat:Int) == 45)) wa rfl ?_)))))))
         rcases cond_some h_16 with⟨hc_23,h_16⟩ | ⟨hc_23,h_16⟩
         ·refine h_movb rfl hc_23 wa (h_skipz (h_skipz (h_op (vB true) wa rfl (h_op (vB true) wa rfl (h_opz (vB true) (h_opz (vB false) (h_nil ?_)))))))
          obtain rfl:=some_inj h_16
          exact cu
         ·refine h_movb rfl hc_23 wa (h_op (.d (.int .u8 (b_13.toNat:Int))) wa rfl (h_op (vB ((b_13.toNat:Int) == 95)) wa rfl (h_op (vB ((b_13.toNat:Int) == 95)) wa rfl (h_op (vB ((b_13.toNat:Int) == 95)) wa rfl (h_opz (vB ((b_13.toNat:Int) == 95)) (h_opz (vB (!((b_13.toNat:Int) == 95))) (h_nil ?_)))))))
          obtain rfl:=some_inj h_16
          exact cu
       ·refine h_movb rfl hc_19 wa (h_skipz (h_skipz (h_skipz (h_skip (wn rfl rfl) (h_skip (wn rfl rfl) (h_skipz (h_skipz (h_skip (wn rfl rfl) (h_skip (wn rfl rfl) (h_skipz (h_skipz (h_skip (wn rfl rfl) (h_skip (wn rfl rfl) (h_skipz (h_op (vB false) wa rfl (h_opz (vB false) (h_opz (vB true) (h_nil ?_))))))))))))))))))
        obtain rfl:=some_inj h_16
        exact cu
     ·refine h_movb rfl hc_17 wz (h_skipz (h_skipz (h_opz (vB false) (h_opz (vB false) (h_op (vI s_7) wa rfl (h_op (vB (decide (s_7 > 0))) wa rfl ?_))))))
      rcases cond_some h_16 with⟨hc_24,h_16⟩ | ⟨hc_24,h_16⟩
      ·refine h_movb rfl hc_24 wa (h_op (.d (.int .u8 (b_13.toNat:Int))) wa rfl (h_op (vB (decide ((b_13.toNat:Int)≥48))) wa rfl ?_))
       rcases cond_some h_16 with⟨hc_25,h_16⟩ | ⟨hc_25,h_16⟩
       ·refine h_movb rfl hc_25 wa (h_op (.d (.int .u8 (b_13.toNat:Int))) wa rfl (h_op (vB (decide ((b_13.toNat:Int)≤57))) wa rfl (h_op (vB (decide ((b_13.toNat:Int)≤57))) wa rfl ?_)))
        rcases cond_some h_16 with⟨hc_26,h_16⟩ | ⟨hc_26,h_16⟩
        ·refine h_movb rfl hc_26 wa (h_skipz (h_skipz (h_op (vB true) wa rfl (h_op (vB true) wa rfl (h_skipz (h_skipz (h_op (vB true) wa rfl (h_op (vB true) wa rfl (h_opz (vB true) (h_opz (vB false) (h_nil ?_)))))))))))
         obtain rfl:=some_inj h_16
         exact cu
        ·refine h_movb rfl hc_26 wa (h_op (.d (.int .u8 (b_13.toNat:Int))) wa rfl (h_op (vB ((b_13.toNat:Int) == 45)) wa rfl (h_op (vB ((b_13.toNat:Int) == 45)) wa rfl ?_)))
         rcases cond_some h_16 with⟨hc_27,h_16⟩ | ⟨hc_27,h_16⟩
         ·refine h_movb rfl hc_27 wa (h_skipz (h_skipz (h_op (vB true) wa rfl (h_op (vB true) wa rfl (h_opz (vB true) (h_opz (vB false) (h_nil ?_)))))))
          obtain rfl:=some_inj h_16
          exact cu
         ·refine h_movb rfl hc_27 wa (h_op (.d (.int .u8 (b_13.toNat:Int))) wa rfl (h_op (vB ((b_13.toNat:Int) == 95)) wa rfl (h_op (vB ((b_13.toNat:Int) == 95)) wa rfl (h_op (vB ((b_13.toNat:Int) == 95)) wa rfl (h_opz (vB ((b_13.toNat:Int) == 95)) (h_opz (vB (!((b_13.toNat:Int) == 95))) (h_nil ?_)))))))
          obtain rfl:=some_inj h_16
          exact cu
       ·refine h_movb rfl hc_25 wa (h_skipz (h_skipz (h_op (vB false) wa rfl (h_op (vB false) wa rfl (h_op (.d (.int .u8 (b_13.toNat:Int))) wa rfl (h_op (vB ((b_13.toNat:Int) == 45)) wa rfl (h_op (vB ((b_13.toNat:Int) == 45)) wa rfl ?_)))))))
        rcases cond_some h_16 with⟨hc_28,h_16⟩ | ⟨hc_28,h_16⟩
        ·refine h_movb rfl hc_28 wa (h_skipz (h_skipz (h_op (vB true) wa rfl (h_op (vB true) wa rfl (h_opz (vB true) (h_opz (vB false) (h_nil ?_)))))))
         obtain rfl:=some_inj h_16
         exact cu
        ·refine h_movb rfl hc_28 wa (h_op (.d (.int .u8 (b_13.toNat:Int))) wa rfl (h_op (vB ((b_13.toNat:Int) == 95)) wa rfl (h_op (vB ((b_13.toNat:Int) == 95)) wa rfl (h_op (vB ((b_13.toNat:Int) == 95)) wa rfl (h_opz (vB ((b_13.toNat:Int) == 95)) (h_opz (vB (!((b_13.toNat:Int) == 95))) (h_nil ?_)))))))
         obtain rfl:=some_inj h_16
         exact cu
      ·refine h_movb rfl hc_24 wa (h_skipz (h_skipz (h_skipz (h_skip (wn rfl rfl) (h_skip (wn rfl rfl) (h_skipz (h_skipz (h_skip (wn rfl rfl) (h_skip (wn rfl rfl) (h_skipz (h_skipz (h_skip (wn rfl rfl) (h_skip (wn rfl rfl) (h_skipz (h_op (vB false) wa rfl (h_opz (vB false) (h_opz (vB true) (h_nil ?_))))))))))))))))))
       obtain rfl:=some_inj h_16
       exact cu
    ·rintro ⟨⟩ _ sl_ H_ hp_ hq_
     refine wH_at _ hp_ hq_ ?_
     rcases cond_some hc_8 with⟨hc_29,hc_8⟩ | ⟨hc_29,hc_8⟩
     ·refine wH_ift rfl hc_29 (wH_sr (h_opz (vB false) (h_nil ?_)))
      obtain rfl:=some_inj hc_8
      obtain rfl:=some_inj hL_9
      obtain rfl:=some_inj hF
      exact wH_ret (fin0r [(vB false)] ⟨rfl,trivial⟩)
     ·refine wH_iff rfl hc_29 (wH_skip (wH_region (h_opz (vI s_7) (h_opz (vI (w64 (s_7 + 1))) (h_opz (vI (w64 (s_7 + 1))) (h_nil ?_))))))
      obtain rfl:=some_inj hc_8
      exact loop_mk (k_2,(w64 (s_7 + 1))) hL_9 (Nat.lt_succ_self _) rfl (pre_r rfl)
   ·refine wH_iff rfl hc_12 (wH_exit ?_)
    obtain rfl:=some_inj hc_8
    obtain rfl:=some_inj hL_9
    exact cut_mk (s_7) rfl rfl (pre_r rfl)
 ·rintro s_7 ho_ sl_ H_ hp_ hq_
  subst ho_
  refine wH_at _ hp_ hq_ (wH_seq ?_)
  obtain ⟨v_30,h_31,hF⟩:=bind_some hF
  refine wH_joinU [(2,(vB v_30))] [] ?_ ?_
  ·refine wH_region (h_opz (vS s_1) (h_opz (vB (sNe s_1 (⟨#[]⟩:ByteArray))) ?_))
   rcases cond_some h_31 with⟨hc_32,h_31⟩ | ⟨hc_32,h_31⟩
   ·refine h_movb rfl hc_32 wz (h_op (vS s_1) wa rfl (h_lens un9 rfl wa (h_op (vB (decide ((s_1.size:Int)≤40))) wa rfl (h_opz (vB (decide ((s_1.size:Int)≤40))) (h_opz (vB (decide ((s_1.size:Int)≤40))) (h_nil ?_))))))
    obtain rfl:=some_inj h_31
    exact cu
   ·refine h_movb rfl hc_32 wz (h_skipz (h_skipz (h_skipz (h_opz (vB false) (h_opz (vB false) (h_nil ?_))))))
    obtain rfl:=some_inj h_31
    exact cu
  ·rintro ⟨⟩ _ sl_ H_ hp_ hq_
   refine wH_at _ hp_ hq_ ?_
   obtain rfl:=some_inj hF
   exact wH_ret (fin0r [(vB v_30)] ⟨rfl,trivial⟩)
theorem booking_isTime_ok {wv_1:Window} {r:Bool} (hF:booking_isTime wv_1=some r) :
  FnM Try.prog 52 [(.d (.agg (Window.enc wv_1)))] [] (vB r) []:=by
 refine FnM.of_wH ⟨Try.prog,18,[],[]⟩ rfl Try.func52 rfl rfl (Nat.le_of_ble_eq_true rfl) (by kernel_rfl) ?_
 unfold booking_isTime at hF
 refine wH_sr (h_box 0 (.inl rfl) [(vI wv_1.From),(vI wv_1.To)] rfl rfl wz (fun n_2=>h_opz (vB false) (h_nil (wH_seq ?_))))
 obtain ⟨v_3,h_4,hF⟩:=bind_some hF
 refine wH_joinU [(2,(vB v_3))] [(n_2,some (.cells 2 [(vI wv_1.From),(vI wv_1.To)]))] ?_ ?_
 ·refine wH_region (h_far pl34_0 rfl 0 rfl wz (h_ldr 0 0 il ft sz3 ag3 rfl rfl (vI wv_1.From) rfl wz (h_opz (vB (decide (wv_1.From≥0))) ?_)))
  rcases cond_some h_4 with⟨hc_5,h_4⟩ | ⟨hc_5,h_4⟩
  ·refine h_movb rfl hc_5 wz (h_far pl34_0 rfl 0 rfl wa (h_ldr 0 0 il ft sz3 ag3 rfl rfl (vI wv_1.From) rfl wa (h_far pl34_1 rfl 1 rfl wa (h_ldr 0 0 il ft sz3 ag3 rfl rfl (vI wv_1.To) rfl wa (h_op (vB (decide (wv_1.From < wv_1.To))) wa rfl (h_opz (vB (decide (wv_1.From < wv_1.To))) ?_))))))
   rcases cond_some h_4 with⟨hc_6,h_4⟩ | ⟨hc_6,h_4⟩
   ·refine h_movb rfl hc_6 wz (h_far pl34_1 rfl 1 rfl wa (h_ldr 0 0 il ft sz3 ag3 rfl rfl (vI wv_1.To) rfl wa (h_op (vB (decide (wv_1.To≤345686400000))) wa rfl (h_opz (vB (decide (wv_1.To≤345686400000))) (h_opz (vB (decide (wv_1.To≤345686400000))) (h_nil ?_))))))
    obtain rfl:=some_inj h_4
    exact cu
   ·refine h_movb rfl hc_6 wz (h_skipz (h_skipz (h_skipz (h_opz (vB false) (h_opz (vB false) (h_nil ?_))))))
    obtain rfl:=some_inj h_4
    exact cu
  ·refine h_movb rfl hc_5 wz (h_skipz (h_skipz (h_skipz (h_skipz (h_skipz (h_opz (vB false) (h_opz (vB false) (h_skipz (h_skipz (h_skipz (h_opz (vB false) (h_opz (vB false) (h_nil ?_)))))))))))))
   obtain rfl:=some_inj h_4
   exact cu
 ·rintro ⟨⟩ _ sl_ H_ hp_ hq_
  refine wH_at _ hp_ hq_ ?_
  obtain rfl:=some_inj hF
  exact wH_ret (fin0r [(vB v_3)] ⟨rfl,trivial⟩)
theorem kit_Outside_ok {n_1:Int} {low_2:Int} {high_3:Int} {r:Bool} (hF:kit_Outside n_1 low_2 high_3=some r) :
  FnM Try.prog 53 [(vI n_1),(vI low_2),(vI high_3)] [] (vB r) []:=by
 refine FnM.of_wH ⟨Try.prog,15,[],[]⟩ rfl Try.func53 rfl rfl (Nat.le_of_ble_eq_true rfl) (by kernel_rfl) ?_
 unfold kit_Outside at hF
 refine wH_sr (h_opz (vB false) (h_nil (wH_seq ?_)))
 obtain ⟨v_4,h_5,hF⟩:=bind_some hF
 refine wH_joinU [(6,(vB v_4))] [] ?_ ?_
 ·refine wH_region (h_opz (vI n_1) (h_opz (vI low_2) (h_opz (vB (decide (n_1 < low_2))) ?_)))
  rcases cond_some h_5 with⟨hc_6,h_5⟩ | ⟨hc_6,h_5⟩
  ·refine h_movb rfl hc_6 wz (h_skipz (h_skipz (h_skipz (h_opz (vB true) (h_opz (vB true) (h_nil ?_))))))
   obtain rfl:=some_inj h_5
   exact cu
  ·refine h_movb rfl hc_6 wz (h_op (vI n_1) wa rfl (h_op (vI high_3) wa rfl (h_op (vB (decide (n_1 > high_3))) wa rfl (h_opz (vB (decide (n_1 > high_3))) (h_opz (vB (decide (n_1 > high_3))) (h_nil ?_))))))
   obtain rfl:=some_inj h_5
   exact cu
 ·rintro ⟨⟩ _ sl_ H_ hp_ hq_
  refine wH_at _ hp_ hq_ ?_
  obtain rfl:=some_inj hF
  exact wH_ret (fin0r [(vB v_4)] ⟨rfl,trivial⟩)
theorem kit_RisingFault_ok {l_1:(List ByteArray)} {r:Int} (hF:kit_RisingFault l_1=some r) :
  FnM Try.prog 67 [(vL eS l_1)] [] (vI r) []:=by
 refine FnM.of_wH ⟨Try.prog,27,[],[]⟩ rfl Try.func67 rfl rfl (Nat.le_of_ble_eq_true rfl) (by kernel_rfl) ?_
 unfold kit_RisingFault at hF
 refine wH_sr (h_opz (vI 0) (h_nil (wH_seq (wH_sr (h_opz (vL eS l_1) (h_len un35 rfl wz (h_opz (vI 0) (h_nil ?_))))))))
 obtain ⟨o_10,hj_11,hF⟩:=bind_some hF
 obtain ⟨hn_6,hj_11⟩:=forL_some hj_11
 refine wH_loopF0 (fun (s_7:Unit) => []) (fun (s_7:Unit) => []) (fun (k_2:Nat)=>(fun (s_7:Unit) => [(0,(vL eS l_1)),(5,(vL eS l_1)),(6,(vI (l_1.length:Int))),(7,(vI (k_2:Int)))])) (fun k x s=>kit_RisingFault_L1 l_1 k x s) o_10 l_1 () hj_11 rfl (pre_r rfl) ?_ ?_
 ·rintro ⟨k_2,l_3,s_7⟩ ⟨hL_9,hD_5⟩
  dsimp only at hL_9 hD_5
  cases l_3 with
  | nil =>
   obtain rfl:=some_inj hL_9
   refine wH_sr (h_opz (vB (decide ((k_2:Int) < (l_1.length:Int)))) (h_nil ?_))
   refine wH_seq (wH_iff rfl (drop_nil hD_5) (wH_exit ?_))
   exact cut_mk (s_7) rfl rfl (pre_r rfl)
  | cons x_4 l_3 =>
   obtain ⟨c_,hc_8,hL_9⟩:=bind_some hL_9
   refine wH_sr (h_opz (vB (decide ((k_2:Int) < (l_1.length:Int)))) (h_nil ?_))
   refine wH_seq (wH_ift rfl (drop_cons hD_5) (wH_skip ?_))
   unfold kit_RisingFault_L1 at hc_8
   refine wH_seq (wH_block (wH_sr (h_opz (vI (k_2:Int)) (h_ia es35 rfl rfl (drop_idx hD_5) rfl wz (h_ldc sz9 ag9 rfl (vS x_4) rfl wz (h_opz (vI (k_2:Int)) (h_opz (vS x_4) (h_nil (wH_seq (wH_sr (h_opz (vS x_4) ?_)))))))))))
   obtain ⟨r_12,hr_13,hc_8⟩:=bind_some hc_8
   refine h_call0 (kit_IsKey_ok hr_13) rfl hb51 rfl rfl rfl rfl wz (h_opz (vB (!r_12)) (h_nil ?_))
   rcases cond_some hc_8 with⟨hc_14,hc_8⟩ | ⟨hc_14,hc_8⟩
   ·refine wH_ift rfl hc_14 (wH_sr (h_opz (vI 5) (h_nil ?_)))
    obtain rfl:=some_inj hc_8
    obtain rfl:=some_inj hL_9
    obtain rfl:=some_inj hF
    exact wH_ret (fin0r [(vI 5)] ⟨rfl,trivial⟩)
   ·refine wH_iff rfl hc_14 (wH_skip (wH_seq ?_))
    obtain ⟨v_15,h_16,hc_8⟩:=bind_some hc_8
    refine wH_joinU [(0,(vL eS l_1)),(5,(vL eS l_1)),(6,(vI (l_1.length:Int))),(7,(vI (k_2:Int))),(25,(vB v_15))] [] ?_ ?_
    ·refine wH_region (h_opz (vI (k_2:Int)) (h_opz (vB (decide ((k_2:Int) > 0))) ?_))
     rcases cond_some h_16 with⟨hc_17,h_16⟩ | ⟨hc_17,h_16⟩
     ·refine h_movb rfl hc_17 wz (h_op (vS x_4) wa rfl (h_op (vL eS l_1) wa rfl (h_op (vI (k_2:Int)) wa rfl (h_op (vI (w64 ((k_2:Int) - 1))) wa rfl ?_))))
      obtain ⟨y_18,hy_19,h_16⟩:=bind_some h_16
      refine h_ia es35 rfl rfl hy_19 rfl wa (h_ldc sz9 ag9 rfl (vS y_18) rfl wa (h_op (vB (sLe x_4 y_18)) wa rfl (h_opz (vB (sLe x_4 y_18)) (h_nil ?_))))
      obtain rfl:=some_inj h_16
      exact cu
     ·refine h_movb rfl hc_17 wz (h_skipz (h_skipz (h_skipz (h_skipz (h_skipz (h_skipz (h_skipz (h_opz (vB false) (h_nil ?_)))))))))
      obtain rfl:=some_inj h_16
      exact cu
    ·rintro ⟨⟩ _ sl_ H_ hp_ hq_
     refine wH_at _ hp_ hq_ ?_
     rcases cond_some hc_8 with⟨hc_20,hc_8⟩ | ⟨hc_20,hc_8⟩
     ·refine wH_ift rfl hc_20 (wH_sr (h_opz (vI 7) (h_nil ?_)))
      obtain rfl:=some_inj hc_8
      obtain rfl:=some_inj hL_9
      obtain rfl:=some_inj hF
      exact wH_ret (fin0r [(vI 7)] ⟨rfl,trivial⟩)
     ·refine wH_iff rfl hc_20 (wH_skip (wH_region (h_opw (w64_next hD_5 hn_6) wz rfl (h_opz (vI ((k_2 + 1:Nat):Int)) (h_nil ?_)))))
      obtain rfl:=some_inj hc_8
      exact loop_mk (k_2 + 1,l_3,()) ⟨hL_9,drop_next hD_5⟩ (Nat.lt_succ_self _) rfl (pre_r rfl)
 ·rintro s_7 ho_ sl_ H_ hp_ hq_
  subst ho_
  refine wH_at _ hp_ hq_ (wH_sr (h_opz (vI 0) (h_nil ?_)))
  obtain rfl:=some_inj hF
  exact wH_ret (fin0r [(vI 0)] ⟨rfl,trivial⟩)
theorem booking_tagsFault_ok {l_1:(List ByteArray)} {r:Int} (hF:booking_tagsFault l_1=some r) :
  FnM Try.prog 54 [(vL eS l_1)] [] (vI r) []:=by
 refine FnM.of_wH ⟨Try.prog,8,[],[]⟩ rfl Try.func54 rfl rfl (Nat.le_of_ble_eq_true rfl) (by kernel_rfl) ?_
 unfold booking_tagsFault at hF
 refine wH_sr (h_opz (vI 0) (h_nil (wH_seq (wH_sr (h_opz (vL eS l_1) (h_len un35 rfl wz (h_opz (vB (decide ((l_1.length:Int) > 20))) (h_nil ?_))))))))
 rcases cond_some hF with⟨hc_2,hF⟩ | ⟨hc_2,hF⟩
 ·refine wH_ift rfl hc_2 (wH_sr (h_opz (vI 2) (h_nil ?_)))
  obtain rfl:=some_inj hF
  exact wH_ret (fin0r [(vI 2)] ⟨rfl,trivial⟩)
 ·refine wH_iff rfl hc_2 (wH_skip (wH_sr (h_opz (vL eS l_1) ?_)))
  obtain ⟨r_3,hr_4,hF⟩:=bind_some hF
  refine h_call0 (kit_RisingFault_ok hr_4) rfl hb67 rfl rfl rfl rfl wz (h_opz (vI r_3) (h_nil ?_))
  obtain rfl:=some_inj hF
  exact wH_ret (fin0r [(vI r_3)] ⟨rfl,trivial⟩)
theorem booking_CheckSpots_ok {l_1:(List Spot)} {r:Int} (hF:booking_CheckSpots l_1=some r) :
  FnM Try.prog 50 [(vL Spot.enc l_1)] [] (vI r) []:=by
 refine FnM.of_wH ⟨Try.prog,52,[],[]⟩ rfl Try.func50 rfl rfl (Nat.le_of_ble_eq_true rfl) (by kernel_rfl) ?_
 unfold booking_CheckSpots at hF
 refine wH_sr (h_opz (vI 0) (h_nil (wH_seq (wH_sr (h_opz (vL Spot.enc l_1) (h_len un26 rfl wz (h_opz (vB (decide ((l_1.length:Int) > 60))) (h_nil ?_))))))))
 rcases cond_some hF with⟨hc_2,hF⟩ | ⟨hc_2,hF⟩
 ·refine wH_ift rfl hc_2 (wH_sr (h_opz (vI 2) (h_nil ?_)))
  obtain rfl:=some_inj hF
  exact wH_ret (fin0r [(vI 2)] ⟨rfl,trivial⟩)
 ·refine wH_iff rfl hc_2 (wH_skip (wH_seq (wH_sr (h_opz (vL Spot.enc l_1) (h_len un26 rfl wz (h_opz (vI 0) (h_nil ?_)))))))
  obtain ⟨o_11,hj_12,hF⟩:=bind_some hF
  obtain ⟨hn_7,hj_12⟩:=forL_some hj_12
  refine wH_loopF0 (fun (s_8:Unit) => []) (fun (s_8:Unit) => []) (fun (k_3:Nat)=>(fun (s_8:Unit) => [(0,(vL Spot.enc l_1)),(9,(vL Spot.enc l_1)),(10,(vI (l_1.length:Int))),(11,(vI (k_3:Int)))])) (fun k x s=>booking_CheckSpots_L1 l_1 k x s) o_11 l_1 () hj_12 rfl (pre_r rfl) ?_ ?_
  ·rintro ⟨k_3,l_4,s_8⟩ ⟨hL_10,hD_6⟩
   dsimp only at hL_10 hD_6
   cases l_4 with
   | nil =>
    obtain rfl:=some_inj hL_10
    refine wH_sr (h_opz (vB (decide ((k_3:Int) < (l_1.length:Int)))) (h_nil ?_))
    refine wH_seq (wH_iff rfl (drop_nil hD_6) (wH_exit ?_))
    exact cut_mk (s_8) rfl rfl (pre_r rfl)
   | cons x_5 l_4 =>
    obtain ⟨c_,hc_9,hL_10⟩:=bind_some hL_10
    refine wH_sr (h_opz (vB (decide ((k_3:Int) < (l_1.length:Int)))) (h_nil ?_))
    refine wH_seq (wH_ift rfl (drop_cons hD_6) (wH_skip ?_))
    unfold booking_CheckSpots_L1 at hc_9
    refine wH_seq (wH_block (wH_sr (h_opz (vI (k_3:Int)) (h_ia es26 rfl rfl (drop_idx hD_6) rfl wz (h_ldc sz69 ag69 rfl (.d (.agg (Spot.enc x_5))) rfl wz (h_alloc 0 (.inl rfl) z69 rfl wz (fun n_13=>h_opz (vI (k_3:Int)) (h_str 0 il ft 0 sz69 rfl rfl (Spot.v x_5) rfl wz (h_nil (wH_seq (wH_block (wH_sr (h_far pl69_0 rfl 0 rfl wz (h_ldr 0 0 il ft sz9 ag9 rfl rfl (vS x_5.Key) rfl wz ?_))))))))))))))
    obtain ⟨r_14,hr_15,hc_9⟩:=bind_some hc_9
    refine h_call0 (kit_IsKey_ok hr_15) rfl hb51 rfl rfl rfl rfl wz (h_opz (vB (!r_14)) (h_opz (vB (!r_14)) (h_nil ?_)))
    rcases cond_some hc_9 with⟨hc_16,hc_9⟩ | ⟨hc_16,hc_9⟩
    ·refine wH_ift rfl hc_16 (wH_sr (h_opz (vI 5) (h_nil ?_)))
     obtain rfl:=some_inj hc_9
     obtain rfl:=some_inj hL_10
     obtain rfl:=some_inj hF
     exact wH_ret (fin0r [(vI 5)] ⟨rfl,trivial⟩)
    ·refine wH_iff rfl hc_16 (wH_seq ?_)
     obtain ⟨v_17,h_18,hc_9⟩:=bind_some hc_9
     refine wH_joinU [(0,(vL Spot.enc l_1)),(4,(.ref n_13 0 0)),(9,(vL Spot.enc l_1)),(10,(vI (l_1.length:Int))),(11,(vI (k_3:Int))),(21,(vB v_17))] [(n_13,some (.cells 5 (Spot.v x_5)))] ?_ ?_
     ·refine wH_draws (h_opz (vI (k_3:Int)) (h_opz (vB (decide ((k_3:Int) > 0))) ?_))
      rcases cond_some h_18 with⟨hc_19,h_18⟩ | ⟨hc_19,h_18⟩
      ·refine h_movb rfl hc_19 wz (h_far pl69_0 rfl 0 rfl wa (h_ldr 4 0 (.inr (by kernel_rfl)) (fun _ _ ag=>trivial) sz9 ag9 rfl rfl (vS x_5.Key) rfl wa (h_op (vL Spot.enc l_1) wa rfl (h_op (vI (k_3:Int)) wa rfl (h_op (vI (w64 ((k_3:Int) - 1))) wa rfl ?_)))))
       obtain ⟨y_20,hy_21,h_18⟩:=bind_some h_18
       refine h_ia es26 rfl rfl hy_21 rfl wa (h_fac pl69_0 rfl [.str y_20.Key,.int .i64 y_20.Time.From,.int .i64 y_20.Time.To,.int .i64 y_20.Room,dl eS y_20.Tags] rfl rfl wa (h_ldc sz9 ag9 rfl (vS y_20.Key) rfl wa (h_op (vB (sLe x_5.Key y_20.Key)) wa rfl (h_opz (vB (sLe x_5.Key y_20.Key)) (h_opz (vB (sLe x_5.Key y_20.Key)) (h_nil ?_))))))
       obtain rfl:=some_inj h_18
       exact cu
      ·refine h_movb rfl hc_19 wz (h_skipz (h_skipz (h_skipz (h_skipz (h_skipz (h_skipz (h_skipz (h_skipz (h_skipz (h_opz (vB false) (h_opz (vB false) (h_nil ?_))))))))))))
       obtain rfl:=some_inj h_18
       exact cu
     ·rintro ⟨⟩ _ sl_ H_ hp_ hq_
      refine wH_at _ hp_ hq_ ?_
      rcases cond_some hc_9 with⟨hc_22,hc_9⟩ | ⟨hc_22,hc_9⟩
      ·refine wH_ift rfl hc_22 (wH_sr (h_opz (vI 7) (h_nil ?_)))
       obtain rfl:=some_inj hc_9
       obtain rfl:=some_inj hL_10
       obtain rfl:=some_inj hF
       exact wH_ret (fin0r [(vI 7)] ⟨rfl,trivial⟩)
      ·refine wH_iff rfl hc_22 (wH_seq ?_)
       obtain ⟨v_23,h_24,hc_9⟩:=bind_some hc_9
       refine wH_joinU [(0,(vL Spot.enc l_1)),(4,(.ref n_13 0 0)),(9,(vL Spot.enc l_1)),(10,(vI (l_1.length:Int))),(11,(vI (k_3:Int))),(35,(vB v_23))] [(n_13,some (.cells 5 (Spot.v x_5)))] ?_ ?_
       ·refine wH_region (h_far pl69_1 rfl 1 rfl wz (h_ldr 0 0 il ft sz34 ag34 rfl rfl (.d (.agg (Window.enc x_5.Time))) rfl wz ?_))
        obtain ⟨r_25,hr_26,h_24⟩:=bind_some h_24
        refine h_call0 (booking_isTime_ok hr_26) rfl hb52 rfl rfl rfl rfl wz (h_opz (vB (!r_25)) ?_)
        rcases cond_some h_24 with⟨hc_27,h_24⟩ | ⟨hc_27,h_24⟩
        ·refine h_movb rfl hc_27 wz (h_skipz (h_skipz (h_skipz (h_opz (vB true) (h_opz (vB true) (h_nil ?_))))))
         obtain rfl:=some_inj h_24
         exact cu
        ·refine h_movb rfl hc_27 wz (h_far pl69_2 rfl 3 rfl wa (h_ldr 0 0 il ft sz3 ag3 rfl rfl (vI x_5.Room) rfl wa ?_))
         obtain ⟨r_28,hr_29,h_24⟩:=bind_some h_24
         refine h_call0 (kit_Outside_ok hr_29) rfl hb53 rfl rfl rfl rfl wa (h_opz (vB r_28) (h_opz (vB r_28) (h_nil ?_)))
         obtain rfl:=some_inj h_24
         exact cu
       ·rintro ⟨⟩ _ sl_ H_ hp_ hq_
        refine wH_at _ hp_ hq_ ?_
        rcases cond_some hc_9 with⟨hc_30,hc_9⟩ | ⟨hc_30,hc_9⟩
        ·refine wH_ift rfl hc_30 (wH_sr (h_opz (vI 1) (h_nil ?_)))
         obtain rfl:=some_inj hc_9
         obtain rfl:=some_inj hL_10
         obtain rfl:=some_inj hF
         exact wH_ret (fin0r [(vI 1)] ⟨rfl,trivial⟩)
        ·refine wH_iff rfl hc_30 (wH_skip (wH_sr (h_far pl69_3 rfl 4 rfl wz (h_ldr 0 0 il ft sz35 ag35 rfl rfl (vL eS x_5.Tags) rfl wz ?_))))
         obtain ⟨r_31,hr_32,hc_9⟩:=bind_some hc_9
         refine h_call0 (booking_tagsFault_ok hr_32) rfl hb54 rfl rfl rfl rfl wz (h_opz (vI r_31) (h_nil (wH_sr (h_opz (vI r_31) (h_opz (vB (r_31 != 0)) (h_nil ?_))))))
         rcases cond_some hc_9 with⟨hc_33,hc_9⟩ | ⟨hc_33,hc_9⟩
         ·refine wH_ift rfl hc_33 (wH_sr (h_opz (vI r_31) (h_opz (vI r_31) (h_nil ?_))))
          obtain rfl:=some_inj hc_9
          obtain rfl:=some_inj hL_10
          obtain rfl:=some_inj hF
          exact wH_ret (fin0r [(vI r_31)] ⟨rfl,trivial⟩)
         ·refine wH_iff rfl hc_33 (wH_skip (wH_region (h_opw (w64_next hD_6 hn_7) wz rfl (h_opz (vI ((k_3 + 1:Nat):Int)) (h_nil ?_)))))
          obtain rfl:=some_inj hc_9
          exact loop_mk (k_3 + 1,l_4,()) ⟨hL_10,drop_next hD_6⟩ (Nat.lt_succ_self _) rfl (pre_r rfl)
  ·rintro s_8 ho_ sl_ H_ hp_ hq_
   subst ho_
   refine wH_at _ hp_ hq_ (wH_sr (h_opz (vI 0) (h_nil ?_)))
   obtain rfl:=some_inj hF
   exact wH_ret (fin0r [(vI 0)] ⟨rfl,trivial⟩)
theorem booking_CheckCampaigns_ok {l_1:(List Campaign)} {r:Int} (hF:booking_CheckCampaigns l_1=some r) :
  FnM Try.prog 26 [(vL Campaign.enc l_1)] [] (vI r) []:=by
 refine FnM.of_wH ⟨Try.prog,73,[],[]⟩ rfl Try.func26 rfl rfl (Nat.le_of_ble_eq_true rfl) (by kernel_rfl) ?_
 unfold booking_CheckCampaigns at hF
 refine wH_sr (h_opz (vI 0) (h_nil (wH_seq (wH_sr (h_opz (vL Campaign.enc l_1) (h_len un27 rfl wz (h_opz (vB (decide ((l_1.length:Int) > 30))) (h_nil ?_))))))))
 rcases cond_some hF with⟨hc_2,hF⟩ | ⟨hc_2,hF⟩
 ·refine wH_ift rfl hc_2 (wH_sr (h_opz (vI 2) (h_nil ?_)))
  obtain rfl:=some_inj hF
  exact wH_ret (fin0r [(vI 2)] ⟨rfl,trivial⟩)
 ·refine wH_iff rfl hc_2 (wH_skip (wH_seq (wH_sr (h_opz (vL Campaign.enc l_1) (h_len un27 rfl wz (h_opz (vI 0) (h_nil ?_)))))))
  obtain ⟨o_11,hj_12,hF⟩:=bind_some hF
  obtain ⟨hn_7,hj_12⟩:=forL_some hj_12
  refine wH_loopF0 (fun (s_8:Unit) => []) (fun (s_8:Unit) => []) (fun (k_3:Nat)=>(fun (s_8:Unit) => [(0,(vL Campaign.enc l_1)),(9,(vL Campaign.enc l_1)),(10,(vI (l_1.length:Int))),(11,(vI (k_3:Int)))])) (fun k x s=>booking_CheckCampaigns_L1 l_1 k x s) o_11 l_1 () hj_12 rfl (pre_r rfl) ?_ ?_
  ·rintro ⟨k_3,l_4,s_8⟩ ⟨hL_10,hD_6⟩
   dsimp only at hL_10 hD_6
   cases l_4 with
   | nil =>
    obtain rfl:=some_inj hL_10
    refine wH_sr (h_opz (vB (decide ((k_3:Int) < (l_1.length:Int)))) (h_nil ?_))
    refine wH_seq (wH_iff rfl (drop_nil hD_6) (wH_exit ?_))
    exact cut_mk (s_8) rfl rfl (pre_r rfl)
   | cons x_5 l_4 =>
    obtain ⟨c_,hc_9,hL_10⟩:=bind_some hL_10
    refine wH_sr (h_opz (vB (decide ((k_3:Int) < (l_1.length:Int)))) (h_nil ?_))
    refine wH_seq (wH_ift rfl (drop_cons hD_6) (wH_skip ?_))
    unfold booking_CheckCampaigns_L1 at hc_9
    refine wH_seq (wH_block (wH_sr (h_opz (vI (k_3:Int)) (h_ia es27 rfl rfl (drop_idx hD_6) rfl wz (h_ldc sz37 ag37 rfl (.d (.agg (Campaign.enc x_5))) rfl wz (h_alloc 0 (.inl rfl) z37 rfl wz (fun n_13=>h_opz (vI (k_3:Int)) (h_str 0 il ft 0 sz37 rfl rfl (Campaign.v x_5) rfl wz (h_nil (wH_seq (wH_block (wH_seq ?_))))))))))))
    obtain ⟨v_14,h_15,hc_9⟩:=bind_some hc_9
    refine wH_joinU [(0,(vL Campaign.enc l_1)),(3,(vI (k_3:Int))),(4,(.ref n_13 0 0)),(9,(vL Campaign.enc l_1)),(10,(vI (l_1.length:Int))),(11,(vI (k_3:Int))),(16,(vB v_14))] [(n_13,some (.cells 8 (Campaign.v x_5)))] ?_ ?_
    ·refine wH_region (h_far pl37_0 rfl 0 rfl wz (h_ldr 0 0 il ft sz9 ag9 rfl rfl (vS x_5.Key) rfl wz ?_))
     obtain ⟨r_16,hr_17,h_15⟩:=bind_some h_15
     refine h_call0 (kit_IsKey_ok hr_17) rfl hb51 rfl rfl rfl rfl wz (h_opz (vB (!r_16)) ?_)
     rcases cond_some h_15 with⟨hc_18,h_15⟩ | ⟨hc_18,h_15⟩
     ·refine h_movb rfl hc_18 wz (h_skipz (h_skipz (h_skipz (h_skipz (h_skip (wn rfl rfl) (h_skip (wn rfl rfl) (h_skip (wn rfl rfl) (h_skip (wn rfl rfl) (h_skipz (h_opz (vB true) (h_opz (vB true) (h_nil ?_))))))))))))
      obtain rfl:=some_inj h_15
      exact cu
     ·refine h_movb rfl hc_18 wz (h_far pl37_1 rfl 1 rfl wa (h_ldr 0 0 il ft sz9 ag9 rfl rfl (vS x_5.Class) rfl wa (h_op (vB (sNe x_5.Class (⟨#[]⟩:ByteArray))) wa rfl ?_)))
      rcases cond_some h_15 with⟨hc_19,h_15⟩ | ⟨hc_19,h_15⟩
      ·refine h_movb rfl hc_19 wa (h_far pl37_1 rfl 1 rfl wa (h_ldr 0 0 il ft sz9 ag9 rfl rfl (vS x_5.Class) rfl wa ?_))
       obtain ⟨r_20,hr_21,h_15⟩:=bind_some h_15
       refine h_call0 (kit_IsKey_ok hr_21) rfl hb51 rfl rfl rfl rfl wa (h_op (vB (!r_20)) wa rfl (h_op (vB (!r_20)) wa rfl (h_opz (vB (!r_20)) (h_opz (vB (!r_20)) (h_nil ?_)))))
       obtain rfl:=some_inj h_15
       exact cu
      ·refine h_movb rfl hc_19 wa (h_skipz (h_skipz (h_skipz (h_skipz (h_op (vB false) wa rfl (h_opz (vB false) (h_opz (vB false) (h_nil ?_))))))))
       obtain rfl:=some_inj h_15
       exact cu
    ·rintro ⟨⟩ _ sl_ H_ hp_ hq_
     refine wH_at _ hp_ hq_ ?_
     rcases cond_some hc_9 with⟨hc_22,hc_9⟩ | ⟨hc_22,hc_9⟩
     ·refine wH_ift rfl hc_22 (wH_sr (h_opz (vI 5) (h_nil ?_)))
      obtain rfl:=some_inj hc_9
      obtain rfl:=some_inj hL_10
      obtain rfl:=some_inj hF
      exact wH_ret (fin0r [(vI 5)] ⟨rfl,trivial⟩)
     ·refine wH_iff rfl hc_22 (wH_seq ?_)
      obtain ⟨v_23,h_24,hc_9⟩:=bind_some hc_9
      refine wH_joinU [(0,(vL Campaign.enc l_1)),(4,(.ref n_13 0 0)),(9,(vL Campaign.enc l_1)),(10,(vI (l_1.length:Int))),(11,(vI (k_3:Int))),(32,(vB v_23))] [(n_13,some (.cells 8 (Campaign.v x_5)))] ?_ ?_
      ·refine wH_draws (h_opz (vI (k_3:Int)) (h_opz (vB (decide ((k_3:Int) > 0))) ?_))
       rcases cond_some h_24 with⟨hc_25,h_24⟩ | ⟨hc_25,h_24⟩
       ·refine h_movb rfl hc_25 wz (h_far pl37_0 rfl 0 rfl wa (h_ldr 4 0 (.inr (by kernel_rfl)) (fun _ _ ag=>trivial) sz9 ag9 rfl rfl (vS x_5.Key) rfl wa (h_op (vL Campaign.enc l_1) wa rfl (h_op (vI (k_3:Int)) wa rfl (h_op (vI (w64 ((k_3:Int) - 1))) wa rfl ?_)))))
        obtain ⟨y_26,hy_27,h_24⟩:=bind_some h_24
        refine h_ia es27 rfl rfl hy_27 rfl wa (h_fac pl37_0 rfl [.str y_26.Key,.str y_26.Class,.int .i64 y_26.Time.From,.int .i64 y_26.Time.To,dl eS y_26.Tags,.int .i64 y_26.Goal,.int .i64 y_26.Most,.int .i64 y_26.Cents] rfl rfl wa (h_ldc sz9 ag9 rfl (vS y_26.Key) rfl wa (h_op (vB (sLe x_5.Key y_26.Key)) wa rfl (h_opz (vB (sLe x_5.Key y_26.Key)) (h_opz (vB (sLe x_5.Key y_26.Key)) (h_nil ?_))))))
        obtain rfl:=some_inj h_24
        exact cu
       ·refine h_movb rfl hc_25 wz (h_skipz (h_skipz (h_skipz (h_skipz (h_skipz (h_skipz (h_skipz (h_skipz (h_skipz (h_opz (vB false) (h_opz (vB false) (h_nil ?_))))))))))))
        obtain rfl:=some_inj h_24
        exact cu
      ·rintro ⟨⟩ _ sl_ H_ hp_ hq_
       refine wH_at _ hp_ hq_ ?_
       rcases cond_some hc_9 with⟨hc_28,hc_9⟩ | ⟨hc_28,hc_9⟩
       ·refine wH_ift rfl hc_28 (wH_sr (h_opz (vI 7) (h_nil ?_)))
        obtain rfl:=some_inj hc_9
        obtain rfl:=some_inj hL_10
        obtain rfl:=some_inj hF
        exact wH_ret (fin0r [(vI 7)] ⟨rfl,trivial⟩)
       ·refine wH_iff rfl hc_28 (wH_seq ?_)
        obtain ⟨v_29,h_30,hc_9⟩:=bind_some hc_9
        refine wH_joinU [(0,(vL Campaign.enc l_1)),(4,(.ref n_13 0 0)),(9,(vL Campaign.enc l_1)),(10,(vI (l_1.length:Int))),(11,(vI (k_3:Int))),(46,(vB v_29))] [(n_13,some (.cells 8 (Campaign.v x_5)))] ?_ ?_
        ·refine wH_region (h_far pl37_2 rfl 2 rfl wz (h_ldr 0 0 il ft sz34 ag34 rfl rfl (.d (.agg (Window.enc x_5.Time))) rfl wz ?_))
         obtain ⟨r_31,hr_32,h_30⟩:=bind_some h_30
         refine h_call0 (booking_isTime_ok hr_32) rfl hb52 rfl rfl rfl rfl wz (h_opz (vB (!r_31)) ?_)
         rcases cond_some h_30 with⟨hc_33,h_30⟩ | ⟨hc_33,h_30⟩
         ·refine h_movb rfl hc_33 wz (h_skipz (h_skipz (h_skipz (h_opz (vB true) (h_opz (vB true) (h_skipz (h_skipz (h_skipz (h_opz (vB true) (h_opz (vB true) (h_skipz (h_skipz (h_skipz (h_opz (vB true) (h_opz (vB true) (h_nil ?_))))))))))))))))
          obtain rfl:=some_inj h_30
          exact cu
         ·refine h_movb rfl hc_33 wz (h_far pl37_4 rfl 5 rfl wa (h_ldr 0 0 il ft sz3 ag3 rfl rfl (vI x_5.Goal) rfl wa ?_))
          obtain ⟨r_34,hr_35,h_30⟩:=bind_some h_30
          refine h_call0 (kit_Outside_ok hr_35) rfl hb53 rfl rfl rfl rfl wa (h_opz (vB r_34) ?_)
          rcases cond_some h_30 with⟨hc_36,h_30⟩ | ⟨hc_36,h_30⟩
          ·refine h_movb rfl hc_36 wz (h_skipz (h_skipz (h_skipz (h_opz (vB true) (h_opz (vB true) (h_skipz (h_skipz (h_skipz (h_opz (vB true) (h_opz (vB true) (h_nil ?_)))))))))))
           obtain rfl:=some_inj h_30
           exact cu
          ·refine h_movb rfl hc_36 wz (h_far pl37_5 rfl 6 rfl wa (h_ldr 0 0 il ft sz3 ag3 rfl rfl (vI x_5.Most) rfl wa ?_))
           obtain ⟨r_37,hr_38,h_30⟩:=bind_some h_30
           refine h_call0 (kit_Outside_ok hr_38) rfl hb53 rfl rfl rfl rfl wa (h_opz (vB r_37) ?_)
           rcases cond_some h_30 with⟨hc_39,h_30⟩ | ⟨hc_39,h_30⟩
           ·refine h_movb rfl hc_39 wz (h_skipz (h_skipz (h_skipz (h_opz (vB true) (h_opz (vB true) (h_nil ?_))))))
            obtain rfl:=some_inj h_30
            exact cu
           ·refine h_movb rfl hc_39 wz (h_far pl37_6 rfl 7 rfl wa (h_ldr 0 0 il ft sz3 ag3 rfl rfl (vI x_5.Cents) rfl wa ?_))
            obtain ⟨r_40,hr_41,h_30⟩:=bind_some h_30
            refine h_call0 (kit_Outside_ok hr_41) rfl hb53 rfl rfl rfl rfl wa (h_opz (vB r_40) (h_opz (vB r_40) (h_nil ?_)))
            obtain rfl:=some_inj h_30
            exact cu
        ·rintro ⟨⟩ _ sl_ H_ hp_ hq_
         refine wH_at _ hp_ hq_ ?_
         rcases cond_some hc_9 with⟨hc_42,hc_9⟩ | ⟨hc_42,hc_9⟩
         ·refine wH_ift rfl hc_42 (wH_sr (h_opz (vI 1) (h_nil ?_)))
          obtain rfl:=some_inj hc_9
          obtain rfl:=some_inj hL_10
          obtain rfl:=some_inj hF
          exact wH_ret (fin0r [(vI 1)] ⟨rfl,trivial⟩)
         ·refine wH_iff rfl hc_42 (wH_skip (wH_sr (h_far pl37_3 rfl 4 rfl wz (h_ldr 0 0 il ft sz35 ag35 rfl rfl (vL eS x_5.Tags) rfl wz ?_))))
          obtain ⟨r_43,hr_44,hc_9⟩:=bind_some hc_9
          refine h_call0 (booking_tagsFault_ok hr_44) rfl hb54 rfl rfl rfl rfl wz (h_opz (vI r_43) (h_nil (wH_sr (h_opz (vI r_43) (h_opz (vB (r_43 != 0)) (h_nil ?_))))))
          rcases cond_some hc_9 with⟨hc_45,hc_9⟩ | ⟨hc_45,hc_9⟩
          ·refine wH_ift rfl hc_45 (wH_sr (h_opz (vI r_43) (h_opz (vI r_43) (h_nil ?_))))
           obtain rfl:=some_inj hc_9
           obtain rfl:=some_inj hL_10
           obtain rfl:=some_inj hF
           exact wH_ret (fin0r [(vI r_43)] ⟨rfl,trivial⟩)
          ·refine wH_iff rfl hc_45 (wH_skip (wH_region (h_opw (w64_next hD_6 hn_7) wz rfl (h_opz (vI ((k_3 + 1:Nat):Int)) (h_nil ?_)))))
           obtain rfl:=some_inj hc_9
           exact loop_mk (k_3 + 1,l_4,()) ⟨hL_10,drop_next hD_6⟩ (Nat.lt_succ_self _) rfl (pre_r rfl)
  ·rintro s_8 ho_ sl_ H_ hp_ hq_
   subst ho_
   refine wH_at _ hp_ hq_ (wH_sr (h_opz (vI 0) (h_nil ?_)))
   obtain rfl:=some_inj hF
   exact wH_ret (fin0r [(vI 0)] ⟨rfl,trivial⟩)
theorem booking_checkBoth_ok {spots_1:(List Spot)} {l_2:(List Campaign)} {r:Int} (hF:booking_checkBoth spots_1 l_2=some r) :
  FnM Try.prog 25 [(vL Spot.enc spots_1),(vL Campaign.enc l_2)] [] (vI r) []:=by
 refine FnM.of_wH ⟨Try.prog,13,[],[]⟩ rfl Try.func25 rfl rfl (Nat.le_of_ble_eq_true rfl) (by kernel_rfl) ?_
 unfold booking_checkBoth at hF
 refine wH_sr (h_opz (vI 0) (h_nil (wH_seq (wH_sr (h_opz (vL Spot.enc spots_1) ?_)))))
 obtain ⟨r_3,hr_4,hF⟩:=bind_some hF
 refine h_call0 (booking_CheckSpots_ok hr_4) rfl hb50 rfl rfl rfl rfl wz (h_opz (vI r_3) (h_nil (wH_sr (h_opz (vI r_3) (h_opz (vB (r_3 != 0)) (h_nil ?_))))))
 rcases cond_some hF with⟨hc_5,hF⟩ | ⟨hc_5,hF⟩
 ·refine wH_ift rfl hc_5 (wH_sr (h_opz (vI r_3) (h_opz (vI r_3) (h_nil ?_))))
  obtain rfl:=some_inj hF
  exact wH_ret (fin0r [(vI r_3)] ⟨rfl,trivial⟩)
 ·refine wH_iff rfl hc_5 (wH_skip (wH_sr (h_opz (vL Campaign.enc l_2) ?_)))
  obtain ⟨r_6,hr_7,hF⟩:=bind_some hF
  refine h_call0 (booking_CheckCampaigns_ok hr_7) rfl hb26 rfl rfl rfl rfl wz (h_opz (vI r_6) (h_nil ?_))
  obtain rfl:=some_inj hF
  exact wH_ret (fin0r [(vI r_6)] ⟨rfl,trivial⟩)
theorem booking_Left_1_ok {o_1:Campaign} {p_2:Campaign} {r:Bool} (hF:booking_Left_1 o_1 p_2=some r) :
  FnM Try.prog 27 [(.d (.agg (Campaign.enc o_1))),(.ref (extN 0) 0 0)] [(.cells 8 (Campaign.v p_2))] (vB r) [some (.cells 8 (Campaign.v p_2))]:=by
 refine FnM.of_wH ⟨Try.prog,9,[],[]⟩ rfl Try.func27 rfl rfl (Nat.le_of_ble_eq_true rfl) (by kernel_rfl) ?_
 unfold booking_Left_1 at hF
 refine wH_sr (h_box 0 (.inl rfl) (Campaign.v o_1) rfl rfl wz (fun n_3=>h_opz (vB false) (h_nil (wH_sr (h_far pl37_0 rfl 0 rfl wz (h_ldr 0 1 il ft sz9 ag9 rfl rfl (vS o_1.Key) rfl wz (h_far pl37_0 rfl 0 rfl wz (h_ldr 0 0 il ft sz9 ag9 rfl rfl (vS p_2.Key) rfl wz (h_opz (vB (sEq o_1.Key p_2.Key)) (h_opz (vB (sEq o_1.Key p_2.Key)) (h_nil ?_)))))))))))
 obtain rfl:=some_inj hF
 exact wH_ret (finB (.inr rfl) [(vB (sEq o_1.Key p_2.Key))] _ [0] [extN 0] ⟨rfl,trivial⟩ (.cons (co_data rfl rfl) (.nil)) (by kernel_rfl) ⟨(by kernel_rfl),trivial⟩ (by decide) (by kernel_rfl))
theorem slices_IndexFunc_api_Campaign_api_Campaign_ok {s_1:(List Campaign)} {f_2:Campaign→Option Bool} {r:Int} {gid:FuncId} {caps:List V} {Sin:List Box} (hfn:∀ x0 r,f_2 x0=some r→FnM Try.prog gid ([(.d (.agg (Campaign.enc x0)))]++caps) Sin (vB r) (Sin.map some)) (hbF:hasBody Try.prog gid=true) (hcapF:caps.flatMap frz = []∧caps.map co0=caps) (hokF:okL Sin.length caps=true) (hsF:∀ b∈Sin,b.ok Sin.length=true) (hmF:∀ b∈Sin,b.mut=true) (hF:slices_IndexFunc_api_Campaign_api_Campaign s_1 f_2=some r) :
  FnM Try.prog 38 [(vL Campaign.enc s_1),(.fn gid caps)] Sin (vI r) (Sin.map some):=by
 refine FnM.of_wH ⟨Try.prog,19,[],[]⟩ rfl Try.func38 rfl rfl (Nat.le_of_ble_eq_true rfl) (by kernel_rfl) ?_
 unfold slices_IndexFunc_api_Campaign_api_Campaign at hF
 refine wH_sr (h_opz (vI 0) (h_nil (wH_seq (wH_sr (h_opz (vL Campaign.enc s_1) (h_len un27 rfl wz (h_opz (vI 0) (h_nil ?_))))))))
 obtain ⟨o_11,hj_12,hF⟩:=bind_some hF
 obtain ⟨hn_7,hj_12⟩:=forL_some hj_12
 refine wH_loopF0 (fun (s_8:Unit) => []) (fun (s_8:Unit)=>(initH 0 Sin)) (fun (k_3:Nat)=>(fun (s_8:Unit) => [(0,(vL Campaign.enc s_1)),(1,(.fn gid caps)),(7,(vI (s_1.length:Int))),(8,(vI (k_3:Int)))])) (fun k x s=>slices_IndexFunc_api_Campaign_api_Campaign_L1 f_2 k x s) o_11 s_1 () hj_12 rfl (pre_self _) ?_ ?_
 ·rintro ⟨k_3,l_4,s_8⟩ ⟨hL_10,hD_6⟩
  dsimp only at hL_10 hD_6
  cases l_4 with
  | nil =>
   obtain rfl:=some_inj hL_10
   refine wH_sr (h_opz (vB (decide ((k_3:Int) < (s_1.length:Int)))) (h_nil ?_))
   refine wH_seq (wH_iff rfl (drop_nil hD_6) (wH_exit ?_))
   exact cut_mk (s_8) rfl rfl (pre_self _)
  | cons x_5 l_4 =>
   obtain ⟨c_,hc_9,hL_10⟩:=bind_some hL_10
   refine wH_sr (h_opz (vB (decide ((k_3:Int) < (s_1.length:Int)))) (h_nil ?_))
   refine wH_seq (wH_ift rfl (drop_cons hD_6) (wH_skip ?_))
   unfold slices_IndexFunc_api_Campaign_api_Campaign_L1 at hc_9
   refine wH_seq (wH_block (wH_sr (h_opz (vI (k_3:Int)) (h_opz (vI (k_3:Int)) (h_nil (wH_sr (h_opz (.fn gid caps) (h_opz (vL Campaign.enc s_1) (h_opz (vI (k_3:Int)) (h_ia es27 rfl rfl (drop_idx hD_6) rfl wz (h_ldc sz37 ag37 rfl (.d (.agg (Campaign.enc x_5))) rfl wz ?_)))))))))))
   obtain ⟨r_13,hr_14,hc_9⟩:=bind_some hc_9
   refine h_callS (hfn _ _ hr_14) rfl hbF rfl rfl hcapF hokF hsF hmF rfl wz rfl (h_nil ?_)
   rcases cond_some hc_9 with⟨hc_15,hc_9⟩ | ⟨hc_15,hc_9⟩
   ·refine wH_ift rfl hc_15 (wH_sr (h_opz (vI (k_3:Int)) (h_opz (vI (k_3:Int)) (h_nil ?_))))
    obtain rfl:=some_inj hc_9
    obtain rfl:=some_inj hL_10
    obtain rfl:=some_inj hF
    exact wH_ret (finS hsF (.inr rfl) [(vI (k_3:Int))] ⟨rfl,trivial⟩ rfl rfl rfl)
   ·refine wH_iff rfl hc_15 (wH_skip (wH_region (h_opw (w64_next hD_6 hn_7) wz rfl (h_opz (vI ((k_3 + 1:Nat):Int)) (h_nil ?_)))))
    obtain rfl:=some_inj hc_9
    exact loop_mk (k_3 + 1,l_4,()) ⟨hL_10,drop_next hD_6⟩ (Nat.lt_succ_self _) rfl (pre_self _)
 ·rintro s_8 ho_ sl_ H_ hp_ hq_
  subst ho_
  refine wH_at _ hp_ hq_ (wH_sr (h_opz (vI (-1)) (h_nil ?_)))
  obtain rfl:=some_inj hF
  exact wH_ret (finS hsF (.inr rfl) [(vI (-1))] ⟨rfl,trivial⟩ rfl rfl rfl)
theorem slices_ContainsFunc_api_Campaign_api_Campaign_ok {s_1:(List Campaign)} {f_2:Campaign→Option Bool} {r:Bool} {gid:FuncId} {caps:List V} {Sin:List Box} (hfn:∀ x0 r,f_2 x0=some r→FnM Try.prog gid ([(.d (.agg (Campaign.enc x0)))]++caps) Sin (vB r) (Sin.map some)) (hbF:hasBody Try.prog gid=true) (hcapF:caps.flatMap frz = []∧caps.map co0=caps) (hokF:okL Sin.length caps=true) (hsF:∀ b∈Sin,b.ok Sin.length=true) (hmF:∀ b∈Sin,b.mut=true) (hF:slices_ContainsFunc_api_Campaign_api_Campaign s_1 f_2=some r) :
  FnM Try.prog 13 [(vL Campaign.enc s_1),(.fn gid caps)] Sin (vB r) (Sin.map some):=by
 refine FnM.of_wH ⟨Try.prog,9,[],[]⟩ rfl Try.func13 rfl rfl (Nat.le_of_ble_eq_true rfl) (by kernel_rfl) ?_
 unfold slices_ContainsFunc_api_Campaign_api_Campaign at hF
 refine wH_sr (h_opz (vB false) (h_nil (wH_sr (h_opz (vL Campaign.enc s_1) (h_opz (.fn gid caps) ?_)))))
 obtain ⟨r_3,hr_4,hF⟩:=bind_some hF
 refine h_callS (slices_IndexFunc_api_Campaign_api_Campaign_ok (gid:=gid) (caps:=caps) (Sin:=Sin) hfn hbF hcapF hokF hsF hmF hr_4) rfl hb38 rfl rfl ⟨rfl,rfl⟩ (by simp [okL,okV,hokF]) hsF hmF rfl wz rfl (h_opz (vB (decide (r_3≥0))) (h_opz (vB (decide (r_3≥0))) (h_nil ?_)))
 obtain rfl:=some_inj hF
 exact wH_ret (finS hsF (.inr rfl) [(vB (decide (r_3≥0)))] ⟨rfl,trivial⟩ rfl rfl rfl)
theorem booking_goals_ok {l_1:(List Campaign)} {r:Int} (hF:booking_goals l_1=some r) :
  FnM Try.prog 28 [(vL Campaign.enc l_1)] [] (vI r) []:=by
 refine FnM.of_wH ⟨Try.prog,18,[],[]⟩ rfl Try.func28 rfl rfl (Nat.le_of_ble_eq_true rfl) (by kernel_rfl) ?_
 unfold booking_goals at hF
 refine wH_sr (h_opz (vI 0) (h_nil (wH_sr (h_opz (vI 0) (h_nil (wH_seq (wH_sr (h_opz (vL Campaign.enc l_1) (h_len un27 rfl wz (h_opz (vI 0) (h_nil ?_)))))))))))
 obtain ⟨o_10,hj_11,hF⟩:=bind_some hF
 obtain ⟨hn_6,hj_11⟩:=forL_some hj_11
 refine wH_loopF0 (fun (s_7:Int) => [(3,(vI s_7))]) (fun (s_7:Int) => []) (fun (k_2:Nat)=>(fun (s_7:Int) => [(3,(vI s_7)),(6,(vL Campaign.enc l_1)),(7,(vI (l_1.length:Int))),(8,(vI (k_2:Int)))])) (fun k x s=>booking_goals_L1 k x s) o_10 l_1 0 hj_11 rfl (pre_r rfl) ?_ ?_
 ·rintro ⟨k_2,l_3,s_7⟩ ⟨hL_9,hD_5⟩
  dsimp only at hL_9 hD_5
  cases l_3 with
  | nil =>
   obtain rfl:=some_inj hL_9
   refine wH_sr (h_opz (vB (decide ((k_2:Int) < (l_1.length:Int)))) (h_nil ?_))
   refine wH_seq (wH_iff rfl (drop_nil hD_5) (wH_exit ?_))
   exact cut_mk (s_7) rfl rfl (pre_r rfl)
  | cons x_4 l_3 =>
   obtain ⟨c_,hc_8,hL_9⟩:=bind_some hL_9
   refine wH_sr (h_opz (vB (decide ((k_2:Int) < (l_1.length:Int)))) (h_nil ?_))
   refine wH_seq (wH_ift rfl (drop_cons hD_5) (wH_skip ?_))
   unfold booking_goals_L1 at hc_8
   refine wH_seq (wH_block (wH_sr (h_ia es27 rfl rfl (drop_idx hD_5) rfl wz (h_ldc sz37 ag37 rfl (.d (.agg (Campaign.enc x_4))) rfl wz (h_alloc 0 (.inl rfl) z37 rfl wz (fun n_12=>h_str 0 il ft 0 sz37 rfl rfl (Campaign.v x_4) rfl wz (h_nil (wH_region (h_opz (vI s_7) (h_far pl37_4 rfl 5 rfl wz (h_ldr 0 0 il ft sz3 ag3 rfl rfl (vI x_4.Goal) rfl wz (h_opz (vI (w64 (s_7 + x_4.Goal))) (h_opz (vI (w64 (s_7 + x_4.Goal))) (h_nil (wH_region (h_opw (w64_next hD_5 hn_6) wz rfl (h_opz (vI ((k_2 + 1:Nat):Int)) (h_nil ?_))))))))))))))))))
   obtain rfl:=some_inj hc_8
   exact loop_mk (k_2 + 1,l_3,(w64 (s_7 + x_4.Goal))) ⟨hL_9,drop_next hD_5⟩ (Nat.lt_succ_self _) rfl (pre_r rfl)
 ·rintro s_7 ho_ sl_ H_ hp_ hq_
  subst ho_
  refine wH_at _ hp_ hq_ (wH_sr (h_opz (vI s_7) (h_opz (vI s_7) (h_nil ?_))))
  obtain rfl:=some_inj hF
  exact wH_ret (fin0r [(vI s_7)] ⟨rfl,trivial⟩)
theorem booking_web_camp_ok {wv_1:Web} {i_2:Int} {r:Int} (hF:booking_web_camp wv_1 i_2=some r) :
  FnM Try.prog 68 [(.ref (extN 0) 0 0),(vI i_2)] (gridIn 2 1 eI [(vI wv_1.f_camps)] wv_1.f_can) (vI r) (gridOut 2 1 eI [(vI wv_1.f_camps)] wv_1.f_can):=by
 refine FnM.of_wHg (cs := [(vI wv_1.f_camps)]) ⟨Try.prog,7,[],[]⟩ rfl Try.func68 rfl rfl (Nat.le_of_ble_eq_true rfl) (by kernel_rfl) ?_
 unfold booking_web_camp at hF
 refine wH_sr (h_opz (vI 0) (h_nil (wH_sr (h_opz (vI i_2) (h_opz (vI (w64 (2 + i_2))) (h_opz (vI (w64 (2 + i_2))) (h_nil ?_)))))))
 obtain rfl:=some_inj hF
 exact wH_ret (finGr (k:=2) (cs := [(vI wv_1.f_camps)]) (cs' := [(vI wv_1.f_camps)]) (rows:=wv_1.f_can) (rows':=wv_1.f_can) ([]:Hp) (.inr rfl) [(vI (w64 (2 + i_2)))] ⟨rfl,trivial⟩ rfl rfl rfl rfl rfl rfl)
theorem cmp_isNaN_string_ok {x_1:ByteArray} {r:Bool} (hF:cmp_isNaN_string x_1=some r) :
  FnM Try.prog 76 [(vS x_1)] [] (vB r) []:=by
 refine FnM.of_wH ⟨Try.prog,6,[],[]⟩ rfl Try.func76 rfl rfl (Nat.le_of_ble_eq_true rfl) (by kernel_rfl) ?_
 unfold cmp_isNaN_string at hF
 refine wH_sr (h_opz (vB false) (h_nil (wH_sr (h_opz (vS x_1) (h_opz (vS x_1) (h_opz (vB (sNe x_1 x_1)) (h_opz (vB (sNe x_1 x_1)) (h_nil ?_))))))))
 obtain rfl:=some_inj hF
 exact wH_ret (fin0r [(vB (sNe x_1 x_1))] ⟨rfl,trivial⟩)
theorem cmp_Less_string_ok {x_1:ByteArray} {y_2:ByteArray} {r:Bool} (hF:cmp_Less_string x_1 y_2=some r) :
  FnM Try.prog 71 [(vS x_1),(vS y_2)] [] (vB r) []:=by
 refine FnM.of_wH ⟨Try.prog,17,[],[]⟩ rfl Try.func71 rfl rfl (Nat.le_of_ble_eq_true rfl) (by kernel_rfl) ?_
 unfold cmp_Less_string at hF
 refine wH_sr (h_opz (vB false) (h_nil (wH_seq ?_)))
 obtain ⟨v_3,h_4,hF⟩:=bind_some hF
 refine wH_joinU [(4,(vB v_3))] [] ?_ ?_
 ·refine wH_region (h_opz (vS x_1) ?_)
  obtain ⟨r_5,hr_6,h_4⟩:=bind_some h_4
  refine h_call0 (cmp_isNaN_string_ok hr_6) rfl hb76 rfl rfl rfl rfl wz ?_
  rcases cond_some h_4 with⟨hc_7,h_4⟩ | ⟨hc_7,h_4⟩
  ·refine h_movb rfl hc_7 wz (h_op (vS y_2) wa rfl ?_)
   obtain ⟨r_8,hr_9,h_4⟩:=bind_some h_4
   refine h_call0 (cmp_isNaN_string_ok hr_9) rfl hb76 rfl rfl rfl rfl wa (h_op (vB (!r_8)) wa rfl (h_opz (vB (!r_8)) ?_))
   rcases cond_some h_4 with⟨hc_10,h_4⟩ | ⟨hc_10,h_4⟩
   ·refine h_movb rfl hc_10 wz (h_skipz (h_skipz (h_skipz (h_opz (vB true) (h_opz (vB true) (h_nil ?_))))))
    obtain rfl:=some_inj h_4
    exact cu
   ·refine h_movb rfl hc_10 wz (h_op (vS x_1) wa rfl (h_op (vS y_2) wa rfl (h_op (vB (sLt x_1 y_2)) wa rfl (h_opz (vB (sLt x_1 y_2)) (h_opz (vB (sLt x_1 y_2)) (h_nil ?_))))))
    obtain rfl:=some_inj h_4
    exact cu
  ·refine h_movb rfl hc_7 wz (h_skipz (h_skipz (h_skipz (h_opz (vB false) (h_opz (vB false) (h_op (vS x_1) wa rfl (h_op (vS y_2) wa rfl (h_op (vB (sLt x_1 y_2)) wa rfl (h_opz (vB (sLt x_1 y_2)) (h_opz (vB (sLt x_1 y_2)) (h_nil ?_)))))))))))
   obtain rfl:=some_inj h_4
   exact cu
 ·rintro ⟨⟩ _ sl_ H_ hp_ hq_
  refine wH_at _ hp_ hq_ ?_
  obtain rfl:=some_inj hF
  exact wH_ret (fin0r [(vB v_3)] ⟨rfl,trivial⟩)
theorem slices_isNaN_string_ok {x_1:ByteArray} {r:Bool} (hF:slices_isNaN_string x_1=some r) :
  FnM Try.prog 72 [(vS x_1)] [] (vB r) []:=by
 refine FnM.of_wH ⟨Try.prog,6,[],[]⟩ rfl Try.func72 rfl rfl (Nat.le_of_ble_eq_true rfl) (by kernel_rfl) ?_
 unfold slices_isNaN_string at hF
 refine wH_sr (h_opz (vB false) (h_nil (wH_sr (h_opz (vS x_1) (h_opz (vS x_1) (h_opz (vB (sNe x_1 x_1)) (h_opz (vB (sNe x_1 x_1)) (h_nil ?_))))))))
 obtain rfl:=some_inj hF
 exact wH_ret (fin0r [(vB (sNe x_1 x_1))] ⟨rfl,trivial⟩)
theorem slices_BinarySearch_string_string_ok {x_1:(List ByteArray)} {target_2:ByteArray} {r:Int×Bool} (hF:slices_BinarySearch_string_string x_1 target_2=some r) :
  FnM Try.prog 58 [(vL eS x_1),(vS target_2)] [] (.tup [(vI r.1),(vB r.2)]) []:=by
 refine FnM.of_wH ⟨Try.prog,54,[],[]⟩ rfl Try.func58 rfl rfl (Nat.le_of_ble_eq_true rfl) (by kernel_rfl) ?_
 unfold slices_BinarySearch_string_string at hF
 refine wH_sr (h_opz (vI 0) (h_opz (vB false) (h_nil (wH_sr (h_opz (vL eS x_1) (h_len un35 rfl wz (h_opz (vI (x_1.length:Int)) (h_nil (wH_sr (h_opz (vI (x_1.length:Int)) (h_opz (vI 0) (h_opz (vI (x_1.length:Int)) (h_nil (wH_seq ?_))))))))))))))
 obtain ⟨o_11,hj_12,hF⟩:=bind_some hF
 obtain ⟨nq_34,hj_12⟩:=loopO_iter hj_12
 refine wH_loopI0 (fun (s_8:Int×Int) => [(0,(vL eS x_1)),(1,(vS target_2)),(6,(vI (x_1.length:Int))),(7,(vI s_8.1))]) (fun (s_8:Int×Int) => []) (fun (k_3:Nat)=>(fun (s_8:Int×Int) => [(0,(vL eS x_1)),(1,(vS target_2)),(6,(vI (x_1.length:Int))),(7,(vI s_8.1)),(8,(vI s_8.2))])) (fun s=>slices_BinarySearch_string_string_L1 x_1 target_2 s) o_11 nq_34 (0,(x_1.length:Int)) hj_12 rfl (pre_r rfl) ?_ ?_
 ·rintro ⟨k_3,s_8⟩ hL_10
  dsimp only at hL_10
  cases k_3 with
  | zero=>cases hL_10
  | succ k_3 =>
   obtain ⟨c_,hc_9,hL_10⟩:=bind_some hL_10
   unfold slices_BinarySearch_string_string_L1 at hc_9
   refine wH_seq (wH_sr (h_opz (vI s_8.1) (h_opz (vI s_8.2) (h_opz (vB (decide (s_8.1 < s_8.2))) (h_nil ?_)))))
   rcases cond_some hc_9 with⟨hc_13,hc_9⟩ | ⟨hc_13,hc_9⟩
   ·refine wH_ift rfl hc_13 (wH_skip (wH_block (wH_sr (h_opz (vI s_8.1) (h_opz (vI s_8.2) (h_opz (vI (w64 (s_8.1 + s_8.2))) (h_conv un3 un101 rfl wz ?_)))))))
    obtain ⟨q_14,hz_15,hc_9⟩:=bind_some hc_9
    refine h_shr rfl rfl hz_15 wz (h_conv un101 un3 rfl wz (h_opz (vI (w64 q_14)) (h_nil (wH_sr (h_opz (vL eS x_1) (h_opz (vI (w64 q_14)) ?_))))))
    obtain ⟨y_16,hy_17,hc_9⟩:=bind_some hc_9
    refine h_ia es35 rfl rfl hy_17 rfl wz (h_ldc sz9 ag9 rfl (vS y_16) rfl wz (h_opz (vS target_2) ?_))
    obtain ⟨r_18,hr_19,hc_9⟩:=bind_some hc_9
    refine h_call0 (cmp_Less_string_ok hr_19) rfl hb71 rfl rfl rfl rfl wz (h_nil ?_)
    rcases cond_some hc_9 with⟨hc_20,hc_9⟩ | ⟨hc_20,hc_9⟩
    ·refine wH_ift rfl hc_20 (wH_region (h_opz (vI (w64 q_14)) (h_opz (vI (w64 ((w64 q_14) + 1))) (h_opz (vI (w64 ((w64 q_14) + 1))) (h_nil ?_)))))
     obtain rfl:=some_inj hc_9
     exact loop_mk (k_3,((w64 ((w64 q_14) + 1)),s_8.2)) hL_10 (Nat.lt_succ_self _) rfl (pre_r rfl)
    ·refine wH_iff rfl hc_20 (wH_region (h_opz (vI (w64 q_14)) (h_opz (vI (w64 q_14)) (h_nil ?_))))
     obtain rfl:=some_inj hc_9
     exact loop_mk (k_3,(s_8.1,(w64 q_14))) hL_10 (Nat.lt_succ_self _) rfl (pre_r rfl)
   ·refine wH_iff rfl hc_13 (wH_exit ?_)
    obtain rfl:=some_inj hc_9
    obtain rfl:=some_inj hL_10
    exact cut_mk ((s_8.1,s_8.2)) rfl rfl (pre_r rfl)
 ·rintro s_8 ho_ sl_ H_ hp_ hq_
  subst ho_
  refine wH_at _ hp_ hq_ (wH_seq ?_)
  obtain ⟨v_21,h_22,hF⟩:=bind_some hF
  refine wH_joinU [(4,(vI s_8.1)),(5,(vB v_21))] [] ?_ ?_
  ·refine wH_region (h_opz (vI s_8.1) (h_opz (vI s_8.1) (h_opz (vI (x_1.length:Int)) (h_opz (vB (decide (s_8.1 < (x_1.length:Int)))) ?_))))
   rcases cond_some h_22 with⟨hc_23,h_22⟩ | ⟨hc_23,h_22⟩
   ·refine h_movb rfl hc_23 wz (h_op (vL eS x_1) wa rfl (h_op (vI s_8.1) wa rfl ?_))
    obtain ⟨y_24,hy_25,h_22⟩:=bind_some h_22
    refine h_ia es35 rfl rfl hy_25 rfl wa (h_ldc sz9 ag9 rfl (vS y_24) rfl wa (h_op (vS target_2) wa rfl (h_op (vB (sEq y_24 target_2)) wa rfl ?_)))
    rcases cond_some h_22 with⟨hc_26,h_22⟩ | ⟨hc_26,h_22⟩
    ·refine h_movb rfl hc_26 wa (h_skipz (h_skipz (h_skipz (h_skipz (h_skipz (h_skipz (h_skip (wn rfl rfl) (h_skip (wn rfl rfl) (h_skipz (h_op (vB true) wa rfl (h_opz (vB true) (h_opz (vI s_8.1) (h_opz (vB true) (h_nil ?_))))))))))))))
     obtain rfl:=some_inj h_22
     exact cu
    ·refine h_movb rfl hc_26 wa (h_op (vL eS x_1) wa rfl (h_op (vI s_8.1) wa rfl ?_))
     obtain ⟨y_27,hy_28,h_22⟩:=bind_some h_22
     refine h_ia es35 rfl rfl hy_28 rfl wa (h_ldc sz9 ag9 rfl (vS y_27) rfl wa ?_)
     obtain ⟨r_29,hr_30,h_22⟩:=bind_some h_22
     refine h_call0 (slices_isNaN_string_ok hr_30) rfl hb72 rfl rfl rfl rfl wa ?_
     rcases cond_some h_22 with⟨hc_31,h_22⟩ | ⟨hc_31,h_22⟩
     ·refine h_movb rfl hc_31 wa (h_op (vS target_2) wa rfl ?_)
      obtain ⟨r_32,hr_33,h_22⟩:=bind_some h_22
      refine h_call0 (slices_isNaN_string_ok hr_33) rfl hb72 rfl rfl rfl rfl wa (h_op (vB r_32) wa rfl (h_op (vB r_32) wa rfl (h_opz (vB r_32) (h_opz (vI s_8.1) (h_opz (vB r_32) (h_nil ?_))))))
      obtain rfl:=some_inj h_22
      exact cu
     ·refine h_movb rfl hc_31 wa (h_skipz (h_skipz (h_op (vB false) wa rfl (h_op (vB false) wa rfl (h_opz (vB false) (h_opz (vI s_8.1) (h_opz (vB false) (h_nil ?_))))))))
      obtain rfl:=some_inj h_22
      exact cu
   ·refine h_movb rfl hc_23 wz (h_skipz (h_skipz (h_skipz (h_skipz (h_skipz (h_skipz (h_skipz (h_skip (wn rfl rfl) (h_skip (wn rfl rfl) (h_skip (wn rfl rfl) (h_skip (wn rfl rfl) (h_skip (wn rfl rfl) (h_skip (wn rfl rfl) (h_skip (wn rfl rfl) (h_skip (wn rfl rfl) (h_skip (wn rfl rfl) (h_skipz (h_opz (vB false) (h_opz (vI s_8.1) (h_opz (vB false) (h_nil ?_)))))))))))))))))))))
    obtain rfl:=some_inj h_22
    exact cu
  ·rintro ⟨⟩ _ sl_ H_ hp_ hq_
   refine wH_at _ hp_ hq_ ?_
   obtain rfl:=some_inj hF
   exact wH_ret (fin0r [(vI s_8.1),(vB v_21)] ⟨rfl,⟨rfl,trivial⟩⟩)
end Go.Proofs.Ytipjpkpmkijdoab.Law

