/-
 The machine computes these plain functions (written by a program of ours).
-/
import Derived.Test.YtipjpkpmkijdoaaFacts
import Derived.Test.YtipjpkpmkijdoaaDefs
import Derived.Test.YtipjpkpmkijdoaaPf3
open Go Go.Eng Go.Proofs
namespace Go.Proofs.Ytipjpkpmkijdoaa.Law
set_option maxRecDepth 100000
set_option linter.unusedVariables false
set_option maxHeartbeats 1000000
theorem slices_Index_string_string_ok {s_1:(List ByteArray)} {v_2:ByteArray} {r:Int} (hF:slices_Index_string_string s_1 v_2=some r) :
  FnM Try.prog 64 [(vL eS s_1),(vS v_2)] [] (vI r) []:=by
 refine FnM.of_wH ⟨Try.prog,19,[],[]⟩ rfl Try.func64 rfl rfl (Nat.le_of_ble_eq_true rfl) (by kernel_rfl) ?_
 unfold slices_Index_string_string at hF
 refine wH_sr (h_opz (vI 0) (h_nil (wH_seq (wH_sr (h_opz (vL eS s_1) (h_len un59 rfl wz (h_opz (vI 0) (h_nil ?_))))))))
 obtain ⟨o_11,hj_12,hF⟩:=bind_some hF
 obtain ⟨hn_7,hj_12⟩:=forL_some hj_12
 refine wH_loopF0 (fun (s_8:Unit) => []) (fun (s_8:Unit) => []) (fun (k_3:Nat)=>(fun (s_8:Unit) => [(0,(vL eS s_1)),(1,(vS v_2)),(7,(vI (s_1.length:Int))),(8,(vI (k_3:Int)))])) (fun k x s=>slices_Index_string_string_L1 v_2 k x s) o_11 s_1 () hj_12 rfl (pre_r rfl) ?_ ?_
 ·rintro ⟨k_3,l_4,s_8⟩ ⟨hL_10,hD_6⟩
  dsimp only at hL_10 hD_6
  cases l_4 with
  | nil =>
   obtain rfl:=some_inj hL_10
   refine wH_sr (h_opz (vB (decide ((k_3:Int) < (s_1.length:Int)))) (h_nil ?_))
   refine wH_seq (wH_iff rfl (drop_nil hD_6) (wH_exit ?_))
   exact cut_mk (s_8) rfl rfl (pre_r rfl)
  | cons x_5 l_4 =>
   obtain ⟨c_,hc_9,hL_10⟩:=bind_some hL_10
   refine wH_sr (h_opz (vB (decide ((k_3:Int) < (s_1.length:Int)))) (h_nil ?_))
   refine wH_seq (wH_ift rfl (drop_cons hD_6) (wH_skip ?_))
   unfold slices_Index_string_string_L1 at hc_9
   refine wH_seq (wH_block (wH_sr (h_opz (vI (k_3:Int)) (h_opz (vI (k_3:Int)) (h_nil (wH_sr (h_opz (vS v_2) (h_opz (vL eS s_1) (h_opz (vI (k_3:Int)) (h_ia es59 rfl rfl (drop_idx hD_6) rfl wz (h_ldc sz9 ag9 rfl (vS x_5) rfl wz (h_opz (vB (sEq v_2 x_5)) (h_nil ?_)))))))))))))
   rcases cond_some hc_9 with⟨hc_13,hc_9⟩ | ⟨hc_13,hc_9⟩
   ·refine wH_ift rfl hc_13 (wH_sr (h_opz (vI (k_3:Int)) (h_opz (vI (k_3:Int)) (h_nil ?_))))
    obtain rfl:=some_inj hc_9
    obtain rfl:=some_inj hL_10
    obtain rfl:=some_inj hF
    exact wH_ret (fin0r [(vI (k_3:Int))] ⟨rfl,trivial⟩)
   ·refine wH_iff rfl hc_13 (wH_skip (wH_region (h_opw (w64_next hD_6 hn_7) wz rfl (h_opz (vI ((k_3 + 1:Nat):Int)) (h_nil ?_)))))
    obtain rfl:=some_inj hc_9
    exact loop_mk (k_3 + 1,l_4,()) ⟨hL_10,drop_next hD_6⟩ (Nat.lt_succ_self _) rfl (pre_r rfl)
 ·rintro s_8 ho_ sl_ H_ hp_ hq_
  subst ho_
  refine wH_at _ hp_ hq_ (wH_sr (h_opz (vI (-1)) (h_nil ?_)))
  obtain rfl:=some_inj hF
  exact wH_ret (fin0r [(vI (-1))] ⟨rfl,trivial⟩)
theorem slices_Contains_string_string_ok {s_1:(List ByteArray)} {v_2:ByteArray} {r:Bool} (hF:slices_Contains_string_string s_1 v_2=some r) :
  FnM Try.prog 51 [(vL eS s_1),(vS v_2)] [] (vB r) []:=by
 refine FnM.of_wH ⟨Try.prog,9,[],[]⟩ rfl Try.func51 rfl rfl (Nat.le_of_ble_eq_true rfl) (by kernel_rfl) ?_
 unfold slices_Contains_string_string at hF
 refine wH_sr (h_opz (vB false) (h_nil (wH_sr (h_opz (vL eS s_1) (h_opz (vS v_2) ?_)))))
 obtain ⟨r_3,hr_4,hF⟩:=bind_some hF
 refine h_call0 (slices_Index_string_string_ok hr_4) rfl hb64 rfl rfl rfl rfl wz (h_opz (vB (decide (r_3≥0))) (h_opz (vB (decide (r_3≥0))) (h_nil ?_)))
 obtain rfl:=some_inj hF
 exact wH_ret (fin0r [(vB (decide (r_3≥0)))] ⟨rfl,trivial⟩)
theorem ref_SuitsOf_1_ok {t_1:ByteArray} {p_2:Spot} {r:Bool} (hF:ref_SuitsOf_1 t_1 p_2=some r) :
  FnM Try.prog 50 [(vS t_1),(.ref (extN 0) 0 0)] [(.cells 5 (Spot.v p_2))] (vB r) [some (.cells 5 (Spot.v p_2))]:=by
 refine FnM.of_wH ⟨Try.prog,9,[],[]⟩ rfl Try.func50 rfl rfl (Nat.le_of_ble_eq_true rfl) (by kernel_rfl) ?_
 unfold ref_SuitsOf_1 at hF
 refine wH_sr (h_opz (vB false) (h_nil (wH_sr (h_far pl63_3 rfl 4 rfl wz (h_ldr 0 0 il ft sz59 ag59 rfl rfl (vL eS p_2.Tags) rfl wz (h_opz (vS t_1) ?_))))))
 obtain ⟨r_3,hr_4,hF⟩:=bind_some hF
 refine h_call0 (slices_Contains_string_string_ok hr_4) rfl hb51 rfl rfl rfl rfl wz (h_opz (vB (!r_3)) (h_opz (vB (!r_3)) (h_nil ?_)))
 obtain rfl:=some_inj hF
 exact wH_ret (finB (.inr rfl) [(vB (!r_3))] _ [0] [extN 0] ⟨rfl,trivial⟩ (.cons (co_data rfl rfl) (.nil)) (by kernel_rfl) ⟨(by kernel_rfl),trivial⟩ (by decide) (by kernel_rfl))
theorem slices_IndexFunc_string_string_ok {s_1:(List ByteArray)} {f_2:ByteArray→Option Bool} {r:Int} {gid:FuncId} {caps:List V} {Sin:List Box} (hfn:∀ x0 r,f_2 x0=some r→FnM Try.prog gid ([(vS x0)]++caps) Sin (vB r) (Sin.map some)) (hbF:hasBody Try.prog gid=true) (hcapF:caps.flatMap frz = []∧caps.map co0=caps) (hokF:okL Sin.length caps=true) (hsF:∀ b∈Sin,b.ok Sin.length=true) (hmF:∀ b∈Sin,b.mut=true) (hF:slices_IndexFunc_string_string s_1 f_2=some r) :
  FnM Try.prog 63 [(vL eS s_1),(.fn gid caps)] Sin (vI r) (Sin.map some):=by
 refine FnM.of_wH ⟨Try.prog,19,[],[]⟩ rfl Try.func63 rfl rfl (Nat.le_of_ble_eq_true rfl) (by kernel_rfl) ?_
 unfold slices_IndexFunc_string_string at hF
 refine wH_sr (h_opz (vI 0) (h_nil (wH_seq (wH_sr (h_opz (vL eS s_1) (h_len un59 rfl wz (h_opz (vI 0) (h_nil ?_))))))))
 obtain ⟨o_11,hj_12,hF⟩:=bind_some hF
 obtain ⟨hn_7,hj_12⟩:=forL_some hj_12
 refine wH_loopF0 (fun (s_8:Unit) => []) (fun (s_8:Unit)=>(initH 0 Sin)) (fun (k_3:Nat)=>(fun (s_8:Unit) => [(0,(vL eS s_1)),(1,(.fn gid caps)),(7,(vI (s_1.length:Int))),(8,(vI (k_3:Int)))])) (fun k x s=>slices_IndexFunc_string_string_L1 f_2 k x s) o_11 s_1 () hj_12 rfl (pre_self _) ?_ ?_
 ·rintro ⟨k_3,l_4,s_8⟩ ⟨hL_10,hD_6⟩
  dsimp only at hL_10 hD_6
  cases l_4 with
  | nil =>
   obtain rfl:=some_inj hL_10
   refine wH_sr (h_opz (vB (decide ((k_3:Int) < (s_1.length:Int)))) (h_nil ?_))
   refine wH_seq (wH_iff rfl (drop_nil hD_6) (wH_exit ?_))
   exact cut_mk (s_8) rfl rfl (pre_self _)
  | cons x_5 l_4 =>
   obtain ⟨c_,hc_9,hL_10⟩:=bind_some hL_10
   refine wH_sr (h_opz (vB (decide ((k_3:Int) < (s_1.length:Int)))) (h_nil ?_))
   refine wH_seq (wH_ift rfl (drop_cons hD_6) (wH_skip ?_))
   unfold slices_IndexFunc_string_string_L1 at hc_9
   refine wH_seq (wH_block (wH_sr (h_opz (vI (k_3:Int)) (h_opz (vI (k_3:Int)) (h_nil (wH_sr (h_opz (.fn gid caps) (h_opz (vL eS s_1) (h_opz (vI (k_3:Int)) (h_ia es59 rfl rfl (drop_idx hD_6) rfl wz (h_ldc sz9 ag9 rfl (vS x_5) rfl wz ?_)))))))))))
   obtain ⟨r_13,hr_14,hc_9⟩:=bind_some hc_9
   refine h_callS (hfn _ _ hr_14) rfl hbF rfl rfl hcapF hokF hsF hmF rfl wz rfl (h_nil ?_)
   rcases cond_some hc_9 with⟨hc_15,hc_9⟩ | ⟨hc_15,hc_9⟩
   ·refine wH_ift rfl hc_15 (wH_sr (h_opz (vI (k_3:Int)) (h_opz (vI (k_3:Int)) (h_nil ?_))))
    obtain rfl:=some_inj hc_9
    obtain rfl:=some_inj hL_10
    obtain rfl:=some_inj hF
    exact wH_ret (finS hsF (.inr rfl) [(vI (k_3:Int))] ⟨rfl,trivial⟩ rfl rfl rfl)
   ·refine wH_iff rfl hc_15 (wH_skip (wH_region (h_opw (w64_next hD_6 hn_7) wz rfl (h_opz (vI ((k_3 + 1:Nat):Int)) (h_nil ?_)))))
    obtain rfl:=some_inj hc_9
    exact loop_mk (k_3 + 1,l_4,()) ⟨hL_10,drop_next hD_6⟩ (Nat.lt_succ_self _) rfl (pre_self _)
 ·rintro s_8 ho_ sl_ H_ hp_ hq_
  subst ho_
  refine wH_at _ hp_ hq_ (wH_sr (h_opz (vI (-1)) (h_nil ?_)))
  obtain rfl:=some_inj hF
  exact wH_ret (finS hsF (.inr rfl) [(vI (-1))] ⟨rfl,trivial⟩ rfl rfl rfl)
theorem slices_ContainsFunc_string_string_ok {s_1:(List ByteArray)} {f_2:ByteArray→Option Bool} {r:Bool} {gid:FuncId} {caps:List V} {Sin:List Box} (hfn:∀ x0 r,f_2 x0=some r→FnM Try.prog gid ([(vS x0)]++caps) Sin (vB r) (Sin.map some)) (hbF:hasBody Try.prog gid=true) (hcapF:caps.flatMap frz = []∧caps.map co0=caps) (hokF:okL Sin.length caps=true) (hsF:∀ b∈Sin,b.ok Sin.length=true) (hmF:∀ b∈Sin,b.mut=true) (hF:slices_ContainsFunc_string_string s_1 f_2=some r) :
  FnM Try.prog 49 [(vL eS s_1),(.fn gid caps)] Sin (vB r) (Sin.map some):=by
 refine FnM.of_wH ⟨Try.prog,9,[],[]⟩ rfl Try.func49 rfl rfl (Nat.le_of_ble_eq_true rfl) (by kernel_rfl) ?_
 unfold slices_ContainsFunc_string_string at hF
 refine wH_sr (h_opz (vB false) (h_nil (wH_sr (h_opz (vL eS s_1) (h_opz (.fn gid caps) ?_)))))
 obtain ⟨r_3,hr_4,hF⟩:=bind_some hF
 refine h_callS (slices_IndexFunc_string_string_ok (gid:=gid) (caps:=caps) (Sin:=Sin) hfn hbF hcapF hokF hsF hmF hr_4) rfl hb63 rfl rfl ⟨rfl,rfl⟩ (by simp [okL,okV,hokF]) hsF hmF rfl wz rfl (h_opz (vB (decide (r_3≥0))) (h_opz (vB (decide (r_3≥0))) (h_nil ?_)))
 obtain rfl:=some_inj hF
 exact wH_ret (finS hsF (.inr rfl) [(vB (decide (r_3≥0)))] ⟨rfl,trivial⟩ rfl rfl rfl)
theorem ref_SuitsOf_ok {c_1:Campaign} {s_2:Spot} {r:Bool} (hF:ref_SuitsOf c_1 s_2=some r) :
  FnM Try.prog 30 [(.d (.agg (Campaign.enc c_1))),(.d (.agg (Spot.enc s_2)))] [] (vB r) []:=by
 refine FnM.of_wH ⟨Try.prog,28,[],[]⟩ rfl Try.func30 rfl rfl (Nat.le_of_ble_eq_true rfl) (by kernel_rfl) ?_
 unfold ref_SuitsOf at hF
 refine wH_sr (h_box 0 (.inl rfl) (Campaign.v c_1) rfl rfl wz (fun n_3=>h_box 0 (.inl rfl) (Spot.v s_2) rfl rfl wz (fun n_4=>h_opz (vB false) (h_nil (wH_seq ?_)))))
 obtain ⟨v_5,h_6,hF⟩:=bind_some hF
 refine wH_joinU [(4,(vB v_5))] [(n_3,some (.cells 8 (Campaign.v c_1))),(n_4,some (.cells 5 (Spot.v s_2)))] ?_ ?_
 ·refine wH_region (h_far pl61_2 rfl 2 rfl wz (h_far pl58_0 rfl 2 rfl wz (h_ldr 0 0 il ft sz3 ag3 rfl rfl (vI c_1.Time.From) rfl wz (h_far pl63_1 rfl 1 rfl wz (h_far pl58_0 rfl 1 rfl wz (h_ldr 0 1 il ft sz3 ag3 rfl rfl (vI s_2.Time.From) rfl wz (h_opz (vB (decide (c_1.Time.From≤s_2.Time.From))) ?_)))))))
  rcases cond_some h_6 with⟨hc_7,h_6⟩ | ⟨hc_7,h_6⟩
  ·refine h_movb rfl hc_7 wz (h_far pl63_1 rfl 1 rfl wa (h_far pl58_1 rfl 2 rfl wa (h_ldr 0 1 il ft sz3 ag3 rfl rfl (vI s_2.Time.To) rfl wa (h_far pl61_2 rfl 2 rfl wa (h_far pl58_1 rfl 3 rfl wa (h_ldr 0 0 il ft sz3 ag3 rfl rfl (vI c_1.Time.To) rfl wa (h_op (vB (decide (s_2.Time.To≤c_1.Time.To))) wa rfl (h_opz (vB (decide (s_2.Time.To≤c_1.Time.To))) ?_))))))))
   rcases cond_some h_6 with⟨hc_8,h_6⟩ | ⟨hc_8,h_6⟩
   ·refine h_movb rfl hc_8 wz (h_far pl61_3 rfl 4 rfl wa (h_ldr 0 0 il ft sz59 ag59 rfl rfl (vL eS c_1.Tags) rfl wa (h_op (.fn 50 [(.ref n_4 0 0)]) wa rfl ?_)))
    obtain ⟨r_9,hr_10,h_6⟩:=bind_some h_6
    refine h_callq 0 [1] il ft (slices_ContainsFunc_string_string_ok (gid:=50) (caps := [.ref (extN 0) 0 0]) (Sin := [(.cells 5 (Spot.v s_2))]) (fun _ _ h_=>ref_SuitsOf_1_ok h_) hb50 ⟨rfl,rfl⟩ (by kernel_rfl) (all_ok (by kernel_rfl)) (all_mut (by kernel_rfl)) hr_10) rfl hb49 rfl (by kernel_rfl) (by kernel_rfl) (by kernel_rfl) (by kernel_rfl) (by kernel_rfl) (by kernel_rfl) (by kernel_rfl) (by decide) (by kernel_rfl) wa (vB r_9) (by kernel_rfl) ([(n_3,some (.cells 8 (Campaign.v c_1))),(n_4,some (.cells 5 (Spot.v s_2)))]:Hp) (by kernel_rfl) (h_op (vB (!r_9)) wa rfl (h_opz (vB (!r_9)) (h_opz (vB (!r_9)) (h_nil ?_))))
    obtain rfl:=some_inj h_6
    exact cu
   ·refine h_movb rfl hc_8 wz (h_skipz (h_skipz (h_skipz (h_skipz (h_skipz (h_opz (vB false) (h_opz (vB false) (h_nil ?_))))))))
    obtain rfl:=some_inj h_6
    exact cu
  ·refine h_movb rfl hc_7 wz (h_skipz (h_skipz (h_skipz (h_skipz (h_skipz (h_skipz (h_skipz (h_opz (vB false) (h_opz (vB false) (h_skipz (h_skipz (h_skipz (h_skipz (h_skipz (h_opz (vB false) (h_opz (vB false) (h_nil ?_)))))))))))))))))
   obtain rfl:=some_inj h_6
   exact cu
 ·rintro ⟨⟩ _ sl_ H_ hp_ hq_
  refine wH_at _ hp_ hq_ ?_
  obtain rfl:=some_inj hF
  exact wH_ret (fin0r [(vB v_5)] ⟨rfl,trivial⟩)
theorem ref_greatest_ok {spots_1:(List Spot)} {l_2:(List Campaign)} {r:Int} (hF:ref_greatest spots_1 l_2=some r) :
  FnM Try.prog 32 [(vL Spot.enc spots_1),(vL Campaign.enc l_2)] [] (vI r) []:=by
 refine FnM.of_wH ⟨Try.prog,83,[],[]⟩ rfl Try.func32 rfl rfl (Nat.le_of_ble_eq_true rfl) (by kernel_rfl) ?_
 unfold ref_greatest at hF
 refine wH_sr (h_opz (vI 0) (h_nil (wH_sr (h_opz (vI (-1)) (h_nil (wH_seq (wH_sr (h_opz (vL Spot.enc spots_1) (h_len un26 rfl wz ?_)))))))))
 obtain ⟨q_3,hz_4,hF⟩:=bind_some hF
 refine h_shl rfl rfl hz_4 wz (h_opz (vI 0) (h_nil ?_))
 obtain ⟨o_13,hj_14,hF⟩:=bind_some hF
 obtain ⟨hn_9,hj_14⟩:=forL_some hj_14
 refine wH_loopF0 (fun (s_10:Int) => [(5,(vI s_10))]) (fun (s_10:Int) => []) (fun (k_5:Nat)=>(fun (s_10:Int) => [(0,(vL Spot.enc spots_1)),(1,(vL Campaign.enc l_2)),(5,(vI s_10)),(17,(vI q_3)),(18,(vI (k_5:Int)))])) (fun k x s=>ref_greatest_L4 spots_1 l_2 k x s) o_13 (List.range (q_3).toNat) (-1) hj_14 rfl (pre_r rfl) ?_ ?_
 ·rintro ⟨k_5,l_6,s_10⟩ ⟨hL_12,hD_8⟩
  dsimp only at hL_12 hD_8
  cases l_6 with
  | nil =>
   obtain rfl:=some_inj hL_12
   refine wH_sr (h_opz (vB (decide ((k_5:Int) < q_3))) (h_nil ?_))
   refine wH_seq (wH_iff rfl (range_nil hD_8) (wH_exit ?_))
   exact cut_mk (s_10) rfl rfl (pre_r rfl)
  | cons x_7 l_6 =>
   obtain ⟨c_,hc_11,hL_12⟩:=bind_some hL_12
   refine wH_sr (h_opz (vB (decide ((k_5:Int) < q_3))) (h_nil ?_))
   refine wH_seq (wH_ift rfl (range_cons hD_8) (wH_skip ?_))
   unfold ref_greatest_L4 at hc_11
   refine wH_seq (wH_block (wH_sr (h_opz (vI (k_5:Int)) (h_opz (vI (k_5:Int)) (h_nil (wH_sr (h_opz (vI 0) (h_nil (wH_seq (wH_sr (h_opz (vL Spot.enc spots_1) (h_len un26 rfl wz (h_opz (vI 0) (h_nil ?_))))))))))))))
   obtain ⟨o_23,hj_24,hc_11⟩:=bind_some hc_11
   obtain ⟨hn_19,hj_24⟩:=forL_some hj_24
   refine wH_loopF0 (fun (s_20:Int) => [(0,(vL Spot.enc spots_1)),(1,(vL Campaign.enc l_2)),(5,(vI s_10)),(6,(vI (k_5:Int))),(7,(vI s_20)),(17,(vI q_3)),(18,(vI (k_5:Int)))]) (fun (s_20:Int) => []) (fun (k_15:Nat)=>(fun (s_20:Int) => [(0,(vL Spot.enc spots_1)),(1,(vL Campaign.enc l_2)),(5,(vI s_10)),(6,(vI (k_5:Int))),(7,(vI s_20)),(17,(vI q_3)),(18,(vI (k_5:Int))),(21,(vL Spot.enc spots_1)),(22,(vI (spots_1.length:Int))),(23,(vI (k_15:Int)))])) (fun k x s=>ref_greatest_L1 k_5 k x s) o_23 spots_1 0 hj_24 rfl (pre_r rfl) ?_ ?_
   ·rintro ⟨k_15,l_16,s_20⟩ ⟨hL_22,hD_18⟩
    dsimp only at hL_22 hD_18
    cases l_16 with
    | nil =>
     obtain rfl:=some_inj hL_22
     refine wH_sr (h_opz (vB (decide ((k_15:Int) < (spots_1.length:Int)))) (h_nil ?_))
     refine wH_seq (wH_iff rfl (drop_nil hD_18) (wH_exit ?_))
     exact cut_mk (s_20) rfl rfl (pre_r rfl)
    | cons x_17 l_16 =>
     obtain ⟨c_,hc_21,hL_22⟩:=bind_some hL_22
     refine wH_sr (h_opz (vB (decide ((k_15:Int) < (spots_1.length:Int)))) (h_nil ?_))
     refine wH_seq (wH_ift rfl (drop_cons hD_18) (wH_skip ?_))
     unfold ref_greatest_L1 at hc_21
     refine wH_seq (wH_block (wH_sr (h_opz (vI (k_15:Int)) (h_ia es26 rfl rfl (drop_idx hD_18) rfl wz (h_ldc sz63 ag63 rfl (.d (.agg (Spot.enc x_17))) rfl wz (h_alloc 0 (.inl rfl) z63 rfl wz (fun n_25=>h_opz (vI (k_15:Int)) (h_str 0 il ft 0 sz63 rfl rfl (Spot.v x_17) rfl wz (h_nil (wH_sr (h_opz (vI (k_5:Int)) (h_opz (vI (k_15:Int)) ?_))))))))))))
     obtain ⟨q_26,hz_27,hc_21⟩:=bind_some hc_21
     refine h_shr rfl rfl hz_27 wz (h_opz (vI (andI .i64 q_26 1)) (h_opz (vB ((andI .i64 q_26 1) == 1)) (h_nil ?_)))
     obtain ⟨v_28,h_29,hc_21⟩:=bind_some hc_21
     refine wH_joinU [(0,(vL Spot.enc spots_1)),(1,(vL Campaign.enc l_2)),(5,(vI s_10)),(6,(vI (k_5:Int))),(7,(vI v_28)),(17,(vI q_3)),(18,(vI (k_5:Int))),(21,(vL Spot.enc spots_1)),(22,(vI (spots_1.length:Int))),(23,(vI (k_15:Int)))] [(n_25,some (.cells 5 (Spot.v x_17)))] ?_ ?_
     ·rcases cond_some h_29 with⟨hc_30,h_29⟩ | ⟨hc_30,h_29⟩
      ·refine wH_ift rfl hc_30 (wH_region (h_opz (vI s_20) (h_far pl63_2 rfl 3 rfl wz (h_ldr 0 0 il ft sz3 ag3 rfl rfl (vI x_17.Room) rfl wz (h_opz (vI (w64 (s_20 + x_17.Room))) (h_opz (vI (w64 (s_20 + x_17.Room))) (h_nil ?_)))))))
       obtain rfl:=some_inj h_29
       exact cu
      ·refine wH_iff rfl hc_30 (wH_skip ?_)
       obtain rfl:=some_inj h_29
       exact cu
     ·rintro ⟨⟩ _ sl_ H_ hp_ hq_
      refine wH_at _ hp_ hq_ (wH_region (h_opw (w64_next hD_18 hn_19) wz rfl (h_opz (vI ((k_15 + 1:Nat):Int)) (h_nil ?_))))
      obtain rfl:=some_inj hc_21
      exact loop_mk (k_15 + 1,l_16,v_28) ⟨hL_22,drop_next hD_18⟩ (Nat.lt_succ_self _) rfl (pre_r rfl)
   ·rintro s_20 ho_ sl_ H_ hp_ hq_
    subst ho_
    refine wH_at _ hp_ hq_ (wH_seq (wH_sr (h_opz (vL Campaign.enc l_2) (h_len un27 rfl wz (h_opz (vI 0) (h_nil ?_))))))
    obtain ⟨o_39,hj_40,hc_11⟩:=bind_some hc_11
    obtain ⟨hn_35,hj_40⟩:=forL_some hj_40
    refine wH_loopF0 (fun (s_36:Int) => [(0,(vL Spot.enc spots_1)),(1,(vL Campaign.enc l_2)),(5,(vI s_10)),(7,(vI s_36)),(17,(vI q_3)),(18,(vI (k_5:Int)))]) (fun (s_36:Int) => []) (fun (k_31:Nat)=>(fun (s_36:Int) => [(0,(vL Spot.enc spots_1)),(1,(vL Campaign.enc l_2)),(5,(vI s_10)),(6,(vI (k_5:Int))),(7,(vI s_36)),(17,(vI q_3)),(18,(vI (k_5:Int))),(38,(vL Campaign.enc l_2)),(39,(vI (l_2.length:Int))),(40,(vI (k_31:Int)))])) (fun k x s=>ref_greatest_L3 spots_1 k_5 k x s) o_39 l_2 s_20 hj_40 rfl (pre_r rfl) ?_ ?_
    ·rintro ⟨k_31,l_32,s_36⟩ ⟨hL_38,hD_34⟩
     dsimp only at hL_38 hD_34
     cases l_32 with
     | nil =>
      obtain rfl:=some_inj hL_38
      refine wH_sr (h_opz (vB (decide ((k_31:Int) < (l_2.length:Int)))) (h_nil ?_))
      refine wH_seq (wH_iff rfl (drop_nil hD_34) (wH_exit ?_))
      exact cut_mk (s_36) rfl rfl (pre_r rfl)
     | cons x_33 l_32 =>
      obtain ⟨c_,hc_37,hL_38⟩:=bind_some hL_38
      refine wH_sr (h_opz (vB (decide ((k_31:Int) < (l_2.length:Int)))) (h_nil ?_))
      refine wH_seq (wH_ift rfl (drop_cons hD_34) (wH_skip ?_))
      unfold ref_greatest_L3 at hc_37
      refine wH_seq (wH_block (wH_sr (h_ia es27 rfl rfl (drop_idx hD_34) rfl wz (h_ldc sz61 ag61 rfl (.d (.agg (Campaign.enc x_33))) rfl wz (h_alloc 0 (.inl rfl) z61 rfl wz (fun n_41=>h_str 0 il ft 0 sz61 rfl rfl (Campaign.v x_33) rfl wz (h_nil (wH_sr (h_opz (vI 0) (h_nil (wH_seq (wH_sr (h_opz (vL Spot.enc spots_1) (h_len un26 rfl wz (h_opz (vI 0) (h_nil ?_))))))))))))))))
      obtain ⟨o_50,hj_51,hc_37⟩:=bind_some hc_37
      obtain ⟨hn_46,hj_51⟩:=forL_some hj_51
      refine wH_loopF0 (fun (s_47:Int) => [(0,(vL Spot.enc spots_1)),(1,(vL Campaign.enc l_2)),(5,(vI s_10)),(6,(vI (k_5:Int))),(7,(vI s_36)),(11,(.ref n_41 0 0)),(12,(vI s_47)),(17,(vI q_3)),(18,(vI (k_5:Int))),(38,(vL Campaign.enc l_2)),(39,(vI (l_2.length:Int))),(40,(vI (k_31:Int)))]) (fun (s_47:Int) => [(n_41,some (.cells 8 (Campaign.v x_33)))]) (fun (k_42:Nat)=>(fun (s_47:Int) => [(0,(vL Spot.enc spots_1)),(1,(vL Campaign.enc l_2)),(5,(vI s_10)),(6,(vI (k_5:Int))),(7,(vI s_36)),(11,(.ref n_41 0 0)),(12,(vI s_47)),(17,(vI q_3)),(18,(vI (k_5:Int))),(38,(vL Campaign.enc l_2)),(39,(vI (l_2.length:Int))),(40,(vI (k_31:Int))),(44,(vL Spot.enc spots_1)),(45,(vI (spots_1.length:Int))),(46,(vI (k_42:Int)))])) (fun k x s=>ref_greatest_L2 k_5 x_33 k x s) o_50 spots_1 0 hj_51 rfl (pre_r rfl) ?_ ?_
      ·rintro ⟨k_42,l_43,s_47⟩ ⟨hL_49,hD_45⟩
       dsimp only at hL_49 hD_45
       cases l_43 with
       | nil =>
        obtain rfl:=some_inj hL_49
        refine wH_sr (h_opz (vB (decide ((k_42:Int) < (spots_1.length:Int)))) (h_nil ?_))
        refine wH_seq (wH_iff rfl (drop_nil hD_45) (wH_exit ?_))
        exact cut_mk (s_47) rfl rfl (pre_r rfl)
       | cons x_44 l_43 =>
        obtain ⟨c_,hc_48,hL_49⟩:=bind_some hL_49
        refine wH_sr (h_opz (vB (decide ((k_42:Int) < (spots_1.length:Int)))) (h_nil ?_))
        refine wH_seq (wH_ift rfl (drop_cons hD_45) (wH_skip ?_))
        unfold ref_greatest_L2 at hc_48
        refine wH_seq (wH_block (wH_sr (h_opz (vI (k_42:Int)) (h_ia es26 rfl rfl (drop_idx hD_45) rfl wz (h_ldc sz63 ag63 rfl (.d (.agg (Spot.enc x_44))) rfl wz (h_alloc 0 (.inl rfl) z63 rfl wz (fun n_52=>h_opz (vI (k_42:Int)) (h_str 0 il ft 1 sz63 rfl rfl (Spot.v x_44) rfl wz (h_nil (wH_seq ?_))))))))))
        obtain ⟨v_53,h_54,hc_48⟩:=bind_some hc_48
        refine wH_joinU [(0,(vL Spot.enc spots_1)),(1,(vL Campaign.enc l_2)),(5,(vI s_10)),(6,(vI (k_5:Int))),(7,(vI s_36)),(11,(.ref n_41 0 0)),(12,(vI s_47)),(17,(vI q_3)),(18,(vI (k_5:Int))),(38,(vL Campaign.enc l_2)),(39,(vI (l_2.length:Int))),(40,(vI (k_31:Int))),(44,(vL Spot.enc spots_1)),(45,(vI (spots_1.length:Int))),(46,(vI (k_42:Int))),(60,(vB v_53))] [(n_41,some (.cells 8 (Campaign.v x_33))),(n_52,some (.cells 5 (Spot.v x_44)))] ?_ ?_
        ·refine wH_region (h_opz (vI (k_5:Int)) (h_opz (vI (k_42:Int)) ?_))
         obtain ⟨q_55,hz_56,h_54⟩:=bind_some h_54
         refine h_shr rfl rfl hz_56 wz (h_opz (vI (andI .i64 q_55 1)) (h_opz (vB ((andI .i64 q_55 1) == 0)) ?_))
         rcases cond_some h_54 with⟨hc_57,h_54⟩ | ⟨hc_57,h_54⟩
         ·refine h_movb rfl hc_57 wz (h_ldr 0 0 il ft sz61 ag61 rfl rfl (.d (.agg (Campaign.enc x_33))) rfl wa (h_ldr 0 1 il ft sz63 ag63 rfl rfl (.d (.agg (Spot.enc x_44))) rfl wa ?_))
          obtain ⟨r_58,hr_59,h_54⟩:=bind_some h_54
          refine h_call0 (ref_SuitsOf_ok hr_59) rfl hb30 rfl rfl rfl rfl wa (h_opz (vB r_58) (h_nil ?_))
          obtain rfl:=some_inj h_54
          exact cu
         ·refine h_movb rfl hc_57 wz (h_skipz (h_skipz (h_skipz (h_opz (vB false) (h_nil ?_)))))
          obtain rfl:=some_inj h_54
          exact cu
        ·rintro ⟨⟩ _ sl_ H_ hp_ hq_
         refine wH_at _ hp_ hq_ ?_
         obtain ⟨v_60,h_61,hc_48⟩:=bind_some hc_48
         refine wH_joinU [(0,(vL Spot.enc spots_1)),(1,(vL Campaign.enc l_2)),(5,(vI s_10)),(6,(vI (k_5:Int))),(7,(vI s_36)),(11,(.ref n_41 0 0)),(12,(vI v_60)),(17,(vI q_3)),(18,(vI (k_5:Int))),(38,(vL Campaign.enc l_2)),(39,(vI (l_2.length:Int))),(40,(vI (k_31:Int))),(44,(vL Spot.enc spots_1)),(45,(vI (spots_1.length:Int))),(46,(vI (k_42:Int)))] [(n_41,some (.cells 8 (Campaign.v x_33))),(n_52,some (.cells 5 (Spot.v x_44)))] ?_ ?_
         ·rcases cond_some h_61 with⟨hc_62,h_61⟩ | ⟨hc_62,h_61⟩
          ·refine wH_ift rfl hc_62 (wH_region (h_opz (vI s_47) (h_far pl61_5 rfl 6 rfl wz (h_ldr 0 0 il ft sz3 ag3 rfl rfl (vI x_33.Most) rfl wz (h_opz (vI (w64 (s_47 + x_33.Most))) (h_opz (vI (w64 (s_47 + x_33.Most))) (h_nil ?_)))))))
           obtain rfl:=some_inj h_61
           exact cu
          ·refine wH_iff rfl hc_62 (wH_skip ?_)
           obtain rfl:=some_inj h_61
           exact cu
         ·rintro ⟨⟩ _ sl_ H_ hp_ hq_
          refine wH_at _ hp_ hq_ (wH_region (h_opw (w64_next hD_45 hn_46) wz rfl (h_opz (vI ((k_42 + 1:Nat):Int)) (h_nil ?_))))
          obtain rfl:=some_inj hc_48
          exact loop_mk (k_42 + 1,l_43,v_60) ⟨hL_49,drop_next hD_45⟩ (Nat.lt_succ_self _) rfl (pre_r rfl)
      ·rintro s_47 ho_ sl_ H_ hp_ hq_
       subst ho_
       refine wH_at _ hp_ hq_ (wH_region (h_opz (vI s_36) (h_far pl61_4 rfl 5 rfl wz (h_ldr 0 0 il ft sz3 ag3 rfl rfl (vI x_33.Goal) rfl wz (h_opz (vI s_47) (h_minmax (vI (minI x_33.Goal s_47)) rfl (.inl rfl) wz (h_opz (vI (w64 (s_36 + (minI x_33.Goal s_47)))) (h_opz (vI (w64 (s_36 + (minI x_33.Goal s_47)))) (h_nil (wH_region (h_opw (w64_next hD_34 hn_35) wz rfl (h_opz (vI ((k_31 + 1:Nat):Int)) (h_nil ?_)))))))))))))
       obtain rfl:=some_inj hc_37
       exact loop_mk (k_31 + 1,l_32,(w64 (s_36 + (minI x_33.Goal s_47)))) ⟨hL_38,drop_next hD_34⟩ (Nat.lt_succ_self _) rfl (pre_r rfl)
    ·rintro s_36 ho_ sl_ H_ hp_ hq_
     subst ho_
     refine wH_at _ hp_ hq_ (wH_seq ?_)
     obtain ⟨v_63,h_64,hc_11⟩:=bind_some hc_11
     refine wH_joinU [(0,(vL Spot.enc spots_1)),(1,(vL Campaign.enc l_2)),(5,(vI s_10)),(7,(vI s_36)),(17,(vI q_3)),(18,(vI (k_5:Int))),(79,(vB v_63))] [] ?_ ?_
     ·refine wH_region (h_opz (vI s_10) (h_opz (vB (decide (s_10 < 0))) ?_))
      rcases cond_some h_64 with⟨hc_65,h_64⟩ | ⟨hc_65,h_64⟩
      ·refine h_movb rfl hc_65 wz (h_skipz (h_skipz (h_skipz (h_opz (vB true) (h_nil ?_)))))
       obtain rfl:=some_inj h_64
       exact cu
      ·refine h_movb rfl hc_65 wz (h_op (vI s_36) wa rfl (h_op (vI s_10) wa rfl (h_op (vB (decide (s_36 < s_10))) wa rfl (h_opz (vB (decide (s_36 < s_10))) (h_nil ?_)))))
       obtain rfl:=some_inj h_64
       exact cu
     ·rintro ⟨⟩ _ sl_ H_ hp_ hq_
      refine wH_at _ hp_ hq_ ?_
      obtain ⟨v_66,h_67,hc_11⟩:=bind_some hc_11
      refine wH_joinU [(0,(vL Spot.enc spots_1)),(1,(vL Campaign.enc l_2)),(5,(vI v_66)),(17,(vI q_3)),(18,(vI (k_5:Int)))] [] ?_ ?_
      ·rcases cond_some h_67 with⟨hc_68,h_67⟩ | ⟨hc_68,h_67⟩
       ·refine wH_ift rfl hc_68 (wH_region (h_opz (vI s_36) (h_opz (vI s_36) (h_nil ?_))))
        obtain rfl:=some_inj h_67
        exact cu
       ·refine wH_iff rfl hc_68 (wH_skip ?_)
        obtain rfl:=some_inj h_67
        exact cu
      ·rintro ⟨⟩ _ sl_ H_ hp_ hq_
       refine wH_at _ hp_ hq_ (wH_region (h_opw (w64_nextr hD_8 hn_9) wz rfl (h_opz (vI ((k_5 + 1:Nat):Int)) (h_nil ?_))))
       obtain rfl:=some_inj hc_11
       exact loop_mk (k_5 + 1,l_6,v_66) ⟨hL_12,drop_next hD_8⟩ (Nat.lt_succ_self _) rfl (pre_r rfl)
 ·rintro s_10 ho_ sl_ H_ hp_ hq_
  subst ho_
  refine wH_at _ hp_ hq_ (wH_sr (h_opz (vI s_10) (h_opz (vI s_10) (h_nil ?_))))
  obtain rfl:=some_inj hF
  exact wH_ret (fin0r [(vI s_10)] ⟨rfl,trivial⟩)
theorem ref_goals_ok {l_1:(List Campaign)} {r:Int} (hF:ref_goals l_1=some r) :
  FnM Try.prog 48 [(vL Campaign.enc l_1)] [] (vI r) []:=by
 refine FnM.of_wH ⟨Try.prog,18,[],[]⟩ rfl Try.func48 rfl rfl (Nat.le_of_ble_eq_true rfl) (by kernel_rfl) ?_
 unfold ref_goals at hF
 refine wH_sr (h_opz (vI 0) (h_nil (wH_sr (h_opz (vI 0) (h_nil (wH_seq (wH_sr (h_opz (vL Campaign.enc l_1) (h_len un27 rfl wz (h_opz (vI 0) (h_nil ?_)))))))))))
 obtain ⟨o_10,hj_11,hF⟩:=bind_some hF
 obtain ⟨hn_6,hj_11⟩:=forL_some hj_11
 refine wH_loopF0 (fun (s_7:Int) => [(3,(vI s_7))]) (fun (s_7:Int) => []) (fun (k_2:Nat)=>(fun (s_7:Int) => [(3,(vI s_7)),(6,(vL Campaign.enc l_1)),(7,(vI (l_1.length:Int))),(8,(vI (k_2:Int)))])) (fun k x s=>ref_goals_L1 k x s) o_10 l_1 0 hj_11 rfl (pre_r rfl) ?_ ?_
 ·rintro ⟨k_2,l_3,s_7⟩ ⟨hL_9,hD_5⟩
  dsimp only at hL_9 hD_5
  cases l_3 with
  | nil =>
   obtain rfl:=some_inj hL_9
   refine wH_sr (h_opz (vB (decide ((k_2:Int) < (l_1.length:Int)))) (h_nil ?_))
   refine wH_seq (wH_iff rfl (drop_nil hD_5) (wH_exit ?_))
   exact cut_mk (s_7) rfl rfl (pre_r rfl)
  | cons x_4 l_3 =>
   obtain ⟨c_,hc_8,hL_9⟩:=bind_some hL_9
   refine wH_sr (h_opz (vB (decide ((k_2:Int) < (l_1.length:Int)))) (h_nil ?_))
   refine wH_seq (wH_ift rfl (drop_cons hD_5) (wH_skip ?_))
   unfold ref_goals_L1 at hc_8
   refine wH_seq (wH_block (wH_sr (h_ia es27 rfl rfl (drop_idx hD_5) rfl wz (h_ldc sz61 ag61 rfl (.d (.agg (Campaign.enc x_4))) rfl wz (h_alloc 0 (.inl rfl) z61 rfl wz (fun n_12=>h_str 0 il ft 0 sz61 rfl rfl (Campaign.v x_4) rfl wz (h_nil (wH_region (h_opz (vI s_7) (h_far pl61_4 rfl 5 rfl wz (h_ldr 0 0 il ft sz3 ag3 rfl rfl (vI x_4.Goal) rfl wz (h_opz (vI (w64 (s_7 + x_4.Goal))) (h_opz (vI (w64 (s_7 + x_4.Goal))) (h_nil (wH_region (h_opw (w64_next hD_5 hn_6) wz rfl (h_opz (vI ((k_2 + 1:Nat):Int)) (h_nil ?_))))))))))))))))))
   obtain rfl:=some_inj hc_8
   exact loop_mk (k_2 + 1,l_3,(w64 (s_7 + x_4.Goal))) ⟨hL_9,drop_next hD_5⟩ (Nat.lt_succ_self _) rfl (pre_r rfl)
 ·rintro s_7 ho_ sl_ H_ hp_ hq_
  subst ho_
  refine wH_at _ hp_ hq_ (wH_sr (h_opz (vI s_7) (h_opz (vI s_7) (h_nil ?_))))
  obtain rfl:=some_inj hF
  exact wH_ret (fin0r [(vI s_7)] ⟨rfl,trivial⟩)
theorem ref_CanOf_ok {spots_1:(List Spot)} {l_2:(List Campaign)} {r:Bool} (hF:ref_CanOf spots_1 l_2=some r) :
  FnM Try.prog 27 [(vL Spot.enc spots_1),(vL Campaign.enc l_2)] [] (vB r) []:=by
 refine FnM.of_wH ⟨Try.prog,11,[],[]⟩ rfl Try.func27 rfl rfl (Nat.le_of_ble_eq_true rfl) (by kernel_rfl) ?_
 unfold ref_CanOf at hF
 refine wH_sr (h_opz (vB false) (h_nil (wH_sr (h_opz (vL Spot.enc spots_1) (h_opz (vL Campaign.enc l_2) ?_)))))
 obtain ⟨r_3,hr_4,hF⟩:=bind_some hF
 refine h_call0 (ref_greatest_ok hr_4) rfl hb32 rfl rfl rfl rfl wz (h_opz (vL Campaign.enc l_2) ?_)
 obtain ⟨r_5,hr_6,hF⟩:=bind_some hF
 refine h_call0 (ref_goals_ok hr_6) rfl hb48 rfl rfl rfl rfl wz (h_opz (vB (r_3 == r_5)) (h_opz (vB (r_3 == r_5)) (h_nil ?_)))
 obtain rfl:=some_inj hF
 exact wH_ret (fin0r [(vB (r_3 == r_5))] ⟨rfl,trivial⟩)
theorem slices_Clone_api_Spot_api_Spot_okb {s_1:(List Spot)} {r:(List Spot)} (hF:slices_Clone_api_Spot_api_Spot s_1=some r) :
  FnM Try.prog 28 [(vL Spot.enc s_1)] [] (gV (extN 0) 5 r) (([]:List Box).map some++gO 5 Spot.enc r):=by
 refine FnM.of_wH ⟨Try.prog,8,[],[]⟩ rfl Try.func28 rfl rfl (Nat.le_of_ble_eq_true rfl) (by kernel_rfl) ?_
 unfold slices_Clone_api_Spot_api_Spot at hF
 refine wH_sr (h_opz .nil (h_nil (wH_seq (wH_sr (h_opz (vL Spot.enc s_1) (h_nileq un26 rfl wz (fun b_2 hb_3=>h_nil ?_)))))))
 cases b_2 with
 | true =>
  refine wH_ift rfl rfl ?_
  obtain rfl:=hb_3 rfl
  replace hF:=clone_nil hF
  refine wH_sr (h_opz .nil (h_nil (wH_new (fun n_4 => ?_))))
  obtain rfl:=some_inj hF
  exact wH_ret (finG (outs:=([]:List Box)) (.inr rfl) 0 rfl rfl rfl (by kernel_rfl) (by kernel_rfl))
 | false =>
  refine wH_iff rfl rfl (wH_skip (wH_sr (h_lit0 es26 ez26 rfl wz (h_opz (vL Spot.enc s_1) ?_))))
  obtain ⟨a_5,hz_6,hF⟩:=bind_some hF
  refine h_appn 0 (.inl rfl) el26 el26 sz63 z63 rfl (by decide) by63 (by decide) (fun _=>rfl) rfl rfl hz_6 wz (fun n_7=>h_opz (gV n_7 5 a_5) (h_nil ?_))
  obtain rfl:=some_inj hF
  exact wH_ret (finG (outs:=([]:List Box)) (.inr rfl) 0 rfl rfl rfl (by kernel_rfl) (by kernel_rfl))
theorem slices_Clone_api_Campaign_api_Campaign_okb {s_1:(List Campaign)} {r:(List Campaign)} (hF:slices_Clone_api_Campaign_api_Campaign s_1=some r) :
  FnM Try.prog 29 [(vL Campaign.enc s_1)] [] (gV (extN 0) 8 r) (([]:List Box).map some++gO 8 Campaign.enc r):=by
 refine FnM.of_wH ⟨Try.prog,8,[],[]⟩ rfl Try.func29 rfl rfl (Nat.le_of_ble_eq_true rfl) (by kernel_rfl) ?_
 unfold slices_Clone_api_Campaign_api_Campaign at hF
 refine wH_sr (h_opz .nil (h_nil (wH_seq (wH_sr (h_opz (vL Campaign.enc s_1) (h_nileq un27 rfl wz (fun b_2 hb_3=>h_nil ?_)))))))
 cases b_2 with
 | true =>
  refine wH_ift rfl rfl ?_
  obtain rfl:=hb_3 rfl
  replace hF:=clone_nil hF
  refine wH_sr (h_opz .nil (h_nil (wH_new (fun n_4 => ?_))))
  obtain rfl:=some_inj hF
  exact wH_ret (finG (outs:=([]:List Box)) (.inr rfl) 0 rfl rfl rfl (by kernel_rfl) (by kernel_rfl))
 | false =>
  refine wH_iff rfl rfl (wH_skip (wH_sr (h_lit0 es27 ez27 rfl wz (h_opz (vL Campaign.enc s_1) ?_))))
  obtain ⟨a_5,hz_6,hF⟩:=bind_some hF
  refine h_appn 0 (.inl rfl) el27 el27 sz61 z61 rfl (by decide) by61 (by decide) (fun _=>rfl) rfl rfl hz_6 wz (fun n_7=>h_opz (gV n_7 8 a_5) (h_nil ?_))
  obtain rfl:=some_inj hF
  exact wH_ret (finG (outs:=([]:List Box)) (.inr rfl) 0 rfl rfl rfl (by kernel_rfl) (by kernel_rfl))
theorem ref_canStill_ok {spots_1:(List Spot)} {l_2:(List Campaign)} {i_3:Int} {c_4:Campaign} {k_5:Int} {n_6:Int} {r:Bool} (hF:ref_canStill spots_1 l_2 i_3 c_4 k_5 n_6=some r) :
  FnM Try.prog 31 [(vL Spot.enc spots_1),(vL Campaign.enc l_2),(vI i_3),(.d (.agg (Campaign.enc c_4))),(vI k_5),(vI n_6)] [] (vB r) []:=by
 refine FnM.of_wH ⟨Try.prog,140,[],[]⟩ rfl Try.func31 rfl rfl (Nat.le_of_ble_eq_true rfl) (by kernel_rfl) ?_
 unfold ref_canStill at hF
 refine wH_sr (h_box 0 (.inl rfl) (Campaign.v c_4) rfl rfl wz (fun n_7=>h_opz (vB false) (h_nil (wH_sr (h_opz (vL Spot.enc spots_1) ?_)))))
 obtain ⟨r_8,hr_9,hF⟩:=bind_some hF
 refine h_callg [] (slices_Clone_api_Spot_api_Spot_okb hr_9) rfl hb28 rfl (by kernel_rfl) (by kernel_rfl) (by kernel_rfl) (by kernel_rfl) (by kernel_rfl) rfl (by decide) (by kernel_rfl) wz ([(n_7,some (.cells 8 (Campaign.v c_4)))]:Hp) (fun _=>by kernel_rfl) (fun n_11=>h_opz (vL Campaign.enc l_2) ?_)
 obtain ⟨r_12,hr_13,hF⟩:=bind_some hF
 refine h_callg [] (slices_Clone_api_Campaign_api_Campaign_okb hr_13) rfl hb29 rfl (by kernel_rfl) (by kernel_rfl) (by kernel_rfl) (by kernel_rfl) (by kernel_rfl) rfl (by decide) (by kernel_rfl) wz ([(n_7,some (.cells 8 (Campaign.v c_4))),(n_11,gB 5 Spot.enc r_8)]:Hp) (fun _=>by kernel_rfl) (fun n_15=>h_opz (gV n_11 5 r_8) (h_opz (gV n_15 8 r_12) (h_nil (wH_sr (h_opz (gV n_11 5 r_8) (h_opz (vI k_5) ?_))))))
 obtain ⟨_,hi_16,hF⟩:=bind_some hF
 refine h_iavg es26 rfl rfl (inR_0 hi_16) (inR_lt hi_16) wz (h_far pl63_2 rfl 3 rfl wz ?_)
 obtain ⟨e_17,hy_18,hF⟩:=bind_some hF
 refine h_ldvg 0 1 il ft sz3 ag3 rfl rfl hy_18 (vI e_17.Room) rfl wz (h_opz (vI n_6) (h_opz (vI (w64 (e_17.Room - n_6))) ?_))
 obtain ⟨_,hi_19,hF⟩:=bind_some hF
 refine h_iavg es26 rfl rfl (inR_0 hi_19) (inR_lt hi_19) wz (h_far pl63_2 rfl 3 rfl wz ?_)
 obtain ⟨e_20,hy_21,hF⟩:=bind_some hF
 refine h_stvg 0 il ft 1 sz3 rfl rfl hy_21 (⟨e_20.Key,e_20.Time,(w64 (e_17.Room - n_6)),e_20.Tags⟩:Spot) rfl wz (h_re (v':=(gV n_11 5 (r_8.set (0 + (k_5).toNat) (⟨e_20.Key,e_20.Time,(w64 (e_17.Room - n_6)),e_20.Tags⟩:Spot)))) 13 rfl (gV_len (by simp)) (h_re (v':=(gV n_11 5 (r_8.set (0 + (k_5).toNat) (⟨e_20.Key,e_20.Time,(w64 (e_17.Room - n_6)),e_20.Tags⟩:Spot)))) 27 rfl (gV_len (by simp)) (h_re (v':=(gV n_11 5 (r_8.set (0 + (k_5).toNat) (⟨e_20.Key,e_20.Time,(w64 (e_17.Room - n_6)),e_20.Tags⟩:Spot)))) 30 rfl (gV_len (by simp)) (h_nil (wH_sr (h_far pl61_4 rfl 5 rfl wz (h_ldr 0 0 il ft sz3 ag3 rfl rfl (vI c_4.Goal) rfl wz (h_opz (vI n_6) (h_opz (vI (w64 (c_4.Goal - n_6))) (h_far pl61_4 rfl 5 rfl wz (h_str 0 il ft 0 sz3 rfl rfl [(vS c_4.Key),(vS c_4.Class),(vI c_4.Time.From),(vI c_4.Time.To),(vL eS c_4.Tags),(vI (w64 (c_4.Goal - n_6))),(vI c_4.Most),(vI c_4.Cents)] rfl wz (h_nil (wH_sr (h_opz (gV n_15 8 r_12) (h_opz (vI i_3) ?_)))))))))))))))
 obtain ⟨_,hi_22,hF⟩:=bind_some hF
 refine h_iavg es27 rfl rfl (inR_0 hi_22) (inR_lt hi_22) wz (h_far pl61_4 rfl 5 rfl wz ?_)
 obtain ⟨e_23,hy_24,hF⟩:=bind_some hF
 refine h_stvg 0 il ft 2 sz3 rfl rfl hy_24 (⟨e_23.Key,e_23.Class,e_23.Time,e_23.Tags,0,e_23.Most,e_23.Cents⟩:Campaign) rfl wz (h_re (v':=(gV n_15 8 (r_12.set (0 + (i_3).toNat) (⟨e_23.Key,e_23.Class,e_23.Time,e_23.Tags,0,e_23.Most,e_23.Cents⟩:Campaign)))) 14 rfl (gV_len (by simp)) (h_re (v':=(gV n_15 8 (r_12.set (0 + (i_3).toNat) (⟨e_23.Key,e_23.Class,e_23.Time,e_23.Tags,0,e_23.Most,e_23.Cents⟩:Campaign)))) 29 rfl (gV_len (by simp)) (h_re (v':=(gV n_15 8 (r_12.set (0 + (i_3).toNat) (⟨e_23.Key,e_23.Class,e_23.Time,e_23.Tags,0,e_23.Most,e_23.Cents⟩:Campaign)))) 44 rfl (gV_len (by simp)) (h_nil (wH_sr (h_opz (vI (-1)) (h_nil (wH_at (H0:=([(n_7,some (.cells 8 [(vS c_4.Key),(vS c_4.Class),(vI c_4.Time.From),(vI c_4.Time.To),(vL eS c_4.Tags),(vI (w64 (c_4.Goal - n_6))),(vI c_4.Most),(vI c_4.Cents)])),(n_11,gB 5 Spot.enc (r_8.set (0 + (k_5).toNat) (⟨e_20.Key,e_20.Time,(w64 (e_17.Room - n_6)),e_20.Tags⟩:Spot))),(n_15,gB 8 Campaign.enc (r_12.set (0 + (i_3).toNat) (⟨e_23.Key,e_23.Class,e_23.Time,e_23.Tags,0,e_23.Most,e_23.Cents⟩:Campaign)))]:Hp)) ([(4,(vI k_5)),(9,(.ref n_7 0 0)),(13,(gV n_11 5 (r_8.set (0 + (k_5).toNat) (⟨e_20.Key,e_20.Time,(w64 (e_17.Room - n_6)),e_20.Tags⟩:Spot)))),(14,(gV n_15 8 (r_12.set (0 + (i_3).toNat) (⟨e_23.Key,e_23.Class,e_23.Time,e_23.Tags,0,e_23.Most,e_23.Cents⟩:Campaign)))),(15,(vI (-1)))]:List (Nat×V)) (by kernel_rfl) (pre_mk (by kernel_rfl)) (wH_seq (wH_seq (wH_frozg 1 rfl (wH_cog 13 1 rfl rfl (wH_frozg 2 rfl (wH_cog 14 2 rfl rfl (wH_region (h_opz (vL Spot.enc (r_8.set (0 + (k_5).toNat) (⟨e_20.Key,e_20.Time,(w64 (e_17.Room - n_6)),e_20.Tags⟩:Spot))) (h_len un26 rfl wz ?_)))))))))))))))))
 obtain ⟨q_25,hz_26,hF⟩:=bind_some hF
 refine h_shl rfl rfl hz_26 wz (h_opz (vI 0) (h_nil ?_))
 obtain ⟨o_35,hj_36,hF⟩:=bind_some hF
 obtain ⟨hn_31,hj_36⟩:=forL_some hj_36
 refine wH_loopF0 (fun (s_32:(List Spot)×(List Campaign)×Int) => [(9,(.ref n_7 0 0)),(14,(vL Campaign.enc s_32.2.1)),(15,(vI s_32.2.2))]) (fun (s_32:(List Spot)×(List Campaign)×Int) => [(n_7,some (.cells 8 [(vS c_4.Key),(vS c_4.Class),(vI c_4.Time.From),(vI c_4.Time.To),(vL eS c_4.Tags),(vI (w64 (c_4.Goal - n_6))),(vI c_4.Most),(vI c_4.Cents)])),(n_11,gF 5 Spot.enc (r_8.set (0 + (k_5).toNat) (⟨e_20.Key,e_20.Time,(w64 (e_17.Room - n_6)),e_20.Tags⟩:Spot))),(n_15,gF 8 Campaign.enc (r_12.set (0 + (i_3).toNat) (⟨e_23.Key,e_23.Class,e_23.Time,e_23.Tags,0,e_23.Most,e_23.Cents⟩:Campaign)))]) (fun (k_27:Nat)=>(fun (s_32:(List Spot)×(List Campaign)×Int) => [(4,(vI k_5)),(9,(.ref n_7 0 0)),(13,(vL Spot.enc s_32.1)),(14,(vL Campaign.enc s_32.2.1)),(15,(vI s_32.2.2)),(50,(vI q_25)),(51,(vI (k_27:Int)))])) (fun k x s=>ref_canStill_L4 k_5 c_4 n_6 k x s) o_35 (List.range (q_25).toNat) ((r_8.set (0 + (k_5).toNat) (⟨e_20.Key,e_20.Time,(w64 (e_17.Room - n_6)),e_20.Tags⟩:Spot)),(r_12.set (0 + (i_3).toNat) (⟨e_23.Key,e_23.Class,e_23.Time,e_23.Tags,0,e_23.Most,e_23.Cents⟩:Campaign)),(-1)) hj_36 rfl (pre_r rfl) ?_ ?_
 ·rintro ⟨k_27,l_28,s_32⟩ ⟨hL_34,hD_30⟩
  dsimp only at hL_34 hD_30
  cases l_28 with
  | nil =>
   obtain rfl:=some_inj hL_34
   refine wH_sr (h_opz (vB (decide ((k_27:Int) < q_25))) (h_nil ?_))
   refine wH_seq (wH_iff rfl (range_nil hD_30) (wH_exit ?_))
   exact cut_mk (s_32) rfl rfl (pre_r rfl)
  | cons x_29 l_28 =>
   obtain ⟨c_,hc_33,hL_34⟩:=bind_some hL_34
   refine wH_sr (h_opz (vB (decide ((k_27:Int) < q_25))) (h_nil ?_))
   refine wH_seq (wH_ift rfl (range_cons hD_30) (wH_skip ?_))
   unfold ref_canStill_L4 at hc_33
   refine wH_seq (wH_block (wH_sr (h_opz (vI (k_27:Int)) (h_opz (vI (k_27:Int)) (h_nil (wH_sr (h_opz (vI 0) (h_opz (vI 0) (h_nil (wH_seq (wH_sr (h_opz (vL Spot.enc s_32.1) (h_len un26 rfl wz (h_opz (vI 0) (h_nil ?_)))))))))))))))
   obtain ⟨o_45,hj_46,hc_33⟩:=bind_some hc_33
   obtain ⟨hn_41,hj_46⟩:=forL_some hj_46
   refine wH_loopF0 (fun (s_42:Int×Int) => [(4,(vI k_5)),(9,(.ref n_7 0 0)),(13,(vL Spot.enc s_32.1)),(14,(vL Campaign.enc s_32.2.1)),(15,(vI s_32.2.2)),(16,(vI (k_27:Int))),(17,(vI s_42.1)),(18,(vI s_42.2)),(50,(vI q_25)),(51,(vI (k_27:Int)))]) (fun (s_42:Int×Int) => [(n_7,some (.cells 8 [(vS c_4.Key),(vS c_4.Class),(vI c_4.Time.From),(vI c_4.Time.To),(vL eS c_4.Tags),(vI (w64 (c_4.Goal - n_6))),(vI c_4.Most),(vI c_4.Cents)])),(n_11,gF 5 Spot.enc (r_8.set (0 + (k_5).toNat) (⟨e_20.Key,e_20.Time,(w64 (e_17.Room - n_6)),e_20.Tags⟩:Spot))),(n_15,gF 8 Campaign.enc (r_12.set (0 + (i_3).toNat) (⟨e_23.Key,e_23.Class,e_23.Time,e_23.Tags,0,e_23.Most,e_23.Cents⟩:Campaign)))]) (fun (k_37:Nat)=>(fun (s_42:Int×Int) => [(4,(vI k_5)),(9,(.ref n_7 0 0)),(13,(vL Spot.enc s_32.1)),(14,(vL Campaign.enc s_32.2.1)),(15,(vI s_32.2.2)),(16,(vI (k_27:Int))),(17,(vI s_42.1)),(18,(vI s_42.2)),(50,(vI q_25)),(51,(vI (k_27:Int))),(54,(vL Spot.enc s_32.1)),(55,(vI (s_32.1.length:Int))),(56,(vI (k_37:Int)))])) (fun k x s=>ref_canStill_L1 k_27 k_5 c_4 n_6 k x s) o_45 s_32.1 (0,0) hj_46 rfl (pre_r rfl) ?_ ?_
   ·rintro ⟨k_37,l_38,s_42⟩ ⟨hL_44,hD_40⟩
    dsimp only at hL_44 hD_40
    cases l_38 with
    | nil =>
     obtain rfl:=some_inj hL_44
     refine wH_sr (h_opz (vB (decide ((k_37:Int) < (s_32.1.length:Int)))) (h_nil ?_))
     refine wH_seq (wH_iff rfl (drop_nil hD_40) (wH_exit ?_))
     exact cut_mk (s_42) rfl rfl (pre_r rfl)
    | cons x_39 l_38 =>
     obtain ⟨c_,hc_43,hL_44⟩:=bind_some hL_44
     refine wH_sr (h_opz (vB (decide ((k_37:Int) < (s_32.1.length:Int)))) (h_nil ?_))
     refine wH_seq (wH_ift rfl (drop_cons hD_40) (wH_skip ?_))
     unfold ref_canStill_L1 at hc_43
     refine wH_seq (wH_block (wH_sr (h_opz (vI (k_37:Int)) (h_ia es26 rfl rfl (drop_idx hD_40) rfl wz (h_ldc sz63 ag63 rfl (.d (.agg (Spot.enc x_39))) rfl wz (h_alloc 0 (.inl rfl) z63 rfl wz (fun n_47=>h_opz (vI (k_37:Int)) (h_str 0 il ft 3 sz63 rfl rfl (Spot.v x_39) rfl wz (h_nil (wH_sr (h_opz (vI (k_27:Int)) (h_opz (vI (k_37:Int)) ?_))))))))))))
     obtain ⟨q_48,hz_49,hc_43⟩:=bind_some hc_43
     refine h_shr rfl rfl hz_49 wz (h_opz (vI (andI .i64 q_48 1)) (h_opz (vB ((andI .i64 q_48 1) == 1)) (h_nil ?_)))
     obtain ⟨v_50,h_51,hc_43⟩:=bind_some hc_43
     refine wH_joinU [(4,(vI k_5)),(9,(.ref n_7 0 0)),(13,(vL Spot.enc s_32.1)),(14,(vL Campaign.enc s_32.2.1)),(15,(vI s_32.2.2)),(16,(vI (k_27:Int))),(17,(vI v_50.1)),(18,(vI v_50.2)),(50,(vI q_25)),(51,(vI (k_27:Int))),(54,(vL Spot.enc s_32.1)),(55,(vI (s_32.1.length:Int))),(56,(vI (k_37:Int)))] [(n_7,some (.cells 8 [(vS c_4.Key),(vS c_4.Class),(vI c_4.Time.From),(vI c_4.Time.To),(vL eS c_4.Tags),(vI (w64 (c_4.Goal - n_6))),(vI c_4.Most),(vI c_4.Cents)])),(n_11,gF 5 Spot.enc (r_8.set (0 + (k_5).toNat) (⟨e_20.Key,e_20.Time,(w64 (e_17.Room - n_6)),e_20.Tags⟩:Spot))),(n_15,gF 8 Campaign.enc (r_12.set (0 + (i_3).toNat) (⟨e_23.Key,e_23.Class,e_23.Time,e_23.Tags,0,e_23.Most,e_23.Cents⟩:Campaign))),(n_47,some (.cells 5 (Spot.v x_39)))] ?_ ?_
     ·rcases cond_some h_51 with⟨hc_52,h_51⟩ | ⟨hc_52,h_51⟩
      ·refine wH_ift rfl hc_52 (wH_region (h_opz (vI s_42.1) (h_far pl63_2 rfl 3 rfl wz (h_ldr 0 3 il ft sz3 ag3 rfl rfl (vI x_39.Room) rfl wz (h_opz (vI (w64 (s_42.1 + x_39.Room))) (h_opz (vI (w64 (s_42.1 + x_39.Room))) (h_nil ?_)))))))
       obtain rfl:=some_inj h_51
       exact cu
      ·refine wH_iff rfl hc_52 (wH_seq ?_)
       obtain ⟨v_53,h_54,h_51⟩:=bind_some h_51
       refine wH_joinU [(4,(vI k_5)),(9,(.ref n_7 0 0)),(13,(vL Spot.enc s_32.1)),(14,(vL Campaign.enc s_32.2.1)),(15,(vI s_32.2.2)),(16,(vI (k_27:Int))),(17,(vI s_42.1)),(18,(vI s_42.2)),(50,(vI q_25)),(51,(vI (k_27:Int))),(54,(vL Spot.enc s_32.1)),(55,(vI (s_32.1.length:Int))),(56,(vI (k_37:Int))),(77,(vB v_53))] [(n_7,some (.cells 8 [(vS c_4.Key),(vS c_4.Class),(vI c_4.Time.From),(vI c_4.Time.To),(vL eS c_4.Tags),(vI (w64 (c_4.Goal - n_6))),(vI c_4.Most),(vI c_4.Cents)])),(n_11,gF 5 Spot.enc (r_8.set (0 + (k_5).toNat) (⟨e_20.Key,e_20.Time,(w64 (e_17.Room - n_6)),e_20.Tags⟩:Spot))),(n_15,gF 8 Campaign.enc (r_12.set (0 + (i_3).toNat) (⟨e_23.Key,e_23.Class,e_23.Time,e_23.Tags,0,e_23.Most,e_23.Cents⟩:Campaign))),(n_47,some (.cells 5 (Spot.v x_39)))] ?_ ?_
       ·refine wH_region (h_opz (vI (k_37:Int)) (h_opz (vI k_5) (h_opz (vB (decide ((k_37:Int) > k_5))) ?_)))
        rcases cond_some h_54 with⟨hc_55,h_54⟩ | ⟨hc_55,h_54⟩
        ·refine h_movb rfl hc_55 wz (h_ldr 0 0 il ft sz61 ag61 rfl rfl (.d (.agg (Campaign.enc (⟨c_4.Key,c_4.Class,c_4.Time,c_4.Tags,(w64 (c_4.Goal - n_6)),c_4.Most,c_4.Cents⟩:Campaign)))) rfl wa (h_ldr 0 3 il ft sz63 ag63 rfl rfl (.d (.agg (Spot.enc x_39))) rfl wa ?_))
         obtain ⟨r_56,hr_57,h_54⟩:=bind_some h_54
         refine h_call0 (ref_SuitsOf_ok hr_57) rfl hb30 rfl rfl rfl rfl wa (h_opz (vB r_56) (h_nil ?_))
         obtain rfl:=some_inj h_54
         exact cu
        ·refine h_movb rfl hc_55 wz (h_skipz (h_skipz (h_skipz (h_opz (vB false) (h_nil ?_)))))
         obtain rfl:=some_inj h_54
         exact cu
       ·rintro ⟨⟩ _ sl_ H_ hp_ hq_
        refine wH_at _ hp_ hq_ ?_
        rcases cond_some h_51 with⟨hc_58,h_51⟩ | ⟨hc_58,h_51⟩
        ·refine wH_ift rfl hc_58 (wH_region (h_opz (vI s_42.2) (h_far pl61_5 rfl 6 rfl wz (h_ldr 0 0 il ft sz3 ag3 rfl rfl (vI c_4.Most) rfl wz (h_opz (vI (w64 (s_42.2 + c_4.Most))) (h_opz (vI (w64 (s_42.2 + c_4.Most))) (h_nil ?_)))))))
         obtain rfl:=some_inj h_51
         exact cu
        ·refine wH_iff rfl hc_58 (wH_skip ?_)
         obtain rfl:=some_inj h_51
         exact cu
     ·rintro ⟨⟩ _ sl_ H_ hp_ hq_
      refine wH_at _ hp_ hq_ (wH_region (h_opw (w64_next hD_40 hn_41) wz rfl (h_opz (vI ((k_37 + 1:Nat):Int)) (h_nil ?_))))
      obtain rfl:=some_inj hc_43
      exact loop_mk (k_37 + 1,l_38,(v_50.1,v_50.2)) ⟨hL_44,drop_next hD_40⟩ (Nat.lt_succ_self _) rfl (pre_r rfl)
   ·rintro s_42 ho_ sl_ H_ hp_ hq_
    subst ho_
    refine wH_at _ hp_ hq_ (wH_sr (h_opz (vI s_42.1) (h_far pl61_4 rfl 5 rfl wz (h_ldr 0 0 il ft sz3 ag3 rfl rfl (vI (w64 (c_4.Goal - n_6))) rfl wz (h_opz (vI s_42.2) (h_minmax (vI (minI (w64 (c_4.Goal - n_6)) s_42.2)) rfl (.inl rfl) wz (h_opz (vI (w64 (s_42.1 + (minI (w64 (c_4.Goal - n_6)) s_42.2)))) (h_opz (vI (w64 (s_42.1 + (minI (w64 (c_4.Goal - n_6)) s_42.2)))) (h_nil (wH_seq (wH_sr (h_opz (vL Campaign.enc s_32.2.1) (h_len un27 rfl wz (h_opz (vI 0) (h_nil ?_)))))))))))))))
    obtain ⟨o_67,hj_68,hc_33⟩:=bind_some hc_33
    obtain ⟨hn_63,hj_68⟩:=forL_some hj_68
    refine wH_loopF0 (fun (s_64:Int) => [(4,(vI k_5)),(9,(.ref n_7 0 0)),(13,(vL Spot.enc s_32.1)),(14,(vL Campaign.enc s_32.2.1)),(15,(vI s_32.2.2)),(17,(vI s_64)),(50,(vI q_25)),(51,(vI (k_27:Int)))]) (fun (s_64:Int) => [(n_7,some (.cells 8 [(vS c_4.Key),(vS c_4.Class),(vI c_4.Time.From),(vI c_4.Time.To),(vL eS c_4.Tags),(vI (w64 (c_4.Goal - n_6))),(vI c_4.Most),(vI c_4.Cents)])),(n_11,gF 5 Spot.enc (r_8.set (0 + (k_5).toNat) (⟨e_20.Key,e_20.Time,(w64 (e_17.Room - n_6)),e_20.Tags⟩:Spot))),(n_15,gF 8 Campaign.enc (r_12.set (0 + (i_3).toNat) (⟨e_23.Key,e_23.Class,e_23.Time,e_23.Tags,0,e_23.Most,e_23.Cents⟩:Campaign)))]) (fun (k_59:Nat)=>(fun (s_64:Int) => [(4,(vI k_5)),(9,(.ref n_7 0 0)),(13,(vL Spot.enc s_32.1)),(14,(vL Campaign.enc s_32.2.1)),(15,(vI s_32.2.2)),(16,(vI (k_27:Int))),(17,(vI s_64)),(50,(vI q_25)),(51,(vI (k_27:Int))),(89,(vL Campaign.enc s_32.2.1)),(90,(vI (s_32.2.1.length:Int))),(91,(vI (k_59:Int)))])) (fun k x s=>ref_canStill_L3 s_32 k_27 k x s) o_67 s_32.2.1 (w64 (s_42.1 + (minI (w64 (c_4.Goal - n_6)) s_42.2))) hj_68 rfl (pre_r rfl) ?_ ?_
    ·rintro ⟨k_59,l_60,s_64⟩ ⟨hL_66,hD_62⟩
     dsimp only at hL_66 hD_62
     cases l_60 with
     | nil =>
      obtain rfl:=some_inj hL_66
      refine wH_sr (h_opz (vB (decide ((k_59:Int) < (s_32.2.1.length:Int)))) (h_nil ?_))
      refine wH_seq (wH_iff rfl (drop_nil hD_62) (wH_exit ?_))
      exact cut_mk (s_64) rfl rfl (pre_r rfl)
     | cons x_61 l_60 =>
      obtain ⟨c_,hc_65,hL_66⟩:=bind_some hL_66
      refine wH_sr (h_opz (vB (decide ((k_59:Int) < (s_32.2.1.length:Int)))) (h_nil ?_))
      refine wH_seq (wH_ift rfl (drop_cons hD_62) (wH_skip ?_))
      unfold ref_canStill_L3 at hc_65
      refine wH_seq (wH_block (wH_sr (h_ia es27 rfl rfl (drop_idx hD_62) rfl wz (h_ldc sz61 ag61 rfl (.d (.agg (Campaign.enc x_61))) rfl wz (h_alloc 0 (.inl rfl) z61 rfl wz (fun n_69=>h_str 0 il ft 3 sz61 rfl rfl (Campaign.v x_61) rfl wz (h_nil (wH_sr (h_opz (vI 0) (h_nil (wH_seq (wH_sr (h_opz (vL Spot.enc s_32.1) (h_len un26 rfl wz (h_opz (vI 0) (h_nil ?_))))))))))))))))
      obtain ⟨o_78,hj_79,hc_65⟩:=bind_some hc_65
      obtain ⟨hn_74,hj_79⟩:=forL_some hj_79
      refine wH_loopF0 (fun (s_75:Int) => [(4,(vI k_5)),(9,(.ref n_7 0 0)),(13,(vL Spot.enc s_32.1)),(14,(vL Campaign.enc s_32.2.1)),(15,(vI s_32.2.2)),(16,(vI (k_27:Int))),(17,(vI s_64)),(22,(.ref n_69 0 0)),(23,(vI s_75)),(50,(vI q_25)),(51,(vI (k_27:Int))),(89,(vL Campaign.enc s_32.2.1)),(90,(vI (s_32.2.1.length:Int))),(91,(vI (k_59:Int)))]) (fun (s_75:Int) => [(n_7,some (.cells 8 [(vS c_4.Key),(vS c_4.Class),(vI c_4.Time.From),(vI c_4.Time.To),(vL eS c_4.Tags),(vI (w64 (c_4.Goal - n_6))),(vI c_4.Most),(vI c_4.Cents)])),(n_11,gF 5 Spot.enc (r_8.set (0 + (k_5).toNat) (⟨e_20.Key,e_20.Time,(w64 (e_17.Room - n_6)),e_20.Tags⟩:Spot))),(n_15,gF 8 Campaign.enc (r_12.set (0 + (i_3).toNat) (⟨e_23.Key,e_23.Class,e_23.Time,e_23.Tags,0,e_23.Most,e_23.Cents⟩:Campaign))),(n_69,some (.cells 8 (Campaign.v x_61)))]) (fun (k_70:Nat)=>(fun (s_75:Int) => [(4,(vI k_5)),(9,(.ref n_7 0 0)),(13,(vL Spot.enc s_32.1)),(14,(vL Campaign.enc s_32.2.1)),(15,(vI s_32.2.2)),(16,(vI (k_27:Int))),(17,(vI s_64)),(22,(.ref n_69 0 0)),(23,(vI s_75)),(50,(vI q_25)),(51,(vI (k_27:Int))),(89,(vL Campaign.enc s_32.2.1)),(90,(vI (s_32.2.1.length:Int))),(91,(vI (k_59:Int))),(95,(vL Spot.enc s_32.1)),(96,(vI (s_32.1.length:Int))),(97,(vI (k_70:Int)))])) (fun k x s=>ref_canStill_L2 k_27 x_61 k x s) o_78 s_32.1 0 hj_79 rfl (pre_r rfl) ?_ ?_
      ·rintro ⟨k_70,l_71,s_75⟩ ⟨hL_77,hD_73⟩
       dsimp only at hL_77 hD_73
       cases l_71 with
       | nil =>
        obtain rfl:=some_inj hL_77
        refine wH_sr (h_opz (vB (decide ((k_70:Int) < (s_32.1.length:Int)))) (h_nil ?_))
        refine wH_seq (wH_iff rfl (drop_nil hD_73) (wH_exit ?_))
        exact cut_mk (s_75) rfl rfl (pre_r rfl)
       | cons x_72 l_71 =>
        obtain ⟨c_,hc_76,hL_77⟩:=bind_some hL_77
        refine wH_sr (h_opz (vB (decide ((k_70:Int) < (s_32.1.length:Int)))) (h_nil ?_))
        refine wH_seq (wH_ift rfl (drop_cons hD_73) (wH_skip ?_))
        unfold ref_canStill_L2 at hc_76
        refine wH_seq (wH_block (wH_sr (h_opz (vI (k_70:Int)) (h_ia es26 rfl rfl (drop_idx hD_73) rfl wz (h_ldc sz63 ag63 rfl (.d (.agg (Spot.enc x_72))) rfl wz (h_alloc 0 (.inl rfl) z63 rfl wz (fun n_80=>h_opz (vI (k_70:Int)) (h_str 0 il ft 4 sz63 rfl rfl (Spot.v x_72) rfl wz (h_nil (wH_seq ?_))))))))))
        obtain ⟨v_81,h_82,hc_76⟩:=bind_some hc_76
        refine wH_joinU [(4,(vI k_5)),(9,(.ref n_7 0 0)),(13,(vL Spot.enc s_32.1)),(14,(vL Campaign.enc s_32.2.1)),(15,(vI s_32.2.2)),(16,(vI (k_27:Int))),(17,(vI s_64)),(22,(.ref n_69 0 0)),(23,(vI s_75)),(50,(vI q_25)),(51,(vI (k_27:Int))),(89,(vL Campaign.enc s_32.2.1)),(90,(vI (s_32.2.1.length:Int))),(91,(vI (k_59:Int))),(95,(vL Spot.enc s_32.1)),(96,(vI (s_32.1.length:Int))),(97,(vI (k_70:Int))),(111,(vB v_81))] [(n_7,some (.cells 8 [(vS c_4.Key),(vS c_4.Class),(vI c_4.Time.From),(vI c_4.Time.To),(vL eS c_4.Tags),(vI (w64 (c_4.Goal - n_6))),(vI c_4.Most),(vI c_4.Cents)])),(n_11,gF 5 Spot.enc (r_8.set (0 + (k_5).toNat) (⟨e_20.Key,e_20.Time,(w64 (e_17.Room - n_6)),e_20.Tags⟩:Spot))),(n_15,gF 8 Campaign.enc (r_12.set (0 + (i_3).toNat) (⟨e_23.Key,e_23.Class,e_23.Time,e_23.Tags,0,e_23.Most,e_23.Cents⟩:Campaign))),(n_69,some (.cells 8 (Campaign.v x_61))),(n_80,some (.cells 5 (Spot.v x_72)))] ?_ ?_
        ·refine wH_region (h_opz (vI (k_27:Int)) (h_opz (vI (k_70:Int)) ?_))
         obtain ⟨q_83,hz_84,h_82⟩:=bind_some h_82
         refine h_shr rfl rfl hz_84 wz (h_opz (vI (andI .i64 q_83 1)) (h_opz (vB ((andI .i64 q_83 1) == 0)) ?_))
         rcases cond_some h_82 with⟨hc_85,h_82⟩ | ⟨hc_85,h_82⟩
         ·refine h_movb rfl hc_85 wz (h_ldr 0 3 il ft sz61 ag61 rfl rfl (.d (.agg (Campaign.enc x_61))) rfl wa (h_ldr 0 4 il ft sz63 ag63 rfl rfl (.d (.agg (Spot.enc x_72))) rfl wa ?_))
          obtain ⟨r_86,hr_87,h_82⟩:=bind_some h_82
          refine h_call0 (ref_SuitsOf_ok hr_87) rfl hb30 rfl rfl rfl rfl wa (h_opz (vB r_86) (h_nil ?_))
          obtain rfl:=some_inj h_82
          exact cu
         ·refine h_movb rfl hc_85 wz (h_skipz (h_skipz (h_skipz (h_opz (vB false) (h_nil ?_)))))
          obtain rfl:=some_inj h_82
          exact cu
        ·rintro ⟨⟩ _ sl_ H_ hp_ hq_
         refine wH_at _ hp_ hq_ ?_
         obtain ⟨v_88,h_89,hc_76⟩:=bind_some hc_76
         refine wH_joinU [(4,(vI k_5)),(9,(.ref n_7 0 0)),(13,(vL Spot.enc s_32.1)),(14,(vL Campaign.enc s_32.2.1)),(15,(vI s_32.2.2)),(16,(vI (k_27:Int))),(17,(vI s_64)),(22,(.ref n_69 0 0)),(23,(vI v_88)),(50,(vI q_25)),(51,(vI (k_27:Int))),(89,(vL Campaign.enc s_32.2.1)),(90,(vI (s_32.2.1.length:Int))),(91,(vI (k_59:Int))),(95,(vL Spot.enc s_32.1)),(96,(vI (s_32.1.length:Int))),(97,(vI (k_70:Int)))] [(n_7,some (.cells 8 [(vS c_4.Key),(vS c_4.Class),(vI c_4.Time.From),(vI c_4.Time.To),(vL eS c_4.Tags),(vI (w64 (c_4.Goal - n_6))),(vI c_4.Most),(vI c_4.Cents)])),(n_11,gF 5 Spot.enc (r_8.set (0 + (k_5).toNat) (⟨e_20.Key,e_20.Time,(w64 (e_17.Room - n_6)),e_20.Tags⟩:Spot))),(n_15,gF 8 Campaign.enc (r_12.set (0 + (i_3).toNat) (⟨e_23.Key,e_23.Class,e_23.Time,e_23.Tags,0,e_23.Most,e_23.Cents⟩:Campaign))),(n_69,some (.cells 8 (Campaign.v x_61))),(n_80,some (.cells 5 (Spot.v x_72)))] ?_ ?_
         ·rcases cond_some h_89 with⟨hc_90,h_89⟩ | ⟨hc_90,h_89⟩
          ·refine wH_ift rfl hc_90 (wH_region (h_opz (vI s_75) (h_far pl61_5 rfl 6 rfl wz (h_ldr 0 3 il ft sz3 ag3 rfl rfl (vI x_61.Most) rfl wz (h_opz (vI (w64 (s_75 + x_61.Most))) (h_opz (vI (w64 (s_75 + x_61.Most))) (h_nil ?_)))))))
           obtain rfl:=some_inj h_89
           exact cu
          ·refine wH_iff rfl hc_90 (wH_skip ?_)
           obtain rfl:=some_inj h_89
           exact cu
         ·rintro ⟨⟩ _ sl_ H_ hp_ hq_
          refine wH_at _ hp_ hq_ (wH_region (h_opw (w64_next hD_73 hn_74) wz rfl (h_opz (vI ((k_70 + 1:Nat):Int)) (h_nil ?_))))
          obtain rfl:=some_inj hc_76
          exact loop_mk (k_70 + 1,l_71,v_88) ⟨hL_77,drop_next hD_73⟩ (Nat.lt_succ_self _) rfl (pre_r rfl)
      ·rintro s_75 ho_ sl_ H_ hp_ hq_
       subst ho_
       refine wH_at _ hp_ hq_ (wH_region (h_opz (vI s_64) (h_far pl61_4 rfl 5 rfl wz (h_ldr 0 3 il ft sz3 ag3 rfl rfl (vI x_61.Goal) rfl wz (h_opz (vI s_75) (h_minmax (vI (minI x_61.Goal s_75)) rfl (.inl rfl) wz (h_opz (vI (w64 (s_64 + (minI x_61.Goal s_75)))) (h_opz (vI (w64 (s_64 + (minI x_61.Goal s_75)))) (h_nil (wH_region (h_opw (w64_next hD_62 hn_63) wz rfl (h_opz (vI ((k_59 + 1:Nat):Int)) (h_nil ?_)))))))))))))
       obtain rfl:=some_inj hc_65
       exact loop_mk (k_59 + 1,l_60,(w64 (s_64 + (minI x_61.Goal s_75)))) ⟨hL_66,drop_next hD_62⟩ (Nat.lt_succ_self _) rfl (pre_r rfl)
    ·rintro s_64 ho_ sl_ H_ hp_ hq_
     subst ho_
     refine wH_at _ hp_ hq_ (wH_seq ?_)
     obtain ⟨v_91,h_92,hc_33⟩:=bind_some hc_33
     refine wH_joinU [(4,(vI k_5)),(9,(.ref n_7 0 0)),(13,(vL Spot.enc s_32.1)),(14,(vL Campaign.enc s_32.2.1)),(15,(vI s_32.2.2)),(17,(vI s_64)),(50,(vI q_25)),(51,(vI (k_27:Int))),(130,(vB v_91))] [(n_7,some (.cells 8 [(vS c_4.Key),(vS c_4.Class),(vI c_4.Time.From),(vI c_4.Time.To),(vL eS c_4.Tags),(vI (w64 (c_4.Goal - n_6))),(vI c_4.Most),(vI c_4.Cents)])),(n_11,gF 5 Spot.enc (r_8.set (0 + (k_5).toNat) (⟨e_20.Key,e_20.Time,(w64 (e_17.Room - n_6)),e_20.Tags⟩:Spot))),(n_15,gF 8 Campaign.enc (r_12.set (0 + (i_3).toNat) (⟨e_23.Key,e_23.Class,e_23.Time,e_23.Tags,0,e_23.Most,e_23.Cents⟩:Campaign)))] ?_ ?_
     ·refine wH_region (h_opz (vI s_32.2.2) (h_opz (vB (decide (s_32.2.2 < 0))) ?_))
      rcases cond_some h_92 with⟨hc_93,h_92⟩ | ⟨hc_93,h_92⟩
      ·refine h_movb rfl hc_93 wz (h_skipz (h_skipz (h_skipz (h_opz (vB true) (h_nil ?_)))))
       obtain rfl:=some_inj h_92
       exact cu
      ·refine h_movb rfl hc_93 wz (h_op (vI s_64) wa rfl (h_op (vI s_32.2.2) wa rfl (h_op (vB (decide (s_64 < s_32.2.2))) wa rfl (h_opz (vB (decide (s_64 < s_32.2.2))) (h_nil ?_)))))
       obtain rfl:=some_inj h_92
       exact cu
     ·rintro ⟨⟩ _ sl_ H_ hp_ hq_
      refine wH_at _ hp_ hq_ ?_
      obtain ⟨v_94,h_95,hc_33⟩:=bind_some hc_33
      refine wH_joinU [(4,(vI k_5)),(9,(.ref n_7 0 0)),(13,(vL Spot.enc s_32.1)),(14,(vL Campaign.enc s_32.2.1)),(15,(vI v_94)),(50,(vI q_25)),(51,(vI (k_27:Int)))] [(n_7,some (.cells 8 [(vS c_4.Key),(vS c_4.Class),(vI c_4.Time.From),(vI c_4.Time.To),(vL eS c_4.Tags),(vI (w64 (c_4.Goal - n_6))),(vI c_4.Most),(vI c_4.Cents)])),(n_11,gF 5 Spot.enc (r_8.set (0 + (k_5).toNat) (⟨e_20.Key,e_20.Time,(w64 (e_17.Room - n_6)),e_20.Tags⟩:Spot))),(n_15,gF 8 Campaign.enc (r_12.set (0 + (i_3).toNat) (⟨e_23.Key,e_23.Class,e_23.Time,e_23.Tags,0,e_23.Most,e_23.Cents⟩:Campaign)))] ?_ ?_
      ·rcases cond_some h_95 with⟨hc_96,h_95⟩ | ⟨hc_96,h_95⟩
       ·refine wH_ift rfl hc_96 (wH_region (h_opz (vI s_64) (h_opz (vI s_64) (h_nil ?_))))
        obtain rfl:=some_inj h_95
        exact cu
       ·refine wH_iff rfl hc_96 (wH_skip ?_)
        obtain rfl:=some_inj h_95
        exact cu
      ·rintro ⟨⟩ _ sl_ H_ hp_ hq_
       refine wH_at _ hp_ hq_ (wH_region (h_opw (w64_nextr hD_30 hn_31) wz rfl (h_opz (vI ((k_27 + 1:Nat):Int)) (h_nil ?_))))
       obtain rfl:=some_inj hc_33
       exact loop_mk (k_27 + 1,l_28,(s_32.1,s_32.2.1,v_94)) ⟨hL_34,drop_next hD_30⟩ (Nat.lt_succ_self _) rfl (pre_r rfl)
 ·rintro s_32 ho_ sl_ H_ hp_ hq_
  subst ho_
  refine wH_at _ hp_ hq_ (wH_seq (wH_draws (h_opz (vI s_32.2.2) (h_opz (vL Campaign.enc s_32.2.1) ?_))))
  obtain ⟨r_97,hr_98,hF⟩:=bind_some hF
  refine h_call0 (ref_goals_ok hr_98) rfl hb48 rfl rfl rfl rfl wz (h_far pl61_4 rfl 5 rfl wz (h_ldr 4 0 (.inr (by kernel_rfl)) (fun _ _ ag=>trivial) sz3 ag3 rfl rfl (vI (w64 (c_4.Goal - n_6))) rfl wz (h_opz (vI (w64 (r_97 + (w64 (c_4.Goal - n_6))))) (h_opz (vB (s_32.2.2 == (w64 (r_97 + (w64 (c_4.Goal - n_6)))))) (h_opz (vB (s_32.2.2 == (w64 (r_97 + (w64 (c_4.Goal - n_6)))))) (h_nil ?_))))))
  obtain rfl:=some_inj hF
  exact wH_ret (fin0r [(vB (s_32.2.2 == (w64 (r_97 + (w64 (c_4.Goal - n_6))))))] ⟨rfl,trivial⟩)
theorem ref_DealOf_ok {spots_1:(List Spot)} {l_2:(List Campaign)} {r:(List Share)×Bool} (hF:ref_DealOf spots_1 l_2=some r) :
  FnM Try.prog 9 [(vL Spot.enc spots_1),(vL Campaign.enc l_2)] [] (.tup [(vL Share.enc r.1),(vB r.2)]) []:=by
 refine FnM.of_wH ⟨Try.prog,99,[],[]⟩ rfl Try.func9 rfl rfl (Nat.le_of_ble_eq_true rfl) (by kernel_rfl) ?_
 unfold ref_DealOf at hF
 refine wH_sr (h_opz .nil (h_opz (vB false) (h_nil (wH_seq (wH_sr (h_opz (vL Spot.enc spots_1) (h_opz (vL Campaign.enc l_2) ?_)))))))
 obtain ⟨r_3,hr_4,hF⟩:=bind_some hF
 refine h_call0 (ref_CanOf_ok hr_4) rfl hb27 rfl rfl rfl rfl wz (h_opz (vB (!r_3)) (h_nil ?_))
 rcases cond_some hF with⟨hc_5,hF⟩ | ⟨hc_5,hF⟩
 ·refine wH_ift rfl hc_5 (wH_sr (h_opz .nil (h_opz (vB false) (h_nil ?_))))
  obtain rfl:=some_inj hF
  exact wH_ret (fin0r [.nil,(vB false)] ⟨rfl,⟨rfl,trivial⟩⟩)
 ·refine wH_iff rfl hc_5 (wH_skip (wH_sr (h_opz (vL Spot.enc spots_1) ?_)))
  obtain ⟨r_6,hr_7,hF⟩:=bind_some hF
  refine h_callg [] (slices_Clone_api_Spot_api_Spot_okb hr_7) rfl hb28 rfl (by kernel_rfl) (by kernel_rfl) (by kernel_rfl) (by kernel_rfl) (by kernel_rfl) rfl (by decide) (by kernel_rfl) wz ([]:Hp) (fun _=>by kernel_rfl) (fun n_9=>h_opz (vL Campaign.enc l_2) ?_)
  obtain ⟨r_10,hr_11,hF⟩:=bind_some hF
  refine h_callg [] (slices_Clone_api_Campaign_api_Campaign_okb hr_11) rfl hb29 rfl (by kernel_rfl) (by kernel_rfl) (by kernel_rfl) (by kernel_rfl) (by kernel_rfl) rfl (by decide) (by kernel_rfl) wz ([(n_9,gB 5 Spot.enc r_6)]:Hp) (fun _=>by kernel_rfl) (fun n_13=>h_opz (gV n_9 5 r_6) (h_opz (gV n_13 8 r_10) (h_nil (wH_sr (h_opz .nil (h_nil (wH_seq (wH_sr (h_opz (gV n_13 8 r_10) (h_leng un27 rfl wz (h_opz (vI 0) (h_nil (wH_new (fun n_20 => ?_))))))))))))))
  obtain ⟨o_25,hj_26,hF⟩:=bind_some hF
  obtain ⟨hn_18,hj_26⟩:=forL_some hj_26
  refine wH_loopF (σ:=(List Spot)×(List Campaign)×(List Share)) (N:=Nm) (fun p=>(fun (s_19:(List Spot)×(List Campaign)×(List Share)) (n_22:Nm)=>([(6,(gV n_22 3 s_19.2.2))]:List (Nat×V))) p.1 p.2) (fun p=>(fun (s_19:(List Spot)×(List Campaign)×(List Share)) (n_22:Nm)=>([(n_9,gB 5 Spot.enc s_19.1),(n_13,gB 8 Campaign.enc s_19.2.1),(n_22,gB 3 Share.enc s_19.2.2)]:Hp)) p.1 p.2) (fun (k_14:Nat)=>(fun p=>(fun (s_19:(List Spot)×(List Campaign)×(List Share)) (n_22:Nm)=>([(0,(gV n_9 5 s_19.1)),(1,(gV n_13 8 s_19.2.1)),(6,(gV n_22 3 s_19.2.2)),(20,(vI (r_10.length:Int))),(21,(vI (k_14:Int)))]:List (Nat×V))) p.1 p.2)) (fun k x s=>ref_DealOf_L3 k x s) o_25 (List.range ((r_10.length:Int)).toNat) ((r_6,r_10,([]:List Share)),n_20) hj_26 rfl (pre_r rfl) ?_ ?_
  ·rintro ⟨k_14,l_15,s_19,n_22⟩ ⟨hL_24,hD_17⟩
   dsimp only at hL_24 hD_17
   cases l_15 with
   | nil =>
    obtain rfl:=some_inj hL_24
    refine wH_sr (h_opz (vB (decide ((k_14:Int) < (r_10.length:Int)))) (h_nil ?_))
    refine wH_seq (wH_iff rfl (range_nil hD_17) (wH_exit ?_))
    exact cut_mk (s_19,n_22) rfl rfl (pre_r rfl)
   | cons x_16 l_15 =>
    obtain ⟨c_,hc_23,hL_24⟩:=bind_some hL_24
    refine wH_sr (h_opz (vB (decide ((k_14:Int) < (r_10.length:Int)))) (h_nil ?_))
    refine wH_seq (wH_ift rfl (range_cons hD_17) (wH_skip ?_))
    unfold ref_DealOf_L3 at hc_23
    refine wH_seq (wH_block (wH_sr (h_opz (vI (k_14:Int)) (h_opz (vI (k_14:Int)) (h_nil (wH_sr (h_opz (gV n_13 8 s_19.2.1) (h_opz (vI (k_14:Int)) ?_))))))))
    obtain ⟨_,hi_27,hc_23⟩:=bind_some hc_23
    refine h_iavg es27 rfl rfl (inR_0 hi_27) (inR_lt hi_27) wz ?_
    obtain ⟨e_28,hy_29,hc_23⟩:=bind_some hc_23
    refine h_ldvg 0 1 il ft sz61 ag61 rfl rfl hy_29 (.d (.agg (Campaign.enc e_28))) rfl wz (h_alloc 0 (.inl rfl) z61 rfl wz (fun n_30=>h_str 0 il ft 3 sz61 rfl rfl (Campaign.v e_28) rfl wz (h_nil (wH_seq (wH_sr (h_opz (gV n_9 5 s_19.1) (h_leng un26 rfl wz (h_opz (vI 0) (h_nil ?_)))))))))
    obtain ⟨o_41,hj_42,hc_23⟩:=bind_some hc_23
    obtain ⟨hn_35,hj_42⟩:=forL_some hj_42
    refine wH_loopF (σ:=(List Spot)×(List Share)×Int) (N:=Nm) (fun p=>(fun (s_36:(List Spot)×(List Share)×Int) (n_38:Nm)=>([(0,(gV n_9 5 s_36.1)),(1,(gV n_13 8 s_19.2.1)),(6,(gV n_38 3 s_36.2.1)),(7,(vI (k_14:Int))),(20,(vI (r_10.length:Int))),(21,(vI (k_14:Int)))]:List (Nat×V))) p.1 p.2) (fun p=>(fun (s_36:(List Spot)×(List Share)×Int) (n_38:Nm)=>([(n_9,gB 5 Spot.enc s_36.1),(n_13,gB 8 Campaign.enc s_19.2.1),(n_38,gB 3 Share.enc s_36.2.1),(n_30,some (.cells 8 [(vS e_28.Key),(vS e_28.Class),(vI e_28.Time.From),(vI e_28.Time.To),(vL eS e_28.Tags),(vI s_36.2.2),(vI e_28.Most),(vI e_28.Cents)]))]:Hp)) p.1 p.2) (fun (k_31:Nat)=>(fun p=>(fun (s_36:(List Spot)×(List Share)×Int) (n_38:Nm)=>([(0,(gV n_9 5 s_36.1)),(1,(gV n_13 8 s_19.2.1)),(6,(gV n_38 3 s_36.2.1)),(7,(vI (k_14:Int))),(8,(.ref n_30 0 0)),(20,(vI (r_10.length:Int))),(21,(vI (k_14:Int))),(29,(vI (s_19.1.length:Int))),(30,(vI (k_31:Int)))]:List (Nat×V))) p.1 p.2)) (fun k x s=>ref_DealOf_L2 e_28 s_19 k_14 k x s) o_41 (List.range ((s_19.1.length:Int)).toNat) ((s_19.1,s_19.2.2,e_28.Goal),n_22) hj_42 rfl (pre_r rfl) ?_ ?_
    ·rintro ⟨k_31,l_32,s_36,n_38⟩ ⟨hL_40,hD_34⟩
     dsimp only at hL_40 hD_34
     cases l_32 with
     | nil =>
      obtain rfl:=some_inj hL_40
      refine wH_sr (h_opz (vB (decide ((k_31:Int) < (s_19.1.length:Int)))) (h_nil ?_))
      refine wH_seq (wH_iff rfl (range_nil hD_34) (wH_exit ?_))
      exact cut_mk (s_36,n_38) rfl rfl (pre_r rfl)
     | cons x_33 l_32 =>
      obtain ⟨c_,hc_39,hL_40⟩:=bind_some hL_40
      refine wH_sr (h_opz (vB (decide ((k_31:Int) < (s_19.1.length:Int)))) (h_nil ?_))
      refine wH_seq (wH_ift rfl (range_cons hD_34) (wH_skip ?_))
      unfold ref_DealOf_L2 at hc_39
      refine wH_seq (wH_block (wH_sr (h_opz (vI (k_31:Int)) (h_opz (vI (k_31:Int)) (h_nil (wH_seq (wH_seq (wH_draws (h_ldr 0 3 (.inr (by kernel_rfl)) (fun _ _ ag=>trivial) sz61 ag61 rfl rfl (.d (.agg (Campaign.enc (⟨e_28.Key,e_28.Class,e_28.Time,e_28.Tags,s_36.2.2,e_28.Most,e_28.Cents⟩:Campaign)))) rfl wz (h_opz (gV n_9 5 s_36.1) (h_opz (vI (k_31:Int)) ?_)))))))))))
      obtain ⟨_,hi_43,hc_39⟩:=bind_some hc_39
      refine h_iavg es26 rfl rfl (inR_0 hi_43) (inR_lt hi_43) wz ?_
      obtain ⟨e_44,hy_45,hc_39⟩:=bind_some hc_39
      refine h_ldvg 4 0 (.inr (by kernel_rfl)) (fun _ _ ag=>⟨.inl ⟨rfl,rfl⟩,trivial⟩) sz63 ag63 rfl rfl hy_45 (.d (.agg (Spot.enc e_44))) rfl wz ?_
      obtain ⟨r_46,hr_47,hc_39⟩:=bind_some hc_39
      refine h_call0 (ref_SuitsOf_ok hr_47) rfl hb30 rfl rfl rfl rfl wz (h_opz (vB (!r_46)) (h_nil ?_))
      rcases cond_some hc_39 with⟨hc_48,hc_39⟩ | ⟨hc_48,hc_39⟩
      ·refine wH_ift rfl hc_48 (wH_exit (wH_region (h_opw (w64_nextr hD_34 hn_35) wz rfl (h_opz (vI ((k_31 + 1:Nat):Int)) (h_nil ?_)))))
       obtain rfl:=some_inj hc_39
       exact loop_mk (k_31 + 1,l_32,(s_36.1,s_36.2.1,s_36.2.2),n_38) ⟨hL_40,drop_next hD_34⟩ (Nat.lt_succ_self _) rfl (pre_r rfl)
      ·refine wH_iff rfl hc_48 (wH_skip (wH_seq (wH_draws (h_far pl61_4 rfl 5 rfl wz (h_ldr 1 3 (.inr (by kernel_rfl)) (fun _ _ ag=>trivial) sz3 ag3 rfl rfl (vI s_36.2.2) rfl wz (h_far pl61_5 rfl 6 rfl wz (h_ldr 3 3 (.inr (by kernel_rfl)) (fun _ _ ag=>⟨.inl ⟨rfl,rfl⟩,trivial⟩) sz3 ag3 rfl rfl (vI e_28.Most) rfl wz (h_opz (gV n_9 5 s_36.1) (h_opz (vI (k_31:Int)) ?_)))))))))
       obtain ⟨_,hi_49,hc_39⟩:=bind_some hc_39
       refine h_iavg es26 rfl rfl (inR_0 hi_49) (inR_lt hi_49) wz (h_far pl63_2 rfl 3 rfl wz ?_)
       obtain ⟨e_50,hy_51,hc_39⟩:=bind_some hc_39
       refine h_ldvg 8 0 (.inr (by kernel_rfl)) (fun _ _ ag=>⟨.inl ⟨rfl,rfl⟩,⟨.inl ⟨rfl,rfl⟩,trivial⟩⟩) sz3 ag3 rfl rfl hy_51 (vI e_50.Room) rfl wz (h_minmax (vI (minI (minI s_36.2.2 e_28.Most) e_50.Room)) rfl (.inl rfl) wz (h_opz (vI (minI (minI s_36.2.2 e_28.Most) e_50.Room)) (h_nil (wH_seq ?_))))
       obtain ⟨o_60,hj_61,hc_39⟩:=bind_some hc_39
       obtain ⟨nq_84,hj_61⟩:=loopO_iter hj_61
       refine wH_loopI0 (fun (s_57:Int) => [(0,(gV n_9 5 s_36.1)),(1,(gV n_13 8 s_19.2.1)),(6,(gV n_38 3 s_36.2.1)),(7,(vI (k_14:Int))),(8,(.ref n_30 0 0)),(9,(vI (k_31:Int))),(10,(vI s_57)),(20,(vI (r_10.length:Int))),(21,(vI (k_14:Int))),(29,(vI (s_19.1.length:Int))),(30,(vI (k_31:Int)))]) (fun (s_57:Int) => [(n_9,gB 5 Spot.enc s_36.1),(n_13,gB 8 Campaign.enc s_19.2.1),(n_38,gB 3 Share.enc s_36.2.1),(n_30,some (.cells 8 [(vS e_28.Key),(vS e_28.Class),(vI e_28.Time.From),(vI e_28.Time.To),(vL eS e_28.Tags),(vI s_36.2.2),(vI e_28.Most),(vI e_28.Cents)]))]) (fun (k_52:Nat)=>(fun (s_57:Int) => [(0,(gV n_9 5 s_36.1)),(1,(gV n_13 8 s_19.2.1)),(6,(gV n_38 3 s_36.2.1)),(7,(vI (k_14:Int))),(8,(.ref n_30 0 0)),(9,(vI (k_31:Int))),(10,(vI s_57)),(20,(vI (r_10.length:Int))),(21,(vI (k_14:Int))),(29,(vI (s_19.1.length:Int))),(30,(vI (k_31:Int)))])) (fun s=>ref_DealOf_L1 s_36 s_19 k_14 e_28 k_31 s) o_60 nq_84 (minI (minI s_36.2.2 e_28.Most) e_50.Room) hj_61 rfl (pre_r rfl) ?_ ?_
       ·rintro ⟨k_52,s_57⟩ hL_59
        dsimp only at hL_59
        cases k_52 with
        | zero=>cases hL_59
        | succ k_52 =>
         obtain ⟨c_,hc_58,hL_59⟩:=bind_some hL_59
         unfold ref_DealOf_L1 at hc_58
         refine wH_seq (wH_seq ?_)
         obtain ⟨v_62,h_63,hc_58⟩:=bind_some hc_58
         refine wH_joinU [(0,(gV n_9 5 s_36.1)),(1,(gV n_13 8 s_19.2.1)),(6,(gV n_38 3 s_36.2.1)),(7,(vI (k_14:Int))),(8,(.ref n_30 0 0)),(9,(vI (k_31:Int))),(10,(vI s_57)),(20,(vI (r_10.length:Int))),(21,(vI (k_14:Int))),(29,(vI (s_19.1.length:Int))),(30,(vI (k_31:Int))),(61,(vB v_62))] [(n_9,gB 5 Spot.enc s_36.1),(n_13,gB 8 Campaign.enc s_19.2.1),(n_38,gB 3 Share.enc s_36.2.1),(n_30,some (.cells 8 [(vS e_28.Key),(vS e_28.Class),(vI e_28.Time.From),(vI e_28.Time.To),(vL eS e_28.Tags),(vI s_36.2.2),(vI e_28.Most),(vI e_28.Cents)]))] ?_ ?_
         ·refine wH_region (h_opz (vI s_57) (h_opz (vB (decide (s_57 > 0))) ?_))
          rcases cond_some h_63 with⟨hc_64,h_63⟩ | ⟨hc_64,h_63⟩
          ·refine h_movb rfl hc_64 wz (h_op (gV n_9 5 s_36.1) wa rfl (h_op (gV n_13 8 s_19.2.1) wa rfl (h_op (vI (k_14:Int)) wa rfl (h_ldr 0 3 il ft sz61 ag61 rfl rfl (.d (.agg (Campaign.enc (⟨e_28.Key,e_28.Class,e_28.Time,e_28.Tags,s_36.2.2,e_28.Most,e_28.Cents⟩:Campaign)))) rfl wa (h_op (vI (k_31:Int)) wa rfl (h_op (vI s_57) wa rfl ?_))))))
           obtain ⟨r_65,hr_66,h_63⟩:=bind_some h_63
           refine h_callv2 (bs := []) (os := []) 0 [] 0 1 0 1 il ft (FnM.unfz2 (args := [(dV (exA s_36.1 0) 5 s_36.1),(dV (exB s_36.1 0) 8 s_19.2.1),(vI (k_14:Int)),(.d (.agg (Campaign.enc (⟨e_28.Key,e_28.Class,e_28.Time,e_28.Tags,s_36.2.2,e_28.Most,e_28.Cents⟩:Campaign)))),(vI (k_31:Int)),(vI s_57)]) (po:=0) (po2:=1) (enc:=Spot.enc) (enc2:=Campaign.enc) (ref_canStill_ok hr_66) rfl rfl (by decide) rfl) rfl hb31 rfl rfl rfl rfl (by kernel_rfl) rfl (.inl rfl) rfl rfl (.inl rfl) rfl (by decide) (by kernel_rfl) (by kernel_rfl) (by kernel_rfl) (by kernel_rfl) rfl (by decide) (by kernel_rfl) gB_ok (gB_ho rfl) gB_ok (gB_ho rfl) wa ([(n_9,gB 5 Spot.enc s_36.1),(n_13,gB 8 Campaign.enc s_19.2.1),(n_38,gB 3 Share.enc s_36.2.1),(n_30,some (.cells 8 [(vS e_28.Key),(vS e_28.Class),(vI e_28.Time.From),(vI e_28.Time.To),(vL eS e_28.Tags),(vI s_36.2.2),(vI e_28.Most),(vI e_28.Cents)]))]:Hp) (by kernel_rfl) (h_op (vB (!r_65)) wa rfl (h_opz (vB (!r_65)) (h_nil ?_)))
           obtain rfl:=some_inj h_63
           exact cu
          ·refine h_movb rfl hc_64 wz (h_skipz (h_skipz (h_skipz (h_skipz (h_skipz (h_skipz (h_skipz (h_skipz (h_opz (vB false) (h_nil ?_))))))))))
           obtain rfl:=some_inj h_63
           exact cu
         ·rintro ⟨⟩ _ sl_ H_ hp_ hq_
          refine wH_at _ hp_ hq_ ?_
          rcases cond_some hc_58 with⟨hc_67,hc_58⟩ | ⟨hc_67,hc_58⟩
          ·refine wH_ift rfl hc_67 (wH_skip (wH_block (wH_region (h_opz (vI s_57) (h_opz (vI (w64 (s_57 - 1))) (h_opz (vI (w64 (s_57 - 1))) (h_nil ?_)))))))
           obtain rfl:=some_inj hc_58
           exact loop_mk (k_52,(w64 (s_57 - 1))) hL_59 (Nat.lt_succ_self _) rfl (pre_r rfl)
          ·refine wH_iff rfl hc_67 (wH_exit ?_)
           obtain rfl:=some_inj hc_58
           obtain rfl:=some_inj hL_59
           exact cut_mk (s_57) rfl rfl (pre_r rfl)
       ·rintro s_57 ho_ sl_ H_ hp_ hq_
        subst ho_
        refine wH_at _ hp_ hq_ (wH_seq (wH_sr (h_opz (vI s_57) (h_opz (vB (decide (s_57 > 0))) (h_nil ?_)))))
        obtain ⟨v_68,h_69,hc_39⟩:=bind_some hc_39
        refine wH_join (β:=Nm) (fun (n_70:Nm)=>([(0,(gV n_9 5 s_36.1)),(1,(gV n_13 8 s_19.2.1)),(6,(gV n_70 3 v_68)),(7,(vI (k_14:Int))),(8,(.ref n_30 0 0)),(9,(vI (k_31:Int))),(10,(vI s_57)),(20,(vI (r_10.length:Int))),(21,(vI (k_14:Int))),(29,(vI (s_19.1.length:Int))),(30,(vI (k_31:Int)))]:List (Nat×V))) (fun (n_70:Nm)=>([(n_9,gB 5 Spot.enc s_36.1),(n_13,gB 8 Campaign.enc s_19.2.1),(n_70,gB 3 Share.enc v_68),(n_30,some (.cells 8 [(vS e_28.Key),(vS e_28.Class),(vI e_28.Time.From),(vI e_28.Time.To),(vL eS e_28.Tags),(vI s_36.2.2),(vI e_28.Most),(vI e_28.Cents)]))]:Hp)) (fun _=>True) ?_ ?_
        ·rcases cond_some h_69 with⟨hc_71,h_69⟩ | ⟨hc_71,h_69⟩
         ·refine wH_ift rfl hc_71 (wH_draws (h_opz (gV n_38 3 s_36.2.1) (h_far pl61_0 rfl 0 rfl wz (h_ldr 2 3 (.inr (by kernel_rfl)) (fun _ _ ag=>trivial) sz9 ag9 rfl rfl (vS e_28.Key) rfl wz (h_opz (gV n_9 5 s_36.1) (h_opz (vI (k_31:Int)) ?_))))))
          obtain ⟨_,hi_72,h_69⟩:=bind_some h_69
          refine h_iavg es26 rfl rfl (inR_0 hi_72) (inR_lt hi_72) wz (h_far pl63_0 rfl 0 rfl wz ?_)
          obtain ⟨e_73,hy_74,h_69⟩:=bind_some h_69
          refine h_ldvg 7 0 (.inr (by kernel_rfl)) (fun _ _ ag=>⟨.inl ⟨rfl,rfl⟩,trivial⟩) sz9 ag9 rfl rfl hy_74 (vS e_73.Key) rfl wz (h_opz (vI s_57) (h_op (.d (.agg (Share.enc (⟨e_28.Key,e_73.Key,s_57⟩:Share)))) wz (by kernel_rfl) (h_lit (([(⟨e_28.Key,e_73.Key,s_57⟩:Share)]:List Share).map Share.enc) es35 ez35 rfl rfl rfl rfl rfl wz ?_)))
          obtain ⟨a_75,hz_76,h_69⟩:=bind_some h_69
          refine h_appg 11 (.inr (by kernel_rfl)) (fun _ _ ag=>⟨.inr (.inr (by kernel_rfl)),⟨.inr (.inr (by kernel_rfl)),trivial⟩⟩) (i:=2) el35 el35 sz45 z45 rfl (by decide) by45 (by decide) (fun _=>rfl) rfl rfl rfl hz_76 wz (fun n_77=>h_opz (gV n_77 3 a_75) (h_nil ?_))
          obtain rfl:=some_inj h_69
          exact cut_mk n_77 trivial rfl (pre_r rfl)
         ·refine wH_iff rfl hc_71 (wH_skip ?_)
          obtain rfl:=some_inj h_69
          exact cut_mk n_38 trivial rfl (pre_r rfl)
        ·rintro n_70 _ sl_ H_ hp_ hq_
         refine wH_at _ hp_ hq_ (wH_sr (h_far pl61_4 rfl 5 rfl wz (h_ldr 0 3 il ft sz3 ag3 rfl rfl (vI s_36.2.2) rfl wz (h_opz (vI s_57) (h_opz (vI (w64 (s_36.2.2 - s_57))) (h_far pl61_4 rfl 5 rfl wz (h_str 0 il ft 3 sz3 rfl rfl [(vS e_28.Key),(vS e_28.Class),(vI e_28.Time.From),(vI e_28.Time.To),(vL eS e_28.Tags),(vI (w64 (s_36.2.2 - s_57))),(vI e_28.Most),(vI e_28.Cents)] rfl wz (h_nil (wH_region (h_opz (gV n_9 5 s_36.1) (h_opz (vI (k_31:Int)) ?_)))))))))))
         obtain ⟨_,hi_78,hc_39⟩:=bind_some hc_39
         refine h_iavg es26 rfl rfl (inR_0 hi_78) (inR_lt hi_78) wz (h_far pl63_2 rfl 3 rfl wz ?_)
         obtain ⟨e_79,hy_80,hc_39⟩:=bind_some hc_39
         refine h_ldvg 0 0 il ft sz3 ag3 rfl rfl hy_80 (vI e_79.Room) rfl wz (h_opz (vI s_57) (h_opz (vI (w64 (e_79.Room - s_57))) ?_))
         obtain ⟨_,hi_81,hc_39⟩:=bind_some hc_39
         refine h_iavg es26 rfl rfl (inR_0 hi_81) (inR_lt hi_81) wz (h_far pl63_2 rfl 3 rfl wz ?_)
         obtain ⟨e_82,hy_83,hc_39⟩:=bind_some hc_39
         refine h_stvg 0 il ft 0 sz3 rfl rfl hy_83 (⟨e_82.Key,e_82.Time,(w64 (e_79.Room - s_57)),e_82.Tags⟩:Spot) rfl wz (h_re (v':=(gV n_9 5 (s_36.1.set (0 + ((k_31:Int)).toNat) (⟨e_82.Key,e_82.Time,(w64 (e_79.Room - s_57)),e_82.Tags⟩:Spot)))) 0 rfl (gV_len (by simp)) (h_re (v':=(gV n_9 5 (s_36.1.set (0 + ((k_31:Int)).toNat) (⟨e_82.Key,e_82.Time,(w64 (e_79.Room - s_57)),e_82.Tags⟩:Spot)))) 83 rfl (gV_len (by simp)) (h_nil (wH_region (h_opw (w64_nextr hD_34 hn_35) wz rfl (h_opz (vI ((k_31 + 1:Nat):Int)) (h_nil ?_)))))))
         obtain rfl:=some_inj hc_39
         exact loop_mk (k_31 + 1,l_32,((s_36.1.set (0 + ((k_31:Int)).toNat) (⟨e_82.Key,e_82.Time,(w64 (e_79.Room - s_57)),e_82.Tags⟩:Spot)),v_68,(w64 (s_36.2.2 - s_57))),n_70) ⟨hL_40,drop_next hD_34⟩ (Nat.lt_succ_self _) rfl (pre_r rfl)
    ·rintro ⟨s_36,n_38⟩ ho_ sl_ H_ hp_ hq_
     subst ho_
     refine wH_at _ hp_ hq_ (wH_region (h_opz (gV n_13 8 s_19.2.1) (h_opz (vI (k_14:Int)) ?_)))
     obtain ⟨_,hi_85,hc_23⟩:=bind_some hc_23
     refine h_iavg es27 rfl rfl (inR_0 hi_85) (inR_lt hi_85) wz (h_far pl61_4 rfl 5 rfl wz ?_)
     obtain ⟨e_86,hy_87,hc_23⟩:=bind_some hc_23
     refine h_stvg 0 il ft 1 sz3 rfl rfl hy_87 (⟨e_86.Key,e_86.Class,e_86.Time,e_86.Tags,0,e_86.Most,e_86.Cents⟩:Campaign) rfl wz (h_re (v':=(gV n_13 8 (s_19.2.1.set (0 + ((k_14:Int)).toNat) (⟨e_86.Key,e_86.Class,e_86.Time,e_86.Tags,0,e_86.Most,e_86.Cents⟩:Campaign)))) 1 rfl (gV_len (by simp)) (h_re (v':=(gV n_13 8 (s_19.2.1.set (0 + ((k_14:Int)).toNat) (⟨e_86.Key,e_86.Class,e_86.Time,e_86.Tags,0,e_86.Most,e_86.Cents⟩:Campaign)))) 93 rfl (gV_len (by simp)) (h_nil (wH_region (h_opw (w64_nextr hD_17 hn_18) wz rfl (h_opz (vI ((k_14 + 1:Nat):Int)) (h_nil ?_)))))))
     obtain rfl:=some_inj hc_23
     exact loop_mk (k_14 + 1,l_15,(s_36.1,(s_19.2.1.set (0 + ((k_14:Int)).toNat) (⟨e_86.Key,e_86.Class,e_86.Time,e_86.Tags,0,e_86.Most,e_86.Cents⟩:Campaign)),s_36.2.1),n_38) ⟨hL_24,drop_next hD_17⟩ (Nat.lt_succ_self _) rfl (pre_r rfl)
  ·rintro ⟨s_19,n_22⟩ ho_ sl_ H_ hp_ hq_
   subst ho_
   refine wH_at _ hp_ hq_ (wH_sr (h_opz (gV n_22 3 s_19.2.2) (h_opz (gV n_22 3 s_19.2.2) (h_opz (vB true) (h_nil (wH_frozg 2 rfl (wH_cog 4 2 rfl rfl (wH_cog 6 2 rfl rfl (wH_cog 98 2 rfl rfl ?_)))))))))
   obtain rfl:=some_inj hF
   exact wH_ret (fin0r [(vL Share.enc s_19.2.2),(vB true)] ⟨rfl,⟨rfl,trivial⟩⟩)
theorem ref_MostOf_ok {spots_1:(List Spot)} {l_2:(List Campaign)} {r:Int} (hF:ref_MostOf spots_1 l_2=some r) :
  FnM Try.prog 10 [(vL Spot.enc spots_1),(vL Campaign.enc l_2)] [] (vI r) []:=by
 refine FnM.of_wH ⟨Try.prog,8,[],[]⟩ rfl Try.func10 rfl rfl (Nat.le_of_ble_eq_true rfl) (by kernel_rfl) ?_
 unfold ref_MostOf at hF
 refine wH_sr (h_opz (vI 0) (h_nil (wH_sr (h_opz (vL Spot.enc spots_1) (h_opz (vL Campaign.enc l_2) ?_)))))
 obtain ⟨r_3,hr_4,hF⟩:=bind_some hF
 refine h_call0 (ref_greatest_ok hr_4) rfl hb32 rfl rfl rfl rfl wz (h_opz (vI r_3) (h_nil ?_))
 obtain rfl:=some_inj hF
 exact wH_ret (fin0r [(vI r_3)] ⟨rfl,trivial⟩)
theorem law_when_ok {is_1:Bool} {e_2:Int} {r:Int} (hF:law_when is_1 e_2=some r) :
  FnM Try.prog 11 [(vB is_1),(vI e_2)] [] (vI r) []:=by
 refine FnM.of_wH ⟨Try.prog,7,[],[]⟩ rfl Try.func11 rfl rfl (Nat.le_of_ble_eq_true rfl) (by kernel_rfl) ?_
 unfold law_when at hF
 refine wH_sr (h_opz (vI 0) (h_nil (wH_seq (wH_sr (h_opz (vB is_1) (h_nil ?_))))))
 rcases cond_some hF with⟨hc_3,hF⟩ | ⟨hc_3,hF⟩
 ·refine wH_ift rfl hc_3 (wH_sr (h_opz (vI e_2) (h_opz (vI e_2) (h_nil ?_))))
  obtain rfl:=some_inj hF
  exact wH_ret (fin0r [(vI e_2)] ⟨rfl,trivial⟩)
 ·refine wH_iff rfl hc_3 (wH_skip (wH_sr (h_opz (vI 0) (h_nil ?_))))
  obtain rfl:=some_inj hF
  exact wH_ret (fin0r [(vI 0)] ⟨rfl,trivial⟩)
theorem slices_Equal_api_Share_api_Share_ok {s1_1:(List Share)} {s2_2:(List Share)} {r:Bool} (hF:slices_Equal_api_Share_api_Share s1_1 s2_2=some r) :
  FnM Try.prog 12 [(vL Share.enc s1_1),(vL Share.enc s2_2)] [] (vB r) []:=by
 refine FnM.of_wH ⟨Try.prog,26,[],[]⟩ rfl Try.func12 rfl rfl (Nat.le_of_ble_eq_true rfl) (by kernel_rfl) ?_
 unfold slices_Equal_api_Share_api_Share at hF
 refine wH_sr (h_opz (vB false) (h_nil (wH_seq (wH_sr (h_opz (vL Share.enc s1_1) (h_len un35 rfl wz (h_opz (vL Share.enc s2_2) (h_len un35 rfl wz (h_opz (vB ((s1_1.length:Int) != (s2_2.length:Int))) (h_nil ?_))))))))))
 rcases cond_some hF with⟨hc_3,hF⟩ | ⟨hc_3,hF⟩
 ·refine wH_ift rfl hc_3 (wH_sr (h_opz (vB false) (h_nil ?_)))
  obtain rfl:=some_inj hF
  exact wH_ret (fin0r [(vB false)] ⟨rfl,trivial⟩)
 ·refine wH_iff rfl hc_3 (wH_skip (wH_seq (wH_sr (h_opz (vL Share.enc s1_1) (h_len un35 rfl wz (h_opz (vI 0) (h_nil ?_)))))))
  obtain ⟨o_12,hj_13,hF⟩:=bind_some hF
  obtain ⟨hn_8,hj_13⟩:=forL_some hj_13
  refine wH_loopF0 (fun (s_9:Unit) => []) (fun (s_9:Unit) => []) (fun (k_4:Nat)=>(fun (s_9:Unit) => [(0,(vL Share.enc s1_1)),(1,(vL Share.enc s2_2)),(12,(vI (s1_1.length:Int))),(13,(vI (k_4:Int)))])) (fun k x s=>slices_Equal_api_Share_api_Share_L1 s2_2 k x s) o_12 s1_1 () hj_13 rfl (pre_r rfl) ?_ ?_
  ·rintro ⟨k_4,l_5,s_9⟩ ⟨hL_11,hD_7⟩
   dsimp only at hL_11 hD_7
   cases l_5 with
   | nil =>
    obtain rfl:=some_inj hL_11
    refine wH_sr (h_opz (vB (decide ((k_4:Int) < (s1_1.length:Int)))) (h_nil ?_))
    refine wH_seq (wH_iff rfl (drop_nil hD_7) (wH_exit ?_))
    exact cut_mk (s_9) rfl rfl (pre_r rfl)
   | cons x_6 l_5 =>
    obtain ⟨c_,hc_10,hL_11⟩:=bind_some hL_11
    refine wH_sr (h_opz (vB (decide ((k_4:Int) < (s1_1.length:Int)))) (h_nil ?_))
    refine wH_seq (wH_ift rfl (drop_cons hD_7) (wH_skip ?_))
    unfold slices_Equal_api_Share_api_Share_L1 at hc_10
    refine wH_seq (wH_block (wH_sr (h_opz (vI (k_4:Int)) (h_opz (vI (k_4:Int)) (h_nil (wH_seq (wH_draws (h_opz (vL Share.enc s1_1) (h_opz (vI (k_4:Int)) (h_ia es35 rfl rfl (drop_idx hD_7) rfl wz (h_ldc sz45 ag45 rfl (.d (.agg (Share.enc x_6))) rfl wz (h_opz (vL Share.enc s2_2) (h_opz (vI (k_4:Int)) ?_)))))))))))))
    obtain ⟨y_14,hy_15,hc_10⟩:=bind_some hc_10
    refine h_ia es35 rfl rfl hy_15 rfl wz (h_ldc sz45 ag45 rfl (.d (.agg (Share.enc y_14))) rfl wz (h_op (vB (!((x_6.Campaign.toList == y_14.Campaign.toList) && ((x_6.Spot.toList == y_14.Spot.toList) && ((x_6.Many == y_14.Many) && true))))) wz (by kernel_rfl) (h_nil ?_)))
    rcases cond_some hc_10 with⟨hc_16,hc_10⟩ | ⟨hc_16,hc_10⟩
    ·refine wH_ift rfl hc_16 (wH_sr (h_opz (vB false) (h_nil ?_)))
     obtain rfl:=some_inj hc_10
     obtain rfl:=some_inj hL_11
     obtain rfl:=some_inj hF
     exact wH_ret (fin0r [(vB false)] ⟨rfl,trivial⟩)
    ·refine wH_iff rfl hc_16 (wH_skip (wH_region (h_opw (w64_next hD_7 hn_8) wz rfl (h_opz (vI ((k_4 + 1:Nat):Int)) (h_nil ?_)))))
     obtain rfl:=some_inj hc_10
     exact loop_mk (k_4 + 1,l_5,()) ⟨hL_11,drop_next hD_7⟩ (Nat.lt_succ_self _) rfl (pre_r rfl)
  ·rintro s_9 ho_ sl_ H_ hp_ hq_
   subst ho_
   refine wH_at _ hp_ hq_ (wH_sr (h_opz (vB true) (h_nil ?_)))
   obtain rfl:=some_inj hF
   exact wH_ret (fin0r [(vB true)] ⟨rfl,trivial⟩)
theorem law_DealsMade_ok {l_1:(List Int)} {r:Bool} (hF:law_DealsMade l_1=some r) :
  FnM Try.prog 3 [(vL eI l_1)] [] (vB r) []:=by
 refine FnM.of_wH ⟨Try.prog,112,[],[]⟩ rfl Try.func3 rfl rfl (Nat.le_of_ble_eq_true rfl) (by kernel_rfl) ?_
 unfold law_DealsMade at hF
 refine wH_sr (h_opz (vB false) (h_nil (wH_sr (h_opz (vL eI l_1) (h_op (.d (.agg (Stream.enc (⟨l_1,0⟩:Stream)))) wz (by kernel_rfl) (h_box 0 (.inl rfl) [(vL eI l_1),(vI 0)] rfl rfl wz (fun n_2=>h_opz (.ref n_2 0 0) (h_nil (wH_sr (h_opz (.ref n_2 0 0) ?_))))))))))
 obtain ⟨r_3,hr_4,hF⟩:=bind_some hF
 refine h_callq 0 [0] il ft (law_office_ok hr_4) rfl hb4 rfl (by kernel_rfl) (by kernel_rfl) (by kernel_rfl) (by kernel_rfl) (by kernel_rfl) (by kernel_rfl) (by kernel_rfl) (by decide) (by kernel_rfl) wz (.tup [(vL Spot.enc r_3.1),(vL Campaign.enc r_3.2.1),(vI r_3.2.2.1)]) (by kernel_rfl) ([(n_2,some (.cells 2 [(vL eI r_3.2.2.2.L),(vI r_3.2.2.2.f_at)]))]:Hp) (by kernel_rfl) (h_opz (.tup [(vL Spot.enc r_3.1),(vL Campaign.enc r_3.2.1),(vI r_3.2.2.1)]) (h_opz (vL Spot.enc r_3.1) (h_opz (vL Campaign.enc r_3.2.1) (h_opz (vI r_3.2.2.1) (h_opz (vL Spot.enc r_3.1) (h_opz (vL Campaign.enc r_3.2.1) (h_opz (vI r_3.2.2.1) (h_nil (wH_sr (h_opz (vL Spot.enc r_3.1) (h_opz (vL Campaign.enc r_3.2.1) ?_)))))))))))
 obtain ⟨r_6,hr_7,hF⟩:=bind_some hF
 refine h_call0 (booking_Most_ok hr_7) rfl hb5 rfl rfl rfl rfl wz (h_opz (.tup [(vI r_6.1),(vI r_6.2)]) (h_opz (vI r_6.1) (h_opz (vI r_6.2) (h_opz (vI r_6.1) (h_opz (vI r_6.2) (h_nil (wH_sr (h_opz (vL Spot.enc r_3.1) (h_opz (vL Campaign.enc r_3.2.1) ?_)))))))))
 obtain ⟨r_8,hr_9,hF⟩:=bind_some hF
 refine h_call0 (booking_Can_ok hr_9) rfl hb6 rfl rfl rfl rfl wz (h_opz (.tup [(vB r_8.1),(vI r_8.2)]) (h_opz (vB r_8.1) (h_opz (vI r_8.2) (h_opz (vB r_8.1) (h_opz (vI r_8.2) (h_nil (wH_at (H0:=([(n_2,some (.cells 2 [(vL eI r_3.2.2.2.L),(vI r_3.2.2.2.f_at)]))]:Hp)) ([(4,(vL Spot.enc r_3.1)),(5,(vL Campaign.enc r_3.2.1)),(6,(vI r_3.2.2.1)),(7,(vI r_6.1)),(8,(vI r_6.2)),(9,(vB r_8.1)),(10,(vI r_8.2))]:List (Nat×V)) (by kernel_rfl) (pre_mk (by kernel_rfl)) (wH_sr (h_opz (vL Spot.enc r_3.1) (h_opz (vL Campaign.enc r_3.2.1) ?_))))))))))
 obtain ⟨r_10,hr_11,hF⟩:=bind_some hF
 refine h_call0 (booking_Deal_ok hr_11) rfl hb7 rfl rfl rfl rfl wz (h_opz (.tup [(vL Share.enc r_10.1),(vI r_10.2)]) (h_opz (vL Share.enc r_10.1) (h_opz (vI r_10.2) (h_opz (vL Share.enc r_10.1) (h_opz (vI r_10.2) (h_nil (wH_seq (wH_sr (h_opz (vI r_3.2.2.1) (h_opz (vB (r_3.2.2.1 != 0)) (h_nil ?_)))))))))))
 rcases cond_some hF with⟨hc_12,hF⟩ | ⟨hc_12,hF⟩
 ·refine wH_ift rfl hc_12 (wH_seq ?_)
  obtain ⟨v_13,h_14,hF⟩:=bind_some hF
  refine wH_joinU [(2,(vB v_13))] [(n_2,some (.cells 2 [(vL eI r_3.2.2.2.L),(vI r_3.2.2.2.f_at)]))] ?_ ?_
  ·refine wH_region (h_opz (vI r_6.2) (h_opz (vI r_3.2.2.1) (h_opz (vB (r_6.2 == r_3.2.2.1)) ?_)))
   rcases cond_some h_14 with⟨hc_15,h_14⟩ | ⟨hc_15,h_14⟩
   ·refine h_movb rfl hc_15 wz (h_op (vI r_8.2) wa rfl (h_op (vI r_3.2.2.1) wa rfl (h_op (vB (r_8.2 == r_3.2.2.1)) wa rfl (h_opz (vB (r_8.2 == r_3.2.2.1)) ?_))))
    rcases cond_some h_14 with⟨hc_16,h_14⟩ | ⟨hc_16,h_14⟩
    ·refine h_movb rfl hc_16 wz (h_op (vI r_10.2) wa rfl (h_op (vI r_3.2.2.1) wa rfl (h_op (vB (r_10.2 == r_3.2.2.1)) wa rfl (h_opz (vB (r_10.2 == r_3.2.2.1)) ?_))))
     rcases cond_some h_14 with⟨hc_17,h_14⟩ | ⟨hc_17,h_14⟩
     ·refine h_movb rfl hc_17 wz (h_op (vI r_6.1) wa rfl (h_op (vB (r_6.1 == 0)) wa rfl (h_opz (vB (r_6.1 == 0)) ?_)))
      rcases cond_some h_14 with⟨hc_18,h_14⟩ | ⟨hc_18,h_14⟩
      ·refine h_movb rfl hc_18 wz (h_op (vB r_8.1) wa rfl (h_op (vB (!r_8.1)) wa rfl (h_opz (vB (!r_8.1)) ?_)))
       rcases cond_some h_14 with⟨hc_19,h_14⟩ | ⟨hc_19,h_14⟩
       ·refine h_movb rfl hc_19 wz (h_op (vL Share.enc r_10.1) wa rfl (h_len un35 rfl wa (h_op (vB ((r_10.1.length:Int) == 0)) wa rfl (h_opz (vB ((r_10.1.length:Int) == 0)) ?_))))
        rcases cond_some h_14 with⟨hc_20,h_14⟩ | ⟨hc_20,h_14⟩
        ·refine h_movb rfl hc_20 wz ?_
         obtain ⟨r_21,hr_22,h_14⟩:=bind_some h_14
         refine h_call0 (law_booked_ok hr_22) rfl hb8 rfl rfl rfl rfl wa (h_opz (vB r_21) (h_opz (vB r_21) (h_nil ?_)))
         obtain rfl:=some_inj h_14
         exact cu
        ·refine h_movb rfl hc_20 wz (h_skipz (h_opz (vB false) (h_opz (vB false) (h_nil ?_))))
         obtain rfl:=some_inj h_14
         exact cu
       ·refine h_movb rfl hc_19 wz (h_skipz (h_skipz (h_skipz (h_opz (vB false) (h_opz (vB false) (h_skipz (h_opz (vB false) (h_opz (vB false) (h_nil ?_)))))))))
        obtain rfl:=some_inj h_14
        exact cu
      ·refine h_movb rfl hc_18 wz (h_skipz (h_skipz (h_opz (vB false) (h_opz (vB false) (h_skipz (h_skipz (h_skipz (h_opz (vB false) (h_opz (vB false) (h_skipz (h_opz (vB false) (h_opz (vB false) (h_nil ?_)))))))))))))
       obtain rfl:=some_inj h_14
       exact cu
     ·refine h_movb rfl hc_17 wz (h_skipz (h_skipz (h_opz (vB false) (h_opz (vB false) (h_skipz (h_skipz (h_opz (vB false) (h_opz (vB false) (h_skipz (h_skipz (h_skipz (h_opz (vB false) (h_opz (vB false) (h_skipz (h_opz (vB false) (h_opz (vB false) (h_nil ?_)))))))))))))))))
      obtain rfl:=some_inj h_14
      exact cu
    ·refine h_movb rfl hc_16 wz (h_skipz (h_skipz (h_skipz (h_opz (vB false) (h_opz (vB false) (h_skipz (h_skipz (h_opz (vB false) (h_opz (vB false) (h_skipz (h_skipz (h_opz (vB false) (h_opz (vB false) (h_skipz (h_skipz (h_skipz (h_opz (vB false) (h_opz (vB false) (h_skipz (h_opz (vB false) (h_opz (vB false) (h_nil ?_))))))))))))))))))))))
     obtain rfl:=some_inj h_14
     exact cu
   ·refine h_movb rfl hc_15 wz (h_skipz (h_skipz (h_skipz (h_opz (vB false) (h_opz (vB false) (h_skipz (h_skipz (h_skipz (h_opz (vB false) (h_opz (vB false) (h_skipz (h_skipz (h_opz (vB false) (h_opz (vB false) (h_skipz (h_skipz (h_opz (vB false) (h_opz (vB false) (h_skipz (h_skipz (h_skipz (h_opz (vB false) (h_opz (vB false) ?_)))))))))))))))))))))))
    refine h_skipz (h_opz (vB false) (h_opz (vB false) (h_nil ?_)))
    obtain rfl:=some_inj h_14
    exact cu
  ·rintro ⟨⟩ _ sl_ H_ hp_ hq_
   refine wH_at _ hp_ hq_ ?_
   obtain rfl:=some_inj hF
   exact wH_ret (fin0r [(vB v_13)] ⟨rfl,trivial⟩)
 ·refine wH_iff rfl hc_12 (wH_skip (wH_sr (h_opz (vL Spot.enc r_3.1) (h_opz (vL Campaign.enc r_3.2.1) ?_))))
  obtain ⟨r_23,hr_24,hF⟩:=bind_some hF
  refine h_call0 (ref_DealOf_ok hr_24) rfl hb9 rfl rfl rfl rfl wz (h_opz (.tup [(vL Share.enc r_23.1),(vB r_23.2)]) (h_opz (vL Share.enc r_23.1) (h_opz (vB r_23.2) (h_opz (vL Share.enc r_23.1) (h_opz (vB r_23.2) (h_nil (wH_seq ?_)))))))
  obtain ⟨v_25,h_26,hF⟩:=bind_some hF
  refine wH_joinU [(2,(vB v_25))] [(n_2,some (.cells 2 [(vL eI r_3.2.2.2.L),(vI r_3.2.2.2.f_at)]))] ?_ ?_
  ·refine wH_region (h_opz (vI r_6.2) (h_opz (vB (r_6.2 == 0)) ?_))
   rcases cond_some h_26 with⟨hc_27,h_26⟩ | ⟨hc_27,h_26⟩
   ·refine h_movb rfl hc_27 wz (h_op (vI r_8.2) wa rfl (h_op (vB (r_8.2 == 0)) wa rfl (h_opz (vB (r_8.2 == 0)) ?_)))
    rcases cond_some h_26 with⟨hc_28,h_26⟩ | ⟨hc_28,h_26⟩
    ·refine h_movb rfl hc_28 wz (h_op (vI r_6.1) wa rfl (h_op (vL Spot.enc r_3.1) wa rfl (h_op (vL Campaign.enc r_3.2.1) wa rfl ?_)))
     obtain ⟨r_29,hr_30,h_26⟩:=bind_some h_26
     refine h_call0 (ref_MostOf_ok hr_30) rfl hb10 rfl rfl rfl rfl wa (h_op (vB (r_6.1 == r_29)) wa rfl (h_opz (vB (r_6.1 == r_29)) ?_))
     rcases cond_some h_26 with⟨hc_31,h_26⟩ | ⟨hc_31,h_26⟩
     ·refine h_movb rfl hc_31 wz (h_op (vB r_8.1) wa rfl (h_op (vB r_23.2) wa rfl (h_beql un4 rfl rfl wa (h_opz (vB (r_8.1 == r_23.2)) ?_))))
      rcases cond_some h_26 with⟨hc_32,h_26⟩ | ⟨hc_32,h_26⟩
      ·refine h_movb rfl hc_32 wz (h_op (vI r_10.2) wa rfl (h_op (vB r_23.2) wa rfl (h_op (vB (!r_23.2)) wa rfl ?_)))
       obtain ⟨r_33,hr_34,h_26⟩:=bind_some h_26
       refine h_call0 (law_when_ok hr_34) rfl hb11 rfl rfl rfl rfl wa (h_op (vB (r_10.2 == r_33)) wa rfl (h_opz (vB (r_10.2 == r_33)) ?_))
       rcases cond_some h_26 with⟨hc_35,h_26⟩ | ⟨hc_35,h_26⟩
       ·refine h_movb rfl hc_35 wz (h_op (vL Share.enc r_10.1) wa rfl (h_op (vL Share.enc r_23.1) wa rfl ?_))
        obtain ⟨r_36,hr_37,h_26⟩:=bind_some h_26
        refine h_call0 (slices_Equal_api_Share_api_Share_ok hr_37) rfl hb12 rfl rfl rfl rfl wa (h_opz (vB r_36) ?_)
        rcases cond_some h_26 with⟨hc_38,h_26⟩ | ⟨hc_38,h_26⟩
        ·refine h_movb rfl hc_38 wz ?_
         obtain ⟨r_39,hr_40,h_26⟩:=bind_some h_26
         refine h_call0 (law_booked_ok hr_40) rfl hb8 rfl rfl rfl rfl wa (h_opz (vB r_39) (h_opz (vB r_39) (h_nil ?_)))
         obtain rfl:=some_inj h_26
         exact cu
        ·refine h_movb rfl hc_38 wz (h_skipz (h_opz (vB false) (h_opz (vB false) (h_nil ?_))))
         obtain rfl:=some_inj h_26
         exact cu
       ·refine h_movb rfl hc_35 wz (h_skipz (h_skipz (h_skipz (h_opz (vB false) (h_opz (vB false) (h_skipz (h_opz (vB false) (h_opz (vB false) (h_nil ?_)))))))))
        obtain rfl:=some_inj h_26
        exact cu
      ·refine h_movb rfl hc_32 wz (h_skipz (h_skipz (h_skipz (h_skipz (h_skipz (h_opz (vB false) (h_opz (vB false) (h_skipz (h_skipz (h_skipz (h_opz (vB false) (h_opz (vB false) (h_skipz (h_opz (vB false) (h_opz (vB false) (h_nil ?_))))))))))))))))
       obtain rfl:=some_inj h_26
       exact cu
     ·refine h_movb rfl hc_31 wz (h_skipz (h_skipz (h_skipz (h_opz (vB false) (h_opz (vB false) (h_skipz (h_skipz (h_skipz (h_skipz (h_skipz (h_opz (vB false) (h_opz (vB false) (h_skipz (h_skipz (h_skipz (h_opz (vB false) (h_opz (vB false) (h_skipz (h_opz (vB false) (h_opz (vB false) (h_nil ?_)))))))))))))))))))))
      obtain rfl:=some_inj h_26
      exact cu
    ·refine h_movb rfl hc_28 wz (h_skipz (h_skipz (h_skipz (h_skipz (h_skipz (h_opz (vB false) (h_opz (vB false) (h_skipz (h_skipz (h_skipz (h_opz (vB false) (h_opz (vB false) (h_skipz (h_skipz (h_skipz (h_skipz (h_skipz (h_opz (vB false) (h_opz (vB false) (h_skipz (h_skipz (h_skipz (h_opz (vB false) ?_)))))))))))))))))))))))
     refine h_opz (vB false) (h_skipz (h_opz (vB false) (h_opz (vB false) (h_nil ?_))))
     obtain rfl:=some_inj h_26
     exact cu
   ·refine h_movb rfl hc_27 wz (h_skipz (h_skipz (h_opz (vB false) (h_opz (vB false) (h_skipz (h_skipz (h_skipz (h_skipz (h_skipz (h_opz (vB false) (h_opz (vB false) (h_skipz (h_skipz (h_skipz (h_opz (vB false) (h_opz (vB false) (h_skipz (h_skipz (h_skipz (h_skipz (h_skipz (h_opz (vB false) (h_opz (vB false) ?_)))))))))))))))))))))))
    refine h_skipz (h_skipz (h_skipz (h_opz (vB false) (h_opz (vB false) (h_skipz (h_opz (vB false) (h_opz (vB false) (h_nil ?_))))))))
    obtain rfl:=some_inj h_26
    exact cu
  ·rintro ⟨⟩ _ sl_ H_ hp_ hq_
   refine wH_at _ hp_ hq_ ?_
   obtain rfl:=some_inj hF
   exact wH_ret (fin0r [(vB v_25)] ⟨rfl,trivial⟩)
end Go.Proofs.Ytipjpkpmkijdoaa.Law

