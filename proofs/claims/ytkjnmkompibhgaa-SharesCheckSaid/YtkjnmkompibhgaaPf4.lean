/-
  The machine computes these plain functions (written by a program of ours).
-/
import Derived.Test.YtkjnmkompibhgaaFacts
import Derived.Test.YtkjnmkompibhgaaDefs
import Derived.Test.YtkjnmkompibhgaaPf3
open Go Go.Eng Go.Proofs
namespace Go.Proofs.Ytkjnmkompibhgaa.Law
set_option maxRecDepth 100000
set_option linter.unusedVariables false
set_option maxHeartbeats 1000000
theorem slices_BinarySearchFunc_api_Campaign_api_Campaign_string_ok {x_1 : (List Campaign)} {target_2 : ByteArray} {cmp_3 : Campaign → ByteArray → Option Int} {r : Int × Bool} {gid : FuncId} {caps : List V} {Sin : List Box} (hfn : ∀ x0 x1 r, cmp_3 x0 x1 = some r → FnM Try.prog gid ([(.d (.agg (Campaign.enc x0))), (vS x1)] ++ caps) Sin (vI r) (Sin.map some)) (hbF : hasBody Try.prog gid = true) (hcapF : caps.flatMap frz = [] ∧ caps.map co0 = caps) (hokF : okL Sin.length caps = true) (hsF : ∀ b ∈ Sin, b.ok Sin.length = true) (hmF : ∀ b ∈ Sin, b.mut = true) (hF : slices_BinarySearchFunc_api_Campaign_api_Campaign_string x_1 target_2 cmp_3 = some r) :
    FnM Try.prog 102 [(vL Campaign.enc x_1), (vS target_2), (.fn gid caps)] Sin (.tup [(vI r.1), (vB r.2)]) (Sin.map some) := by
  refine FnM.of_wH ⟨Try.prog, 49, [], []⟩ rfl Try.func102 rfl rfl (Nat.le_of_ble_eq_true rfl) (by kernel_rfl) ?_
  unfold slices_BinarySearchFunc_api_Campaign_api_Campaign_string at hF
  refine wH_seq ?_
  refine wH_region ?_
  refine h_op (vI 0) (wt rfl) rfl ?_
  refine h_op (vB false) (wt rfl) rfl ?_
  refine h_nil ?_
  refine wH_seq ?_
  refine wH_region ?_
  refine h_op (vL Campaign.enc x_1) (wt rfl) rfl ?_
  refine h_len un27 rfl (wt rfl) ?_
  refine h_op (vI (x_1.length : Int)) (wt rfl) rfl ?_
  refine h_nil ?_
  refine wH_seq ?_
  refine wH_region ?_
  refine h_op (vI (x_1.length : Int)) (wt rfl) rfl ?_
  refine h_op (vI 0) (wt rfl) rfl ?_
  refine h_op (vI (x_1.length : Int)) (wt rfl) rfl ?_
  refine h_nil ?_
  refine wH_seq ?_
  obtain ⟨o_12, hj_13, hF⟩ := bind_some hF
  obtain ⟨nq_29, hj_13⟩ := loopO_iter hj_13
  refine wH_join (β := (Int × Int)) (fun (s_9 : Int × Int) => ([(0, (vL Campaign.enc x_1)), (1, (vS target_2)), (2, (.fn gid caps)), (8, (vI (x_1.length : Int))), (9, (vI s_9.1))] : List (Nat × V))) (fun (s_9 : Int × Int) => (initH 0 Sin)) (fun p => o_12 = .go p) ?_ ?_
  · refine wH_block ?_
    refine wH_loop (β := Nat × (Int × Int)) (fun p => (fun (k_4 : Nat) (s_9 : Int × Int) => ([(0, (vL Campaign.enc x_1)), (1, (vS target_2)), (2, (.fn gid caps)), (8, (vI (x_1.length : Int))), (9, (vI s_9.1)), (10, (vI s_9.2))] : List (Nat × V))) p.1 p.2) (fun p => (fun (k_4 : Nat) (s_9 : Int × Int) => (initH 0 Sin)) p.1 p.2) (fun p => iterN (fun s => slices_BinarySearchFunc_api_Campaign_api_Campaign_string_L1 x_1 cmp_3 target_2 s) p.1 p.2 = some o_12) (fun p => p.1) (nq_29, (0, (x_1.length : Int))) hj_13 rfl (pre_self _) ?_
    rintro ⟨k_4, s_9⟩ hL_11
    dsimp only at hL_11
    cases k_4 with
    | zero => cases hL_11
    | succ k_4 =>
      obtain ⟨c_, hc_10, hL_11⟩ := bind_some hL_11
      unfold slices_BinarySearchFunc_api_Campaign_api_Campaign_string_L1 at hc_10
      refine wH_seq ?_
      refine wH_seq ?_
      refine wH_region ?_
      refine h_op (vI s_9.1) (wt rfl) rfl ?_
      refine h_op (vI s_9.2) (wt rfl) rfl ?_
      refine h_op (vB (decide (s_9.1 < s_9.2))) (wt rfl) rfl ?_
      refine h_nil ?_
      rcases cond_some hc_10 with ⟨hc_14, hc_10⟩ | ⟨hc_14, hc_10⟩
      · refine wH_ift rfl hc_14 ?_
        refine wH_skip ?_
        refine wH_block ?_
        refine wH_seq ?_
        refine wH_region ?_
        refine h_op (vI s_9.1) (wt rfl) rfl ?_
        refine h_op (vI s_9.2) (wt rfl) rfl ?_
        refine h_op (vI (w64 (s_9.1 + s_9.2))) (wt rfl) rfl ?_
        refine h_conv un3 un128 rfl (wt rfl) ?_
        obtain ⟨q_15, hz_16, hc_10⟩ := bind_some hc_10
        refine h_shr rfl rfl hz_16 (wt rfl) ?_
        refine h_conv un128 un3 rfl (wt rfl) ?_
        refine h_op (vI (w64 q_15)) (wt rfl) rfl ?_
        refine h_nil ?_
        refine wH_seq ?_
        refine wH_region ?_
        refine h_op (.fn gid caps) (wt rfl) rfl ?_
        refine h_op (vL Campaign.enc x_1) (wt rfl) rfl ?_
        refine h_op (vI (w64 q_15)) (wt rfl) rfl ?_
        obtain ⟨y_17, hy_18, hc_10⟩ := bind_some hc_10
        refine h_ia es27 rfl rfl hy_18 rfl (wt rfl) ?_
        refine h_ldc sz37 ag37 rfl (.d (.agg (Campaign.enc y_17))) rfl (wt rfl) ?_
        refine h_op (vS target_2) (wt rfl) rfl ?_
        obtain ⟨r_19, hr_20, hc_10⟩ := bind_some hc_10
        refine h_callS (hfn _ _ _ hr_20) rfl hbF rfl rfl hcapF hokF hsF hmF rfl (wt rfl) rfl ?_
        refine h_op (vB (decide (r_19 < 0))) (wt rfl) rfl ?_
        refine h_nil ?_
        rcases cond_some hc_10 with ⟨hc_21, hc_10⟩ | ⟨hc_21, hc_10⟩
        · refine wH_ift rfl hc_21 ?_
          refine wH_region ?_
          refine h_op (vI (w64 q_15)) (wt rfl) rfl ?_
          refine h_op (vI (w64 ((w64 q_15) + 1))) (wt rfl) rfl ?_
          refine h_op (vI (w64 ((w64 q_15) + 1))) (wt rfl) rfl ?_
          refine h_nil ?_
          replace hc_10 := some_inj hc_10
          subst hc_10
          exact loop_mk (k_4, ((w64 ((w64 q_15) + 1)), s_9.2)) hL_11 (Nat.lt_succ_self _) rfl (pre_self _)
        · refine wH_iff rfl hc_21 ?_
          refine wH_region ?_
          refine h_op (vI (w64 q_15)) (wt rfl) rfl ?_
          refine h_op (vI (w64 q_15)) (wt rfl) rfl ?_
          refine h_nil ?_
          replace hc_10 := some_inj hc_10
          subst hc_10
          exact loop_mk (k_4, (s_9.1, (w64 q_15))) hL_11 (Nat.lt_succ_self _) rfl (pre_self _)
      · refine wH_iff rfl hc_14 ?_
        refine wH_exit ?_
        replace hc_10 := some_inj hc_10
        subst hc_10
        replace hL_11 := some_inj hL_11
        subst hL_11
        exact cut_mk ((s_9.1, s_9.2)) rfl rfl (pre_self _)
  · rintro s_9 ho_ sl_ H_ hp_ hq_
    subst ho_
    refine wH_at _ hp_ hq_ ?_
    refine wH_seq ?_
    obtain ⟨v_22, h_23, hF⟩ := bind_some hF
    refine wH_join (β := Unit) (fun _ => ([(6, (vI s_9.1)), (7, (vB v_22))] : List (Nat × V))) (fun _ => (initH 0 Sin)) (fun _ => True) ?_ ?_
    · refine wH_region ?_
      refine h_op (vI s_9.1) (wt rfl) rfl ?_
      refine h_op (vI s_9.1) (wt rfl) rfl ?_
      refine h_op (vI (x_1.length : Int)) (wt rfl) rfl ?_
      refine h_op (vB (decide (s_9.1 < (x_1.length : Int)))) (wt rfl) rfl ?_
      rcases cond_some h_23 with ⟨hc_24, h_23⟩ | ⟨hc_24, h_23⟩
      · refine h_movb rfl hc_24 (wt rfl) ?_
        refine h_op (.fn gid caps) (wg rfl rfl rfl) rfl ?_
        refine h_op (vL Campaign.enc x_1) (wg rfl rfl rfl) rfl ?_
        refine h_op (vI s_9.1) (wg rfl rfl rfl) rfl ?_
        obtain ⟨y_25, hy_26, h_23⟩ := bind_some h_23
        refine h_ia es27 rfl rfl hy_26 rfl (wg rfl rfl rfl) ?_
        refine h_ldc sz37 ag37 rfl (.d (.agg (Campaign.enc y_25))) rfl (wg rfl rfl rfl) ?_
        refine h_op (vS target_2) (wg rfl rfl rfl) rfl ?_
        obtain ⟨r_27, hr_28, h_23⟩ := bind_some h_23
        refine h_callS (hfn _ _ _ hr_28) rfl hbF rfl rfl hcapF hokF hsF hmF rfl (wg rfl rfl rfl) rfl ?_
        refine h_op (vB (r_27 == 0)) (wg rfl rfl rfl) rfl ?_
        refine h_op (vB (r_27 == 0)) (wt rfl) rfl ?_
        refine h_op (vI s_9.1) (wt rfl) rfl ?_
        refine h_op (vB (r_27 == 0)) (wt rfl) rfl ?_
        refine h_nil ?_
        replace h_23 := some_inj h_23
        subst h_23
        exact cut_mk () trivial rfl (pre_self _)
      · refine h_movb rfl hc_24 (wt rfl) ?_
        refine h_skip (wg rfl rfl rfl) ?_
        refine h_skip (wg rfl rfl rfl) ?_
        refine h_skip (wg rfl rfl rfl) ?_
        refine h_skip (wg rfl rfl rfl) ?_
        refine h_skip (wg rfl rfl rfl) ?_
        refine h_skip (wg rfl rfl rfl) ?_
        refine h_skip (wg rfl rfl rfl) ?_
        refine h_skip (wg rfl rfl rfl) ?_
        refine h_op (vB false) (wt rfl) rfl ?_
        refine h_op (vI s_9.1) (wt rfl) rfl ?_
        refine h_op (vB false) (wt rfl) rfl ?_
        refine h_nil ?_
        replace h_23 := some_inj h_23
        subst h_23
        exact cut_mk () trivial rfl (pre_self _)
    · rintro ⟨⟩ _ sl_ H_ hp_ hq_
      refine wH_at _ hp_ hq_ ?_
      replace hF := some_inj hF
      subst hF
      refine wH_ret ?_
      exact finS hsF (.inr rfl) [(vI s_9.1), (vB v_22)] ⟨rfl, ⟨rfl, trivial⟩⟩ rfl rfl rfl
theorem booking_campAt_ok {l_1 : (List Campaign)} {key_2 : ByteArray} {r : Int × Bool} (hF : booking_campAt l_1 key_2 = some r) :
    FnM Try.prog 94 [(vL Campaign.enc l_1), (vS key_2)] [] (.tup [(vI r.1), (vB r.2)]) [] := by
  refine FnM.of_wH ⟨Try.prog, 11, [], []⟩ rfl Try.func94 rfl rfl (Nat.le_of_ble_eq_true rfl) (by kernel_rfl) ?_
  unfold booking_campAt at hF
  refine wH_seq ?_
  refine wH_region ?_
  refine h_op (vI 0) (wt rfl) rfl ?_
  refine h_op (vB false) (wt rfl) rfl ?_
  refine h_nil ?_
  refine wH_seq ?_
  refine wH_region ?_
  refine h_op (vL Campaign.enc l_1) (wt rfl) rfl ?_
  refine h_op (vS key_2) (wt rfl) rfl ?_
  obtain ⟨r_3, hr_4, hF⟩ := bind_some hF
  refine h_call0 (slices_BinarySearchFunc_api_Campaign_api_Campaign_string_ok (gid := 103) (caps := []) (Sin := []) (fun _ _ _ h_ => booking_campAt_1_ok h_) hb103 ⟨rfl, rfl⟩ (by kernel_rfl) (all_ok (by kernel_rfl)) (all_mut (by kernel_rfl)) hr_4) rfl hb102 rfl rfl rfl rfl (wt rfl) ?_
  refine h_op (vI r_3.1) (wt rfl) rfl ?_
  refine h_op (vB r_3.2) (wt rfl) rfl ?_
  refine h_op (vI r_3.1) (wt rfl) rfl ?_
  refine h_op (vB r_3.2) (wt rfl) rfl ?_
  refine h_nil ?_
  replace hF := some_inj hF
  subst hF
  refine wH_ret ?_
  exact fin0 (.inr rfl) [(vI r_3.1), (vB r_3.2)] ⟨rfl, ⟨rfl, trivial⟩⟩ rfl rfl rfl
theorem booking_spotAt_1_ok {s_1 : Spot} {k_2 : ByteArray} {r : Int} (hF : booking_spotAt_1 s_1 k_2 = some r) :
    FnM Try.prog 106 [(.d (.agg (Spot.enc s_1))), (vS k_2)] [] (vI r) [] := by
  refine FnM.of_wH ⟨Try.prog, 9, [], []⟩ rfl Try.func106 rfl rfl (Nat.le_of_ble_eq_true rfl) (by kernel_rfl) ?_
  unfold booking_spotAt_1 at hF
  refine wH_seq ?_
  refine wH_region ?_
  refine h_box 0 (.inl rfl) [(vS s_1.Key), (vI s_1.Time.From), (vI s_1.Time.To), (vI s_1.Room), (vL eS s_1.Tags)] rfl rfl (wt rfl) (fun n_3 => ?_)
  refine h_op (vI 0) (wt rfl) rfl ?_
  refine h_nil ?_
  refine wH_seq ?_
  refine wH_region ?_
  refine h_far pl43_0 rfl 0 rfl (wt rfl) ?_
  refine h_ldr 0 0 (.inl rfl) (fun _ _ _ => trivial) sz9 ag9 rfl rfl (vS s_1.Key) rfl (wt rfl) ?_
  refine h_op (vS k_2) (wt rfl) rfl ?_
  obtain ⟨r_4, hr_5, hF⟩ := bind_some hF
  refine h_call0 (strings_Compare_ok hr_5) rfl hb104 rfl rfl rfl rfl (wt rfl) ?_
  refine h_op (vI r_4) (wt rfl) rfl ?_
  refine h_nil ?_
  replace hF := some_inj hF
  subst hF
  refine wH_ret ?_
  exact fin0 (.inr rfl) [(vI r_4)] ⟨rfl, trivial⟩ rfl rfl rfl
theorem slices_BinarySearchFunc_api_Spot_api_Spot_string_ok {x_1 : (List Spot)} {target_2 : ByteArray} {cmp_3 : Spot → ByteArray → Option Int} {r : Int × Bool} {gid : FuncId} {caps : List V} {Sin : List Box} (hfn : ∀ x0 x1 r, cmp_3 x0 x1 = some r → FnM Try.prog gid ([(.d (.agg (Spot.enc x0))), (vS x1)] ++ caps) Sin (vI r) (Sin.map some)) (hbF : hasBody Try.prog gid = true) (hcapF : caps.flatMap frz = [] ∧ caps.map co0 = caps) (hokF : okL Sin.length caps = true) (hsF : ∀ b ∈ Sin, b.ok Sin.length = true) (hmF : ∀ b ∈ Sin, b.mut = true) (hF : slices_BinarySearchFunc_api_Spot_api_Spot_string x_1 target_2 cmp_3 = some r) :
    FnM Try.prog 105 [(vL Spot.enc x_1), (vS target_2), (.fn gid caps)] Sin (.tup [(vI r.1), (vB r.2)]) (Sin.map some) := by
  refine FnM.of_wH ⟨Try.prog, 49, [], []⟩ rfl Try.func105 rfl rfl (Nat.le_of_ble_eq_true rfl) (by kernel_rfl) ?_
  unfold slices_BinarySearchFunc_api_Spot_api_Spot_string at hF
  refine wH_seq ?_
  refine wH_region ?_
  refine h_op (vI 0) (wt rfl) rfl ?_
  refine h_op (vB false) (wt rfl) rfl ?_
  refine h_nil ?_
  refine wH_seq ?_
  refine wH_region ?_
  refine h_op (vL Spot.enc x_1) (wt rfl) rfl ?_
  refine h_len un26 rfl (wt rfl) ?_
  refine h_op (vI (x_1.length : Int)) (wt rfl) rfl ?_
  refine h_nil ?_
  refine wH_seq ?_
  refine wH_region ?_
  refine h_op (vI (x_1.length : Int)) (wt rfl) rfl ?_
  refine h_op (vI 0) (wt rfl) rfl ?_
  refine h_op (vI (x_1.length : Int)) (wt rfl) rfl ?_
  refine h_nil ?_
  refine wH_seq ?_
  obtain ⟨o_12, hj_13, hF⟩ := bind_some hF
  obtain ⟨nq_29, hj_13⟩ := loopO_iter hj_13
  refine wH_join (β := (Int × Int)) (fun (s_9 : Int × Int) => ([(0, (vL Spot.enc x_1)), (1, (vS target_2)), (2, (.fn gid caps)), (8, (vI (x_1.length : Int))), (9, (vI s_9.1))] : List (Nat × V))) (fun (s_9 : Int × Int) => (initH 0 Sin)) (fun p => o_12 = .go p) ?_ ?_
  · refine wH_block ?_
    refine wH_loop (β := Nat × (Int × Int)) (fun p => (fun (k_4 : Nat) (s_9 : Int × Int) => ([(0, (vL Spot.enc x_1)), (1, (vS target_2)), (2, (.fn gid caps)), (8, (vI (x_1.length : Int))), (9, (vI s_9.1)), (10, (vI s_9.2))] : List (Nat × V))) p.1 p.2) (fun p => (fun (k_4 : Nat) (s_9 : Int × Int) => (initH 0 Sin)) p.1 p.2) (fun p => iterN (fun s => slices_BinarySearchFunc_api_Spot_api_Spot_string_L1 x_1 cmp_3 target_2 s) p.1 p.2 = some o_12) (fun p => p.1) (nq_29, (0, (x_1.length : Int))) hj_13 rfl (pre_self _) ?_
    rintro ⟨k_4, s_9⟩ hL_11
    dsimp only at hL_11
    cases k_4 with
    | zero => cases hL_11
    | succ k_4 =>
      obtain ⟨c_, hc_10, hL_11⟩ := bind_some hL_11
      unfold slices_BinarySearchFunc_api_Spot_api_Spot_string_L1 at hc_10
      refine wH_seq ?_
      refine wH_seq ?_
      refine wH_region ?_
      refine h_op (vI s_9.1) (wt rfl) rfl ?_
      refine h_op (vI s_9.2) (wt rfl) rfl ?_
      refine h_op (vB (decide (s_9.1 < s_9.2))) (wt rfl) rfl ?_
      refine h_nil ?_
      rcases cond_some hc_10 with ⟨hc_14, hc_10⟩ | ⟨hc_14, hc_10⟩
      · refine wH_ift rfl hc_14 ?_
        refine wH_skip ?_
        refine wH_block ?_
        refine wH_seq ?_
        refine wH_region ?_
        refine h_op (vI s_9.1) (wt rfl) rfl ?_
        refine h_op (vI s_9.2) (wt rfl) rfl ?_
        refine h_op (vI (w64 (s_9.1 + s_9.2))) (wt rfl) rfl ?_
        refine h_conv un3 un128 rfl (wt rfl) ?_
        obtain ⟨q_15, hz_16, hc_10⟩ := bind_some hc_10
        refine h_shr rfl rfl hz_16 (wt rfl) ?_
        refine h_conv un128 un3 rfl (wt rfl) ?_
        refine h_op (vI (w64 q_15)) (wt rfl) rfl ?_
        refine h_nil ?_
        refine wH_seq ?_
        refine wH_region ?_
        refine h_op (.fn gid caps) (wt rfl) rfl ?_
        refine h_op (vL Spot.enc x_1) (wt rfl) rfl ?_
        refine h_op (vI (w64 q_15)) (wt rfl) rfl ?_
        obtain ⟨y_17, hy_18, hc_10⟩ := bind_some hc_10
        refine h_ia es26 rfl rfl hy_18 rfl (wt rfl) ?_
        refine h_ldc sz43 ag43 rfl (.d (.agg (Spot.enc y_17))) rfl (wt rfl) ?_
        refine h_op (vS target_2) (wt rfl) rfl ?_
        obtain ⟨r_19, hr_20, hc_10⟩ := bind_some hc_10
        refine h_callS (hfn _ _ _ hr_20) rfl hbF rfl rfl hcapF hokF hsF hmF rfl (wt rfl) rfl ?_
        refine h_op (vB (decide (r_19 < 0))) (wt rfl) rfl ?_
        refine h_nil ?_
        rcases cond_some hc_10 with ⟨hc_21, hc_10⟩ | ⟨hc_21, hc_10⟩
        · refine wH_ift rfl hc_21 ?_
          refine wH_region ?_
          refine h_op (vI (w64 q_15)) (wt rfl) rfl ?_
          refine h_op (vI (w64 ((w64 q_15) + 1))) (wt rfl) rfl ?_
          refine h_op (vI (w64 ((w64 q_15) + 1))) (wt rfl) rfl ?_
          refine h_nil ?_
          replace hc_10 := some_inj hc_10
          subst hc_10
          exact loop_mk (k_4, ((w64 ((w64 q_15) + 1)), s_9.2)) hL_11 (Nat.lt_succ_self _) rfl (pre_self _)
        · refine wH_iff rfl hc_21 ?_
          refine wH_region ?_
          refine h_op (vI (w64 q_15)) (wt rfl) rfl ?_
          refine h_op (vI (w64 q_15)) (wt rfl) rfl ?_
          refine h_nil ?_
          replace hc_10 := some_inj hc_10
          subst hc_10
          exact loop_mk (k_4, (s_9.1, (w64 q_15))) hL_11 (Nat.lt_succ_self _) rfl (pre_self _)
      · refine wH_iff rfl hc_14 ?_
        refine wH_exit ?_
        replace hc_10 := some_inj hc_10
        subst hc_10
        replace hL_11 := some_inj hL_11
        subst hL_11
        exact cut_mk ((s_9.1, s_9.2)) rfl rfl (pre_self _)
  · rintro s_9 ho_ sl_ H_ hp_ hq_
    subst ho_
    refine wH_at _ hp_ hq_ ?_
    refine wH_seq ?_
    obtain ⟨v_22, h_23, hF⟩ := bind_some hF
    refine wH_join (β := Unit) (fun _ => ([(6, (vI s_9.1)), (7, (vB v_22))] : List (Nat × V))) (fun _ => (initH 0 Sin)) (fun _ => True) ?_ ?_
    · refine wH_region ?_
      refine h_op (vI s_9.1) (wt rfl) rfl ?_
      refine h_op (vI s_9.1) (wt rfl) rfl ?_
      refine h_op (vI (x_1.length : Int)) (wt rfl) rfl ?_
      refine h_op (vB (decide (s_9.1 < (x_1.length : Int)))) (wt rfl) rfl ?_
      rcases cond_some h_23 with ⟨hc_24, h_23⟩ | ⟨hc_24, h_23⟩
      · refine h_movb rfl hc_24 (wt rfl) ?_
        refine h_op (.fn gid caps) (wg rfl rfl rfl) rfl ?_
        refine h_op (vL Spot.enc x_1) (wg rfl rfl rfl) rfl ?_
        refine h_op (vI s_9.1) (wg rfl rfl rfl) rfl ?_
        obtain ⟨y_25, hy_26, h_23⟩ := bind_some h_23
        refine h_ia es26 rfl rfl hy_26 rfl (wg rfl rfl rfl) ?_
        refine h_ldc sz43 ag43 rfl (.d (.agg (Spot.enc y_25))) rfl (wg rfl rfl rfl) ?_
        refine h_op (vS target_2) (wg rfl rfl rfl) rfl ?_
        obtain ⟨r_27, hr_28, h_23⟩ := bind_some h_23
        refine h_callS (hfn _ _ _ hr_28) rfl hbF rfl rfl hcapF hokF hsF hmF rfl (wg rfl rfl rfl) rfl ?_
        refine h_op (vB (r_27 == 0)) (wg rfl rfl rfl) rfl ?_
        refine h_op (vB (r_27 == 0)) (wt rfl) rfl ?_
        refine h_op (vI s_9.1) (wt rfl) rfl ?_
        refine h_op (vB (r_27 == 0)) (wt rfl) rfl ?_
        refine h_nil ?_
        replace h_23 := some_inj h_23
        subst h_23
        exact cut_mk () trivial rfl (pre_self _)
      · refine h_movb rfl hc_24 (wt rfl) ?_
        refine h_skip (wg rfl rfl rfl) ?_
        refine h_skip (wg rfl rfl rfl) ?_
        refine h_skip (wg rfl rfl rfl) ?_
        refine h_skip (wg rfl rfl rfl) ?_
        refine h_skip (wg rfl rfl rfl) ?_
        refine h_skip (wg rfl rfl rfl) ?_
        refine h_skip (wg rfl rfl rfl) ?_
        refine h_skip (wg rfl rfl rfl) ?_
        refine h_op (vB false) (wt rfl) rfl ?_
        refine h_op (vI s_9.1) (wt rfl) rfl ?_
        refine h_op (vB false) (wt rfl) rfl ?_
        refine h_nil ?_
        replace h_23 := some_inj h_23
        subst h_23
        exact cut_mk () trivial rfl (pre_self _)
    · rintro ⟨⟩ _ sl_ H_ hp_ hq_
      refine wH_at _ hp_ hq_ ?_
      replace hF := some_inj hF
      subst hF
      refine wH_ret ?_
      exact finS hsF (.inr rfl) [(vI s_9.1), (vB v_22)] ⟨rfl, ⟨rfl, trivial⟩⟩ rfl rfl rfl
theorem booking_spotAt_ok {l_1 : (List Spot)} {key_2 : ByteArray} {r : Int × Bool} (hF : booking_spotAt l_1 key_2 = some r) :
    FnM Try.prog 95 [(vL Spot.enc l_1), (vS key_2)] [] (.tup [(vI r.1), (vB r.2)]) [] := by
  refine FnM.of_wH ⟨Try.prog, 11, [], []⟩ rfl Try.func95 rfl rfl (Nat.le_of_ble_eq_true rfl) (by kernel_rfl) ?_
  unfold booking_spotAt at hF
  refine wH_seq ?_
  refine wH_region ?_
  refine h_op (vI 0) (wt rfl) rfl ?_
  refine h_op (vB false) (wt rfl) rfl ?_
  refine h_nil ?_
  refine wH_seq ?_
  refine wH_region ?_
  refine h_op (vL Spot.enc l_1) (wt rfl) rfl ?_
  refine h_op (vS key_2) (wt rfl) rfl ?_
  obtain ⟨r_3, hr_4, hF⟩ := bind_some hF
  refine h_call0 (slices_BinarySearchFunc_api_Spot_api_Spot_string_ok (gid := 106) (caps := []) (Sin := []) (fun _ _ _ h_ => booking_spotAt_1_ok h_) hb106 ⟨rfl, rfl⟩ (by kernel_rfl) (all_ok (by kernel_rfl)) (all_mut (by kernel_rfl)) hr_4) rfl hb105 rfl rfl rfl rfl (wt rfl) ?_
  refine h_op (vI r_3.1) (wt rfl) rfl ?_
  refine h_op (vB r_3.2) (wt rfl) rfl ?_
  refine h_op (vI r_3.1) (wt rfl) rfl ?_
  refine h_op (vB r_3.2) (wt rfl) rfl ?_
  refine h_nil ?_
  replace hF := some_inj hF
  subst hF
  refine wH_ret ?_
  exact fin0 (.inr rfl) [(vI r_3.1), (vB r_3.2)] ⟨rfl, ⟨rfl, trivial⟩⟩ rfl rfl rfl
theorem booking_shareFault_ok {spots_1 : (List Spot)} {l_2 : (List Campaign)} {s_3 : (List Share)} {i_4 : Int} {r : Int} (hF : booking_shareFault spots_1 l_2 s_3 i_4 = some r) :
    FnM Try.prog 62 [(vL Spot.enc spots_1), (vL Campaign.enc l_2), (vL Share.enc s_3), (vI i_4)] [] (vI r) [] := by
  refine FnM.of_wH ⟨Try.prog, 95, [], []⟩ rfl Try.func62 rfl rfl (Nat.le_of_ble_eq_true rfl) (by kernel_rfl) ?_
  unfold booking_shareFault at hF
  refine wH_seq ?_
  refine wH_region ?_
  refine h_op (vI 0) (wt rfl) rfl ?_
  refine h_nil ?_
  refine wH_seq ?_
  refine wH_region ?_
  refine h_op (vL Share.enc s_3) (wt rfl) rfl ?_
  refine h_op (vI i_4) (wt rfl) rfl ?_
  obtain ⟨y_5, hy_6, hF⟩ := bind_some hF
  refine h_ia es49 rfl rfl hy_6 rfl (wt rfl) ?_
  refine h_ldc sz62 ag62 rfl (.d (.agg (Share.enc y_5))) rfl (wt rfl) ?_
  refine h_alloc 0 (.inl rfl) z62 rfl (wt rfl) (fun n_7 => ?_)
  refine h_str 0 (.inl rfl) (fun _ _ _ => trivial) 0 sz62 rfl rfl [(vS y_5.Campaign), (vS y_5.Spot), (vI y_5.Many)] rfl (wt rfl) ?_
  refine h_nil ?_
  refine wH_seq ?_
  refine wH_region ?_
  refine h_op (vL Campaign.enc l_2) (wt rfl) rfl ?_
  refine h_far pl62_0 rfl 0 rfl (wt rfl) ?_
  refine h_ldr 0 0 (.inl rfl) (fun _ _ _ => trivial) sz9 ag9 rfl rfl (vS y_5.Campaign) rfl (wt rfl) ?_
  obtain ⟨r_8, hr_9, hF⟩ := bind_some hF
  refine h_call0 (booking_campAt_ok hr_9) rfl hb94 rfl rfl rfl rfl (wt rfl) ?_
  refine h_op (.tup [(vI r_8.1), (vB r_8.2)]) (wt rfl) rfl ?_
  refine h_op (vI r_8.1) (wt rfl) rfl ?_
  refine h_op (vB r_8.2) (wt rfl) rfl ?_
  refine h_op (vI r_8.1) (wt rfl) rfl ?_
  refine h_op (vB r_8.2) (wt rfl) rfl ?_
  refine h_nil ?_
  refine wH_seq ?_
  refine wH_region ?_
  refine h_op (vL Spot.enc spots_1) (wt rfl) rfl ?_
  refine h_far pl62_1 rfl 1 rfl (wt rfl) ?_
  refine h_ldr 0 0 (.inl rfl) (fun _ _ _ => trivial) sz9 ag9 rfl rfl (vS y_5.Spot) rfl (wt rfl) ?_
  obtain ⟨r_10, hr_11, hF⟩ := bind_some hF
  refine h_call0 (booking_spotAt_ok hr_11) rfl hb95 rfl rfl rfl rfl (wt rfl) ?_
  refine h_op (.tup [(vI r_10.1), (vB r_10.2)]) (wt rfl) rfl ?_
  refine h_op (vI r_10.1) (wt rfl) rfl ?_
  refine h_op (vB r_10.2) (wt rfl) rfl ?_
  refine h_op (vI r_10.1) (wt rfl) rfl ?_
  refine h_op (vB r_10.2) (wt rfl) rfl ?_
  refine h_nil ?_
  refine wH_seq ?_
  refine wH_block ?_
  refine wH_seq ?_
  obtain ⟨v_12, h_13, hF⟩ := bind_some hF
  refine wH_join (β := Unit) (fun _ => ([(0, (vL Spot.enc spots_1)), (1, (vL Campaign.enc l_2)), (2, (vL Share.enc s_3)), (3, (vI i_4)), (9, (.ref n_7 0 0)), (10, (vI r_8.1)), (12, (vI r_10.1)), (32, (vB v_12))] : List (Nat × V))) (fun _ => ([(n_7, some (.cells 3 [(vS y_5.Campaign), (vS y_5.Spot), (vI y_5.Many)]))] : Hp)) (fun _ => True) ?_ ?_
  · refine wH_region ?_
    refine h_op (vB r_8.2) (wt rfl) rfl ?_
    refine h_op (vB (!r_8.2)) (wt rfl) rfl ?_
    rcases cond_some h_13 with ⟨hc_14, h_13⟩ | ⟨hc_14, h_13⟩
    · refine h_movb rfl hc_14 (wt rfl) ?_
      refine h_skip (wg rfl rfl rfl) ?_
      refine h_skip (wg rfl rfl rfl) ?_
      refine h_op (vB true) (wt rfl) rfl ?_
      refine h_op (vB true) (wt rfl) rfl ?_
      refine h_nil ?_
      replace h_13 := some_inj h_13
      subst h_13
      exact cut_mk () trivial rfl rfl
    · refine h_movb rfl hc_14 (wt rfl) ?_
      refine h_op (vB r_10.2) (wg rfl rfl rfl) rfl ?_
      refine h_op (vB (!r_10.2)) (wg rfl rfl rfl) rfl ?_
      refine h_op (vB (!r_10.2)) (wt rfl) rfl ?_
      refine h_op (vB (!r_10.2)) (wt rfl) rfl ?_
      refine h_nil ?_
      replace h_13 := some_inj h_13
      subst h_13
      exact cut_mk () trivial rfl rfl
  · rintro ⟨⟩ _ sl_ H_ hp_ hq_
    refine wH_at _ hp_ hq_ ?_
    rcases cond_some hF with ⟨hc_15, hF⟩ | ⟨hc_15, hF⟩
    · refine wH_ift rfl hc_15 ?_
      refine wH_seq ?_
      refine wH_region ?_
      refine h_op (vI 8) (wt rfl) rfl ?_
      refine h_nil ?_
      replace hF := some_inj hF
      subst hF
      refine wH_ret ?_
      exact fin0 (.inr rfl) [(vI 8)] ⟨rfl, trivial⟩ rfl rfl rfl
    · refine wH_iff rfl hc_15 ?_
      refine wH_seq ?_
      refine wH_draws ?_
      refine h_op (vL Campaign.enc l_2) (wt rfl) rfl ?_
      refine h_op (vI r_8.1) (wt rfl) rfl ?_
      obtain ⟨y_16, hy_17, hF⟩ := bind_some hF
      refine h_ia es27 rfl rfl hy_17 rfl (wt rfl) ?_
      refine h_ldc sz37 ag37 rfl (.d (.agg (Campaign.enc y_16))) rfl (wt rfl) ?_
      refine h_op (vL Spot.enc spots_1) (wt rfl) rfl ?_
      refine h_op (vI r_10.1) (wt rfl) rfl ?_
      obtain ⟨y_18, hy_19, hF⟩ := bind_some hF
      refine h_ia es26 rfl rfl hy_19 rfl (wt rfl) ?_
      refine h_ldc sz43 ag43 rfl (.d (.agg (Spot.enc y_18))) rfl (wt rfl) ?_
      obtain ⟨r_20, hr_21, hF⟩ := bind_some hF
      refine h_call0 (booking_suits_ok hr_21) rfl hb50 rfl rfl rfl rfl (wt rfl) ?_
      refine h_op (vB (!r_20)) (wt rfl) rfl ?_
      refine h_op (vB (!r_20)) (wt rfl) rfl ?_
      refine h_nil ?_
      rcases cond_some hF with ⟨hc_22, hF⟩ | ⟨hc_22, hF⟩
      · refine wH_ift rfl hc_22 ?_
        refine wH_seq ?_
        refine wH_region ?_
        refine h_op (vI 16) (wt rfl) rfl ?_
        refine h_nil ?_
        replace hF := some_inj hF
        subst hF
        refine wH_ret ?_
        exact fin0 (.inr rfl) [(vI 16)] ⟨rfl, trivial⟩ rfl rfl rfl
      · refine wH_iff rfl hc_22 ?_
        refine wH_seq ?_
        refine wH_draws ?_
        refine h_far pl62_2 rfl 2 rfl (wt rfl) ?_
        refine h_ldr 1 0 (.inr (by kernel_rfl)) (fun _ _ ag => trivial) sz3 ag3 rfl rfl (vI y_5.Many) rfl (wt rfl) ?_
        refine h_op (vL Campaign.enc l_2) (wt rfl) rfl ?_
        refine h_op (vI r_8.1) (wt rfl) rfl ?_
        obtain ⟨y_23, hy_24, hF⟩ := bind_some hF
        refine h_ia es27 rfl rfl hy_24 rfl (wt rfl) ?_
        refine h_fac pl37_5 rfl [.int .i64 y_23.Most, .int .i64 y_23.Cents] rfl rfl (wt rfl) ?_
        refine h_ldc sz3 ag3 rfl (vI y_23.Most) rfl (wt rfl) ?_
        obtain ⟨r_25, hr_26, hF⟩ := bind_some hF
        refine h_call0 (kit_Outside_ok hr_26) rfl hb44 rfl rfl rfl rfl (wt rfl) ?_
        refine h_op (vB r_25) (wt rfl) rfl ?_
        refine h_nil ?_
        rcases cond_some hF with ⟨hc_27, hF⟩ | ⟨hc_27, hF⟩
        · refine wH_ift rfl hc_27 ?_
          refine wH_seq ?_
          refine wH_region ?_
          refine h_op (vI 1) (wt rfl) rfl ?_
          refine h_nil ?_
          replace hF := some_inj hF
          subst hF
          refine wH_ret ?_
          exact fin0 (.inr rfl) [(vI 1)] ⟨rfl, trivial⟩ rfl rfl rfl
        · refine wH_iff rfl hc_27 ?_
          refine wH_seq ?_
          obtain ⟨v_28, h_29, hF⟩ := bind_some hF
          refine wH_join (β := Unit) (fun _ => ([(59, (vB v_28))] : List (Nat × V))) (fun _ => ([(n_7, some (.cells 3 [(vS y_5.Campaign), (vS y_5.Spot), (vI y_5.Many)]))] : Hp)) (fun _ => True) ?_ ?_
          · refine wH_draws ?_
            refine h_op (vI i_4) (wt rfl) rfl ?_
            refine h_op (vB (decide (i_4 > 0))) (wt rfl) rfl ?_
            rcases cond_some h_29 with ⟨hc_30, h_29⟩ | ⟨hc_30, h_29⟩
            · refine h_movb rfl hc_30 (wt rfl) ?_
              refine h_far pl62_0 rfl 0 rfl (wg rfl rfl rfl) ?_
              refine h_ldr 4 0 (.inr (by kernel_rfl)) (fun _ _ ag => trivial) sz9 ag9 rfl rfl (vS y_5.Campaign) rfl (wg rfl rfl rfl) ?_
              refine h_op (vL Share.enc s_3) (wg rfl rfl rfl) rfl ?_
              refine h_op (vI i_4) (wg rfl rfl rfl) rfl ?_
              refine h_op (vI (w64 (i_4 - 1))) (wg rfl rfl rfl) rfl ?_
              obtain ⟨y_31, hy_32, h_29⟩ := bind_some h_29
              refine h_ia es49 rfl rfl hy_32 rfl (wg rfl rfl rfl) ?_
              refine h_fac pl62_0 rfl [.str y_31.Campaign, .str y_31.Spot, .int .i64 y_31.Many] rfl rfl (wg rfl rfl rfl) ?_
              refine h_ldc sz9 ag9 rfl (vS y_31.Campaign) rfl (wg rfl rfl rfl) ?_
              refine h_op (vB (sLt y_5.Campaign y_31.Campaign)) (wg rfl rfl rfl) rfl ?_
              rcases cond_some h_29 with ⟨hc_33, h_29⟩ | ⟨hc_33, h_29⟩
              · refine h_movb rfl hc_33 (wg rfl rfl rfl) ?_
                refine h_skip (wg rfl rfl rfl) ?_
                refine h_skip (wg rfl rfl rfl) ?_
                refine h_skip (wg rfl rfl rfl) ?_
                refine h_skip (wg rfl rfl rfl) ?_
                refine h_skip (wg rfl rfl rfl) ?_
                refine h_skip (wg rfl rfl rfl) ?_
                refine h_skip (wg rfl rfl rfl) ?_
                refine h_skip (wg rfl rfl rfl) ?_
                refine h_skip (wg rfl rfl rfl) ?_
                refine h_skip (wg rfl rfl rfl) ?_
                refine h_skip (wn rfl rfl) ?_
                refine h_skip (wn rfl rfl) ?_
                refine h_skip (wn rfl rfl) ?_
                refine h_skip (wn rfl rfl) ?_
                refine h_skip (wn rfl rfl) ?_
                refine h_skip (wn rfl rfl) ?_
                refine h_skip (wn rfl rfl) ?_
                refine h_skip (wn rfl rfl) ?_
                refine h_skip (wn rfl rfl) ?_
                refine h_skip (wg rfl rfl rfl) ?_
                refine h_op (vB true) (wg rfl rfl rfl) rfl ?_
                refine h_op (vB true) (wt rfl) rfl ?_
                refine h_op (vB true) (wt rfl) rfl ?_
                refine h_nil ?_
                replace h_29 := some_inj h_29
                subst h_29
                exact cut_mk () trivial rfl rfl
              · refine h_movb rfl hc_33 (wg rfl rfl rfl) ?_
                refine h_far pl62_0 rfl 0 rfl (wg rfl rfl rfl) ?_
                refine h_ldr 14 0 (.inr (by kernel_rfl)) (fun _ _ ag => ⟨.inl ⟨rfl, rfl⟩, trivial⟩) sz9 ag9 rfl rfl (vS y_5.Campaign) rfl (wg rfl rfl rfl) ?_
                refine h_op (vL Share.enc s_3) (wg rfl rfl rfl) rfl ?_
                refine h_op (vI i_4) (wg rfl rfl rfl) rfl ?_
                refine h_op (vI (w64 (i_4 - 1))) (wg rfl rfl rfl) rfl ?_
                obtain ⟨y_34, hy_35, h_29⟩ := bind_some h_29
                refine h_ia es49 rfl rfl hy_35 rfl (wg rfl rfl rfl) ?_
                refine h_fac pl62_0 rfl [.str y_34.Campaign, .str y_34.Spot, .int .i64 y_34.Many] rfl rfl (wg rfl rfl rfl) ?_
                refine h_ldc sz9 ag9 rfl (vS y_34.Campaign) rfl (wg rfl rfl rfl) ?_
                refine h_op (vB (sEq y_5.Campaign y_34.Campaign)) (wg rfl rfl rfl) rfl ?_
                rcases cond_some h_29 with ⟨hc_36, h_29⟩ | ⟨hc_36, h_29⟩
                · refine h_movb rfl hc_36 (wg rfl rfl rfl) ?_
                  refine h_far pl62_1 rfl 1 rfl (wg rfl rfl rfl) ?_
                  refine h_ldr 24 0 (.inr (by kernel_rfl)) (fun _ _ ag => ⟨.inl ⟨rfl, rfl⟩, ⟨.inl ⟨rfl, rfl⟩, trivial⟩⟩) sz9 ag9 rfl rfl (vS y_5.Spot) rfl (wg rfl rfl rfl) ?_
                  refine h_op (vL Share.enc s_3) (wg rfl rfl rfl) rfl ?_
                  refine h_op (vI i_4) (wg rfl rfl rfl) rfl ?_
                  refine h_op (vI (w64 (i_4 - 1))) (wg rfl rfl rfl) rfl ?_
                  obtain ⟨y_37, hy_38, h_29⟩ := bind_some h_29
                  refine h_ia es49 rfl rfl hy_38 rfl (wg rfl rfl rfl) ?_
                  refine h_fac pl62_1 rfl [.str y_37.Spot, .int .i64 y_37.Many] rfl rfl (wg rfl rfl rfl) ?_
                  refine h_ldc sz9 ag9 rfl (vS y_37.Spot) rfl (wg rfl rfl rfl) ?_
                  refine h_op (vB (sLe y_5.Spot y_37.Spot)) (wg rfl rfl rfl) rfl ?_
                  refine h_op (vB (sLe y_5.Spot y_37.Spot)) (wg rfl rfl rfl) rfl ?_
                  refine h_op (vB (sLe y_5.Spot y_37.Spot)) (wg rfl rfl rfl) rfl ?_
                  refine h_op (vB (sLe y_5.Spot y_37.Spot)) (wt rfl) rfl ?_
                  refine h_op (vB (sLe y_5.Spot y_37.Spot)) (wt rfl) rfl ?_
                  refine h_nil ?_
                  replace h_29 := some_inj h_29
                  subst h_29
                  exact cut_mk () trivial rfl rfl
                · refine h_movb rfl hc_36 (wg rfl rfl rfl) ?_
                  refine h_skip (wg rfl rfl rfl) ?_
                  refine h_skip (wg rfl rfl rfl) ?_
                  refine h_skip (wg rfl rfl rfl) ?_
                  refine h_skip (wg rfl rfl rfl) ?_
                  refine h_skip (wg rfl rfl rfl) ?_
                  refine h_skip (wg rfl rfl rfl) ?_
                  refine h_skip (wg rfl rfl rfl) ?_
                  refine h_skip (wg rfl rfl rfl) ?_
                  refine h_skip (wg rfl rfl rfl) ?_
                  refine h_op (vB false) (wg rfl rfl rfl) rfl ?_
                  refine h_op (vB false) (wg rfl rfl rfl) rfl ?_
                  refine h_op (vB false) (wt rfl) rfl ?_
                  refine h_op (vB false) (wt rfl) rfl ?_
                  refine h_nil ?_
                  replace h_29 := some_inj h_29
                  subst h_29
                  exact cut_mk () trivial rfl rfl
            · refine h_movb rfl hc_30 (wt rfl) ?_
              refine h_skip (wg rfl rfl rfl) ?_
              refine h_skip (wg rfl rfl rfl) ?_
              refine h_skip (wg rfl rfl rfl) ?_
              refine h_skip (wg rfl rfl rfl) ?_
              refine h_skip (wg rfl rfl rfl) ?_
              refine h_skip (wg rfl rfl rfl) ?_
              refine h_skip (wg rfl rfl rfl) ?_
              refine h_skip (wg rfl rfl rfl) ?_
              refine h_skip (wg rfl rfl rfl) ?_
              refine h_skip (wg rfl rfl rfl) ?_
              refine h_skip (wn rfl rfl) ?_
              refine h_skip (wn rfl rfl) ?_
              refine h_skip (wn rfl rfl) ?_
              refine h_skip (wn rfl rfl) ?_
              refine h_skip (wn rfl rfl) ?_
              refine h_skip (wn rfl rfl) ?_
              refine h_skip (wn rfl rfl) ?_
              refine h_skip (wn rfl rfl) ?_
              refine h_skip (wn rfl rfl) ?_
              refine h_skip (wn rfl rfl) ?_
              refine h_skip (wn rfl rfl) ?_
              refine h_skip (wn rfl rfl) ?_
              refine h_skip (wn rfl rfl) ?_
              refine h_skip (wn rfl rfl) ?_
              refine h_skip (wn rfl rfl) ?_
              refine h_skip (wn rfl rfl) ?_
              refine h_skip (wn rfl rfl) ?_
              refine h_skip (wn rfl rfl) ?_
              refine h_skip (wn rfl rfl) ?_
              refine h_skip (wn rfl rfl) ?_
              refine h_skip (wg rfl rfl rfl) ?_
              refine h_op (vB false) (wt rfl) rfl ?_
              refine h_op (vB false) (wt rfl) rfl ?_
              refine h_nil ?_
              replace h_29 := some_inj h_29
              subst h_29
              exact cut_mk () trivial rfl rfl
          · rintro ⟨⟩ _ sl_ H_ hp_ hq_
            refine wH_at _ hp_ hq_ ?_
            rcases cond_some hF with ⟨hc_39, hF⟩ | ⟨hc_39, hF⟩
            · refine wH_ift rfl hc_39 ?_
              refine wH_seq ?_
              refine wH_region ?_
              refine h_op (vI 7) (wt rfl) rfl ?_
              refine h_nil ?_
              replace hF := some_inj hF
              subst hF
              refine wH_ret ?_
              exact fin0 (.inr rfl) [(vI 7)] ⟨rfl, trivial⟩ rfl rfl rfl
            · refine wH_iff rfl hc_39 ?_
              refine wH_skip ?_
              refine wH_seq ?_
              refine wH_region ?_
              refine h_op (vI 0) (wt rfl) rfl ?_
              refine h_nil ?_
              replace hF := some_inj hF
              subst hF
              refine wH_ret ?_
              exact fin0 (.inr rfl) [(vI 0)] ⟨rfl, trivial⟩ rfl rfl rfl
theorem booking_CheckShares_1_ok {x_1 : Spot} {p_2 : (List (ByteArray × Int))} {r : Bool} (hF : booking_CheckShares_1 x_1 p_2 = some r) :
    FnM Try.prog 64 [(.d (.agg (Spot.enc x_1))), (.ref (extN 0) 0 0)] [(.cells 1 [(.map (extN 1))]), (bM D.str (D.int .i64) p_2)] (vB r) [some (.cells 1 [(.map (extN 1))]), some (bM D.str (D.int .i64) p_2)] := by
  refine FnM.of_wH ⟨Try.prog, 11, [], []⟩ rfl Try.func64 rfl rfl (Nat.le_of_ble_eq_true rfl) (by kernel_rfl) ?_
  unfold booking_CheckShares_1 at hF
  refine wH_seq ?_
  refine wH_region ?_
  refine h_box 0 (.inl rfl) [(vS x_1.Key), (vI x_1.Time.From), (vI x_1.Time.To), (vI x_1.Room), (vL eS x_1.Tags)] rfl rfl (wt rfl) (fun n_3 => ?_)
  refine h_op (vB false) (wt rfl) rfl ?_
  refine h_nil ?_
  refine wH_seq ?_
  refine wH_region ?_
  refine h_ldr 0 0 (.inl rfl) (fun _ _ _ => trivial) sz95 ag95 rfl rfl (.map (extN 1)) rfl (wt rfl) ?_
  refine h_far pl43_0 rfl 0 rfl (wt rfl) ?_
  refine h_ldr 0 2 (.inl rfl) (fun _ _ _ => trivial) sz9 ag9 rfl rfl (vS x_1.Key) rfl (wt rfl) ?_
  refine h_lookup (eq := eqS) (kD := D.str) (vD := (D.int .i64)) (es := p_2) (k := x_1.Key) (z := 0) 0 1 (.inl rfl) (fun _ _ _ => trivial) (fun _ _ => rfl) mt95 (by kernel_rfl) (by kernel_rfl) rfl rfl rfl (vI ((mGet eqS p_2 x_1.Key).getD 0)) rfl (wt rfl) ?_
  refine h_far pl43_2 rfl 3 rfl (wt rfl) ?_
  refine h_ldr 0 2 (.inl rfl) (fun _ _ _ => trivial) sz3 ag3 rfl rfl (vI x_1.Room) rfl (wt rfl) ?_
  refine h_op (vB (decide (((mGet eqS p_2 x_1.Key).getD 0) > x_1.Room))) (wt rfl) rfl ?_
  refine h_op (vB (decide (((mGet eqS p_2 x_1.Key).getD 0) > x_1.Room))) (wt rfl) rfl ?_
  refine h_nil ?_
  replace hF := some_inj hF
  subst hF
  refine wH_ret ?_
  exact finB (.inr rfl) [(vB (decide (((mGet eqS p_2 x_1.Key).getD 0) > x_1.Room)))] _ [0, 1] [extN 0, extN 1] ⟨rfl, trivial⟩ (.cons (co_data rfl rfl) (.nil)) (by kernel_rfl) ⟨(by kernel_rfl), ⟨(by kernel_rfl), trivial⟩⟩ (by decide) (by kernel_rfl)
theorem slices_ContainsFunc_api_Spot_api_Spot_ok {s_1 : (List Spot)} {f_2 : Spot → Option Bool} {r : Bool} {gid : FuncId} {caps : List V} {Sin : List Box} (hfn : ∀ x0 r, f_2 x0 = some r → FnM Try.prog gid ([(.d (.agg (Spot.enc x0)))] ++ caps) Sin (vB r) (Sin.map some)) (hbF : hasBody Try.prog gid = true) (hcapF : caps.flatMap frz = [] ∧ caps.map co0 = caps) (hokF : okL Sin.length caps = true) (hsF : ∀ b ∈ Sin, b.ok Sin.length = true) (hmF : ∀ b ∈ Sin, b.mut = true) (hF : slices_ContainsFunc_api_Spot_api_Spot s_1 f_2 = some r) :
    FnM Try.prog 63 [(vL Spot.enc s_1), (.fn gid caps)] Sin (vB r) (Sin.map some) := by
  refine FnM.of_wH ⟨Try.prog, 9, [], []⟩ rfl Try.func63 rfl rfl (Nat.le_of_ble_eq_true rfl) (by kernel_rfl) ?_
  unfold slices_ContainsFunc_api_Spot_api_Spot at hF
  refine wH_seq ?_
  refine wH_region ?_
  refine h_op (vB false) (wt rfl) rfl ?_
  refine h_nil ?_
  refine wH_seq ?_
  refine wH_region ?_
  refine h_op (vL Spot.enc s_1) (wt rfl) rfl ?_
  refine h_op (.fn gid caps) (wt rfl) rfl ?_
  obtain ⟨r_3, hr_4, hF⟩ := bind_some hF
  refine h_callS (slices_IndexFunc_api_Spot_api_Spot_ok (gid := gid) (caps := caps) (Sin := Sin) hfn hbF hcapF hokF hsF hmF hr_4) rfl hb59 rfl rfl ⟨rfl, rfl⟩ (by simp [okL, okV, hokF]) hsF hmF rfl (wt rfl) rfl ?_
  refine h_op (vB (decide (r_3 ≥ 0))) (wt rfl) rfl ?_
  refine h_op (vB (decide (r_3 ≥ 0))) (wt rfl) rfl ?_
  refine h_nil ?_
  replace hF := some_inj hF
  subst hF
  refine wH_ret ?_
  exact finS hsF (.inr rfl) [(vB (decide (r_3 ≥ 0)))] ⟨rfl, trivial⟩ rfl rfl rfl
theorem booking_CheckShares_2_ok {c_1 : Campaign} {p_2 : (List (ByteArray × Int))} {r : Bool} (hF : booking_CheckShares_2 c_1 p_2 = some r) :
    FnM Try.prog 65 [(.d (.agg (Campaign.enc c_1))), (.ref (extN 0) 0 0)] [(.cells 1 [(.map (extN 1))]), (bM D.str (D.int .i64) p_2)] (vB r) [some (.cells 1 [(.map (extN 1))]), some (bM D.str (D.int .i64) p_2)] := by
  refine FnM.of_wH ⟨Try.prog, 11, [], []⟩ rfl Try.func65 rfl rfl (Nat.le_of_ble_eq_true rfl) (by kernel_rfl) ?_
  unfold booking_CheckShares_2 at hF
  refine wH_seq ?_
  refine wH_region ?_
  refine h_box 0 (.inl rfl) [(vS c_1.Key), (vS c_1.Class), (vI c_1.Time.From), (vI c_1.Time.To), (vL eS c_1.Tags), (vI c_1.Goal), (vI c_1.Most), (vI c_1.Cents)] rfl rfl (wt rfl) (fun n_3 => ?_)
  refine h_op (vB false) (wt rfl) rfl ?_
  refine h_nil ?_
  refine wH_seq ?_
  refine wH_region ?_
  refine h_ldr 0 0 (.inl rfl) (fun _ _ _ => trivial) sz95 ag95 rfl rfl (.map (extN 1)) rfl (wt rfl) ?_
  refine h_far pl37_0 rfl 0 rfl (wt rfl) ?_
  refine h_ldr 0 2 (.inl rfl) (fun _ _ _ => trivial) sz9 ag9 rfl rfl (vS c_1.Key) rfl (wt rfl) ?_
  refine h_lookup (eq := eqS) (kD := D.str) (vD := (D.int .i64)) (es := p_2) (k := c_1.Key) (z := 0) 0 1 (.inl rfl) (fun _ _ _ => trivial) (fun _ _ => rfl) mt95 (by kernel_rfl) (by kernel_rfl) rfl rfl rfl (vI ((mGet eqS p_2 c_1.Key).getD 0)) rfl (wt rfl) ?_
  refine h_far pl37_4 rfl 5 rfl (wt rfl) ?_
  refine h_ldr 0 2 (.inl rfl) (fun _ _ _ => trivial) sz3 ag3 rfl rfl (vI c_1.Goal) rfl (wt rfl) ?_
  refine h_op (vB (decide (((mGet eqS p_2 c_1.Key).getD 0) > c_1.Goal))) (wt rfl) rfl ?_
  refine h_op (vB (decide (((mGet eqS p_2 c_1.Key).getD 0) > c_1.Goal))) (wt rfl) rfl ?_
  refine h_nil ?_
  replace hF := some_inj hF
  subst hF
  refine wH_ret ?_
  exact finB (.inr rfl) [(vB (decide (((mGet eqS p_2 c_1.Key).getD 0) > c_1.Goal)))] _ [0, 1] [extN 0, extN 1] ⟨rfl, trivial⟩ (.cons (co_data rfl rfl) (.nil)) (by kernel_rfl) ⟨(by kernel_rfl), ⟨(by kernel_rfl), trivial⟩⟩ (by decide) (by kernel_rfl)
theorem slices_ContainsFunc_api_Campaign_api_Campaign_ok {s_1 : (List Campaign)} {f_2 : Campaign → Option Bool} {r : Bool} {gid : FuncId} {caps : List V} {Sin : List Box} (hfn : ∀ x0 r, f_2 x0 = some r → FnM Try.prog gid ([(.d (.agg (Campaign.enc x0)))] ++ caps) Sin (vB r) (Sin.map some)) (hbF : hasBody Try.prog gid = true) (hcapF : caps.flatMap frz = [] ∧ caps.map co0 = caps) (hokF : okL Sin.length caps = true) (hsF : ∀ b ∈ Sin, b.ok Sin.length = true) (hmF : ∀ b ∈ Sin, b.mut = true) (hF : slices_ContainsFunc_api_Campaign_api_Campaign s_1 f_2 = some r) :
    FnM Try.prog 33 [(vL Campaign.enc s_1), (.fn gid caps)] Sin (vB r) (Sin.map some) := by
  refine FnM.of_wH ⟨Try.prog, 9, [], []⟩ rfl Try.func33 rfl rfl (Nat.le_of_ble_eq_true rfl) (by kernel_rfl) ?_
  unfold slices_ContainsFunc_api_Campaign_api_Campaign at hF
  refine wH_seq ?_
  refine wH_region ?_
  refine h_op (vB false) (wt rfl) rfl ?_
  refine h_nil ?_
  refine wH_seq ?_
  refine wH_region ?_
  refine h_op (vL Campaign.enc s_1) (wt rfl) rfl ?_
  refine h_op (.fn gid caps) (wt rfl) rfl ?_
  obtain ⟨r_3, hr_4, hF⟩ := bind_some hF
  refine h_callS (slices_IndexFunc_api_Campaign_api_Campaign_ok (gid := gid) (caps := caps) (Sin := Sin) hfn hbF hcapF hokF hsF hmF hr_4) rfl hb57 rfl rfl ⟨rfl, rfl⟩ (by simp [okL, okV, hokF]) hsF hmF rfl (wt rfl) rfl ?_
  refine h_op (vB (decide (r_3 ≥ 0))) (wt rfl) rfl ?_
  refine h_op (vB (decide (r_3 ≥ 0))) (wt rfl) rfl ?_
  refine h_nil ?_
  replace hF := some_inj hF
  subst hF
  refine wH_ret ?_
  exact finS hsF (.inr rfl) [(vB (decide (r_3 ≥ 0)))] ⟨rfl, trivial⟩ rfl rfl rfl
theorem booking_CheckShares_ok {spots_1 : (List Spot)} {l_2 : (List Campaign)} {s_3 : (List Share)} {r : Int} (hF : booking_CheckShares spots_1 l_2 s_3 = some r) :
    FnM Try.prog 20 [(vL Spot.enc spots_1), (vL Campaign.enc l_2), (vL Share.enc s_3)] [] (vI r) [] := by
  refine FnM.of_wH ⟨Try.prog, 62, [], []⟩ rfl Try.func20 rfl rfl (Nat.le_of_ble_eq_true rfl) (by kernel_rfl) ?_
  unfold booking_CheckShares at hF
  refine wH_seq ?_
  refine wH_region ?_
  refine h_op (vI 0) (wt rfl) rfl ?_
  refine h_nil ?_
  refine wH_seq ?_
  refine wH_seq ?_
  refine wH_region ?_
  refine h_op (vL Spot.enc spots_1) (wt rfl) rfl ?_
  refine h_op (vL Campaign.enc l_2) (wt rfl) rfl ?_
  obtain ⟨r_4, hr_5, hF⟩ := bind_some hF
  refine h_call0 (booking_checkBoth_ok hr_5) rfl hb49 rfl rfl rfl rfl (wt rfl) ?_
  refine h_op (vI r_4) (wt rfl) rfl ?_
  refine h_nil ?_
  refine wH_seq ?_
  refine wH_region ?_
  refine h_op (vI r_4) (wt rfl) rfl ?_
  refine h_op (vB (r_4 != 0)) (wt rfl) rfl ?_
  refine h_nil ?_
  rcases cond_some hF with ⟨hc_6, hF⟩ | ⟨hc_6, hF⟩
  · refine wH_ift rfl hc_6 ?_
    refine wH_seq ?_
    refine wH_region ?_
    refine h_op (vI r_4) (wt rfl) rfl ?_
    refine h_op (vI r_4) (wt rfl) rfl ?_
    refine h_nil ?_
    replace hF := some_inj hF
    subst hF
    refine wH_ret ?_
    exact fin0 (.inr rfl) [(vI r_4)] ⟨rfl, trivial⟩ rfl rfl rfl
  · refine wH_iff rfl hc_6 ?_
    refine wH_skip ?_
    refine wH_seq ?_
    refine wH_seq ?_
    refine wH_region ?_
    refine h_op (vL Share.enc s_3) (wt rfl) rfl ?_
    refine h_len un49 rfl (wt rfl) ?_
    refine h_op (vB (decide ((s_3.length : Int) > 1800))) (wt rfl) rfl ?_
    refine h_nil ?_
    rcases cond_some hF with ⟨hc_7, hF⟩ | ⟨hc_7, hF⟩
    · refine wH_ift rfl hc_7 ?_
      refine wH_seq ?_
      refine wH_region ?_
      refine h_op (vI 2) (wt rfl) rfl ?_
      refine h_nil ?_
      replace hF := some_inj hF
      subst hF
      refine wH_ret ?_
      exact fin0 (.inr rfl) [(vI 2)] ⟨rfl, trivial⟩ rfl rfl rfl
    · refine wH_iff rfl hc_7 ?_
      refine wH_skip ?_
      refine wH_seq ?_
      refine wH_region ?_
      refine h_mkmap 0 (.inl rfl) (wt rfl) (fun n_8 => ?_)
      refine h_reH (b' := some (bM D.str (D.int .i64) ([] : List (ByteArray × Int)))) 0 rfl rfl ?_
      refine h_mkmap 0 (.inl rfl) (wt rfl) (fun n_9 => ?_)
      refine h_reH (b' := some (bM D.str (D.int .i64) ([] : List (ByteArray × Int)))) 1 rfl rfl ?_
      refine h_alloc 0 (.inl rfl) z95 rfl (wt rfl) (fun n_10 => ?_)
      refine h_alloc 0 (.inl rfl) z95 rfl (wt rfl) (fun n_11 => ?_)
      refine h_str 0 (.inl rfl) (fun _ _ _ => trivial) 2 sz95 rfl rfl [(.map n_8)] rfl (wt rfl) ?_
      refine h_str 0 (.inl rfl) (fun _ _ _ => trivial) 3 sz95 rfl rfl [(.map n_9)] rfl (wt rfl) ?_
      refine h_nil ?_
      refine wH_seq ?_
      refine wH_seq ?_
      refine wH_region ?_
      refine h_op (vL Share.enc s_3) (wt rfl) rfl ?_
      refine h_len un49 rfl (wt rfl) ?_
      refine h_op (vI 0) (wt rfl) rfl ?_
      refine h_nil ?_
      obtain ⟨o_20, hj_21, hF⟩ := bind_some hF
      obtain ⟨hn_16, hj_21⟩ := forL_some hj_21
      refine wH_join (β := ((List (ByteArray × Int)) × (List (ByteArray × Int)))) (fun (s_17 : (List (ByteArray × Int)) × (List (ByteArray × Int))) => ([(0, (vL Spot.enc spots_1)), (1, (vL Campaign.enc l_2)), (8, (.ref n_10 0 0)), (9, (.ref n_11 0 0))] : List (Nat × V))) (fun (s_17 : (List (ByteArray × Int)) × (List (ByteArray × Int))) => ([(n_8, some (bM D.str (D.int .i64) s_17.1)), (n_9, some (bM D.str (D.int .i64) s_17.2)), (n_10, some (.cells 1 [(.map n_8)])), (n_11, some (.cells 1 [(.map n_9)]))] : Hp)) (fun p => o_20 = .go p) ?_ ?_
      · refine wH_block ?_
        refine wH_loop (β := Nat × (List Share) × ((List (ByteArray × Int)) × (List (ByteArray × Int)))) (fun p => (fun (k_12 : Nat) (l_13 : List Share) (s_17 : (List (ByteArray × Int)) × (List (ByteArray × Int))) => ([(0, (vL Spot.enc spots_1)), (1, (vL Campaign.enc l_2)), (2, (vL Share.enc s_3)), (8, (.ref n_10 0 0)), (9, (.ref n_11 0 0)), (24, (vL Share.enc s_3)), (25, (vI (s_3.length : Int))), (26, (vI (k_12 : Int)))] : List (Nat × V))) p.1 p.2.1 p.2.2) (fun p => (fun (k_12 : Nat) (l_13 : List Share) (s_17 : (List (ByteArray × Int)) × (List (ByteArray × Int))) => ([(n_8, some (bM D.str (D.int .i64) s_17.1)), (n_9, some (bM D.str (D.int .i64) s_17.2)), (n_10, some (.cells 1 [(.map n_8)])), (n_11, some (.cells 1 [(.map n_9)]))] : Hp)) p.1 p.2.1 p.2.2) (fun p => forR (fun k x s => booking_CheckShares_L1 spots_1 l_2 s_3 k x s) p.2.1 p.1 p.2.2 = some o_20 ∧ (s_3).drop p.1 = p.2.1) (fun p => p.2.1.length) (0, s_3, (([] : List (ByteArray × Int)), ([] : List (ByteArray × Int)))) ⟨hj_21, rfl⟩ rfl rfl ?_
        rintro ⟨k_12, l_13, s_17⟩ ⟨hL_19, hD_15⟩
        dsimp only at hL_19 hD_15
        cases l_13 with
        | nil =>
          replace hL_19 := some_inj hL_19
          subst hL_19
          refine wH_seq (wH_region (h_op (vB (decide ((k_12 : Int) < (s_3.length : Int)))) (wt rfl) rfl (h_nil ?_)))
          refine wH_seq (wH_iff rfl (drop_nil hD_15) (wH_exit ?_))
          exact cut_mk (s_17) rfl rfl rfl
        | cons x_14 l_13 =>
          obtain ⟨c_, hc_18, hL_19⟩ := bind_some hL_19
          refine wH_seq (wH_region (h_op (vB (decide ((k_12 : Int) < (s_3.length : Int)))) (wt rfl) rfl (h_nil ?_)))
          refine wH_seq (wH_ift rfl (drop_cons hD_15) (wH_skip ?_))
          unfold booking_CheckShares_L1 at hc_18
          refine wH_seq ?_
          refine wH_block ?_
          refine wH_seq ?_
          refine wH_region ?_
          refine h_op (vI (k_12 : Int)) (wt rfl) rfl ?_
          refine h_ia es49 rfl rfl (drop_idx hD_15) rfl (wt rfl) ?_
          refine h_ldc sz62 ag62 rfl (.d (.agg (Share.enc x_14))) rfl (wt rfl) ?_
          refine h_alloc 0 (.inl rfl) z62 rfl (wt rfl) (fun n_22 => ?_)
          refine h_op (vI (k_12 : Int)) (wt rfl) rfl ?_
          refine h_str 0 (.inl rfl) (fun _ _ _ => trivial) 4 sz62 rfl rfl [(vS x_14.Campaign), (vS x_14.Spot), (vI x_14.Many)] rfl (wt rfl) ?_
          refine h_nil ?_
          refine wH_seq ?_
          refine wH_seq ?_
          refine wH_region ?_
          refine h_op (vL Spot.enc spots_1) (wt rfl) rfl ?_
          refine h_op (vL Campaign.enc l_2) (wt rfl) rfl ?_
          refine h_op (vL Share.enc s_3) (wt rfl) rfl ?_
          refine h_op (vI (k_12 : Int)) (wt rfl) rfl ?_
          obtain ⟨r_23, hr_24, hc_18⟩ := bind_some hc_18
          refine h_call0 (booking_shareFault_ok hr_24) rfl hb62 rfl rfl rfl rfl (wt rfl) ?_
          refine h_op (vI r_23) (wt rfl) rfl ?_
          refine h_nil ?_
          refine wH_seq ?_
          refine wH_region ?_
          refine h_op (vI r_23) (wt rfl) rfl ?_
          refine h_op (vB (r_23 != 0)) (wt rfl) rfl ?_
          refine h_nil ?_
          rcases cond_some hc_18 with ⟨hc_25, hc_18⟩ | ⟨hc_25, hc_18⟩
          · refine wH_ift rfl hc_25 ?_
            refine wH_seq ?_
            refine wH_region ?_
            refine h_op (vI r_23) (wt rfl) rfl ?_
            refine h_op (vI r_23) (wt rfl) rfl ?_
            refine h_nil ?_
            replace hc_18 := some_inj hc_18
            subst hc_18
            replace hL_19 := some_inj hL_19
            subst hL_19
            replace hF := some_inj hF
            subst hF
            refine wH_ret ?_
            exact fin0 (.inr rfl) [(vI r_23)] ⟨rfl, trivial⟩ rfl rfl rfl
          · refine wH_iff rfl hc_25 ?_
            refine wH_skip ?_
            refine wH_seq ?_
            refine wH_region ?_
            refine h_ldr 0 2 (.inl rfl) (fun _ _ _ => trivial) sz95 ag95 rfl rfl (.map n_8) rfl (wt rfl) ?_
            refine h_far pl62_1 rfl 1 rfl (wt rfl) ?_
            refine h_ldr 0 4 (.inl rfl) (fun _ _ _ => trivial) sz9 ag9 rfl rfl (vS x_14.Spot) rfl (wt rfl) ?_
            refine h_lookup (eq := eqS) (kD := D.str) (vD := (D.int .i64)) (es := s_17.1) (k := x_14.Spot) (z := 0) 0 0 (.inl rfl) (fun _ _ _ => trivial) (fun _ _ => rfl) mt95 (by kernel_rfl) (by kernel_rfl) rfl rfl rfl (vI ((mGet eqS s_17.1 x_14.Spot).getD 0)) rfl (wt rfl) ?_
            refine h_far pl62_2 rfl 2 rfl (wt rfl) ?_
            refine h_ldr 0 4 (.inl rfl) (fun _ _ _ => trivial) sz3 ag3 rfl rfl (vI x_14.Many) rfl (wt rfl) ?_
            refine h_op (vI (w64 (((mGet eqS s_17.1 x_14.Spot).getD 0) + x_14.Many))) (wt rfl) rfl ?_
            refine h_mapset (eq := eqS) (kD := D.str) (vD := (D.int .i64)) (es := s_17.1) (k := x_14.Spot) (v := (w64 (((mGet eqS s_17.1 x_14.Spot).getD 0) + x_14.Many))) 0 0 (.inl rfl) (fun _ _ _ => trivial) (fun _ _ => rfl) mt95 (by kernel_rfl) rfl rfl rfl rfl (wt rfl) ?_
            refine h_nil ?_
            refine wH_region ?_
            refine h_ldr 0 3 (.inl rfl) (fun _ _ _ => trivial) sz95 ag95 rfl rfl (.map n_9) rfl (wt rfl) ?_
            refine h_far pl62_0 rfl 0 rfl (wt rfl) ?_
            refine h_ldr 0 4 (.inl rfl) (fun _ _ _ => trivial) sz9 ag9 rfl rfl (vS x_14.Campaign) rfl (wt rfl) ?_
            refine h_lookup (eq := eqS) (kD := D.str) (vD := (D.int .i64)) (es := s_17.2) (k := x_14.Campaign) (z := 0) 0 1 (.inl rfl) (fun _ _ _ => trivial) (fun _ _ => rfl) mt95 (by kernel_rfl) (by kernel_rfl) rfl rfl rfl (vI ((mGet eqS s_17.2 x_14.Campaign).getD 0)) rfl (wt rfl) ?_
            refine h_far pl62_2 rfl 2 rfl (wt rfl) ?_
            refine h_ldr 0 4 (.inl rfl) (fun _ _ _ => trivial) sz3 ag3 rfl rfl (vI x_14.Many) rfl (wt rfl) ?_
            refine h_op (vI (w64 (((mGet eqS s_17.2 x_14.Campaign).getD 0) + x_14.Many))) (wt rfl) rfl ?_
            refine h_mapset (eq := eqS) (kD := D.str) (vD := (D.int .i64)) (es := s_17.2) (k := x_14.Campaign) (v := (w64 (((mGet eqS s_17.2 x_14.Campaign).getD 0) + x_14.Many))) 0 1 (.inl rfl) (fun _ _ _ => trivial) (fun _ _ => rfl) mt95 (by kernel_rfl) rfl rfl rfl rfl (wt rfl) ?_
            refine h_nil ?_
            refine wH_region ?_
            refine h_opw (w64_next hD_15 hn_16) (wt rfl) rfl ?_
            refine h_op (vI ((k_12 + 1 : Nat) : Int)) (wt rfl) rfl ?_
            refine h_nil ?_
            replace hc_18 := some_inj hc_18
            subst hc_18
            exact loop_mk (k_12 + 1, l_13, ((mSet eqS s_17.1 x_14.Spot (w64 (((mGet eqS s_17.1 x_14.Spot).getD 0) + x_14.Many))), (mSet eqS s_17.2 x_14.Campaign (w64 (((mGet eqS s_17.2 x_14.Campaign).getD 0) + x_14.Many))))) ⟨hL_19, drop_next hD_15⟩ (Nat.lt_succ_self _) rfl rfl
      · rintro s_17 ho_ sl_ H_ hp_ hq_
        subst ho_
        refine wH_at _ hp_ hq_ ?_
        refine wH_seq ?_
        refine wH_seq ?_
        obtain ⟨v_26, h_27, hF⟩ := bind_some hF
        refine wH_join (β := Unit) (fun _ => ([(61, (vB v_26))] : List (Nat × V))) (fun _ => ([(n_8, some (bM D.str (D.int .i64) s_17.1)), (n_9, some (bM D.str (D.int .i64) s_17.2)), (n_10, some (.cells 1 [(.map n_8)])), (n_11, some (.cells 1 [(.map n_9)]))] : Hp)) (fun _ => True) ?_ ?_
        · refine wH_region ?_
          refine h_op (vL Spot.enc spots_1) (wt rfl) rfl ?_
          refine h_op (.fn 64 [(.ref n_10 0 0)]) (wt rfl) rfl ?_
          obtain ⟨r_28, hr_29, h_27⟩ := bind_some h_27
          refine h_callq 0 [2, 0] (.inl rfl) (fun _ _ _ => trivial) (slices_ContainsFunc_api_Spot_api_Spot_ok (gid := 64) (caps := [.ref (extN 0) 0 0]) (Sin := [(.cells 1 [(.map (extN 1))]), (bM D.str (D.int .i64) s_17.1)]) (fun _ _ h_ => booking_CheckShares_1_ok h_) hb64 ⟨rfl, rfl⟩ (by kernel_rfl) (all_ok (by kernel_rfl)) (all_mut (by kernel_rfl)) hr_29) rfl hb63 rfl (by kernel_rfl) (by kernel_rfl) (by kernel_rfl) (by kernel_rfl) (by kernel_rfl) (by kernel_rfl) (by kernel_rfl) (by decide) (by kernel_rfl) (wt rfl) (vB r_28) (by kernel_rfl) ([(n_8, some (bM D.str (D.int .i64) s_17.1)), (n_9, some (bM D.str (D.int .i64) s_17.2)), (n_10, some (.cells 1 [(.map n_8)])), (n_11, some (.cells 1 [(.map n_9)]))] : Hp) (by kernel_rfl) ?_
          rcases cond_some h_27 with ⟨hc_31, h_27⟩ | ⟨hc_31, h_27⟩
          · refine h_movb rfl hc_31 (wt rfl) ?_
            refine h_skip (wg rfl rfl rfl) ?_
            refine h_skip (wg rfl rfl rfl) ?_
            refine h_skip (wg rfl rfl rfl) ?_
            refine h_op (vB true) (wt rfl) rfl ?_
            refine h_nil ?_
            replace h_27 := some_inj h_27
            subst h_27
            exact cut_mk () trivial rfl rfl
          · refine h_movb rfl hc_31 (wt rfl) ?_
            refine h_op (vL Campaign.enc l_2) (wg rfl rfl rfl) rfl ?_
            refine h_op (.fn 65 [(.ref n_11 0 0)]) (wg rfl rfl rfl) rfl ?_
            obtain ⟨r_32, hr_33, h_27⟩ := bind_some h_27
            refine h_callq 0 [3, 1] (.inl rfl) (fun _ _ _ => trivial) (slices_ContainsFunc_api_Campaign_api_Campaign_ok (gid := 65) (caps := [.ref (extN 0) 0 0]) (Sin := [(.cells 1 [(.map (extN 1))]), (bM D.str (D.int .i64) s_17.2)]) (fun _ _ h_ => booking_CheckShares_2_ok h_) hb65 ⟨rfl, rfl⟩ (by kernel_rfl) (all_ok (by kernel_rfl)) (all_mut (by kernel_rfl)) hr_33) rfl hb33 rfl (by kernel_rfl) (by kernel_rfl) (by kernel_rfl) (by kernel_rfl) (by kernel_rfl) (by kernel_rfl) (by kernel_rfl) (by decide) (by kernel_rfl) (wg rfl rfl rfl) (vB r_32) (by kernel_rfl) ([(n_8, some (bM D.str (D.int .i64) s_17.1)), (n_9, some (bM D.str (D.int .i64) s_17.2)), (n_10, some (.cells 1 [(.map n_8)])), (n_11, some (.cells 1 [(.map n_9)]))] : Hp) (by kernel_rfl) ?_
            refine h_op (vB r_32) (wt rfl) rfl ?_
            refine h_nil ?_
            replace h_27 := some_inj h_27
            subst h_27
            exact cut_mk () trivial rfl rfl
        · rintro ⟨⟩ _ sl_ H_ hp_ hq_
          refine wH_at _ hp_ hq_ ?_
          rcases cond_some hF with ⟨hc_35, hF⟩ | ⟨hc_35, hF⟩
          · refine wH_ift rfl hc_35 ?_
            refine wH_seq ?_
            refine wH_region ?_
            refine h_op (vI 12) (wt rfl) rfl ?_
            refine h_nil ?_
            replace hF := some_inj hF
            subst hF
            refine wH_ret ?_
            exact fin0 (.inr rfl) [(vI 12)] ⟨rfl, trivial⟩ rfl rfl rfl
          · refine wH_iff rfl hc_35 ?_
            refine wH_skip ?_
            refine wH_seq ?_
            refine wH_region ?_
            refine h_op (vI 0) (wt rfl) rfl ?_
            refine h_nil ?_
            replace hF := some_inj hF
            subst hF
            refine wH_ret ?_
            exact fin0 (.inr rfl) [(vI 0)] ⟨rfl, trivial⟩ rfl rfl rfl
theorem law_SharesCheck_ok {l_1 : (List Int)} {r : Bool} (hF : law_SharesCheck l_1 = some r) :
    FnM Try.prog 4 [(vL eI l_1)] [] (vB r) [] := by
  refine FnM.of_wH ⟨Try.prog, 36, [], []⟩ rfl Try.func4 rfl rfl (Nat.le_of_ble_eq_true rfl) (by kernel_rfl) ?_
  unfold law_SharesCheck at hF
  refine wH_seq ?_
  refine wH_region ?_
  refine h_op (vB false) (wt rfl) rfl ?_
  refine h_nil ?_
  refine wH_seq ?_
  refine wH_region ?_
  refine h_op (vL eI l_1) (wt rfl) rfl ?_
  refine h_op (.d (.agg (Stream.enc (⟨l_1, 0⟩ : Stream)))) (wt rfl) (by kernel_rfl) ?_
  refine h_box 0 (.inl rfl) [(vL eI l_1), (vI 0)] rfl rfl (wt rfl) (fun n_2 => ?_)
  refine h_op (.ref n_2 0 0) (wt rfl) rfl ?_
  refine h_nil ?_
  refine wH_seq ?_
  refine wH_region ?_
  refine h_op (.ref n_2 0 0) (wt rfl) rfl ?_
  obtain ⟨r_3, hr_4, hF⟩ := bind_some hF
  refine h_callq 0 [0] (.inl rfl) (fun _ _ _ => trivial) (law_office_ok hr_4) rfl hb7 rfl (by kernel_rfl) (by kernel_rfl) (by kernel_rfl) (by kernel_rfl) (by kernel_rfl) (by kernel_rfl) (by kernel_rfl) (by decide) (by kernel_rfl) (wt rfl) (.tup [(vL Spot.enc r_3.1), (vL Campaign.enc r_3.2.1), (vI r_3.2.2.1)]) (by kernel_rfl) ([(n_2, some (.cells 2 [(vL eI r_3.2.2.2.L), (vI r_3.2.2.2.f_at)]))] : Hp) (by kernel_rfl) ?_
  refine h_op (.tup [(vL Spot.enc r_3.1), (vL Campaign.enc r_3.2.1), (vI r_3.2.2.1)]) (wt rfl) rfl ?_
  refine h_op (vL Spot.enc r_3.1) (wt rfl) rfl ?_
  refine h_op (vL Campaign.enc r_3.2.1) (wt rfl) rfl ?_
  refine h_op (vI r_3.2.2.1) (wt rfl) rfl ?_
  refine h_op (vL Spot.enc r_3.1) (wt rfl) rfl ?_
  refine h_op (vL Campaign.enc r_3.2.1) (wt rfl) rfl ?_
  refine h_op (vI r_3.2.2.1) (wt rfl) rfl ?_
  refine h_nil ?_
  refine wH_seq ?_
  refine wH_region ?_
  refine h_op (.ref n_2 0 0) (wt rfl) rfl ?_
  refine h_op (vL Spot.enc r_3.1) (wt rfl) rfl ?_
  refine h_op (vL Campaign.enc r_3.2.1) (wt rfl) rfl ?_
  obtain ⟨r_6, hr_7, hF⟩ := bind_some hF
  refine h_callq 0 [0] (.inl rfl) (fun _ _ _ => trivial) (mk_Stream_Shares_ok hr_7) rfl hb18 rfl (by kernel_rfl) (by kernel_rfl) (by kernel_rfl) (by kernel_rfl) (by kernel_rfl) (by kernel_rfl) (by kernel_rfl) (by decide) (by kernel_rfl) (wt rfl) (vL Share.enc r_6.1) (by kernel_rfl) ([(n_2, some (.cells 2 [(vL eI r_6.2.L), (vI r_6.2.f_at)]))] : Hp) (by kernel_rfl) ?_
  refine h_op (vL Share.enc r_6.1) (wt rfl) rfl ?_
  refine h_nil ?_
  refine wH_seq ?_
  refine wH_seq ?_
  refine wH_region ?_
  refine h_op (vI r_3.2.2.1) (wt rfl) rfl ?_
  refine h_op (vB (r_3.2.2.1 == 0)) (wt rfl) rfl ?_
  refine h_nil ?_
  obtain ⟨v_9, h_10, hF⟩ := bind_some hF
  refine wH_join (β := Unit) (fun _ => ([(4, (vL Spot.enc r_3.1)), (5, (vL Campaign.enc r_3.2.1)), (6, (vI v_9)), (7, (vL Share.enc r_6.1))] : List (Nat × V))) (fun _ => ([(n_2, some (.cells 2 [(vL eI r_6.2.L), (vI r_6.2.f_at)]))] : Hp)) (fun _ => True) ?_ ?_
  · rcases cond_some h_10 with ⟨hc_11, h_10⟩ | ⟨hc_11, h_10⟩
    · refine wH_ift rfl hc_11 ?_
      refine wH_region ?_
      refine h_op (vL Spot.enc r_3.1) (wt rfl) rfl ?_
      refine h_op (vL Campaign.enc r_3.2.1) (wt rfl) rfl ?_
      refine h_op (vL Share.enc r_6.1) (wt rfl) rfl ?_
      obtain ⟨r_12, hr_13, h_10⟩ := bind_some h_10
      refine h_call0 (ref_SharesFault_ok hr_13) rfl hb19 rfl rfl rfl rfl (wt rfl) ?_
      refine h_op (vI r_12) (wt rfl) rfl ?_
      refine h_nil ?_
      replace h_10 := some_inj h_10
      subst h_10
      exact cut_mk () trivial rfl rfl
    · refine wH_iff rfl hc_11 ?_
      refine wH_skip ?_
      replace h_10 := some_inj h_10
      subst h_10
      exact cut_mk () trivial rfl rfl
  · rintro ⟨⟩ _ sl_ H_ hp_ hq_
    refine wH_at _ hp_ hq_ ?_
    refine wH_seq ?_
    obtain ⟨v_14, h_15, hF⟩ := bind_some hF
    refine wH_join (β := Unit) (fun _ => ([(2, (vB v_14))] : List (Nat × V))) (fun _ => ([(n_2, some (.cells 2 [(vL eI r_6.2.L), (vI r_6.2.f_at)]))] : Hp)) (fun _ => True) ?_ ?_
    · refine wH_region ?_
      refine h_op (vL Spot.enc r_3.1) (wt rfl) rfl ?_
      refine h_op (vL Campaign.enc r_3.2.1) (wt rfl) rfl ?_
      refine h_op (vL Share.enc r_6.1) (wt rfl) rfl ?_
      obtain ⟨r_16, hr_17, h_15⟩ := bind_some h_15
      refine h_call0 (booking_CheckShares_ok hr_17) rfl hb20 rfl rfl rfl rfl (wt rfl) ?_
      refine h_op (vI v_9) (wt rfl) rfl ?_
      refine h_op (vB (r_16 == v_9)) (wt rfl) rfl ?_
      rcases cond_some h_15 with ⟨hc_18, h_15⟩ | ⟨hc_18, h_15⟩
      · refine h_movb rfl hc_18 (wt rfl) ?_
        obtain ⟨r_19, hr_20, h_15⟩ := bind_some h_15
        refine h_call0 (law_booked_ok hr_20) rfl hb17 rfl rfl rfl rfl (wg rfl rfl rfl) ?_
        refine h_op (vB r_19) (wt rfl) rfl ?_
        refine h_op (vB r_19) (wt rfl) rfl ?_
        refine h_nil ?_
        replace h_15 := some_inj h_15
        subst h_15
        exact cut_mk () trivial rfl rfl
      · refine h_movb rfl hc_18 (wt rfl) ?_
        refine h_skip (wg rfl rfl rfl) ?_
        refine h_op (vB false) (wt rfl) rfl ?_
        refine h_op (vB false) (wt rfl) rfl ?_
        refine h_nil ?_
        replace h_15 := some_inj h_15
        subst h_15
        exact cut_mk () trivial rfl rfl
    · rintro ⟨⟩ _ sl_ H_ hp_ hq_
      refine wH_at _ hp_ hq_ ?_
      replace hF := some_inj hF
      subst hF
      refine wH_ret ?_
      exact fin0 (.inr rfl) [(vB v_14)] ⟨rfl, trivial⟩ rfl rfl rfl
end Go.Proofs.Ytkjnmkompibhgaa.Law
