/-
  The machine computes these plain functions (written by a program of ours).
-/
import Derived.Test.YtodfcleaapnklaaGreatFacts
import Derived.Test.YtodfcleaapnklaaGreatDefs
import Derived.Test.YtodfcleaapnklaaGreatPf1
import Derived.Test.YtodfcleaapnklaaGreatShelf
open Go Go.Eng Go.Proofs
namespace Go.Proofs.YtodfcleaapnklaaGreat.Law
set_option maxRecDepth 100000
set_option linter.unusedVariables false
set_option maxHeartbeats 1000000
theorem kit_IsKey_ok {s_1 : ByteArray} {r : Bool} (hF : kit_IsKey s_1 = some r) :
    FnM Tryz.prog 49 [(vS s_1)] [] (vB r) [] := by
  refine FnM.of_wH ⟨Tryz.prog, 48, [], []⟩ rfl Tryz.func49 rfl rfl (Nat.le_of_ble_eq_true rfl) (by kernel_rfl) ?_
  unfold kit_IsKey at hF
  refine wH_seq ?_
  refine wH_region ?_
  refine h_op (vB false) (wt rfl) rfl ?_
  refine h_nil ?_
  refine wH_seq ?_
  refine wH_seq ?_
  refine wH_region ?_
  refine h_op (vI 0) (wt rfl) rfl ?_
  refine h_nil ?_
  obtain ⟨o_10, hj_11, hF⟩ := bind_some hF
  obtain ⟨nq_33, hj_11⟩ := loopO_iter hj_11
  refine wH_join (β := (Int)) (fun (s_7 : Int) => ([(0, (vS s_1))] : List (Nat × V))) (fun (s_7 : Int) => ([] : Hp)) (fun p => o_10 = .go p) ?_ ?_
  · refine wH_block ?_
    refine wH_loop (β := Nat × (Int)) (fun p => (fun (k_2 : Nat) (s_7 : Int) => ([(0, (vS s_1)), (3, (vI s_7))] : List (Nat × V))) p.1 p.2) (fun p => (fun (k_2 : Nat) (s_7 : Int) => ([] : Hp)) p.1 p.2) (fun p => iterN (fun s => kit_IsKey_L1 s_1 s) p.1 p.2 = some o_10) (fun p => p.1) (nq_33, 0) hj_11 rfl (pre_r rfl) ?_
    rintro ⟨k_2, s_7⟩ hL_9
    dsimp only at hL_9
    cases k_2 with
    | zero => cases hL_9
    | succ k_2 =>
      obtain ⟨c_, hc_8, hL_9⟩ := bind_some hL_9
      unfold kit_IsKey_L1 at hc_8
      refine wH_seq ?_
      refine wH_seq ?_
      refine wH_region ?_
      refine h_op (vI s_7) (wt rfl) rfl ?_
      refine h_op (vS s_1) (wt rfl) rfl ?_
      refine h_lens un9 rfl (wt rfl) ?_
      refine h_op (vB (decide (s_7 < (s_1.size : Int)))) (wt rfl) rfl ?_
      refine h_nil ?_
      rcases cond_some hc_8 with ⟨hc_12, hc_8⟩ | ⟨hc_12, hc_8⟩
      · refine wH_ift rfl hc_12 ?_
        refine wH_skip ?_
        refine wH_seq ?_
        refine wH_block ?_
        refine wH_seq ?_
        refine wH_region ?_
        refine h_op (vS s_1) (wt rfl) rfl ?_
        refine h_op (vI s_7) (wt rfl) rfl ?_
        obtain ⟨b_13, hy_14, hc_8⟩ := bind_some hc_8
        refine h_idxs un9 rfl rfl hy_14 (wt rfl) ?_
        refine h_op (.d (.int .u8 (b_13.toNat : Int))) (wt rfl) rfl ?_
        refine h_nil ?_
        refine wH_seq ?_
        obtain ⟨v_15, h_16, hc_8⟩ := bind_some hc_8
        refine wH_join (β := Unit) (fun _ => ([(0, (vS s_1)), (3, (vI s_7)), (40, (vB v_15))] : List (Nat × V))) (fun _ => ([] : Hp)) (fun _ => True) ?_ ?_
        · refine wH_region ?_
          refine h_op (.d (.int .u8 (b_13.toNat : Int))) (wt rfl) rfl ?_
          refine h_op (vB (decide ((b_13.toNat : Int) ≥ 97))) (wt rfl) rfl ?_
          rcases cond_some h_16 with ⟨hc_17, h_16⟩ | ⟨hc_17, h_16⟩
          · refine h_movb rfl hc_17 (wt rfl) ?_
            refine h_op (.d (.int .u8 (b_13.toNat : Int))) (wg rfl rfl rfl) rfl ?_
            refine h_op (vB (decide ((b_13.toNat : Int) ≤ 122))) (wg rfl rfl rfl) rfl ?_
            refine h_op (vB (decide ((b_13.toNat : Int) ≤ 122))) (wt rfl) rfl ?_
            rcases cond_some h_16 with ⟨hc_18, h_16⟩ | ⟨hc_18, h_16⟩
            · refine h_movb rfl hc_18 (wt rfl) ?_
              refine h_skip (wg rfl rfl rfl) ?_
              refine h_skip (wg rfl rfl rfl) ?_
              refine h_skip (wg rfl rfl rfl) ?_
              refine h_skip (wn rfl rfl) ?_
              refine h_skip (wn rfl rfl) ?_
              refine h_skip (wn rfl rfl) ?_
              refine h_skip (wn rfl rfl) ?_
              refine h_skip (wn rfl rfl) ?_
              refine h_skip (wn rfl rfl) ?_
              refine h_skip (wn rfl rfl) ?_
              refine h_skip (wn rfl rfl) ?_
              refine h_skip (wn rfl rfl) ?_
              refine h_skip (wn rfl rfl) ?_
              refine h_skip (wn rfl rfl) ?_
              refine h_skip (wn rfl rfl) ?_
              refine h_skip (wn rfl rfl) ?_
              refine h_skip (wn rfl rfl) ?_
              refine h_skip (wg rfl rfl rfl) ?_
              refine h_op (vB true) (wt rfl) rfl ?_
              refine h_op (vB false) (wt rfl) rfl ?_
              refine h_nil ?_
              replace h_16 := some_inj h_16
              subst h_16
              exact cut_mk () trivial rfl (pre_r rfl)
            · refine h_movb rfl hc_18 (wt rfl) ?_
              refine h_op (vI s_7) (wg rfl rfl rfl) rfl ?_
              refine h_op (vB (decide (s_7 > 0))) (wg rfl rfl rfl) rfl ?_
              rcases cond_some h_16 with ⟨hc_19, h_16⟩ | ⟨hc_19, h_16⟩
              · refine h_movb rfl hc_19 (wg rfl rfl rfl) ?_
                refine h_op (.d (.int .u8 (b_13.toNat : Int))) (wg rfl rfl rfl) rfl ?_
                refine h_op (vB (decide ((b_13.toNat : Int) ≥ 48))) (wg rfl rfl rfl) rfl ?_
                rcases cond_some h_16 with ⟨hc_20, h_16⟩ | ⟨hc_20, h_16⟩
                · refine h_movb rfl hc_20 (wg rfl rfl rfl) ?_
                  refine h_op (.d (.int .u8 (b_13.toNat : Int))) (wg rfl rfl rfl) rfl ?_
                  refine h_op (vB (decide ((b_13.toNat : Int) ≤ 57))) (wg rfl rfl rfl) rfl ?_
                  refine h_op (vB (decide ((b_13.toNat : Int) ≤ 57))) (wg rfl rfl rfl) rfl ?_
                  rcases cond_some h_16 with ⟨hc_21, h_16⟩ | ⟨hc_21, h_16⟩
                  · refine h_movb rfl hc_21 (wg rfl rfl rfl) ?_
                    refine h_skip (wg rfl rfl rfl) ?_
                    refine h_skip (wg rfl rfl rfl) ?_
                    refine h_op (vB true) (wg rfl rfl rfl) rfl ?_
                    refine h_op (vB true) (wg rfl rfl rfl) rfl ?_
                    refine h_skip (wg rfl rfl rfl) ?_
                    refine h_skip (wg rfl rfl rfl) ?_
                    refine h_op (vB true) (wg rfl rfl rfl) rfl ?_
                    refine h_op (vB true) (wg rfl rfl rfl) rfl ?_
                    refine h_op (vB true) (wt rfl) rfl ?_
                    refine h_op (vB false) (wt rfl) rfl ?_
                    refine h_nil ?_
                    replace h_16 := some_inj h_16
                    subst h_16
                    exact cut_mk () trivial rfl (pre_r rfl)
                  · refine h_movb rfl hc_21 (wg rfl rfl rfl) ?_
                    refine h_op (.d (.int .u8 (b_13.toNat : Int))) (wg rfl rfl rfl) rfl ?_
                    refine h_op (vB ((b_13.toNat : Int) == 45)) (wg rfl rfl rfl) rfl ?_
                    refine h_op (vB ((b_13.toNat : Int) == 45)) (wg rfl rfl rfl) rfl ?_
                    rcases cond_some h_16 with ⟨hc_22, h_16⟩ | ⟨hc_22, h_16⟩
                    · refine h_movb rfl hc_22 (wg rfl rfl rfl) ?_
                      refine h_skip (wg rfl rfl rfl) ?_
                      refine h_skip (wg rfl rfl rfl) ?_
                      refine h_op (vB true) (wg rfl rfl rfl) rfl ?_
                      refine h_op (vB true) (wg rfl rfl rfl) rfl ?_
                      refine h_op (vB true) (wt rfl) rfl ?_
                      refine h_op (vB false) (wt rfl) rfl ?_
                      refine h_nil ?_
                      replace h_16 := some_inj h_16
                      subst h_16
                      exact cut_mk () trivial rfl (pre_r rfl)
                    · refine h_movb rfl hc_22 (wg rfl rfl rfl) ?_
                      refine h_op (.d (.int .u8 (b_13.toNat : Int))) (wg rfl rfl rfl) rfl ?_
                      refine h_op (vB ((b_13.toNat : Int) == 95)) (wg rfl rfl rfl) rfl ?_
                      refine h_op (vB ((b_13.toNat : Int) == 95)) (wg rfl rfl rfl) rfl ?_
                      refine h_op (vB ((b_13.toNat : Int) == 95)) (wg rfl rfl rfl) rfl ?_
                      refine h_op (vB ((b_13.toNat : Int) == 95)) (wt rfl) rfl ?_
                      refine h_op (vB (!((b_13.toNat : Int) == 95))) (wt rfl) rfl ?_
                      refine h_nil ?_
                      replace h_16 := some_inj h_16
                      subst h_16
                      exact cut_mk () trivial rfl (pre_r rfl)
                · refine h_movb rfl hc_20 (wg rfl rfl rfl) ?_
                  refine h_skip (wg rfl rfl rfl) ?_
                  refine h_skip (wg rfl rfl rfl) ?_
                  refine h_op (vB false) (wg rfl rfl rfl) rfl ?_
                  refine h_op (vB false) (wg rfl rfl rfl) rfl ?_
                  refine h_op (.d (.int .u8 (b_13.toNat : Int))) (wg rfl rfl rfl) rfl ?_
                  refine h_op (vB ((b_13.toNat : Int) == 45)) (wg rfl rfl rfl) rfl ?_
                  refine h_op (vB ((b_13.toNat : Int) == 45)) (wg rfl rfl rfl) rfl ?_
                  rcases cond_some h_16 with ⟨hc_23, h_16⟩ | ⟨hc_23, h_16⟩
                  · refine h_movb rfl hc_23 (wg rfl rfl rfl) ?_
                    refine h_skip (wg rfl rfl rfl) ?_
                    refine h_skip (wg rfl rfl rfl) ?_
                    refine h_op (vB true) (wg rfl rfl rfl) rfl ?_
                    refine h_op (vB true) (wg rfl rfl rfl) rfl ?_
                    refine h_op (vB true) (wt rfl) rfl ?_
                    refine h_op (vB false) (wt rfl) rfl ?_
                    refine h_nil ?_
                    replace h_16 := some_inj h_16
                    subst h_16
                    exact cut_mk () trivial rfl (pre_r rfl)
                  · refine h_movb rfl hc_23 (wg rfl rfl rfl) ?_
                    refine h_op (.d (.int .u8 (b_13.toNat : Int))) (wg rfl rfl rfl) rfl ?_
                    refine h_op (vB ((b_13.toNat : Int) == 95)) (wg rfl rfl rfl) rfl ?_
                    refine h_op (vB ((b_13.toNat : Int) == 95)) (wg rfl rfl rfl) rfl ?_
                    refine h_op (vB ((b_13.toNat : Int) == 95)) (wg rfl rfl rfl) rfl ?_
                    refine h_op (vB ((b_13.toNat : Int) == 95)) (wt rfl) rfl ?_
                    refine h_op (vB (!((b_13.toNat : Int) == 95))) (wt rfl) rfl ?_
                    refine h_nil ?_
                    replace h_16 := some_inj h_16
                    subst h_16
                    exact cut_mk () trivial rfl (pre_r rfl)
              · refine h_movb rfl hc_19 (wg rfl rfl rfl) ?_
                refine h_skip (wg rfl rfl rfl) ?_
                refine h_skip (wg rfl rfl rfl) ?_
                refine h_skip (wg rfl rfl rfl) ?_
                refine h_skip (wn rfl rfl) ?_
                refine h_skip (wn rfl rfl) ?_
                refine h_skip (wg rfl rfl rfl) ?_
                refine h_skip (wg rfl rfl rfl) ?_
                refine h_skip (wn rfl rfl) ?_
                refine h_skip (wn rfl rfl) ?_
                refine h_skip (wg rfl rfl rfl) ?_
                refine h_skip (wg rfl rfl rfl) ?_
                refine h_skip (wn rfl rfl) ?_
                refine h_skip (wn rfl rfl) ?_
                refine h_skip (wg rfl rfl rfl) ?_
                refine h_op (vB false) (wg rfl rfl rfl) rfl ?_
                refine h_op (vB false) (wt rfl) rfl ?_
                refine h_op (vB true) (wt rfl) rfl ?_
                refine h_nil ?_
                replace h_16 := some_inj h_16
                subst h_16
                exact cut_mk () trivial rfl (pre_r rfl)
          · refine h_movb rfl hc_17 (wt rfl) ?_
            refine h_skip (wg rfl rfl rfl) ?_
            refine h_skip (wg rfl rfl rfl) ?_
            refine h_op (vB false) (wt rfl) rfl ?_
            refine h_op (vB false) (wt rfl) rfl ?_
            refine h_op (vI s_7) (wg rfl rfl rfl) rfl ?_
            refine h_op (vB (decide (s_7 > 0))) (wg rfl rfl rfl) rfl ?_
            rcases cond_some h_16 with ⟨hc_24, h_16⟩ | ⟨hc_24, h_16⟩
            · refine h_movb rfl hc_24 (wg rfl rfl rfl) ?_
              refine h_op (.d (.int .u8 (b_13.toNat : Int))) (wg rfl rfl rfl) rfl ?_
              refine h_op (vB (decide ((b_13.toNat : Int) ≥ 48))) (wg rfl rfl rfl) rfl ?_
              rcases cond_some h_16 with ⟨hc_25, h_16⟩ | ⟨hc_25, h_16⟩
              · refine h_movb rfl hc_25 (wg rfl rfl rfl) ?_
                refine h_op (.d (.int .u8 (b_13.toNat : Int))) (wg rfl rfl rfl) rfl ?_
                refine h_op (vB (decide ((b_13.toNat : Int) ≤ 57))) (wg rfl rfl rfl) rfl ?_
                refine h_op (vB (decide ((b_13.toNat : Int) ≤ 57))) (wg rfl rfl rfl) rfl ?_
                rcases cond_some h_16 with ⟨hc_26, h_16⟩ | ⟨hc_26, h_16⟩
                · refine h_movb rfl hc_26 (wg rfl rfl rfl) ?_
                  refine h_skip (wg rfl rfl rfl) ?_
                  refine h_skip (wg rfl rfl rfl) ?_
                  refine h_op (vB true) (wg rfl rfl rfl) rfl ?_
                  refine h_op (vB true) (wg rfl rfl rfl) rfl ?_
                  refine h_skip (wg rfl rfl rfl) ?_
                  refine h_skip (wg rfl rfl rfl) ?_
                  refine h_op (vB true) (wg rfl rfl rfl) rfl ?_
                  refine h_op (vB true) (wg rfl rfl rfl) rfl ?_
                  refine h_op (vB true) (wt rfl) rfl ?_
                  refine h_op (vB false) (wt rfl) rfl ?_
                  refine h_nil ?_
                  replace h_16 := some_inj h_16
                  subst h_16
                  exact cut_mk () trivial rfl (pre_r rfl)
                · refine h_movb rfl hc_26 (wg rfl rfl rfl) ?_
                  refine h_op (.d (.int .u8 (b_13.toNat : Int))) (wg rfl rfl rfl) rfl ?_
                  refine h_op (vB ((b_13.toNat : Int) == 45)) (wg rfl rfl rfl) rfl ?_
                  refine h_op (vB ((b_13.toNat : Int) == 45)) (wg rfl rfl rfl) rfl ?_
                  rcases cond_some h_16 with ⟨hc_27, h_16⟩ | ⟨hc_27, h_16⟩
                  · refine h_movb rfl hc_27 (wg rfl rfl rfl) ?_
                    refine h_skip (wg rfl rfl rfl) ?_
                    refine h_skip (wg rfl rfl rfl) ?_
                    refine h_op (vB true) (wg rfl rfl rfl) rfl ?_
                    refine h_op (vB true) (wg rfl rfl rfl) rfl ?_
                    refine h_op (vB true) (wt rfl) rfl ?_
                    refine h_op (vB false) (wt rfl) rfl ?_
                    refine h_nil ?_
                    replace h_16 := some_inj h_16
                    subst h_16
                    exact cut_mk () trivial rfl (pre_r rfl)
                  · refine h_movb rfl hc_27 (wg rfl rfl rfl) ?_
                    refine h_op (.d (.int .u8 (b_13.toNat : Int))) (wg rfl rfl rfl) rfl ?_
                    refine h_op (vB ((b_13.toNat : Int) == 95)) (wg rfl rfl rfl) rfl ?_
                    refine h_op (vB ((b_13.toNat : Int) == 95)) (wg rfl rfl rfl) rfl ?_
                    refine h_op (vB ((b_13.toNat : Int) == 95)) (wg rfl rfl rfl) rfl ?_
                    refine h_op (vB ((b_13.toNat : Int) == 95)) (wt rfl) rfl ?_
                    refine h_op (vB (!((b_13.toNat : Int) == 95))) (wt rfl) rfl ?_
                    refine h_nil ?_
                    replace h_16 := some_inj h_16
                    subst h_16
                    exact cut_mk () trivial rfl (pre_r rfl)
              · refine h_movb rfl hc_25 (wg rfl rfl rfl) ?_
                refine h_skip (wg rfl rfl rfl) ?_
                refine h_skip (wg rfl rfl rfl) ?_
                refine h_op (vB false) (wg rfl rfl rfl) rfl ?_
                refine h_op (vB false) (wg rfl rfl rfl) rfl ?_
                refine h_op (.d (.int .u8 (b_13.toNat : Int))) (wg rfl rfl rfl) rfl ?_
                refine h_op (vB ((b_13.toNat : Int) == 45)) (wg rfl rfl rfl) rfl ?_
                refine h_op (vB ((b_13.toNat : Int) == 45)) (wg rfl rfl rfl) rfl ?_
                rcases cond_some h_16 with ⟨hc_28, h_16⟩ | ⟨hc_28, h_16⟩
                · refine h_movb rfl hc_28 (wg rfl rfl rfl) ?_
                  refine h_skip (wg rfl rfl rfl) ?_
                  refine h_skip (wg rfl rfl rfl) ?_
                  refine h_op (vB true) (wg rfl rfl rfl) rfl ?_
                  refine h_op (vB true) (wg rfl rfl rfl) rfl ?_
                  refine h_op (vB true) (wt rfl) rfl ?_
                  refine h_op (vB false) (wt rfl) rfl ?_
                  refine h_nil ?_
                  replace h_16 := some_inj h_16
                  subst h_16
                  exact cut_mk () trivial rfl (pre_r rfl)
                · refine h_movb rfl hc_28 (wg rfl rfl rfl) ?_
                  refine h_op (.d (.int .u8 (b_13.toNat : Int))) (wg rfl rfl rfl) rfl ?_
                  refine h_op (vB ((b_13.toNat : Int) == 95)) (wg rfl rfl rfl) rfl ?_
                  refine h_op (vB ((b_13.toNat : Int) == 95)) (wg rfl rfl rfl) rfl ?_
                  refine h_op (vB ((b_13.toNat : Int) == 95)) (wg rfl rfl rfl) rfl ?_
                  refine h_op (vB ((b_13.toNat : Int) == 95)) (wt rfl) rfl ?_
                  refine h_op (vB (!((b_13.toNat : Int) == 95))) (wt rfl) rfl ?_
                  refine h_nil ?_
                  replace h_16 := some_inj h_16
                  subst h_16
                  exact cut_mk () trivial rfl (pre_r rfl)
            · refine h_movb rfl hc_24 (wg rfl rfl rfl) ?_
              refine h_skip (wg rfl rfl rfl) ?_
              refine h_skip (wg rfl rfl rfl) ?_
              refine h_skip (wg rfl rfl rfl) ?_
              refine h_skip (wn rfl rfl) ?_
              refine h_skip (wn rfl rfl) ?_
              refine h_skip (wg rfl rfl rfl) ?_
              refine h_skip (wg rfl rfl rfl) ?_
              refine h_skip (wn rfl rfl) ?_
              refine h_skip (wn rfl rfl) ?_
              refine h_skip (wg rfl rfl rfl) ?_
              refine h_skip (wg rfl rfl rfl) ?_
              refine h_skip (wn rfl rfl) ?_
              refine h_skip (wn rfl rfl) ?_
              refine h_skip (wg rfl rfl rfl) ?_
              refine h_op (vB false) (wg rfl rfl rfl) rfl ?_
              refine h_op (vB false) (wt rfl) rfl ?_
              refine h_op (vB true) (wt rfl) rfl ?_
              refine h_nil ?_
              replace h_16 := some_inj h_16
              subst h_16
              exact cut_mk () trivial rfl (pre_r rfl)
        · rintro ⟨⟩ _ sl_ H_ hp_ hq_
          refine wH_at _ hp_ hq_ ?_
          rcases cond_some hc_8 with ⟨hc_29, hc_8⟩ | ⟨hc_29, hc_8⟩
          · refine wH_ift rfl hc_29 ?_
            refine wH_seq ?_
            refine wH_region ?_
            refine h_op (vB false) (wt rfl) rfl ?_
            refine h_nil ?_
            replace hc_8 := some_inj hc_8
            subst hc_8
            replace hL_9 := some_inj hL_9
            subst hL_9
            replace hF := some_inj hF
            subst hF
            refine wH_ret ?_
            exact fin0 (.inr rfl) [(vB false)] ⟨rfl, trivial⟩ rfl rfl rfl
          · refine wH_iff rfl hc_29 ?_
            refine wH_skip ?_
            refine wH_region ?_
            refine h_op (vI s_7) (wt rfl) rfl ?_
            refine h_op (vI (w64 (s_7 + 1))) (wt rfl) rfl ?_
            refine h_op (vI (w64 (s_7 + 1))) (wt rfl) rfl ?_
            refine h_nil ?_
            replace hc_8 := some_inj hc_8
            subst hc_8
            exact loop_mk (k_2, (w64 (s_7 + 1))) hL_9 (Nat.lt_succ_self _) rfl (pre_r rfl)
      · refine wH_iff rfl hc_12 ?_
        refine wH_exit ?_
        replace hc_8 := some_inj hc_8
        subst hc_8
        replace hL_9 := some_inj hL_9
        subst hL_9
        exact cut_mk (s_7) rfl rfl (pre_r rfl)
  · rintro s_7 ho_ sl_ H_ hp_ hq_
    subst ho_
    refine wH_at _ hp_ hq_ ?_
    refine wH_seq ?_
    obtain ⟨v_30, h_31, hF⟩ := bind_some hF
    refine wH_join (β := Unit) (fun _ => ([(2, (vB v_30))] : List (Nat × V))) (fun _ => ([] : Hp)) (fun _ => True) ?_ ?_
    · refine wH_region ?_
      refine h_op (vS s_1) (wt rfl) rfl ?_
      refine h_op (vB (sNe s_1 (⟨#[]⟩ : ByteArray))) (wt rfl) rfl ?_
      rcases cond_some h_31 with ⟨hc_32, h_31⟩ | ⟨hc_32, h_31⟩
      · refine h_movb rfl hc_32 (wt rfl) ?_
        refine h_op (vS s_1) (wg rfl rfl rfl) rfl ?_
        refine h_lens un9 rfl (wg rfl rfl rfl) ?_
        refine h_op (vB (decide ((s_1.size : Int) ≤ 40))) (wg rfl rfl rfl) rfl ?_
        refine h_op (vB (decide ((s_1.size : Int) ≤ 40))) (wt rfl) rfl ?_
        refine h_op (vB (decide ((s_1.size : Int) ≤ 40))) (wt rfl) rfl ?_
        refine h_nil ?_
        replace h_31 := some_inj h_31
        subst h_31
        exact cut_mk () trivial rfl (pre_r rfl)
      · refine h_movb rfl hc_32 (wt rfl) ?_
        refine h_skip (wg rfl rfl rfl) ?_
        refine h_skip (wg rfl rfl rfl) ?_
        refine h_skip (wg rfl rfl rfl) ?_
        refine h_op (vB false) (wt rfl) rfl ?_
        refine h_op (vB false) (wt rfl) rfl ?_
        refine h_nil ?_
        replace h_31 := some_inj h_31
        subst h_31
        exact cut_mk () trivial rfl (pre_r rfl)
    · rintro ⟨⟩ _ sl_ H_ hp_ hq_
      refine wH_at _ hp_ hq_ ?_
      replace hF := some_inj hF
      subst hF
      refine wH_ret ?_
      exact fin0 (.inr rfl) [(vB v_30)] ⟨rfl, trivial⟩ rfl rfl rfl
theorem kit_Outside_ok {n_1 : Int} {low_2 : Int} {high_3 : Int} {r : Bool} (hF : kit_Outside n_1 low_2 high_3 = some r) :
    FnM Tryz.prog 53 [(vI n_1), (vI low_2), (vI high_3)] [] (vB r) [] := by
  refine FnM.of_wH ⟨Tryz.prog, 15, [], []⟩ rfl Tryz.func53 rfl rfl (Nat.le_of_ble_eq_true rfl) (by kernel_rfl) ?_
  unfold kit_Outside at hF
  refine wH_seq ?_
  refine wH_region ?_
  refine h_op (vB false) (wt rfl) rfl ?_
  refine h_nil ?_
  refine wH_seq ?_
  obtain ⟨v_4, h_5, hF⟩ := bind_some hF
  refine wH_join (β := Unit) (fun _ => ([(6, (vB v_4))] : List (Nat × V))) (fun _ => ([] : Hp)) (fun _ => True) ?_ ?_
  · refine wH_region ?_
    refine h_op (vI n_1) (wt rfl) rfl ?_
    refine h_op (vI low_2) (wt rfl) rfl ?_
    refine h_op (vB (decide (n_1 < low_2))) (wt rfl) rfl ?_
    rcases cond_some h_5 with ⟨hc_6, h_5⟩ | ⟨hc_6, h_5⟩
    · refine h_movb rfl hc_6 (wt rfl) ?_
      refine h_skip (wg rfl rfl rfl) ?_
      refine h_skip (wg rfl rfl rfl) ?_
      refine h_skip (wg rfl rfl rfl) ?_
      refine h_op (vB true) (wt rfl) rfl ?_
      refine h_op (vB true) (wt rfl) rfl ?_
      refine h_nil ?_
      replace h_5 := some_inj h_5
      subst h_5
      exact cut_mk () trivial rfl (pre_r rfl)
    · refine h_movb rfl hc_6 (wt rfl) ?_
      refine h_op (vI n_1) (wg rfl rfl rfl) rfl ?_
      refine h_op (vI high_3) (wg rfl rfl rfl) rfl ?_
      refine h_op (vB (decide (n_1 > high_3))) (wg rfl rfl rfl) rfl ?_
      refine h_op (vB (decide (n_1 > high_3))) (wt rfl) rfl ?_
      refine h_op (vB (decide (n_1 > high_3))) (wt rfl) rfl ?_
      refine h_nil ?_
      replace h_5 := some_inj h_5
      subst h_5
      exact cut_mk () trivial rfl (pre_r rfl)
  · rintro ⟨⟩ _ sl_ H_ hp_ hq_
    refine wH_at _ hp_ hq_ ?_
    replace hF := some_inj hF
    subst hF
    refine wH_ret ?_
    exact fin0 (.inr rfl) [(vB v_4)] ⟨rfl, trivial⟩ rfl rfl rfl
theorem screen_isSide_ok {n_1 : Int} {r : Bool} (hF : screen_isSide n_1 = some r) :
    FnM Tryz.prog 73 [(vI n_1)] [] (vB r) [] := by
  refine FnM.of_wH ⟨Tryz.prog, 6, [], []⟩ rfl Tryz.func73 rfl rfl (Nat.le_of_ble_eq_true rfl) (by kernel_rfl) ?_
  unfold screen_isSide at hF
  refine wH_seq ?_
  refine wH_region ?_
  refine h_op (vB false) (wt rfl) rfl ?_
  refine h_nil ?_
  refine wH_seq ?_
  refine wH_region ?_
  refine h_op (vI n_1) (wt rfl) rfl ?_
  obtain ⟨r_2, hr_3, hF⟩ := bind_some hF
  refine h_call0 (kit_Outside_ok hr_3) rfl hb53 rfl rfl rfl rfl (wt rfl) ?_
  refine h_op (vB (!r_2)) (wt rfl) rfl ?_
  refine h_op (vB (!r_2)) (wt rfl) rfl ?_
  refine h_nil ?_
  replace hF := some_inj hF
  subst hF
  refine wH_ret ?_
  exact fin0 (.inr rfl) [(vB (!r_2))] ⟨rfl, trivial⟩ rfl rfl rfl
theorem screen_sidesFault_ok {l_1 : (List Int)} {r : Int} (hF : screen_sidesFault l_1 = some r) :
    FnM Tryz.prog 50 [(vL eI l_1)] [] (vI r) [] := by
  refine FnM.of_wH ⟨Tryz.prog, 15, [], []⟩ rfl Tryz.func50 rfl rfl (Nat.le_of_ble_eq_true rfl) (by kernel_rfl) ?_
  unfold screen_sidesFault at hF
  refine wH_seq ?_
  refine wH_region ?_
  refine h_op (vI 0) (wt rfl) rfl ?_
  refine h_nil ?_
  refine wH_seq ?_
  refine wH_seq ?_
  refine wH_region ?_
  refine h_op (vL eI l_1) (wt rfl) rfl ?_
  refine h_len un22 rfl (wt rfl) ?_
  refine h_op (vI 0) (wt rfl) rfl ?_
  refine h_nil ?_
  obtain ⟨o_10, hj_11, hF⟩ := bind_some hF
  obtain ⟨hn_6, hj_11⟩ := forL_some hj_11
  refine wH_join (β := (Unit)) (fun (s_7 : Unit) => ([] : List (Nat × V))) (fun (s_7 : Unit) => ([] : Hp)) (fun p => o_10 = .go p) ?_ ?_
  · refine wH_block ?_
    refine wH_loop (β := Nat × (List Int) × (Unit)) (fun p => (fun (k_2 : Nat) (l_3 : List Int) (s_7 : Unit) => ([(5, (vL eI l_1)), (6, (vI (l_1.length : Int))), (7, (vI (k_2 : Int)))] : List (Nat × V))) p.1 p.2.1 p.2.2) (fun p => (fun (k_2 : Nat) (l_3 : List Int) (s_7 : Unit) => ([] : Hp)) p.1 p.2.1 p.2.2) (fun p => forR (fun k x s => screen_sidesFault_L1 k x s) p.2.1 p.1 p.2.2 = some o_10 ∧ (l_1).drop p.1 = p.2.1) (fun p => p.2.1.length) (0, l_1, ()) ⟨hj_11, rfl⟩ rfl (pre_r rfl) ?_
    rintro ⟨k_2, l_3, s_7⟩ ⟨hL_9, hD_5⟩
    dsimp only at hL_9 hD_5
    cases l_3 with
    | nil =>
      replace hL_9 := some_inj hL_9
      subst hL_9
      refine wH_seq (wH_region (h_op (vB (decide ((k_2 : Int) < (l_1.length : Int)))) (wt rfl) rfl (h_nil ?_)))
      refine wH_seq (wH_iff rfl (drop_nil hD_5) (wH_exit ?_))
      exact cut_mk (s_7) rfl rfl (pre_r rfl)
    | cons x_4 l_3 =>
      obtain ⟨c_, hc_8, hL_9⟩ := bind_some hL_9
      refine wH_seq (wH_region (h_op (vB (decide ((k_2 : Int) < (l_1.length : Int)))) (wt rfl) rfl (h_nil ?_)))
      refine wH_seq (wH_ift rfl (drop_cons hD_5) (wH_skip ?_))
      unfold screen_sidesFault_L1 at hc_8
      refine wH_seq ?_
      refine wH_block ?_
      refine wH_seq ?_
      refine wH_region ?_
      refine h_ia es22 rfl rfl (drop_idx hD_5) rfl (wt rfl) ?_
      refine h_ldc sz3 ag3 rfl (vI x_4) rfl (wt rfl) ?_
      refine h_op (vI x_4) (wt rfl) rfl ?_
      refine h_nil ?_
      refine wH_seq ?_
      refine wH_region ?_
      refine h_op (vI x_4) (wt rfl) rfl ?_
      obtain ⟨r_12, hr_13, hc_8⟩ := bind_some hc_8
      refine h_call0 (screen_isSide_ok hr_13) rfl hb73 rfl rfl rfl rfl (wt rfl) ?_
      refine h_op (vB (!r_12)) (wt rfl) rfl ?_
      refine h_nil ?_
      rcases cond_some hc_8 with ⟨hc_14, hc_8⟩ | ⟨hc_14, hc_8⟩
      · refine wH_ift rfl hc_14 ?_
        refine wH_seq ?_
        refine wH_region ?_
        refine h_op (vI 1) (wt rfl) rfl ?_
        refine h_nil ?_
        replace hc_8 := some_inj hc_8
        subst hc_8
        replace hL_9 := some_inj hL_9
        subst hL_9
        replace hF := some_inj hF
        subst hF
        refine wH_ret ?_
        exact fin0 (.inr rfl) [(vI 1)] ⟨rfl, trivial⟩ rfl rfl rfl
      · refine wH_iff rfl hc_14 ?_
        refine wH_skip ?_
        refine wH_region ?_
        refine h_opw (w64_next hD_5 hn_6) (wt rfl) rfl ?_
        refine h_op (vI ((k_2 + 1 : Nat) : Int)) (wt rfl) rfl ?_
        refine h_nil ?_
        replace hc_8 := some_inj hc_8
        subst hc_8
        exact loop_mk (k_2 + 1, l_3, ()) ⟨hL_9, drop_next hD_5⟩ (Nat.lt_succ_self _) rfl (pre_r rfl)
  · rintro s_7 ho_ sl_ H_ hp_ hq_
    subst ho_
    refine wH_at _ hp_ hq_ ?_
    refine wH_seq ?_
    refine wH_region ?_
    refine h_op (vI 0) (wt rfl) rfl ?_
    refine h_nil ?_
    replace hF := some_inj hF
    subst hF
    refine wH_ret ?_
    exact fin0 (.inr rfl) [(vI 0)] ⟨rfl, trivial⟩ rfl rfl rfl
theorem screen_CheckRect_ok {r_1 : Rect} {r : Int} (hF : screen_CheckRect r_1 = some r) :
    FnM Tryz.prog 51 [(.d (.agg (Rect.enc r_1)))] [] (vI r) [] := by
  refine FnM.of_wH ⟨Tryz.prog, 25, [], []⟩ rfl Tryz.func51 rfl rfl (Nat.le_of_ble_eq_true rfl) (by kernel_rfl) ?_
  unfold screen_CheckRect at hF
  refine wH_seq ?_
  refine wH_region ?_
  refine h_box 0 (.inl rfl) [(vI r_1.X), (vI r_1.Y), (vI r_1.W), (vI r_1.H)] rfl rfl (wt rfl) (fun n_2 => ?_)
  refine h_op (vI 0) (wt rfl) rfl ?_
  refine h_nil ?_
  refine wH_seq ?_
  refine wH_seq ?_
  obtain ⟨v_3, h_4, hF⟩ := bind_some hF
  refine wH_join (β := Unit) (fun _ => ([(1, (.ref n_2 0 0)), (10, (vB v_3))] : List (Nat × V))) (fun _ => ([(n_2, some (.cells 4 [(vI r_1.X), (vI r_1.Y), (vI r_1.W), (vI r_1.H)]))] : Hp)) (fun _ => True) ?_ ?_
  · refine wH_region ?_
    refine h_far pl49_0 rfl 0 rfl (wt rfl) ?_
    refine h_ldr 0 0 (.inl rfl) (fun _ _ _ => trivial) sz3 ag3 rfl rfl (vI r_1.X) rfl (wt rfl) ?_
    obtain ⟨r_5, hr_6, h_4⟩ := bind_some h_4
    refine h_call0 (kit_Outside_ok hr_6) rfl hb53 rfl rfl rfl rfl (wt rfl) ?_
    rcases cond_some h_4 with ⟨hc_7, h_4⟩ | ⟨hc_7, h_4⟩
    · refine h_movb rfl hc_7 (wt rfl) ?_
      refine h_skip (wg rfl rfl rfl) ?_
      refine h_skip (wg rfl rfl rfl) ?_
      refine h_skip (wg rfl rfl rfl) ?_
      refine h_op (vB true) (wt rfl) rfl ?_
      refine h_nil ?_
      replace h_4 := some_inj h_4
      subst h_4
      exact cut_mk () trivial rfl (pre_r rfl)
    · refine h_movb rfl hc_7 (wt rfl) ?_
      refine h_far pl49_1 rfl 1 rfl (wg rfl rfl rfl) ?_
      refine h_ldr 0 0 (.inl rfl) (fun _ _ _ => trivial) sz3 ag3 rfl rfl (vI r_1.Y) rfl (wg rfl rfl rfl) ?_
      obtain ⟨r_8, hr_9, h_4⟩ := bind_some h_4
      refine h_call0 (kit_Outside_ok hr_9) rfl hb53 rfl rfl rfl rfl (wg rfl rfl rfl) ?_
      refine h_op (vB r_8) (wt rfl) rfl ?_
      refine h_nil ?_
      replace h_4 := some_inj h_4
      subst h_4
      exact cut_mk () trivial rfl (pre_r rfl)
  · rintro ⟨⟩ _ sl_ H_ hp_ hq_
    refine wH_at _ hp_ hq_ ?_
    rcases cond_some hF with ⟨hc_10, hF⟩ | ⟨hc_10, hF⟩
    · refine wH_ift rfl hc_10 ?_
      refine wH_seq ?_
      refine wH_region ?_
      refine h_op (vI 1) (wt rfl) rfl ?_
      refine h_nil ?_
      replace hF := some_inj hF
      subst hF
      refine wH_ret ?_
      exact fin0 (.inr rfl) [(vI 1)] ⟨rfl, trivial⟩ rfl rfl rfl
    · refine wH_iff rfl hc_10 ?_
      refine wH_skip ?_
      refine wH_seq ?_
      refine wH_seq ?_
      obtain ⟨v_11, h_12, hF⟩ := bind_some hF
      refine wH_join (β := Unit) (fun _ => ([(24, (vB v_11))] : List (Nat × V))) (fun _ => ([(n_2, some (.cells 4 [(vI r_1.X), (vI r_1.Y), (vI r_1.W), (vI r_1.H)]))] : Hp)) (fun _ => True) ?_ ?_
      · refine wH_region ?_
        refine h_far pl49_2 rfl 2 rfl (wt rfl) ?_
        refine h_ldr 0 0 (.inl rfl) (fun _ _ _ => trivial) sz3 ag3 rfl rfl (vI r_1.W) rfl (wt rfl) ?_
        refine h_far pl49_0 rfl 0 rfl (wt rfl) ?_
        refine h_ldr 0 0 (.inl rfl) (fun _ _ _ => trivial) sz3 ag3 rfl rfl (vI r_1.X) rfl (wt rfl) ?_
        refine h_op (vI (w64 (100000 - r_1.X))) (wt rfl) rfl ?_
        obtain ⟨r_13, hr_14, h_12⟩ := bind_some h_12
        refine h_call0 (kit_Outside_ok hr_14) rfl hb53 rfl rfl rfl rfl (wt rfl) ?_
        rcases cond_some h_12 with ⟨hc_15, h_12⟩ | ⟨hc_15, h_12⟩
        · refine h_movb rfl hc_15 (wt rfl) ?_
          refine h_skip (wg rfl rfl rfl) ?_
          refine h_skip (wg rfl rfl rfl) ?_
          refine h_skip (wg rfl rfl rfl) ?_
          refine h_skip (wg rfl rfl rfl) ?_
          refine h_skip (wg rfl rfl rfl) ?_
          refine h_skip (wg rfl rfl rfl) ?_
          refine h_op (vB true) (wt rfl) rfl ?_
          refine h_nil ?_
          replace h_12 := some_inj h_12
          subst h_12
          exact cut_mk () trivial rfl (pre_r rfl)
        · refine h_movb rfl hc_15 (wt rfl) ?_
          refine h_far pl49_3 rfl 3 rfl (wg rfl rfl rfl) ?_
          refine h_ldr 0 0 (.inl rfl) (fun _ _ _ => trivial) sz3 ag3 rfl rfl (vI r_1.H) rfl (wg rfl rfl rfl) ?_
          refine h_far pl49_1 rfl 1 rfl (wg rfl rfl rfl) ?_
          refine h_ldr 0 0 (.inl rfl) (fun _ _ _ => trivial) sz3 ag3 rfl rfl (vI r_1.Y) rfl (wg rfl rfl rfl) ?_
          refine h_op (vI (w64 (100000 - r_1.Y))) (wg rfl rfl rfl) rfl ?_
          obtain ⟨r_16, hr_17, h_12⟩ := bind_some h_12
          refine h_call0 (kit_Outside_ok hr_17) rfl hb53 rfl rfl rfl rfl (wg rfl rfl rfl) ?_
          refine h_op (vB r_16) (wt rfl) rfl ?_
          refine h_nil ?_
          replace h_12 := some_inj h_12
          subst h_12
          exact cut_mk () trivial rfl (pre_r rfl)
      · rintro ⟨⟩ _ sl_ H_ hp_ hq_
        refine wH_at _ hp_ hq_ ?_
        rcases cond_some hF with ⟨hc_18, hF⟩ | ⟨hc_18, hF⟩
        · refine wH_ift rfl hc_18 ?_
          refine wH_seq ?_
          refine wH_region ?_
          refine h_op (vI 1) (wt rfl) rfl ?_
          refine h_nil ?_
          replace hF := some_inj hF
          subst hF
          refine wH_ret ?_
          exact fin0 (.inr rfl) [(vI 1)] ⟨rfl, trivial⟩ rfl rfl rfl
        · refine wH_iff rfl hc_18 ?_
          refine wH_skip ?_
          refine wH_seq ?_
          refine wH_region ?_
          refine h_op (vI 0) (wt rfl) rfl ?_
          refine h_nil ?_
          replace hF := some_inj hF
          subst hF
          refine wH_ret ?_
          exact fin0 (.inr rfl) [(vI 0)] ⟨rfl, trivial⟩ rfl rfl rfl
theorem screen_inside_ok {r_1 : Rect} {wv_2 : Int} {h_3 : Int} {r : Bool} (hF : screen_inside r_1 wv_2 h_3 = some r) :
    FnM Tryz.prog 52 [(.d (.agg (Rect.enc r_1))), (vI wv_2), (vI h_3)] [] (vB r) [] := by
  refine FnM.of_wH ⟨Tryz.prog, 33, [], []⟩ rfl Tryz.func52 rfl rfl (Nat.le_of_ble_eq_true rfl) (by kernel_rfl) ?_
  unfold screen_inside at hF
  refine wH_seq ?_
  refine wH_region ?_
  refine h_box 0 (.inl rfl) [(vI r_1.X), (vI r_1.Y), (vI r_1.W), (vI r_1.H)] rfl rfl (wt rfl) (fun n_4 => ?_)
  refine h_op (vB false) (wt rfl) rfl ?_
  refine h_nil ?_
  refine wH_seq ?_
  obtain ⟨v_5, h_6, hF⟩ := bind_some hF
  refine wH_join (β := Unit) (fun _ => ([(6, (vB v_5))] : List (Nat × V))) (fun _ => ([(n_4, some (.cells 4 [(vI r_1.X), (vI r_1.Y), (vI r_1.W), (vI r_1.H)]))] : Hp)) (fun _ => True) ?_ ?_
  · refine wH_region ?_
    refine h_far pl49_0 rfl 0 rfl (wt rfl) ?_
    refine h_ldr 0 0 (.inl rfl) (fun _ _ _ => trivial) sz3 ag3 rfl rfl (vI r_1.X) rfl (wt rfl) ?_
    refine h_op (vB (decide (r_1.X ≥ 0))) (wt rfl) rfl ?_
    rcases cond_some h_6 with ⟨hc_7, h_6⟩ | ⟨hc_7, h_6⟩
    · refine h_movb rfl hc_7 (wt rfl) ?_
      refine h_far pl49_1 rfl 1 rfl (wg rfl rfl rfl) ?_
      refine h_ldr 0 0 (.inl rfl) (fun _ _ _ => trivial) sz3 ag3 rfl rfl (vI r_1.Y) rfl (wg rfl rfl rfl) ?_
      refine h_op (vB (decide (r_1.Y ≥ 0))) (wg rfl rfl rfl) rfl ?_
      refine h_op (vB (decide (r_1.Y ≥ 0))) (wt rfl) rfl ?_
      rcases cond_some h_6 with ⟨hc_8, h_6⟩ | ⟨hc_8, h_6⟩
      · refine h_movb rfl hc_8 (wt rfl) ?_
        refine h_far pl49_0 rfl 0 rfl (wg rfl rfl rfl) ?_
        refine h_ldr 0 0 (.inl rfl) (fun _ _ _ => trivial) sz3 ag3 rfl rfl (vI r_1.X) rfl (wg rfl rfl rfl) ?_
        refine h_far pl49_2 rfl 2 rfl (wg rfl rfl rfl) ?_
        refine h_ldr 0 0 (.inl rfl) (fun _ _ _ => trivial) sz3 ag3 rfl rfl (vI r_1.W) rfl (wg rfl rfl rfl) ?_
        refine h_op (vI (w64 (r_1.X + r_1.W))) (wg rfl rfl rfl) rfl ?_
        refine h_op (vI wv_2) (wg rfl rfl rfl) rfl ?_
        refine h_op (vB (decide ((w64 (r_1.X + r_1.W)) ≤ wv_2))) (wg rfl rfl rfl) rfl ?_
        refine h_op (vB (decide ((w64 (r_1.X + r_1.W)) ≤ wv_2))) (wt rfl) rfl ?_
        rcases cond_some h_6 with ⟨hc_9, h_6⟩ | ⟨hc_9, h_6⟩
        · refine h_movb rfl hc_9 (wt rfl) ?_
          refine h_far pl49_1 rfl 1 rfl (wg rfl rfl rfl) ?_
          refine h_ldr 0 0 (.inl rfl) (fun _ _ _ => trivial) sz3 ag3 rfl rfl (vI r_1.Y) rfl (wg rfl rfl rfl) ?_
          refine h_far pl49_3 rfl 3 rfl (wg rfl rfl rfl) ?_
          refine h_ldr 0 0 (.inl rfl) (fun _ _ _ => trivial) sz3 ag3 rfl rfl (vI r_1.H) rfl (wg rfl rfl rfl) ?_
          refine h_op (vI (w64 (r_1.Y + r_1.H))) (wg rfl rfl rfl) rfl ?_
          refine h_op (vI h_3) (wg rfl rfl rfl) rfl ?_
          refine h_op (vB (decide ((w64 (r_1.Y + r_1.H)) ≤ h_3))) (wg rfl rfl rfl) rfl ?_
          refine h_op (vB (decide ((w64 (r_1.Y + r_1.H)) ≤ h_3))) (wt rfl) rfl ?_
          refine h_op (vB (decide ((w64 (r_1.Y + r_1.H)) ≤ h_3))) (wt rfl) rfl ?_
          refine h_nil ?_
          replace h_6 := some_inj h_6
          subst h_6
          exact cut_mk () trivial rfl (pre_r rfl)
        · refine h_movb rfl hc_9 (wt rfl) ?_
          refine h_skip (wg rfl rfl rfl) ?_
          refine h_skip (wg rfl rfl rfl) ?_
          refine h_skip (wg rfl rfl rfl) ?_
          refine h_skip (wg rfl rfl rfl) ?_
          refine h_skip (wg rfl rfl rfl) ?_
          refine h_skip (wg rfl rfl rfl) ?_
          refine h_skip (wg rfl rfl rfl) ?_
          refine h_op (vB false) (wt rfl) rfl ?_
          refine h_op (vB false) (wt rfl) rfl ?_
          refine h_nil ?_
          replace h_6 := some_inj h_6
          subst h_6
          exact cut_mk () trivial rfl (pre_r rfl)
      · refine h_movb rfl hc_8 (wt rfl) ?_
        refine h_skip (wg rfl rfl rfl) ?_
        refine h_skip (wg rfl rfl rfl) ?_
        refine h_skip (wg rfl rfl rfl) ?_
        refine h_skip (wg rfl rfl rfl) ?_
        refine h_skip (wg rfl rfl rfl) ?_
        refine h_skip (wg rfl rfl rfl) ?_
        refine h_skip (wg rfl rfl rfl) ?_
        refine h_op (vB false) (wt rfl) rfl ?_
        refine h_op (vB false) (wt rfl) rfl ?_
        refine h_skip (wg rfl rfl rfl) ?_
        refine h_skip (wg rfl rfl rfl) ?_
        refine h_skip (wg rfl rfl rfl) ?_
        refine h_skip (wg rfl rfl rfl) ?_
        refine h_skip (wg rfl rfl rfl) ?_
        refine h_skip (wg rfl rfl rfl) ?_
        refine h_skip (wg rfl rfl rfl) ?_
        refine h_op (vB false) (wt rfl) rfl ?_
        refine h_op (vB false) (wt rfl) rfl ?_
        refine h_nil ?_
        replace h_6 := some_inj h_6
        subst h_6
        exact cut_mk () trivial rfl (pre_r rfl)
    · refine h_movb rfl hc_7 (wt rfl) ?_
      refine h_skip (wg rfl rfl rfl) ?_
      refine h_skip (wg rfl rfl rfl) ?_
      refine h_skip (wg rfl rfl rfl) ?_
      refine h_op (vB false) (wt rfl) rfl ?_
      refine h_op (vB false) (wt rfl) rfl ?_
      refine h_skip (wg rfl rfl rfl) ?_
      refine h_skip (wg rfl rfl rfl) ?_
      refine h_skip (wg rfl rfl rfl) ?_
      refine h_skip (wg rfl rfl rfl) ?_
      refine h_skip (wg rfl rfl rfl) ?_
      refine h_skip (wg rfl rfl rfl) ?_
      refine h_skip (wg rfl rfl rfl) ?_
      refine h_op (vB false) (wt rfl) rfl ?_
      refine h_op (vB false) (wt rfl) rfl ?_
      refine h_skip (wg rfl rfl rfl) ?_
      refine h_skip (wg rfl rfl rfl) ?_
      refine h_skip (wg rfl rfl rfl) ?_
      refine h_skip (wg rfl rfl rfl) ?_
      refine h_skip (wg rfl rfl rfl) ?_
      refine h_skip (wg rfl rfl rfl) ?_
      refine h_skip (wg rfl rfl rfl) ?_
      refine h_op (vB false) (wt rfl) rfl ?_
      refine h_op (vB false) (wt rfl) rfl ?_
      refine h_nil ?_
      replace h_6 := some_inj h_6
      subst h_6
      exact cut_mk () trivial rfl (pre_r rfl)
  · rintro ⟨⟩ _ sl_ H_ hp_ hq_
    refine wH_at _ hp_ hq_ ?_
    replace hF := some_inj hF
    subst hF
    refine wH_ret ?_
    exact fin0 (.inr rfl) [(vB v_5)] ⟨rfl, trivial⟩ rfl rfl rfl
theorem screen_meet_ok {a_1 : Rect} {b_2 : Rect} {r : Rect × Bool} (hF : screen_meet a_1 b_2 = some r) :
    FnM Tryz.prog 66 [(.d (.agg (Rect.enc a_1))), (.d (.agg (Rect.enc b_2)))] [] (.tup [(.d (.agg (Rect.enc r.1))), (vB r.2)]) [] := by
  refine FnM.of_wH ⟨Tryz.prog, 58, [], []⟩ rfl Tryz.func66 rfl rfl (Nat.le_of_ble_eq_true rfl) (by kernel_rfl) ?_
  unfold screen_meet at hF
  refine wH_seq ?_
  refine wH_region ?_
  refine h_box 0 (.inl rfl) [(vI a_1.X), (vI a_1.Y), (vI a_1.W), (vI a_1.H)] rfl rfl (wt rfl) (fun n_3 => ?_)
  refine h_box 0 (.inl rfl) [(vI b_2.X), (vI b_2.Y), (vI b_2.W), (vI b_2.H)] rfl rfl (wt rfl) (fun n_4 => ?_)
  refine h_alloc 0 (.inl rfl) z49 rfl (wt rfl) (fun n_5 => ?_)
  refine h_op (vB false) (wt rfl) rfl ?_
  refine h_nil ?_
  refine wH_seq ?_
  refine wH_draws ?_
  refine h_far pl49_0 rfl 0 rfl (wt rfl) ?_
  refine h_ldr 1 0 (.inr (by kernel_rfl)) (fun _ _ ag => trivial) sz3 ag3 rfl rfl (vI a_1.X) rfl (wt rfl) ?_
  refine h_far pl49_0 rfl 0 rfl (wt rfl) ?_
  refine h_ldr 3 1 (.inr (by kernel_rfl)) (fun _ _ ag => ⟨.inl ⟨rfl, rfl⟩, trivial⟩) sz3 ag3 rfl rfl (vI b_2.X) rfl (wt rfl) ?_
  refine h_minmax (vI (maxI a_1.X b_2.X)) rfl (.inr rfl) (wt rfl) ?_
  refine h_far pl49_1 rfl 1 rfl (wt rfl) ?_
  refine h_ldr 6 0 (.inr (by kernel_rfl)) (fun _ _ ag => ⟨.inl ⟨rfl, rfl⟩, ⟨.inl ⟨rfl, rfl⟩, trivial⟩⟩) sz3 ag3 rfl rfl (vI a_1.Y) rfl (wt rfl) ?_
  refine h_far pl49_1 rfl 1 rfl (wt rfl) ?_
  refine h_ldr 8 1 (.inr (by kernel_rfl)) (fun _ _ ag => ⟨.inl ⟨rfl, rfl⟩, ⟨.inl ⟨rfl, rfl⟩, ⟨.inl ⟨rfl, rfl⟩, trivial⟩⟩⟩) sz3 ag3 rfl rfl (vI b_2.Y) rfl (wt rfl) ?_
  refine h_minmax (vI (maxI a_1.Y b_2.Y)) rfl (.inr rfl) (wt rfl) ?_
  refine h_op (vI (maxI a_1.X b_2.X)) (wt rfl) rfl ?_
  refine h_op (vI (maxI a_1.Y b_2.Y)) (wt rfl) rfl ?_
  refine h_nil ?_
  refine wH_seq ?_
  refine wH_draws ?_
  refine h_far pl49_0 rfl 0 rfl (wt rfl) ?_
  refine h_ldr 1 0 (.inr (by kernel_rfl)) (fun _ _ ag => trivial) sz3 ag3 rfl rfl (vI a_1.X) rfl (wt rfl) ?_
  refine h_far pl49_2 rfl 2 rfl (wt rfl) ?_
  refine h_ldr 3 0 (.inr (by kernel_rfl)) (fun _ _ ag => ⟨.inl ⟨rfl, rfl⟩, trivial⟩) sz3 ag3 rfl rfl (vI a_1.W) rfl (wt rfl) ?_
  refine h_op (vI (w64 (a_1.X + a_1.W))) (wt rfl) rfl ?_
  refine h_far pl49_0 rfl 0 rfl (wt rfl) ?_
  refine h_ldr 6 1 (.inr (by kernel_rfl)) (fun _ _ ag => ⟨.inl ⟨rfl, rfl⟩, ⟨.inl ⟨rfl, rfl⟩, trivial⟩⟩) sz3 ag3 rfl rfl (vI b_2.X) rfl (wt rfl) ?_
  refine h_far pl49_2 rfl 2 rfl (wt rfl) ?_
  refine h_ldr 8 1 (.inr (by kernel_rfl)) (fun _ _ ag => ⟨.inl ⟨rfl, rfl⟩, ⟨.inl ⟨rfl, rfl⟩, ⟨.inl ⟨rfl, rfl⟩, trivial⟩⟩⟩) sz3 ag3 rfl rfl (vI b_2.W) rfl (wt rfl) ?_
  refine h_op (vI (w64 (b_2.X + b_2.W))) (wt rfl) rfl ?_
  refine h_minmax (vI (minI (w64 (a_1.X + a_1.W)) (w64 (b_2.X + b_2.W)))) rfl (.inl rfl) (wt rfl) ?_
  refine h_op (vI (maxI a_1.X b_2.X)) (wt rfl) rfl ?_
  refine h_op (vI (w64 ((minI (w64 (a_1.X + a_1.W)) (w64 (b_2.X + b_2.W))) - (maxI a_1.X b_2.X)))) (wt rfl) rfl ?_
  refine h_far pl49_1 rfl 1 rfl (wt rfl) ?_
  refine h_ldr 14 0 (.inr (by kernel_rfl)) (fun _ _ ag => ⟨.inl ⟨rfl, rfl⟩, ⟨.inl ⟨rfl, rfl⟩, ⟨.inl ⟨rfl, rfl⟩, ⟨.inl ⟨rfl, rfl⟩, trivial⟩⟩⟩⟩) sz3 ag3 rfl rfl (vI a_1.Y) rfl (wt rfl) ?_
  refine h_far pl49_3 rfl 3 rfl (wt rfl) ?_
  refine h_ldr 16 0 (.inr (by kernel_rfl)) (fun _ _ ag => ⟨.inl ⟨rfl, rfl⟩, ⟨.inl ⟨rfl, rfl⟩, ⟨.inl ⟨rfl, rfl⟩, ⟨.inl ⟨rfl, rfl⟩, ⟨.inl ⟨rfl, rfl⟩, trivial⟩⟩⟩⟩⟩) sz3 ag3 rfl rfl (vI a_1.H) rfl (wt rfl) ?_
  refine h_op (vI (w64 (a_1.Y + a_1.H))) (wt rfl) rfl ?_
  refine h_far pl49_1 rfl 1 rfl (wt rfl) ?_
  refine h_ldr 19 1 (.inr (by kernel_rfl)) (fun _ _ ag => ⟨.inl ⟨rfl, rfl⟩, ⟨.inl ⟨rfl, rfl⟩, ⟨.inl ⟨rfl, rfl⟩, ⟨.inl ⟨rfl, rfl⟩, ⟨.inl ⟨rfl, rfl⟩, ⟨.inl ⟨rfl, rfl⟩, trivial⟩⟩⟩⟩⟩⟩) sz3 ag3 rfl rfl (vI b_2.Y) rfl (wt rfl) ?_
  refine h_far pl49_3 rfl 3 rfl (wt rfl) ?_
  refine h_ldr 21 1 (.inr (by kernel_rfl)) (fun _ _ ag => ⟨.inl ⟨rfl, rfl⟩, ⟨.inl ⟨rfl, rfl⟩, ⟨.inl ⟨rfl, rfl⟩, ⟨.inl ⟨rfl, rfl⟩, ⟨.inl ⟨rfl, rfl⟩, ⟨.inl ⟨rfl, rfl⟩, ⟨.inl ⟨rfl, rfl⟩, trivial⟩⟩⟩⟩⟩⟩⟩) sz3 ag3 rfl rfl (vI b_2.H) rfl (wt rfl) ?_
  refine h_op (vI (w64 (b_2.Y + b_2.H))) (wt rfl) rfl ?_
  refine h_minmax (vI (minI (w64 (a_1.Y + a_1.H)) (w64 (b_2.Y + b_2.H)))) rfl (.inl rfl) (wt rfl) ?_
  refine h_op (vI (maxI a_1.Y b_2.Y)) (wt rfl) rfl ?_
  refine h_op (vI (w64 ((minI (w64 (a_1.Y + a_1.H)) (w64 (b_2.Y + b_2.H))) - (maxI a_1.Y b_2.Y)))) (wt rfl) rfl ?_
  refine h_op (vI (w64 ((minI (w64 (a_1.X + a_1.W)) (w64 (b_2.X + b_2.W))) - (maxI a_1.X b_2.X)))) (wt rfl) rfl ?_
  refine h_op (vI (w64 ((minI (w64 (a_1.Y + a_1.H)) (w64 (b_2.Y + b_2.H))) - (maxI a_1.Y b_2.Y)))) (wt rfl) rfl ?_
  refine h_nil ?_
  refine wH_at (H0 := ([(n_3, some (.cells 4 [(vI a_1.X), (vI a_1.Y), (vI a_1.W), (vI a_1.H)])), (n_4, some (.cells 4 [(vI b_2.X), (vI b_2.Y), (vI b_2.W), (vI b_2.H)])), (n_5, some (.cells 4 [(vI 0), (vI 0), (vI 0), (vI 0)]))] : Hp)) ([(4, (.ref n_5 0 0)), (6, (vI (maxI a_1.X b_2.X))), (7, (vI (maxI a_1.Y b_2.Y))), (8, (vI (w64 ((minI (w64 (a_1.X + a_1.W)) (w64 (b_2.X + b_2.W))) - (maxI a_1.X b_2.X))))), (9, (vI (w64 ((minI (w64 (a_1.Y + a_1.H)) (w64 (b_2.Y + b_2.H))) - (maxI a_1.Y b_2.Y)))))] : List (Nat × V)) (by kernel_rfl) (pre_mk (by kernel_rfl)) ?_
  refine wH_seq ?_
  refine wH_seq ?_
  obtain ⟨v_6, h_7, hF⟩ := bind_some hF
  refine wH_join (β := Unit) (fun _ => ([(4, (.ref n_5 0 0)), (6, (vI (maxI a_1.X b_2.X))), (7, (vI (maxI a_1.Y b_2.Y))), (8, (vI (w64 ((minI (w64 (a_1.X + a_1.W)) (w64 (b_2.X + b_2.W))) - (maxI a_1.X b_2.X))))), (9, (vI (w64 ((minI (w64 (a_1.Y + a_1.H)) (w64 (b_2.Y + b_2.H))) - (maxI a_1.Y b_2.Y))))), (51, (vB v_6))] : List (Nat × V))) (fun _ => ([(n_3, some (.cells 4 [(vI a_1.X), (vI a_1.Y), (vI a_1.W), (vI a_1.H)])), (n_4, some (.cells 4 [(vI b_2.X), (vI b_2.Y), (vI b_2.W), (vI b_2.H)])), (n_5, some (.cells 4 [(vI 0), (vI 0), (vI 0), (vI 0)]))] : Hp)) (fun _ => True) ?_ ?_
  · refine wH_region ?_
    refine h_op (vI (w64 ((minI (w64 (a_1.X + a_1.W)) (w64 (b_2.X + b_2.W))) - (maxI a_1.X b_2.X)))) (wt rfl) rfl ?_
    refine h_op (vB (decide ((w64 ((minI (w64 (a_1.X + a_1.W)) (w64 (b_2.X + b_2.W))) - (maxI a_1.X b_2.X))) ≤ 0))) (wt rfl) rfl ?_
    rcases cond_some h_7 with ⟨hc_8, h_7⟩ | ⟨hc_8, h_7⟩
    · refine h_movb rfl hc_8 (wt rfl) ?_
      refine h_skip (wg rfl rfl rfl) ?_
      refine h_skip (wg rfl rfl rfl) ?_
      refine h_op (vB true) (wt rfl) rfl ?_
      refine h_nil ?_
      replace h_7 := some_inj h_7
      subst h_7
      exact cut_mk () trivial rfl (pre_r rfl)
    · refine h_movb rfl hc_8 (wt rfl) ?_
      refine h_op (vI (w64 ((minI (w64 (a_1.Y + a_1.H)) (w64 (b_2.Y + b_2.H))) - (maxI a_1.Y b_2.Y)))) (wg rfl rfl rfl) rfl ?_
      refine h_op (vB (decide ((w64 ((minI (w64 (a_1.Y + a_1.H)) (w64 (b_2.Y + b_2.H))) - (maxI a_1.Y b_2.Y))) ≤ 0))) (wg rfl rfl rfl) rfl ?_
      refine h_op (vB (decide ((w64 ((minI (w64 (a_1.Y + a_1.H)) (w64 (b_2.Y + b_2.H))) - (maxI a_1.Y b_2.Y))) ≤ 0))) (wt rfl) rfl ?_
      refine h_nil ?_
      replace h_7 := some_inj h_7
      subst h_7
      exact cut_mk () trivial rfl (pre_r rfl)
  · rintro ⟨⟩ _ sl_ H_ hp_ hq_
    refine wH_at _ hp_ hq_ ?_
    rcases cond_some hF with ⟨hc_9, hF⟩ | ⟨hc_9, hF⟩
    · refine wH_ift rfl hc_9 ?_
      refine wH_seq ?_
      refine wH_region ?_
      refine h_op (.d (.agg (Rect.enc (⟨0, 0, 0, 0⟩ : Rect)))) (wt rfl) (by kernel_rfl) ?_
      refine h_str 0 (.inl rfl) (fun _ _ _ => trivial) 2 sz49 rfl rfl [(vI 0), (vI 0), (vI 0), (vI 0)] rfl (wt rfl) ?_
      refine h_op (vB false) (wt rfl) rfl ?_
      refine h_nil ?_
      replace hF := some_inj hF
      subst hF
      refine wH_ret ?_
      exact fin0 (.inr rfl) [(.d (.agg (Rect.enc (⟨0, 0, 0, 0⟩ : Rect)))), (vB false)] ⟨⟨2, _, _, _, _, _, _, _, rfl, rfl, sz49, ag49, rfl⟩, ⟨rfl, trivial⟩⟩ rfl rfl rfl
    · refine wH_iff rfl hc_9 ?_
      refine wH_skip ?_
      refine wH_seq ?_
      refine wH_region ?_
      refine h_op (vI (maxI a_1.X b_2.X)) (wt rfl) rfl ?_
      refine h_op (vI (maxI a_1.Y b_2.Y)) (wt rfl) rfl ?_
      refine h_op (vI (w64 ((minI (w64 (a_1.X + a_1.W)) (w64 (b_2.X + b_2.W))) - (maxI a_1.X b_2.X)))) (wt rfl) rfl ?_
      refine h_op (vI (w64 ((minI (w64 (a_1.Y + a_1.H)) (w64 (b_2.Y + b_2.H))) - (maxI a_1.Y b_2.Y)))) (wt rfl) rfl ?_
      refine h_op (.d (.agg (Rect.enc (⟨(maxI a_1.X b_2.X), (maxI a_1.Y b_2.Y), (w64 ((minI (w64 (a_1.X + a_1.W)) (w64 (b_2.X + b_2.W))) - (maxI a_1.X b_2.X))), (w64 ((minI (w64 (a_1.Y + a_1.H)) (w64 (b_2.Y + b_2.H))) - (maxI a_1.Y b_2.Y)))⟩ : Rect)))) (wt rfl) (by kernel_rfl) ?_
      refine h_str 0 (.inl rfl) (fun _ _ _ => trivial) 2 sz49 rfl rfl [(vI (maxI a_1.X b_2.X)), (vI (maxI a_1.Y b_2.Y)), (vI (w64 ((minI (w64 (a_1.X + a_1.W)) (w64 (b_2.X + b_2.W))) - (maxI a_1.X b_2.X)))), (vI (w64 ((minI (w64 (a_1.Y + a_1.H)) (w64 (b_2.Y + b_2.H))) - (maxI a_1.Y b_2.Y))))] rfl (wt rfl) ?_
      refine h_op (vB true) (wt rfl) rfl ?_
      refine h_nil ?_
      replace hF := some_inj hF
      subst hF
      refine wH_ret ?_
      exact fin0 (.inr rfl) [(.d (.agg (Rect.enc (⟨(maxI a_1.X b_2.X), (maxI a_1.Y b_2.Y), (w64 ((minI (w64 (a_1.X + a_1.W)) (w64 (b_2.X + b_2.W))) - (maxI a_1.X b_2.X))), (w64 ((minI (w64 (a_1.Y + a_1.H)) (w64 (b_2.Y + b_2.H))) - (maxI a_1.Y b_2.Y)))⟩ : Rect)))), (vB true)] ⟨⟨2, _, _, _, _, _, _, _, rfl, rfl, sz49, ag49, rfl⟩, ⟨rfl, trivial⟩⟩ rfl rfl rfl
theorem screen_CheckWall_ok {wv_1 : Wall} {r : Int} (hF : screen_CheckWall wv_1 = some r) :
    FnM Tryz.prog 28 [(.d (.agg (Wall.enc wv_1)))] [] (vI r) [] := by
  refine FnM.of_wH ⟨Tryz.prog, 99, [], []⟩ rfl Tryz.func28 rfl rfl (Nat.le_of_ble_eq_true rfl) (by kernel_rfl) ?_
  unfold screen_CheckWall at hF
  refine wH_seq ?_
  refine wH_region ?_
  refine h_box 0 (.inl rfl) [(vS wv_1.Key), (vI wv_1.W), (vI wv_1.H), (vL Screen.enc wv_1.Screens)] rfl rfl (wt rfl) (fun n_2 => ?_)
  refine h_op (vI 0) (wt rfl) rfl ?_
  refine h_nil ?_
  refine wH_seq ?_
  refine wH_seq ?_
  refine wH_region ?_
  refine h_far pl58_0 rfl 0 rfl (wt rfl) ?_
  refine h_ldr 0 0 (.inl rfl) (fun _ _ _ => trivial) sz9 ag9 rfl rfl (vS wv_1.Key) rfl (wt rfl) ?_
  obtain ⟨r_3, hr_4, hF⟩ := bind_some hF
  refine h_call0 (kit_IsKey_ok hr_4) rfl hb49 rfl rfl rfl rfl (wt rfl) ?_
  refine h_op (vB (!r_3)) (wt rfl) rfl ?_
  refine h_nil ?_
  rcases cond_some hF with ⟨hc_5, hF⟩ | ⟨hc_5, hF⟩
  · refine wH_ift rfl hc_5 ?_
    refine wH_seq ?_
    refine wH_region ?_
    refine h_op (vI 5) (wt rfl) rfl ?_
    refine h_nil ?_
    replace hF := some_inj hF
    subst hF
    refine wH_ret ?_
    exact fin0 (.inr rfl) [(vI 5)] ⟨rfl, trivial⟩ rfl rfl rfl
  · refine wH_iff rfl hc_5 ?_
    refine wH_skip ?_
    refine wH_seq ?_
    refine wH_seq ?_
    refine wH_region ?_
    refine h_far pl58_1 rfl 1 rfl (wt rfl) ?_
    refine h_ldr 0 0 (.inl rfl) (fun _ _ _ => trivial) sz3 ag3 rfl rfl (vI wv_1.W) rfl (wt rfl) ?_
    refine h_far pl58_2 rfl 2 rfl (wt rfl) ?_
    refine h_ldr 0 0 (.inl rfl) (fun _ _ _ => trivial) sz3 ag3 rfl rfl (vI wv_1.H) rfl (wt rfl) ?_
    refine h_lit (([wv_1.W, wv_1.H] : List Int).map eI) es22 ez22 rfl rfl rfl rfl rfl (wt rfl) ?_
    obtain ⟨r_6, hr_7, hF⟩ := bind_some hF
    refine h_call0 (screen_sidesFault_ok hr_7) rfl hb50 rfl rfl rfl rfl (wt rfl) ?_
    refine h_op (vI r_6) (wt rfl) rfl ?_
    refine h_nil ?_
    refine wH_seq ?_
    refine wH_region ?_
    refine h_op (vI r_6) (wt rfl) rfl ?_
    refine h_op (vB (r_6 != 0)) (wt rfl) rfl ?_
    refine h_nil ?_
    rcases cond_some hF with ⟨hc_8, hF⟩ | ⟨hc_8, hF⟩
    · refine wH_ift rfl hc_8 ?_
      refine wH_seq ?_
      refine wH_region ?_
      refine h_op (vI r_6) (wt rfl) rfl ?_
      refine h_op (vI r_6) (wt rfl) rfl ?_
      refine h_nil ?_
      replace hF := some_inj hF
      subst hF
      refine wH_ret ?_
      exact fin0 (.inr rfl) [(vI r_6)] ⟨rfl, trivial⟩ rfl rfl rfl
    · refine wH_iff rfl hc_8 ?_
      refine wH_skip ?_
      refine wH_seq ?_
      refine wH_seq ?_
      refine wH_region ?_
      refine h_far pl58_3 rfl 3 rfl (wt rfl) ?_
      refine h_ldr 0 0 (.inl rfl) (fun _ _ _ => trivial) sz56 ag56 rfl rfl (vL Screen.enc wv_1.Screens) rfl (wt rfl) ?_
      refine h_len un56 rfl (wt rfl) ?_
      refine h_op (vB (decide ((wv_1.Screens.length : Int) > 50))) (wt rfl) rfl ?_
      refine h_nil ?_
      rcases cond_some hF with ⟨hc_9, hF⟩ | ⟨hc_9, hF⟩
      · refine wH_ift rfl hc_9 ?_
        refine wH_seq ?_
        refine wH_region ?_
        refine h_op (vI 2) (wt rfl) rfl ?_
        refine h_nil ?_
        replace hF := some_inj hF
        subst hF
        refine wH_ret ?_
        exact fin0 (.inr rfl) [(vI 2)] ⟨rfl, trivial⟩ rfl rfl rfl
      · refine wH_iff rfl hc_9 ?_
        refine wH_skip ?_
        refine wH_seq ?_
        refine wH_seq ?_
        refine wH_region ?_
        refine h_far pl58_3 rfl 3 rfl (wt rfl) ?_
        refine h_ldr 0 0 (.inl rfl) (fun _ _ _ => trivial) sz56 ag56 rfl rfl (vL Screen.enc wv_1.Screens) rfl (wt rfl) ?_
        refine h_len un56 rfl (wt rfl) ?_
        refine h_op (vI 0) (wt rfl) rfl ?_
        refine h_nil ?_
        obtain ⟨o_18, hj_19, hF⟩ := bind_some hF
        obtain ⟨hn_14, hj_19⟩ := forL_some hj_19
        refine wH_join (β := (Unit)) (fun (s_15 : Unit) => ([(1, (.ref n_2 0 0))] : List (Nat × V))) (fun (s_15 : Unit) => ([(n_2, some (.cells 4 [(vS wv_1.Key), (vI wv_1.W), (vI wv_1.H), (vL Screen.enc wv_1.Screens)]))] : Hp)) (fun p => o_18 = .go p) ?_ ?_
        · refine wH_block ?_
          refine wH_loop (β := Nat × (List Screen) × (Unit)) (fun p => (fun (k_10 : Nat) (l_11 : List Screen) (s_15 : Unit) => ([(1, (.ref n_2 0 0)), (31, (vL Screen.enc wv_1.Screens)), (32, (vI (wv_1.Screens.length : Int))), (33, (vI (k_10 : Int)))] : List (Nat × V))) p.1 p.2.1 p.2.2) (fun p => (fun (k_10 : Nat) (l_11 : List Screen) (s_15 : Unit) => ([(n_2, some (.cells 4 [(vS wv_1.Key), (vI wv_1.W), (vI wv_1.H), (vL Screen.enc wv_1.Screens)]))] : Hp)) p.1 p.2.1 p.2.2) (fun p => forR (fun k x s => screen_CheckWall_L1 wv_1 k x s) p.2.1 p.1 p.2.2 = some o_18 ∧ (wv_1.Screens).drop p.1 = p.2.1) (fun p => p.2.1.length) (0, wv_1.Screens, ()) ⟨hj_19, rfl⟩ rfl (pre_r rfl) ?_
          rintro ⟨k_10, l_11, s_15⟩ ⟨hL_17, hD_13⟩
          dsimp only at hL_17 hD_13
          cases l_11 with
          | nil =>
            replace hL_17 := some_inj hL_17
            subst hL_17
            refine wH_seq (wH_region (h_op (vB (decide ((k_10 : Int) < (wv_1.Screens.length : Int)))) (wt rfl) rfl (h_nil ?_)))
            refine wH_seq (wH_iff rfl (drop_nil hD_13) (wH_exit ?_))
            exact cut_mk (s_15) rfl rfl (pre_r rfl)
          | cons x_12 l_11 =>
            obtain ⟨c_, hc_16, hL_17⟩ := bind_some hL_17
            refine wH_seq (wH_region (h_op (vB (decide ((k_10 : Int) < (wv_1.Screens.length : Int)))) (wt rfl) rfl (h_nil ?_)))
            refine wH_seq (wH_ift rfl (drop_cons hD_13) (wH_skip ?_))
            unfold screen_CheckWall_L1 at hc_16
            refine wH_seq ?_
            refine wH_block ?_
            refine wH_seq ?_
            refine wH_region ?_
            refine h_op (vI (k_10 : Int)) (wt rfl) rfl ?_
            refine h_ia es56 rfl rfl (drop_idx hD_13) rfl (wt rfl) ?_
            refine h_ldc sz99 ag99 rfl (.d (.agg (Screen.enc x_12))) rfl (wt rfl) ?_
            refine h_alloc 0 (.inl rfl) z99 rfl (wt rfl) (fun n_20 => ?_)
            refine h_op (vI (k_10 : Int)) (wt rfl) rfl ?_
            refine h_str 0 (.inl rfl) (fun _ _ _ => trivial) 1 sz99 rfl rfl [(vS x_12.Key), (vI x_12.On.X), (vI x_12.On.Y), (vI x_12.On.W), (vI x_12.On.H)] rfl (wt rfl) ?_
            refine h_nil ?_
            refine wH_seq ?_
            refine wH_seq ?_
            refine wH_region ?_
            refine h_far pl99_0 rfl 0 rfl (wt rfl) ?_
            refine h_ldr 0 1 (.inl rfl) (fun _ _ _ => trivial) sz9 ag9 rfl rfl (vS x_12.Key) rfl (wt rfl) ?_
            obtain ⟨r_21, hr_22, hc_16⟩ := bind_some hc_16
            refine h_call0 (kit_IsKey_ok hr_22) rfl hb49 rfl rfl rfl rfl (wt rfl) ?_
            refine h_op (vB (!r_21)) (wt rfl) rfl ?_
            refine h_nil ?_
            rcases cond_some hc_16 with ⟨hc_23, hc_16⟩ | ⟨hc_23, hc_16⟩
            · refine wH_ift rfl hc_23 ?_
              refine wH_seq ?_
              refine wH_region ?_
              refine h_op (vI 5) (wt rfl) rfl ?_
              refine h_nil ?_
              replace hc_16 := some_inj hc_16
              subst hc_16
              replace hL_17 := some_inj hL_17
              subst hL_17
              replace hF := some_inj hF
              subst hF
              refine wH_ret ?_
              exact fin0 (.inr rfl) [(vI 5)] ⟨rfl, trivial⟩ rfl rfl rfl
            · refine wH_iff rfl hc_23 ?_
              refine wH_skip ?_
              refine wH_seq ?_
              refine wH_seq ?_
              refine wH_region ?_
              refine h_far pl99_1 rfl 1 rfl (wt rfl) ?_
              refine h_ldr 0 1 (.inl rfl) (fun _ _ _ => trivial) sz49 ag49 rfl rfl (.d (.agg (Rect.enc x_12.On))) rfl (wt rfl) ?_
              obtain ⟨r_24, hr_25, hc_16⟩ := bind_some hc_16
              refine h_call0 (screen_CheckRect_ok hr_25) rfl hb51 rfl rfl rfl rfl (wt rfl) ?_
              refine h_op (vI r_24) (wt rfl) rfl ?_
              refine h_nil ?_
              refine wH_seq ?_
              refine wH_region ?_
              refine h_op (vI r_24) (wt rfl) rfl ?_
              refine h_op (vB (r_24 != 0)) (wt rfl) rfl ?_
              refine h_nil ?_
              rcases cond_some hc_16 with ⟨hc_26, hc_16⟩ | ⟨hc_26, hc_16⟩
              · refine wH_ift rfl hc_26 ?_
                refine wH_seq ?_
                refine wH_region ?_
                refine h_op (vI r_24) (wt rfl) rfl ?_
                refine h_op (vI r_24) (wt rfl) rfl ?_
                refine h_nil ?_
                replace hc_16 := some_inj hc_16
                subst hc_16
                replace hL_17 := some_inj hL_17
                subst hL_17
                replace hF := some_inj hF
                subst hF
                refine wH_ret ?_
                exact fin0 (.inr rfl) [(vI r_24)] ⟨rfl, trivial⟩ rfl rfl rfl
              · refine wH_iff rfl hc_26 ?_
                refine wH_skip ?_
                refine wH_seq ?_
                refine wH_seq ?_
                refine wH_region ?_
                refine h_far pl99_1 rfl 1 rfl (wt rfl) ?_
                refine h_ldr 0 1 (.inl rfl) (fun _ _ _ => trivial) sz49 ag49 rfl rfl (.d (.agg (Rect.enc x_12.On))) rfl (wt rfl) ?_
                refine h_far pl58_1 rfl 1 rfl (wt rfl) ?_
                refine h_ldr 0 0 (.inl rfl) (fun _ _ _ => trivial) sz3 ag3 rfl rfl (vI wv_1.W) rfl (wt rfl) ?_
                refine h_far pl58_2 rfl 2 rfl (wt rfl) ?_
                refine h_ldr 0 0 (.inl rfl) (fun _ _ _ => trivial) sz3 ag3 rfl rfl (vI wv_1.H) rfl (wt rfl) ?_
                obtain ⟨r_27, hr_28, hc_16⟩ := bind_some hc_16
                refine h_call0 (screen_inside_ok hr_28) rfl hb52 rfl rfl rfl rfl (wt rfl) ?_
                refine h_op (vB (!r_27)) (wt rfl) rfl ?_
                refine h_nil ?_
                rcases cond_some hc_16 with ⟨hc_29, hc_16⟩ | ⟨hc_29, hc_16⟩
                · refine wH_ift rfl hc_29 ?_
                  refine wH_seq ?_
                  refine wH_region ?_
                  refine h_op (vI 3) (wt rfl) rfl ?_
                  refine h_nil ?_
                  replace hc_16 := some_inj hc_16
                  subst hc_16
                  replace hL_17 := some_inj hL_17
                  subst hL_17
                  replace hF := some_inj hF
                  subst hF
                  refine wH_ret ?_
                  exact fin0 (.inr rfl) [(vI 3)] ⟨rfl, trivial⟩ rfl rfl rfl
                · refine wH_iff rfl hc_29 ?_
                  refine wH_skip ?_
                  refine wH_seq ?_
                  obtain ⟨v_30, h_31, hc_16⟩ := bind_some hc_16
                  refine wH_join (β := Unit) (fun _ => ([(1, (.ref n_2 0 0)), (31, (vL Screen.enc wv_1.Screens)), (32, (vI (wv_1.Screens.length : Int))), (33, (vI (k_10 : Int))), (69, (vB v_30))] : List (Nat × V))) (fun _ => ([(n_2, some (.cells 4 [(vS wv_1.Key), (vI wv_1.W), (vI wv_1.H), (vL Screen.enc wv_1.Screens)])), (n_20, some (.cells 5 [(vS x_12.Key), (vI x_12.On.X), (vI x_12.On.Y), (vI x_12.On.W), (vI x_12.On.H)]))] : Hp)) (fun _ => True) ?_ ?_
                  · refine wH_draws ?_
                    refine h_op (vI (k_10 : Int)) (wt rfl) rfl ?_
                    refine h_op (vB (decide ((k_10 : Int) > 0))) (wt rfl) rfl ?_
                    rcases cond_some h_31 with ⟨hc_32, h_31⟩ | ⟨hc_32, h_31⟩
                    · refine h_movb rfl hc_32 (wt rfl) ?_
                      refine h_far pl99_0 rfl 0 rfl (wg rfl rfl rfl) ?_
                      refine h_ldr 4 1 (.inr (by kernel_rfl)) (fun _ _ ag => trivial) sz9 ag9 rfl rfl (vS x_12.Key) rfl (wg rfl rfl rfl) ?_
                      refine h_far pl58_3 rfl 3 rfl (wg rfl rfl rfl) ?_
                      refine h_ldr 6 0 (.inr (by kernel_rfl)) (fun _ _ ag => ⟨.inl ⟨rfl, rfl⟩, trivial⟩) sz56 ag56 rfl rfl (vL Screen.enc wv_1.Screens) rfl (wg rfl rfl rfl) ?_
                      refine h_op (vI (k_10 : Int)) (wg rfl rfl rfl) rfl ?_
                      refine h_op (vI (w64 ((k_10 : Int) - 1))) (wg rfl rfl rfl) rfl ?_
                      obtain ⟨y_33, hy_34, h_31⟩ := bind_some h_31
                      refine h_ia es56 rfl rfl hy_34 rfl (wg rfl rfl rfl) ?_
                      refine h_fac pl99_0 rfl [.str y_33.Key, .int .i64 y_33.On.X, .int .i64 y_33.On.Y, .int .i64 y_33.On.W, .int .i64 y_33.On.H] rfl rfl (wg rfl rfl rfl) ?_
                      refine h_ldc sz9 ag9 rfl (vS y_33.Key) rfl (wg rfl rfl rfl) ?_
                      refine h_op (vB (sLe x_12.Key y_33.Key)) (wg rfl rfl rfl) rfl ?_
                      refine h_op (vB (sLe x_12.Key y_33.Key)) (wt rfl) rfl ?_
                      refine h_nil ?_
                      replace h_31 := some_inj h_31
                      subst h_31
                      exact cut_mk () trivial rfl (pre_r rfl)
                    · refine h_movb rfl hc_32 (wt rfl) ?_
                      refine h_skip (wg rfl rfl rfl) ?_
                      refine h_skip (wg rfl rfl rfl) ?_
                      refine h_skip (wg rfl rfl rfl) ?_
                      refine h_skip (wg rfl rfl rfl) ?_
                      refine h_skip (wg rfl rfl rfl) ?_
                      refine h_skip (wg rfl rfl rfl) ?_
                      refine h_skip (wg rfl rfl rfl) ?_
                      refine h_skip (wg rfl rfl rfl) ?_
                      refine h_skip (wg rfl rfl rfl) ?_
                      refine h_skip (wg rfl rfl rfl) ?_
                      refine h_op (vB false) (wt rfl) rfl ?_
                      refine h_nil ?_
                      replace h_31 := some_inj h_31
                      subst h_31
                      exact cut_mk () trivial rfl (pre_r rfl)
                  · rintro ⟨⟩ _ sl_ H_ hp_ hq_
                    refine wH_at _ hp_ hq_ ?_
                    rcases cond_some hc_16 with ⟨hc_35, hc_16⟩ | ⟨hc_35, hc_16⟩
                    · refine wH_ift rfl hc_35 ?_
                      refine wH_seq ?_
                      refine wH_region ?_
                      refine h_op (vI 7) (wt rfl) rfl ?_
                      refine h_nil ?_
                      replace hc_16 := some_inj hc_16
                      subst hc_16
                      replace hL_17 := some_inj hL_17
                      subst hL_17
                      replace hF := some_inj hF
                      subst hF
                      refine wH_ret ?_
                      exact fin0 (.inr rfl) [(vI 7)] ⟨rfl, trivial⟩ rfl rfl rfl
                    · refine wH_iff rfl hc_35 ?_
                      refine wH_skip ?_
                      refine wH_region ?_
                      refine h_opw (w64_next hD_13 hn_14) (wt rfl) rfl ?_
                      refine h_op (vI ((k_10 + 1 : Nat) : Int)) (wt rfl) rfl ?_
                      refine h_nil ?_
                      replace hc_16 := some_inj hc_16
                      subst hc_16
                      exact loop_mk (k_10 + 1, l_11, ()) ⟨hL_17, drop_next hD_13⟩ (Nat.lt_succ_self _) rfl (pre_r rfl)
        · rintro s_15 ho_ sl_ H_ hp_ hq_
          subst ho_
          refine wH_at _ hp_ hq_ ?_
          refine wH_seq ?_
          refine wH_seq ?_
          refine wH_region ?_
          refine h_far pl58_3 rfl 3 rfl (wt rfl) ?_
          refine h_ldr 0 0 (.inl rfl) (fun _ _ _ => trivial) sz56 ag56 rfl rfl (vL Screen.enc wv_1.Screens) rfl (wt rfl) ?_
          refine h_len un56 rfl (wt rfl) ?_
          refine h_op (vI 0) (wt rfl) rfl ?_
          refine h_nil ?_
          obtain ⟨o_44, hj_45, hF⟩ := bind_some hF
          obtain ⟨hn_40, hj_45⟩ := forL_some hj_45
          refine wH_join (β := (Unit)) (fun (s_41 : Unit) => ([] : List (Nat × V))) (fun (s_41 : Unit) => ([(n_2, some (.cells 4 [(vS wv_1.Key), (vI wv_1.W), (vI wv_1.H), (vL Screen.enc wv_1.Screens)]))] : Hp)) (fun p => o_44 = .go p) ?_ ?_
          · refine wH_block ?_
            refine wH_loop (β := Nat × (List Screen) × (Unit)) (fun p => (fun (k_36 : Nat) (l_37 : List Screen) (s_41 : Unit) => ([(1, (.ref n_2 0 0)), (72, (vL Screen.enc wv_1.Screens)), (73, (vI (wv_1.Screens.length : Int))), (74, (vI (k_36 : Int)))] : List (Nat × V))) p.1 p.2.1 p.2.2) (fun p => (fun (k_36 : Nat) (l_37 : List Screen) (s_41 : Unit) => ([(n_2, some (.cells 4 [(vS wv_1.Key), (vI wv_1.W), (vI wv_1.H), (vL Screen.enc wv_1.Screens)]))] : Hp)) p.1 p.2.1 p.2.2) (fun p => forR (fun k x s => screen_CheckWall_L3 wv_1 k x s) p.2.1 p.1 p.2.2 = some o_44 ∧ (wv_1.Screens).drop p.1 = p.2.1) (fun p => p.2.1.length) (0, wv_1.Screens, ()) ⟨hj_45, rfl⟩ rfl (pre_r rfl) ?_
            rintro ⟨k_36, l_37, s_41⟩ ⟨hL_43, hD_39⟩
            dsimp only at hL_43 hD_39
            cases l_37 with
            | nil =>
              replace hL_43 := some_inj hL_43
              subst hL_43
              refine wH_seq (wH_region (h_op (vB (decide ((k_36 : Int) < (wv_1.Screens.length : Int)))) (wt rfl) rfl (h_nil ?_)))
              refine wH_seq (wH_iff rfl (drop_nil hD_39) (wH_exit ?_))
              exact cut_mk (s_41) rfl rfl (pre_r rfl)
            | cons x_38 l_37 =>
              obtain ⟨c_, hc_42, hL_43⟩ := bind_some hL_43
              refine wH_seq (wH_region (h_op (vB (decide ((k_36 : Int) < (wv_1.Screens.length : Int)))) (wt rfl) rfl (h_nil ?_)))
              refine wH_seq (wH_ift rfl (drop_cons hD_39) (wH_skip ?_))
              unfold screen_CheckWall_L3 at hc_42
              refine wH_seq ?_
              refine wH_block ?_
              refine wH_seq ?_
              refine wH_region ?_
              refine h_op (vI (k_36 : Int)) (wt rfl) rfl ?_
              refine h_ia es56 rfl rfl (drop_idx hD_39) rfl (wt rfl) ?_
              refine h_ldc sz99 ag99 rfl (.d (.agg (Screen.enc x_38))) rfl (wt rfl) ?_
              refine h_alloc 0 (.inl rfl) z99 rfl (wt rfl) (fun n_46 => ?_)
              refine h_op (vI (k_36 : Int)) (wt rfl) rfl ?_
              refine h_str 0 (.inl rfl) (fun _ _ _ => trivial) 1 sz99 rfl rfl [(vS x_38.Key), (vI x_38.On.X), (vI x_38.On.Y), (vI x_38.On.W), (vI x_38.On.H)] rfl (wt rfl) ?_
              refine h_nil ?_
              refine wH_seq ?_
              refine wH_region ?_
              refine h_far pl58_3 rfl 3 rfl (wt rfl) ?_
              refine h_ldr 0 0 (.inl rfl) (fun _ _ _ => trivial) sz56 ag56 rfl rfl (vL Screen.enc wv_1.Screens) rfl (wt rfl) ?_
              refine h_op (vI (k_36 : Int)) (wt rfl) rfl ?_
              obtain ⟨y_47, hy_48, hc_42⟩ := bind_some hc_42
              refine h_sublFalseTrue un56 sz99 (fun _ => rfl) rfl rfl hy_48 (wt rfl) ?_
              refine h_len un56 rfl (wt rfl) ?_
              refine h_op (vI 0) (wt rfl) rfl ?_
              refine h_nil ?_
              obtain ⟨o_57, hj_58, hc_42⟩ := bind_some hc_42
              obtain ⟨hn_53, hj_58⟩ := forL_some hj_58
              refine wH_join (β := (Unit)) (fun (s_54 : Unit) => ([(1, (.ref n_2 0 0)), (72, (vL Screen.enc wv_1.Screens)), (73, (vI (wv_1.Screens.length : Int))), (74, (vI (k_36 : Int)))] : List (Nat × V))) (fun (s_54 : Unit) => ([(n_2, some (.cells 4 [(vS wv_1.Key), (vI wv_1.W), (vI wv_1.H), (vL Screen.enc wv_1.Screens)])), (n_46, some (.cells 5 [(vS x_38.Key), (vI x_38.On.X), (vI x_38.On.Y), (vI x_38.On.W), (vI x_38.On.H)]))] : Hp)) (fun p => o_57 = .go p) ?_ ?_
              · refine wH_block ?_
                refine wH_loop (β := Nat × (List Screen) × (Unit)) (fun p => (fun (k_49 : Nat) (l_50 : List Screen) (s_54 : Unit) => ([(1, (.ref n_2 0 0)), (8, (.ref n_46 0 0)), (72, (vL Screen.enc wv_1.Screens)), (73, (vI (wv_1.Screens.length : Int))), (74, (vI (k_36 : Int))), (82, (vL Screen.enc y_47)), (83, (vI (y_47.length : Int))), (84, (vI (k_49 : Int)))] : List (Nat × V))) p.1 p.2.1 p.2.2) (fun p => (fun (k_49 : Nat) (l_50 : List Screen) (s_54 : Unit) => ([(n_2, some (.cells 4 [(vS wv_1.Key), (vI wv_1.W), (vI wv_1.H), (vL Screen.enc wv_1.Screens)])), (n_46, some (.cells 5 [(vS x_38.Key), (vI x_38.On.X), (vI x_38.On.Y), (vI x_38.On.W), (vI x_38.On.H)]))] : Hp)) p.1 p.2.1 p.2.2) (fun p => forR (fun k x s => screen_CheckWall_L2 x_38 k x s) p.2.1 p.1 p.2.2 = some o_57 ∧ (y_47).drop p.1 = p.2.1) (fun p => p.2.1.length) (0, y_47, ()) ⟨hj_58, rfl⟩ rfl (pre_r rfl) ?_
                rintro ⟨k_49, l_50, s_54⟩ ⟨hL_56, hD_52⟩
                dsimp only at hL_56 hD_52
                cases l_50 with
                | nil =>
                  replace hL_56 := some_inj hL_56
                  subst hL_56
                  refine wH_seq (wH_region (h_op (vB (decide ((k_49 : Int) < (y_47.length : Int)))) (wt rfl) rfl (h_nil ?_)))
                  refine wH_seq (wH_iff rfl (drop_nil hD_52) (wH_exit ?_))
                  exact cut_mk (s_54) rfl rfl (pre_r rfl)
                | cons x_51 l_50 =>
                  obtain ⟨c_, hc_55, hL_56⟩ := bind_some hL_56
                  refine wH_seq (wH_region (h_op (vB (decide ((k_49 : Int) < (y_47.length : Int)))) (wt rfl) rfl (h_nil ?_)))
                  refine wH_seq (wH_ift rfl (drop_cons hD_52) (wH_skip ?_))
                  unfold screen_CheckWall_L2 at hc_55
                  refine wH_seq ?_
                  refine wH_block ?_
                  refine wH_seq ?_
                  refine wH_region ?_
                  refine h_ia es56 rfl rfl (drop_idx hD_52) rfl (wt rfl) ?_
                  refine h_ldc sz99 ag99 rfl (.d (.agg (Screen.enc x_51))) rfl (wt rfl) ?_
                  refine h_alloc 0 (.inl rfl) z99 rfl (wt rfl) (fun n_59 => ?_)
                  refine h_str 0 (.inl rfl) (fun _ _ _ => trivial) 2 sz99 rfl rfl [(vS x_51.Key), (vI x_51.On.X), (vI x_51.On.Y), (vI x_51.On.W), (vI x_51.On.H)] rfl (wt rfl) ?_
                  refine h_nil ?_
                  refine wH_seq ?_
                  refine wH_region ?_
                  refine h_far pl99_1 rfl 1 rfl (wt rfl) ?_
                  refine h_ldr 0 1 (.inl rfl) (fun _ _ _ => trivial) sz49 ag49 rfl rfl (.d (.agg (Rect.enc x_38.On))) rfl (wt rfl) ?_
                  refine h_far pl99_1 rfl 1 rfl (wt rfl) ?_
                  refine h_ldr 0 2 (.inl rfl) (fun _ _ _ => trivial) sz49 ag49 rfl rfl (.d (.agg (Rect.enc x_51.On))) rfl (wt rfl) ?_
                  obtain ⟨r_60, hr_61, hc_55⟩ := bind_some hc_55
                  refine h_call0 (screen_meet_ok hr_61) rfl hb66 rfl rfl rfl rfl (wt rfl) ?_
                  refine h_op (.tup [(.d (.agg (Rect.enc r_60.1))), (vB r_60.2)]) (wt rfl) rfl ?_
                  refine h_op (.d (.agg (Rect.enc r_60.1))) (wt rfl) rfl ?_
                  refine h_op (vB r_60.2) (wt rfl) rfl ?_
                  refine h_alloc 0 (.inl rfl) z49 rfl (wt rfl) (fun n_62 => ?_)
                  refine h_str 0 (.inl rfl) (fun _ _ _ => trivial) 3 sz49 rfl rfl [(vI r_60.1.X), (vI r_60.1.Y), (vI r_60.1.W), (vI r_60.1.H)] rfl (wt rfl) ?_
                  refine h_op (vB r_60.2) (wt rfl) rfl ?_
                  refine h_nil ?_
                  refine wH_seq ?_
                  refine wH_region ?_
                  refine h_op (vB r_60.2) (wt rfl) rfl ?_
                  refine h_nil ?_
                  rcases cond_some hc_55 with ⟨hc_63, hc_55⟩ | ⟨hc_63, hc_55⟩
                  · refine wH_ift rfl hc_63 ?_
                    refine wH_seq ?_
                    refine wH_region ?_
                    refine h_op (vI 13) (wt rfl) rfl ?_
                    refine h_nil ?_
                    replace hc_55 := some_inj hc_55
                    subst hc_55
                    replace hL_56 := some_inj hL_56
                    subst hL_56
                    replace hc_42 := some_inj hc_42
                    subst hc_42
                    replace hL_43 := some_inj hL_43
                    subst hL_43
                    replace hF := some_inj hF
                    subst hF
                    refine wH_ret ?_
                    exact fin0 (.inr rfl) [(vI 13)] ⟨rfl, trivial⟩ rfl rfl rfl
                  · refine wH_iff rfl hc_63 ?_
                    refine wH_skip ?_
                    refine wH_region ?_
                    refine h_opw (w64_next hD_52 hn_53) (wt rfl) rfl ?_
                    refine h_op (vI ((k_49 + 1 : Nat) : Int)) (wt rfl) rfl ?_
                    refine h_nil ?_
                    replace hc_55 := some_inj hc_55
                    subst hc_55
                    exact loop_mk (k_49 + 1, l_50, ()) ⟨hL_56, drop_next hD_52⟩ (Nat.lt_succ_self _) rfl (pre_r rfl)
              · rintro s_54 ho_ sl_ H_ hp_ hq_
                subst ho_
                refine wH_at _ hp_ hq_ ?_
                refine wH_region ?_
                refine h_opw (w64_next hD_39 hn_40) (wt rfl) rfl ?_
                refine h_op (vI ((k_36 + 1 : Nat) : Int)) (wt rfl) rfl ?_
                refine h_nil ?_
                replace hc_42 := some_inj hc_42
                subst hc_42
                exact loop_mk (k_36 + 1, l_37, ()) ⟨hL_43, drop_next hD_39⟩ (Nat.lt_succ_self _) rfl (pre_r rfl)
          · rintro s_41 ho_ sl_ H_ hp_ hq_
            subst ho_
            refine wH_at _ hp_ hq_ ?_
            refine wH_seq ?_
            refine wH_region ?_
            refine h_op (vI 0) (wt rfl) rfl ?_
            refine h_nil ?_
            replace hF := some_inj hF
            subst hF
            refine wH_ret ?_
            exact fin0 (.inr rfl) [(vI 0)] ⟨rfl, trivial⟩ rfl rfl rfl
theorem screen_spotFault_ok {x_1 : Int} {y_2 : Int} {r : Int} (hF : screen_spotFault x_1 y_2 = some r) :
    FnM Tryz.prog 40 [(vI x_1), (vI y_2)] [] (vI r) [] := by
  refine FnM.of_wH ⟨Tryz.prog, 11, [], []⟩ rfl Tryz.func40 rfl rfl (Nat.le_of_ble_eq_true rfl) (by kernel_rfl) ?_
  unfold screen_spotFault at hF
  refine wH_seq ?_
  refine wH_region ?_
  refine h_op (vI 0) (wt rfl) rfl ?_
  refine h_nil ?_
  refine wH_seq ?_
  refine wH_seq ?_
  obtain ⟨v_3, h_4, hF⟩ := bind_some hF
  refine wH_join (β := Unit) (fun _ => ([(10, (vB v_3))] : List (Nat × V))) (fun _ => ([] : Hp)) (fun _ => True) ?_ ?_
  · refine wH_region ?_
    refine h_op (vI x_1) (wt rfl) rfl ?_
    obtain ⟨r_5, hr_6, h_4⟩ := bind_some h_4
    refine h_call0 (kit_Outside_ok hr_6) rfl hb53 rfl rfl rfl rfl (wt rfl) ?_
    rcases cond_some h_4 with ⟨hc_7, h_4⟩ | ⟨hc_7, h_4⟩
    · refine h_movb rfl hc_7 (wt rfl) ?_
      refine h_skip (wg rfl rfl rfl) ?_
      refine h_skip (wg rfl rfl rfl) ?_
      refine h_op (vB true) (wt rfl) rfl ?_
      refine h_nil ?_
      replace h_4 := some_inj h_4
      subst h_4
      exact cut_mk () trivial rfl (pre_r rfl)
    · refine h_movb rfl hc_7 (wt rfl) ?_
      refine h_op (vI y_2) (wg rfl rfl rfl) rfl ?_
      obtain ⟨r_8, hr_9, h_4⟩ := bind_some h_4
      refine h_call0 (kit_Outside_ok hr_9) rfl hb53 rfl rfl rfl rfl (wg rfl rfl rfl) ?_
      refine h_op (vB r_8) (wt rfl) rfl ?_
      refine h_nil ?_
      replace h_4 := some_inj h_4
      subst h_4
      exact cut_mk () trivial rfl (pre_r rfl)
  · rintro ⟨⟩ _ sl_ H_ hp_ hq_
    refine wH_at _ hp_ hq_ ?_
    rcases cond_some hF with ⟨hc_10, hF⟩ | ⟨hc_10, hF⟩
    · refine wH_ift rfl hc_10 ?_
      refine wH_seq ?_
      refine wH_region ?_
      refine h_op (vI 1) (wt rfl) rfl ?_
      refine h_nil ?_
      replace hF := some_inj hF
      subst hF
      refine wH_ret ?_
      exact fin0 (.inr rfl) [(vI 1)] ⟨rfl, trivial⟩ rfl rfl rfl
    · refine wH_iff rfl hc_10 ?_
      refine wH_skip ?_
      refine wH_seq ?_
      refine wH_region ?_
      refine h_op (vI 0) (wt rfl) rfl ?_
      refine h_nil ?_
      replace hF := some_inj hF
      subst hF
      refine wH_ret ?_
      exact fin0 (.inr rfl) [(vI 0)] ⟨rfl, trivial⟩ rfl rfl rfl
theorem screen_has_ok {r_1 : Rect} {x_2 : Int} {y_3 : Int} {r : Bool} (hF : screen_has r_1 x_2 y_3 = some r) :
    FnM Tryz.prog 41 [(.d (.agg (Rect.enc r_1))), (vI x_2), (vI y_3)] [] (vB r) [] := by
  refine FnM.of_wH ⟨Tryz.prog, 35, [], []⟩ rfl Tryz.func41 rfl rfl (Nat.le_of_ble_eq_true rfl) (by kernel_rfl) ?_
  unfold screen_has at hF
  refine wH_seq ?_
  refine wH_region ?_
  refine h_box 0 (.inl rfl) [(vI r_1.X), (vI r_1.Y), (vI r_1.W), (vI r_1.H)] rfl rfl (wt rfl) (fun n_4 => ?_)
  refine h_op (vB false) (wt rfl) rfl ?_
  refine h_nil ?_
  refine wH_seq ?_
  obtain ⟨v_5, h_6, hF⟩ := bind_some hF
  refine wH_join (β := Unit) (fun _ => ([(6, (vB v_5))] : List (Nat × V))) (fun _ => ([(n_4, some (.cells 4 [(vI r_1.X), (vI r_1.Y), (vI r_1.W), (vI r_1.H)]))] : Hp)) (fun _ => True) ?_ ?_
  · refine wH_region ?_
    refine h_far pl49_0 rfl 0 rfl (wt rfl) ?_
    refine h_ldr 0 0 (.inl rfl) (fun _ _ _ => trivial) sz3 ag3 rfl rfl (vI r_1.X) rfl (wt rfl) ?_
    refine h_op (vI x_2) (wt rfl) rfl ?_
    refine h_op (vB (decide (r_1.X ≤ x_2))) (wt rfl) rfl ?_
    rcases cond_some h_6 with ⟨hc_7, h_6⟩ | ⟨hc_7, h_6⟩
    · refine h_movb rfl hc_7 (wt rfl) ?_
      refine h_op (vI x_2) (wg rfl rfl rfl) rfl ?_
      refine h_far pl49_0 rfl 0 rfl (wg rfl rfl rfl) ?_
      refine h_ldr 0 0 (.inl rfl) (fun _ _ _ => trivial) sz3 ag3 rfl rfl (vI r_1.X) rfl (wg rfl rfl rfl) ?_
      refine h_far pl49_2 rfl 2 rfl (wg rfl rfl rfl) ?_
      refine h_ldr 0 0 (.inl rfl) (fun _ _ _ => trivial) sz3 ag3 rfl rfl (vI r_1.W) rfl (wg rfl rfl rfl) ?_
      refine h_op (vI (w64 (r_1.X + r_1.W))) (wg rfl rfl rfl) rfl ?_
      refine h_op (vB (decide (x_2 < (w64 (r_1.X + r_1.W))))) (wg rfl rfl rfl) rfl ?_
      refine h_op (vB (decide (x_2 < (w64 (r_1.X + r_1.W))))) (wt rfl) rfl ?_
      rcases cond_some h_6 with ⟨hc_8, h_6⟩ | ⟨hc_8, h_6⟩
      · refine h_movb rfl hc_8 (wt rfl) ?_
        refine h_far pl49_1 rfl 1 rfl (wg rfl rfl rfl) ?_
        refine h_ldr 0 0 (.inl rfl) (fun _ _ _ => trivial) sz3 ag3 rfl rfl (vI r_1.Y) rfl (wg rfl rfl rfl) ?_
        refine h_op (vI y_3) (wg rfl rfl rfl) rfl ?_
        refine h_op (vB (decide (r_1.Y ≤ y_3))) (wg rfl rfl rfl) rfl ?_
        refine h_op (vB (decide (r_1.Y ≤ y_3))) (wt rfl) rfl ?_
        rcases cond_some h_6 with ⟨hc_9, h_6⟩ | ⟨hc_9, h_6⟩
        · refine h_movb rfl hc_9 (wt rfl) ?_
          refine h_op (vI y_3) (wg rfl rfl rfl) rfl ?_
          refine h_far pl49_1 rfl 1 rfl (wg rfl rfl rfl) ?_
          refine h_ldr 0 0 (.inl rfl) (fun _ _ _ => trivial) sz3 ag3 rfl rfl (vI r_1.Y) rfl (wg rfl rfl rfl) ?_
          refine h_far pl49_3 rfl 3 rfl (wg rfl rfl rfl) ?_
          refine h_ldr 0 0 (.inl rfl) (fun _ _ _ => trivial) sz3 ag3 rfl rfl (vI r_1.H) rfl (wg rfl rfl rfl) ?_
          refine h_op (vI (w64 (r_1.Y + r_1.H))) (wg rfl rfl rfl) rfl ?_
          refine h_op (vB (decide (y_3 < (w64 (r_1.Y + r_1.H))))) (wg rfl rfl rfl) rfl ?_
          refine h_op (vB (decide (y_3 < (w64 (r_1.Y + r_1.H))))) (wt rfl) rfl ?_
          refine h_op (vB (decide (y_3 < (w64 (r_1.Y + r_1.H))))) (wt rfl) rfl ?_
          refine h_nil ?_
          replace h_6 := some_inj h_6
          subst h_6
          exact cut_mk () trivial rfl (pre_r rfl)
        · refine h_movb rfl hc_9 (wt rfl) ?_
          refine h_skip (wg rfl rfl rfl) ?_
          refine h_skip (wg rfl rfl rfl) ?_
          refine h_skip (wg rfl rfl rfl) ?_
          refine h_skip (wg rfl rfl rfl) ?_
          refine h_skip (wg rfl rfl rfl) ?_
          refine h_skip (wg rfl rfl rfl) ?_
          refine h_skip (wg rfl rfl rfl) ?_
          refine h_op (vB false) (wt rfl) rfl ?_
          refine h_op (vB false) (wt rfl) rfl ?_
          refine h_nil ?_
          replace h_6 := some_inj h_6
          subst h_6
          exact cut_mk () trivial rfl (pre_r rfl)
      · refine h_movb rfl hc_8 (wt rfl) ?_
        refine h_skip (wg rfl rfl rfl) ?_
        refine h_skip (wg rfl rfl rfl) ?_
        refine h_skip (wg rfl rfl rfl) ?_
        refine h_skip (wg rfl rfl rfl) ?_
        refine h_op (vB false) (wt rfl) rfl ?_
        refine h_op (vB false) (wt rfl) rfl ?_
        refine h_skip (wg rfl rfl rfl) ?_
        refine h_skip (wg rfl rfl rfl) ?_
        refine h_skip (wg rfl rfl rfl) ?_
        refine h_skip (wg rfl rfl rfl) ?_
        refine h_skip (wg rfl rfl rfl) ?_
        refine h_skip (wg rfl rfl rfl) ?_
        refine h_skip (wg rfl rfl rfl) ?_
        refine h_op (vB false) (wt rfl) rfl ?_
        refine h_op (vB false) (wt rfl) rfl ?_
        refine h_nil ?_
        replace h_6 := some_inj h_6
        subst h_6
        exact cut_mk () trivial rfl (pre_r rfl)
    · refine h_movb rfl hc_7 (wt rfl) ?_
      refine h_skip (wg rfl rfl rfl) ?_
      refine h_skip (wg rfl rfl rfl) ?_
      refine h_skip (wg rfl rfl rfl) ?_
      refine h_skip (wg rfl rfl rfl) ?_
      refine h_skip (wg rfl rfl rfl) ?_
      refine h_skip (wg rfl rfl rfl) ?_
      refine h_skip (wg rfl rfl rfl) ?_
      refine h_op (vB false) (wt rfl) rfl ?_
      refine h_op (vB false) (wt rfl) rfl ?_
      refine h_skip (wg rfl rfl rfl) ?_
      refine h_skip (wg rfl rfl rfl) ?_
      refine h_skip (wg rfl rfl rfl) ?_
      refine h_skip (wg rfl rfl rfl) ?_
      refine h_op (vB false) (wt rfl) rfl ?_
      refine h_op (vB false) (wt rfl) rfl ?_
      refine h_skip (wg rfl rfl rfl) ?_
      refine h_skip (wg rfl rfl rfl) ?_
      refine h_skip (wg rfl rfl rfl) ?_
      refine h_skip (wg rfl rfl rfl) ?_
      refine h_skip (wg rfl rfl rfl) ?_
      refine h_skip (wg rfl rfl rfl) ?_
      refine h_skip (wg rfl rfl rfl) ?_
      refine h_op (vB false) (wt rfl) rfl ?_
      refine h_op (vB false) (wt rfl) rfl ?_
      refine h_nil ?_
      replace h_6 := some_inj h_6
      subst h_6
      exact cut_mk () trivial rfl (pre_r rfl)
  · rintro ⟨⟩ _ sl_ H_ hp_ hq_
    refine wH_at _ hp_ hq_ ?_
    replace hF := some_inj hF
    subst hF
    refine wH_ret ?_
    exact fin0 (.inr rfl) [(vB v_5)] ⟨rfl, trivial⟩ rfl rfl rfl
theorem screen_ScreenAt_ok {wv_1 : Wall} {x_2 : Int} {y_3 : Int} {r : ByteArray × Bool × Int} (hF : screen_ScreenAt wv_1 x_2 y_3 = some r) :
    FnM Tryz.prog 24 [(.d (.agg (Wall.enc wv_1))), (vI x_2), (vI y_3)] [] (.tup [(vS r.1), (vB r.2.1), (vI r.2.2)]) [] := by
  refine FnM.of_wH ⟨Tryz.prog, 39, [], []⟩ rfl Tryz.func24 rfl rfl (Nat.le_of_ble_eq_true rfl) (by kernel_rfl) ?_
  unfold screen_ScreenAt at hF
  refine wH_seq ?_
  refine wH_region ?_
  refine h_box 0 (.inl rfl) [(vS wv_1.Key), (vI wv_1.W), (vI wv_1.H), (vL Screen.enc wv_1.Screens)] rfl rfl (wt rfl) (fun n_4 => ?_)
  refine h_op (vS (⟨#[]⟩ : ByteArray)) (wt rfl) rfl ?_
  refine h_op (vB false) (wt rfl) rfl ?_
  refine h_op (vI 0) (wt rfl) rfl ?_
  refine h_nil ?_
  refine wH_seq ?_
  refine wH_seq ?_
  refine wH_region ?_
  refine h_ldr 0 0 (.inl rfl) (fun _ _ _ => trivial) sz58 ag58 rfl rfl (.d (.agg (Wall.enc wv_1))) rfl (wt rfl) ?_
  obtain ⟨r_5, hr_6, hF⟩ := bind_some hF
  refine h_call0 (screen_CheckWall_ok hr_6) rfl hb28 rfl rfl rfl rfl (wt rfl) ?_
  refine h_op (vI r_5) (wt rfl) rfl ?_
  refine h_nil ?_
  refine wH_seq ?_
  refine wH_region ?_
  refine h_op (vI r_5) (wt rfl) rfl ?_
  refine h_op (vB (r_5 != 0)) (wt rfl) rfl ?_
  refine h_nil ?_
  rcases cond_some hF with ⟨hc_7, hF⟩ | ⟨hc_7, hF⟩
  · refine wH_ift rfl hc_7 ?_
    refine wH_seq ?_
    refine wH_region ?_
    refine h_op (vI r_5) (wt rfl) rfl ?_
    refine h_op (vS (⟨#[]⟩ : ByteArray)) (wt rfl) rfl ?_
    refine h_op (vB false) (wt rfl) rfl ?_
    refine h_op (vI r_5) (wt rfl) rfl ?_
    refine h_nil ?_
    replace hF := some_inj hF
    subst hF
    refine wH_ret ?_
    exact fin0 (.inr rfl) [(vS (⟨#[]⟩ : ByteArray)), (vB false), (vI r_5)] ⟨rfl, ⟨rfl, ⟨rfl, trivial⟩⟩⟩ rfl rfl rfl
  · refine wH_iff rfl hc_7 ?_
    refine wH_skip ?_
    refine wH_seq ?_
    refine wH_seq ?_
    refine wH_region ?_
    refine h_op (vI x_2) (wt rfl) rfl ?_
    refine h_op (vI y_3) (wt rfl) rfl ?_
    obtain ⟨r_8, hr_9, hF⟩ := bind_some hF
    refine h_call0 (screen_spotFault_ok hr_9) rfl hb40 rfl rfl rfl rfl (wt rfl) ?_
    refine h_op (vI r_8) (wt rfl) rfl ?_
    refine h_nil ?_
    refine wH_seq ?_
    refine wH_region ?_
    refine h_op (vI r_8) (wt rfl) rfl ?_
    refine h_op (vB (r_8 != 0)) (wt rfl) rfl ?_
    refine h_nil ?_
    rcases cond_some hF with ⟨hc_10, hF⟩ | ⟨hc_10, hF⟩
    · refine wH_ift rfl hc_10 ?_
      refine wH_seq ?_
      refine wH_region ?_
      refine h_op (vI r_8) (wt rfl) rfl ?_
      refine h_op (vS (⟨#[]⟩ : ByteArray)) (wt rfl) rfl ?_
      refine h_op (vB false) (wt rfl) rfl ?_
      refine h_op (vI r_8) (wt rfl) rfl ?_
      refine h_nil ?_
      replace hF := some_inj hF
      subst hF
      refine wH_ret ?_
      exact fin0 (.inr rfl) [(vS (⟨#[]⟩ : ByteArray)), (vB false), (vI r_8)] ⟨rfl, ⟨rfl, ⟨rfl, trivial⟩⟩⟩ rfl rfl rfl
    · refine wH_iff rfl hc_10 ?_
      refine wH_skip ?_
      refine wH_seq ?_
      refine wH_seq ?_
      refine wH_region ?_
      refine h_far pl58_3 rfl 3 rfl (wt rfl) ?_
      refine h_ldr 0 0 (.inl rfl) (fun _ _ _ => trivial) sz56 ag56 rfl rfl (vL Screen.enc wv_1.Screens) rfl (wt rfl) ?_
      refine h_len un56 rfl (wt rfl) ?_
      refine h_op (vI 0) (wt rfl) rfl ?_
      refine h_nil ?_
      obtain ⟨o_19, hj_20, hF⟩ := bind_some hF
      obtain ⟨hn_15, hj_20⟩ := forL_some hj_20
      refine wH_join (β := (Unit)) (fun (s_16 : Unit) => ([] : List (Nat × V))) (fun (s_16 : Unit) => ([(n_4, some (.cells 4 [(vS wv_1.Key), (vI wv_1.W), (vI wv_1.H), (vL Screen.enc wv_1.Screens)]))] : Hp)) (fun p => o_19 = .go p) ?_ ?_
      · refine wH_block ?_
        refine wH_loop (β := Nat × (List Screen) × (Unit)) (fun p => (fun (k_11 : Nat) (l_12 : List Screen) (s_16 : Unit) => ([(1, (vI x_2)), (2, (vI y_3)), (25, (vL Screen.enc wv_1.Screens)), (26, (vI (wv_1.Screens.length : Int))), (27, (vI (k_11 : Int)))] : List (Nat × V))) p.1 p.2.1 p.2.2) (fun p => (fun (k_11 : Nat) (l_12 : List Screen) (s_16 : Unit) => ([(n_4, some (.cells 4 [(vS wv_1.Key), (vI wv_1.W), (vI wv_1.H), (vL Screen.enc wv_1.Screens)]))] : Hp)) p.1 p.2.1 p.2.2) (fun p => forR (fun k x s => screen_ScreenAt_L1 x_2 y_3 k x s) p.2.1 p.1 p.2.2 = some o_19 ∧ (wv_1.Screens).drop p.1 = p.2.1) (fun p => p.2.1.length) (0, wv_1.Screens, ()) ⟨hj_20, rfl⟩ rfl (pre_r rfl) ?_
        rintro ⟨k_11, l_12, s_16⟩ ⟨hL_18, hD_14⟩
        dsimp only at hL_18 hD_14
        cases l_12 with
        | nil =>
          replace hL_18 := some_inj hL_18
          subst hL_18
          refine wH_seq (wH_region (h_op (vB (decide ((k_11 : Int) < (wv_1.Screens.length : Int)))) (wt rfl) rfl (h_nil ?_)))
          refine wH_seq (wH_iff rfl (drop_nil hD_14) (wH_exit ?_))
          exact cut_mk (s_16) rfl rfl (pre_r rfl)
        | cons x_13 l_12 =>
          obtain ⟨c_, hc_17, hL_18⟩ := bind_some hL_18
          refine wH_seq (wH_region (h_op (vB (decide ((k_11 : Int) < (wv_1.Screens.length : Int)))) (wt rfl) rfl (h_nil ?_)))
          refine wH_seq (wH_ift rfl (drop_cons hD_14) (wH_skip ?_))
          unfold screen_ScreenAt_L1 at hc_17
          refine wH_seq ?_
          refine wH_block ?_
          refine wH_seq ?_
          refine wH_region ?_
          refine h_ia es56 rfl rfl (drop_idx hD_14) rfl (wt rfl) ?_
          refine h_ldc sz99 ag99 rfl (.d (.agg (Screen.enc x_13))) rfl (wt rfl) ?_
          refine h_alloc 0 (.inl rfl) z99 rfl (wt rfl) (fun n_21 => ?_)
          refine h_str 0 (.inl rfl) (fun _ _ _ => trivial) 1 sz99 rfl rfl [(vS x_13.Key), (vI x_13.On.X), (vI x_13.On.Y), (vI x_13.On.W), (vI x_13.On.H)] rfl (wt rfl) ?_
          refine h_nil ?_
          refine wH_seq ?_
          refine wH_region ?_
          refine h_far pl99_1 rfl 1 rfl (wt rfl) ?_
          refine h_ldr 0 1 (.inl rfl) (fun _ _ _ => trivial) sz49 ag49 rfl rfl (.d (.agg (Rect.enc x_13.On))) rfl (wt rfl) ?_
          refine h_op (vI x_2) (wt rfl) rfl ?_
          refine h_op (vI y_3) (wt rfl) rfl ?_
          obtain ⟨r_22, hr_23, hc_17⟩ := bind_some hc_17
          refine h_call0 (screen_has_ok hr_23) rfl hb41 rfl rfl rfl rfl (wt rfl) ?_
          refine h_nil ?_
          rcases cond_some hc_17 with ⟨hc_24, hc_17⟩ | ⟨hc_24, hc_17⟩
          · refine wH_ift rfl hc_24 ?_
            refine wH_seq ?_
            refine wH_region ?_
            refine h_far pl99_0 rfl 0 rfl (wt rfl) ?_
            refine h_ldr 0 1 (.inl rfl) (fun _ _ _ => trivial) sz9 ag9 rfl rfl (vS x_13.Key) rfl (wt rfl) ?_
            refine h_op (vS x_13.Key) (wt rfl) rfl ?_
            refine h_op (vB true) (wt rfl) rfl ?_
            refine h_op (vI 0) (wt rfl) rfl ?_
            refine h_nil ?_
            replace hc_17 := some_inj hc_17
            subst hc_17
            replace hL_18 := some_inj hL_18
            subst hL_18
            replace hF := some_inj hF
            subst hF
            refine wH_ret ?_
            exact fin0 (.inr rfl) [(vS x_13.Key), (vB true), (vI 0)] ⟨rfl, ⟨rfl, ⟨rfl, trivial⟩⟩⟩ rfl rfl rfl
          · refine wH_iff rfl hc_24 ?_
            refine wH_skip ?_
            refine wH_region ?_
            refine h_opw (w64_next hD_14 hn_15) (wt rfl) rfl ?_
            refine h_op (vI ((k_11 + 1 : Nat) : Int)) (wt rfl) rfl ?_
            refine h_nil ?_
            replace hc_17 := some_inj hc_17
            subst hc_17
            exact loop_mk (k_11 + 1, l_12, ()) ⟨hL_18, drop_next hD_14⟩ (Nat.lt_succ_self _) rfl (pre_r rfl)
      · rintro s_16 ho_ sl_ H_ hp_ hq_
        subst ho_
        refine wH_at _ hp_ hq_ ?_
        refine wH_seq ?_
        refine wH_region ?_
        refine h_op (vS (⟨#[]⟩ : ByteArray)) (wt rfl) rfl ?_
        refine h_op (vB false) (wt rfl) rfl ?_
        refine h_op (vI 0) (wt rfl) rfl ?_
        refine h_nil ?_
        replace hF := some_inj hF
        subst hF
        refine wH_ret ?_
        exact fin0 (.inr rfl) [(vS (⟨#[]⟩ : ByteArray)), (vB false), (vI 0)] ⟨rfl, ⟨rfl, ⟨rfl, trivial⟩⟩⟩ rfl rfl rfl
theorem screen_lit_ok {wv_1 : Wall} {r : (List Rect)} (hF : screen_lit wv_1 = some r) :
    FnM Tryz.prog 65 [(.d (.agg (Wall.enc wv_1)))] [] (vL Rect.enc r) [] := by
  refine FnM.of_wH ⟨Tryz.prog, 20, [], []⟩ rfl Tryz.func65 rfl rfl (Nat.le_of_ble_eq_true rfl) (by kernel_rfl) ?_
  unfold screen_lit at hF
  refine wH_seq ?_
  refine wH_region ?_
  refine h_box 0 (.inl rfl) [(vS wv_1.Key), (vI wv_1.W), (vI wv_1.H), (vL Screen.enc wv_1.Screens)] rfl rfl (wt rfl) (fun n_2 => ?_)
  refine h_op .nil (wt rfl) rfl ?_
  refine h_nil ?_
  refine wH_seq ?_
  refine wH_region ?_
  refine h_op .nil (wt rfl) rfl ?_
  refine h_nil ?_
  refine wH_seq ?_
  refine wH_seq ?_
  refine wH_region ?_
  refine h_far pl58_3 rfl 3 rfl (wt rfl) ?_
  refine h_ldr 0 0 (.inl rfl) (fun _ _ _ => trivial) sz56 ag56 rfl rfl (vL Screen.enc wv_1.Screens) rfl (wt rfl) ?_
  refine h_len un56 rfl (wt rfl) ?_
  refine h_op (vI 0) (wt rfl) rfl ?_
  refine h_nil ?_
  refine wH_new (fun n_9 => ?_)
  obtain ⟨o_14, hj_15, hF⟩ := bind_some hF
  obtain ⟨hn_7, hj_15⟩ := forL_some hj_15
  refine wH_join (β := ((List Rect)) × Nm) (fun p => (fun (s_8 : (List Rect)) (n_11 : Nm) => ([(3, (gV n_11 4 s_8))] : List (Nat × V))) p.1 p.2) (fun p => (fun (s_8 : (List Rect)) (n_11 : Nm) => ([(n_2, some (.cells 4 [(vS wv_1.Key), (vI wv_1.W), (vI wv_1.H), (vL Screen.enc wv_1.Screens)])), (n_11, gB 4 Rect.enc s_8)] : Hp)) p.1 p.2) (fun p => o_14 = .go p.1) ?_ ?_
  · refine wH_block ?_
    refine wH_loop (β := Nat × (List Screen) × ((List Rect)) × Nm) (fun p => (fun (k_3 : Nat) (l_4 : List Screen) (s_8 : (List Rect)) (n_11 : Nm) => ([(3, (gV n_11 4 s_8)), (7, (vL Screen.enc wv_1.Screens)), (8, (vI (wv_1.Screens.length : Int))), (9, (vI (k_3 : Int)))] : List (Nat × V))) p.1 p.2.1 p.2.2.1 p.2.2.2) (fun p => (fun (k_3 : Nat) (l_4 : List Screen) (s_8 : (List Rect)) (n_11 : Nm) => ([(n_2, some (.cells 4 [(vS wv_1.Key), (vI wv_1.W), (vI wv_1.H), (vL Screen.enc wv_1.Screens)])), (n_11, gB 4 Rect.enc s_8)] : Hp)) p.1 p.2.1 p.2.2.1 p.2.2.2) (fun p => forR (fun k x s => screen_lit_L1 k x s) p.2.1 p.1 p.2.2.1 = some o_14 ∧ (wv_1.Screens).drop p.1 = p.2.1) (fun p => p.2.1.length) (0, wv_1.Screens, ([] : List Rect), n_9) ⟨hj_15, rfl⟩ rfl (pre_r rfl) ?_
    rintro ⟨k_3, l_4, s_8, n_11⟩ ⟨hL_13, hD_6⟩
    dsimp only at hL_13 hD_6
    cases l_4 with
    | nil =>
      replace hL_13 := some_inj hL_13
      subst hL_13
      refine wH_seq (wH_region (h_op (vB (decide ((k_3 : Int) < (wv_1.Screens.length : Int)))) (wt rfl) rfl (h_nil ?_)))
      refine wH_seq (wH_iff rfl (drop_nil hD_6) (wH_exit ?_))
      exact cut_mk (s_8, n_11) rfl rfl (pre_r rfl)
    | cons x_5 l_4 =>
      obtain ⟨c_, hc_12, hL_13⟩ := bind_some hL_13
      refine wH_seq (wH_region (h_op (vB (decide ((k_3 : Int) < (wv_1.Screens.length : Int)))) (wt rfl) rfl (h_nil ?_)))
      refine wH_seq (wH_ift rfl (drop_cons hD_6) (wH_skip ?_))
      unfold screen_lit_L1 at hc_12
      refine wH_seq ?_
      refine wH_block ?_
      refine wH_seq ?_
      refine wH_region ?_
      refine h_ia es56 rfl rfl (drop_idx hD_6) rfl (wt rfl) ?_
      refine h_ldc sz99 ag99 rfl (.d (.agg (Screen.enc x_5))) rfl (wt rfl) ?_
      refine h_alloc 0 (.inl rfl) z99 rfl (wt rfl) (fun n_16 => ?_)
      refine h_str 0 (.inl rfl) (fun _ _ _ => trivial) 2 sz99 rfl rfl [(vS x_5.Key), (vI x_5.On.X), (vI x_5.On.Y), (vI x_5.On.W), (vI x_5.On.H)] rfl (wt rfl) ?_
      refine h_nil ?_
      refine wH_region ?_
      refine h_op (gV n_11 4 s_8) (wt rfl) rfl ?_
      refine h_far pl99_1 rfl 1 rfl (wt rfl) ?_
      refine h_ldr 0 2 (.inl rfl) (fun _ _ _ => trivial) sz49 ag49 rfl rfl (.d (.agg (Rect.enc x_5.On))) rfl (wt rfl) ?_
      refine h_lit (([x_5.On] : List Rect).map Rect.enc) es62 ez62 rfl rfl rfl rfl rfl (wt rfl) ?_
      obtain ⟨a_17, hz_18, hc_12⟩ := bind_some hc_12
      refine h_appg 0 (.inl rfl) (fun _ _ _ => trivial) (i := 1) el62 el62 sz49 z49 rfl (by decide) by49 (by decide) (fun _ => rfl) rfl rfl rfl hz_18 (wt rfl) (fun n_19 => ?_)
      refine h_op (gV n_19 4 a_17) (wt rfl) rfl ?_
      refine h_nil ?_
      refine wH_region ?_
      refine h_opw (w64_next hD_6 hn_7) (wt rfl) rfl ?_
      refine h_op (vI ((k_3 + 1 : Nat) : Int)) (wt rfl) rfl ?_
      refine h_nil ?_
      replace hc_12 := some_inj hc_12
      subst hc_12
      exact loop_mk (k_3 + 1, l_4, a_17, n_19) ⟨hL_13, drop_next hD_6⟩ (Nat.lt_succ_self _) rfl (pre_r rfl)
  · rintro ⟨s_8, n_11⟩ ho_ sl_ H_ hp_ hq_
    subst ho_
    refine wH_at _ hp_ hq_ ?_
    refine wH_seq ?_
    refine wH_region ?_
    refine h_op (gV n_11 4 s_8) (wt rfl) rfl ?_
    refine h_op (gV n_11 4 s_8) (wt rfl) rfl ?_
    refine h_nil ?_
    refine wH_frozg 1 rfl ?_
    refine wH_cog 2 1 rfl rfl ?_
    refine wH_cog 3 1 rfl rfl ?_
    refine wH_cog 19 1 rfl rfl ?_
    replace hF := some_inj hF
    subst hF
    refine wH_ret ?_
    exact fin0 (.inr rfl) [(vL Rect.enc s_8)] ⟨rfl, trivial⟩ rfl rfl rfl
theorem slices_Grow_api_Rect_api_Rect_k_ok {n_1 : Int} {r : Bool} (hF : slices_Grow_api_Rect_api_Rect_k n_1 = some r) :
    FnM Tryz.prog 91 [.nil, (vI n_1)] [] (kV r (extN 0) 4 ([] : List Rect)) (kO r 4) := by
  refine FnM.of_wH ⟨Tryz.prog, 27, [], []⟩ rfl Tryz.func91 rfl rfl (Nat.le_of_ble_eq_true rfl) (by kernel_rfl) ?_
  unfold slices_Grow_api_Rect_api_Rect_k at hF
  refine wH_seq ?_
  refine wH_region ?_
  refine h_op .nil (wt rfl) rfl ?_
  refine h_nil ?_
  refine wH_seq ?_
  refine wH_seq ?_
  refine wH_region ?_
  refine h_op (vI n_1) (wt rfl) rfl ?_
  refine h_op (vB (decide (n_1 < 0))) (wt rfl) rfl ?_
  refine h_nil ?_
  rcases cond_some hF with ⟨hc_2, hF⟩ | ⟨hc_2, hF⟩
  · refine wH_ift rfl hc_2 ?_
    refine wH_region ?_
    cases hF
  · refine wH_iff rfl hc_2 ?_
    refine wH_skip ?_
    refine wH_seq ?_
    refine wH_seq ?_
    refine wH_region ?_
    refine h_op (vI n_1) (wt rfl) rfl ?_
    refine h_op .nil (wt rfl) rfl ?_
    refine h_capn el62 rfl (wt rfl) ?_
    refine h_op .nil (wt rfl) rfl ?_
    refine h_lenn un62 rfl (wt rfl) ?_
    refine h_op (vI (w64 (0 - 0))) (wt rfl) rfl ?_
    refine h_op (vI (w64 (n_1 - (w64 (0 - 0))))) (wt rfl) rfl ?_
    refine h_op (vI (w64 (n_1 - (w64 (0 - 0))))) (wt rfl) rfl ?_
    refine h_nil ?_
    refine wH_seq ?_
    refine wH_region ?_
    refine h_op (vI (w64 (n_1 - (w64 (0 - 0))))) (wt rfl) rfl ?_
    refine h_op (vB (decide ((w64 (n_1 - (w64 (0 - 0)))) > 0))) (wt rfl) rfl ?_
    refine h_nil ?_
    rcases cond_some hF with ⟨hc_3, hF⟩ | ⟨hc_3, hF⟩
    · refine wH_ift rfl hc_3 ?_
      refine wH_region ?_
      refine h_op .nil (wt rfl) rfl ?_
      refine h_op .nil (wt rfl) rfl ?_
      refine h_capn el62 rfl (wt rfl) ?_
      refine h_op .nil (wt rfl) (by kernel_rfl) ?_
      refine h_op (vI (w64 (n_1 - (w64 (0 - 0))))) (wt rfl) rfl ?_
      obtain ⟨_, hz_5, hF⟩ := bind_some hF
      refine h_appz (enc := Rect.enc) 0 (.inl rfl) el62 (by kernel_rfl) sz49 z49 rfl (by decide) by49 rfl rfl hz_5 (wt rfl) (fun n_4 => ?_)
      refine h_op .nil (wt rfl) rfl ?_
      refine h_lenn un62 rfl (wt rfl) ?_
      refine h_cutm (m := 0) un62 sz49 rfl rfl rfl (Nat.zero_le _) (wt rfl) ?_
      refine h_op (.vs n_4 4 0 0) (wt rfl) rfl ?_
      refine h_nil ?_
      refine wH_seq ?_
      refine wH_region ?_
      refine h_op (.vs n_4 4 0 0) (wt rfl) rfl ?_
      refine h_op (.vs n_4 4 0 0) (wt rfl) rfl ?_
      refine h_nil ?_
      replace hF := some_inj hF
      subst hF
      refine wH_ret ?_
      exact finK (.inr rfl) 0 rfl rfl
    · refine wH_iff rfl hc_3 ?_
      refine wH_skip ?_
      refine wH_seq ?_
      refine wH_region ?_
      refine h_op .nil (wt rfl) rfl ?_
      refine h_op .nil (wt rfl) rfl ?_
      refine h_nil ?_
      replace hF := some_inj hF
      subst hF
      refine wH_ret ?_
      exact finK0 (.inr rfl) rfl
theorem slices_Concat_api_Rect_api_Rect_ok {slices_1 : (List (List Rect))} {r : (List Rect)} (hF : slices_Concat_api_Rect_api_Rect slices_1 = some r) :
    FnM Tryz.prog 82 [(vL (eL Rect.enc) slices_1)] [] (vL Rect.enc r) [] := by
  refine FnM.of_wH ⟨Tryz.prog, 36, [], []⟩ rfl Tryz.func82 rfl rfl (Nat.le_of_ble_eq_true rfl) (by kernel_rfl) ?_
  unfold slices_Concat_api_Rect_api_Rect at hF
  refine wH_seq ?_
  refine wH_region ?_
  refine h_op .nil (wt rfl) rfl ?_
  refine h_nil ?_
  refine wH_seq ?_
  refine wH_region ?_
  refine h_op (vI 0) (wt rfl) rfl ?_
  refine h_nil ?_
  refine wH_seq ?_
  refine wH_seq ?_
  refine wH_region ?_
  refine h_op (vL (eL Rect.enc) slices_1) (wt rfl) rfl ?_
  refine h_len un125 rfl (wt rfl) ?_
  refine h_op (vI 0) (wt rfl) rfl ?_
  refine h_nil ?_
  obtain ⟨o_10, hj_11, hF⟩ := bind_some hF
  obtain ⟨hn_6, hj_11⟩ := forL_some hj_11
  refine wH_join (β := (Int)) (fun (s_7 : Int) => ([(0, (vL (eL Rect.enc) slices_1)), (3, (vI s_7))] : List (Nat × V))) (fun (s_7 : Int) => ([] : Hp)) (fun p => o_10 = .go p) ?_ ?_
  · refine wH_block ?_
    refine wH_loop (β := Nat × (List (List Rect)) × (Int)) (fun p => (fun (k_2 : Nat) (l_3 : List (List Rect)) (s_7 : Int) => ([(0, (vL (eL Rect.enc) slices_1)), (3, (vI s_7)), (9, (vL (eL Rect.enc) slices_1)), (10, (vI (slices_1.length : Int))), (11, (vI (k_2 : Int)))] : List (Nat × V))) p.1 p.2.1 p.2.2) (fun p => (fun (k_2 : Nat) (l_3 : List (List Rect)) (s_7 : Int) => ([] : Hp)) p.1 p.2.1 p.2.2) (fun p => forR (fun k x s => slices_Concat_api_Rect_api_Rect_L1 k x s) p.2.1 p.1 p.2.2 = some o_10 ∧ (slices_1).drop p.1 = p.2.1) (fun p => p.2.1.length) (0, slices_1, 0) ⟨hj_11, rfl⟩ rfl (pre_r rfl) ?_
    rintro ⟨k_2, l_3, s_7⟩ ⟨hL_9, hD_5⟩
    dsimp only at hL_9 hD_5
    cases l_3 with
    | nil =>
      replace hL_9 := some_inj hL_9
      subst hL_9
      refine wH_seq (wH_region (h_op (vB (decide ((k_2 : Int) < (slices_1.length : Int)))) (wt rfl) rfl (h_nil ?_)))
      refine wH_seq (wH_iff rfl (drop_nil hD_5) (wH_exit ?_))
      exact cut_mk (s_7) rfl rfl (pre_r rfl)
    | cons x_4 l_3 =>
      obtain ⟨c_, hc_8, hL_9⟩ := bind_some hL_9
      refine wH_seq (wH_region (h_op (vB (decide ((k_2 : Int) < (slices_1.length : Int)))) (wt rfl) rfl (h_nil ?_)))
      refine wH_seq (wH_ift rfl (drop_cons hD_5) (wH_skip ?_))
      unfold slices_Concat_api_Rect_api_Rect_L1 at hc_8
      refine wH_seq ?_
      refine wH_block ?_
      refine wH_seq ?_
      refine wH_region ?_
      refine h_ia es125 rfl rfl (drop_idx hD_5) rfl (wt rfl) ?_
      refine h_ldc sz62 ag62 rfl (vL Rect.enc x_4) rfl (wt rfl) ?_
      refine h_op (vL Rect.enc x_4) (wt rfl) rfl ?_
      refine h_nil ?_
      refine wH_seq ?_
      refine wH_region ?_
      refine h_op (vI s_7) (wt rfl) rfl ?_
      refine h_op (vL Rect.enc x_4) (wt rfl) rfl ?_
      refine h_len un62 rfl (wt rfl) ?_
      refine h_op (vI (w64 (s_7 + (x_4.length : Int)))) (wt rfl) rfl ?_
      refine h_op (vI (w64 (s_7 + (x_4.length : Int)))) (wt rfl) rfl ?_
      refine h_nil ?_
      refine wH_seq ?_
      refine wH_region ?_
      refine h_op (vI (w64 (s_7 + (x_4.length : Int)))) (wt rfl) rfl ?_
      refine h_op (vB (decide ((w64 (s_7 + (x_4.length : Int))) < 0))) (wt rfl) rfl ?_
      refine h_nil ?_
      obtain ⟨v_12, h_13, hc_8⟩ := bind_some hc_8
      refine wH_join (β := Unit) (fun _ => ([(0, (vL (eL Rect.enc) slices_1)), (3, (vI (w64 (s_7 + (x_4.length : Int))))), (9, (vL (eL Rect.enc) slices_1)), (10, (vI (slices_1.length : Int))), (11, (vI (k_2 : Int)))] : List (Nat × V))) (fun _ => ([] : Hp)) (fun _ => True) ?_ ?_
      · rcases cond_some h_13 with ⟨hc_14, h_13⟩ | ⟨hc_14, h_13⟩
        · refine wH_ift rfl hc_14 ?_
          refine wH_region ?_
          cases h_13
        · refine wH_iff rfl hc_14 ?_
          refine wH_skip ?_
          replace h_13 := some_inj h_13
          subst h_13
          exact cut_mk () trivial rfl (pre_r rfl)
      · rintro ⟨⟩ _ sl_ H_ hp_ hq_
        refine wH_at _ hp_ hq_ ?_
        refine wH_region ?_
        refine h_opw (w64_next hD_5 hn_6) (wt rfl) rfl ?_
        refine h_op (vI ((k_2 + 1 : Nat) : Int)) (wt rfl) rfl ?_
        refine h_nil ?_
        replace hc_8 := some_inj hc_8
        subst hc_8
        exact loop_mk (k_2 + 1, l_3, (w64 (s_7 + (x_4.length : Int)))) ⟨hL_9, drop_next hD_5⟩ (Nat.lt_succ_self _) rfl (pre_r rfl)
  · rintro s_7 ho_ sl_ H_ hp_ hq_
    subst ho_
    refine wH_at _ hp_ hq_ ?_
    refine wH_seq ?_
    refine wH_region ?_
    refine h_op (vI s_7) (wt rfl) rfl ?_
    obtain ⟨b_15, hr_16, hF⟩ := bind_some hF
    refine h_callk (enc := Rect.enc) (slices_Grow_api_Rect_api_Rect_k_ok hr_16) rfl hb91 (by kernel_rfl) rfl (by kernel_rfl) (wt rfl) (fun n_17 => ?_)
    refine h_op (kV b_15 n_17 4 ([] : List Rect)) (wt rfl) rfl ?_
    refine h_nil ?_
    refine wH_seq ?_
    refine wH_seq ?_
    refine wH_region ?_
    refine h_op (vL (eL Rect.enc) slices_1) (wt rfl) rfl ?_
    refine h_len un125 rfl (wt rfl) ?_
    refine h_op (vI 0) (wt rfl) rfl ?_
    refine h_nil ?_
    obtain ⟨o_28, hj_29, hF⟩ := bind_some hF
    obtain ⟨hn_22, hj_29⟩ := forL_some hj_29
    refine wH_join (β := ((List Rect)) × Nm) (fun p => (fun (s_23 : (List Rect)) (n_25 : Nm) => ([(6, (kV b_15 n_25 4 s_23))] : List (Nat × V))) p.1 p.2) (fun p => (fun (s_23 : (List Rect)) (n_25 : Nm) => ([(n_25, kB b_15 4 Rect.enc s_23)] : Hp)) p.1 p.2) (fun p => o_28 = .go p.1) ?_ ?_
    · refine wH_block ?_
      refine wH_loop (β := Nat × (List (List Rect)) × ((List Rect)) × Nm) (fun p => (fun (k_18 : Nat) (l_19 : List (List Rect)) (s_23 : (List Rect)) (n_25 : Nm) => ([(6, (kV b_15 n_25 4 s_23)), (25, (vL (eL Rect.enc) slices_1)), (26, (vI (slices_1.length : Int))), (27, (vI (k_18 : Int)))] : List (Nat × V))) p.1 p.2.1 p.2.2.1 p.2.2.2) (fun p => (fun (k_18 : Nat) (l_19 : List (List Rect)) (s_23 : (List Rect)) (n_25 : Nm) => ([(n_25, kB b_15 4 Rect.enc s_23)] : Hp)) p.1 p.2.1 p.2.2.1 p.2.2.2) (fun p => forR (fun k x s => slices_Concat_api_Rect_api_Rect_L2 k x s) p.2.1 p.1 p.2.2.1 = some o_28 ∧ (slices_1).drop p.1 = p.2.1) (fun p => p.2.1.length) (0, slices_1, ([] : List Rect), n_17) ⟨hj_29, rfl⟩ rfl (pre_r rfl) ?_
      rintro ⟨k_18, l_19, s_23, n_25⟩ ⟨hL_27, hD_21⟩
      dsimp only at hL_27 hD_21
      cases l_19 with
      | nil =>
        replace hL_27 := some_inj hL_27
        subst hL_27
        refine wH_seq (wH_region (h_op (vB (decide ((k_18 : Int) < (slices_1.length : Int)))) (wt rfl) rfl (h_nil ?_)))
        refine wH_seq (wH_iff rfl (drop_nil hD_21) (wH_exit ?_))
        exact cut_mk (s_23, n_25) rfl rfl (pre_r rfl)
      | cons x_20 l_19 =>
        obtain ⟨c_, hc_26, hL_27⟩ := bind_some hL_27
        refine wH_seq (wH_region (h_op (vB (decide ((k_18 : Int) < (slices_1.length : Int)))) (wt rfl) rfl (h_nil ?_)))
        refine wH_seq (wH_ift rfl (drop_cons hD_21) (wH_skip ?_))
        unfold slices_Concat_api_Rect_api_Rect_L2 at hc_26
        refine wH_seq ?_
        refine wH_block ?_
        refine wH_seq ?_
        refine wH_region ?_
        refine h_ia es125 rfl rfl (drop_idx hD_21) rfl (wt rfl) ?_
        refine h_ldc sz62 ag62 rfl (vL Rect.enc x_20) rfl (wt rfl) ?_
        refine h_op (vL Rect.enc x_20) (wt rfl) rfl ?_
        refine h_nil ?_
        refine wH_region ?_
        refine h_op (kV b_15 n_25 4 s_23) (wt rfl) rfl ?_
        refine h_op (vL Rect.enc x_20) (wt rfl) rfl ?_
        obtain ⟨a_30, hz_31, hc_26⟩ := bind_some hc_26
        refine h_appk 0 (.inl rfl) (fun _ _ _ => trivial) (i := 0) el62 el62 sz49 z49 rfl (by decide) by49 (by decide) (fun _ => rfl) rfl rfl rfl hz_31 (wt rfl) (fun n_32 => ?_)
        refine h_op (kV b_15 n_32 4 a_30) (wt rfl) rfl ?_
        refine h_nil ?_
        refine wH_region ?_
        refine h_opw (w64_next hD_21 hn_22) (wt rfl) rfl ?_
        refine h_op (vI ((k_18 + 1 : Nat) : Int)) (wt rfl) rfl ?_
        refine h_nil ?_
        replace hc_26 := some_inj hc_26
        subst hc_26
        exact loop_mk (k_18 + 1, l_19, a_30, n_32) ⟨hL_27, drop_next hD_21⟩ (Nat.lt_succ_self _) rfl (pre_r rfl)
    · rintro ⟨s_23, n_25⟩ ho_ sl_ H_ hp_ hq_
      subst ho_
      refine wH_at _ hp_ hq_ ?_
      refine wH_seq ?_
      refine wH_region ?_
      refine h_op (kV b_15 n_25 4 s_23) (wt rfl) rfl ?_
      refine h_op (kV b_15 n_25 4 s_23) (wt rfl) rfl ?_
      refine h_nil ?_
      refine wH_frozk 0 rfl ?_
      refine wH_cok 2 0 rfl rfl ?_
      refine wH_cok 6 0 rfl rfl ?_
      refine wH_cok 35 0 rfl rfl ?_
      replace hF := some_inj hF
      subst hF
      refine wH_ret ?_
      exact fin0 (.inr rfl) [(vL Rect.enc s_23)] ⟨rfl, trivial⟩ rfl rfl rfl
theorem slices_Sort_int_int_v1_ok {x r : (List Int)} (hF : slices_Sort_int_int_v1 x = some r) :
    FnM Tryz.prog 83 [(dV (extN 0) 1 x)] (([] : List Box) ++ gI 1 eI x) (.tup []) (([] : List Box).map some ++ gT x (gB 1 eI r)) :=
  sortI_ok Tryz.slices_Sort_int Tryz.slices_Sort_int_none hF
theorem slices_Compact_int_int_v1_ok {s_1 : (List Int)} {r : (List Int)} (hF : slices_Compact_int_int_v1 s_1 = some r) :
    FnM Tryz.prog 84 [(dV (extN 0) 1 s_1)] (([] : List Box) ++ gI 1 eI s_1) (vL eI r) (([] : List Box).map some ++ gT s_1 none) := by
  refine FnM.of_wHv ⟨Tryz.prog, 61, [], []⟩ rfl Tryz.func84 rfl rfl (Nat.le_of_ble_eq_true rfl) (by kernel_rfl) ?_
  unfold slices_Compact_int_int_v1 at hF
  refine wH_seq ?_
  refine wH_region ?_
  refine h_op .nil (wt rfl) rfl ?_
  refine h_nil ?_
  refine wH_seq ?_
  refine wH_seq ?_
  refine wH_region ?_
  refine h_op (dV (extN 0) 1 s_1) (wt rfl) rfl ?_
  refine h_lend un22 rfl (wt rfl) ?_
  refine h_op (vB (decide ((s_1.length : Int) < 2))) (wt rfl) rfl ?_
  refine h_nil ?_
  rcases cond_some hF with ⟨hc_2, hF⟩ | ⟨hc_2, hF⟩
  · refine wH_ift rfl hc_2 ?_
    refine wH_seq ?_
    refine wH_region ?_
    refine h_op (dV (extN 0) 1 s_1) (wt rfl) rfl ?_
    refine h_op (dV (extN 0) 1 s_1) (wt rfl) rfl ?_
    refine h_nil ?_
    refine wH_frozg 0 rfl ?_
    refine wH_cod 0 0 rfl rfl ?_
    refine wH_cod 2 0 rfl rfl ?_
    refine wH_cod 6 0 rfl rfl ?_
    refine wH_cod 9 0 rfl rfl ?_
    refine wH_drop (i := 0) rfl ?_
    replace hF := some_inj hF
    subst hF
    refine wH_ret ?_
    exact finV (bs := ([] : List Box)) (os := ([] : List Box)) (xs := s_1) (o := none) (.inr rfl) [(vL eI s_1)] ⟨rfl, trivial⟩ rfl rfl rfl rfl rfl (by kernel_rfl) none_ok rfl
  · refine wH_iff rfl hc_2 ?_
    refine wH_skip ?_
    refine wH_seq ?_
    refine wH_seq ?_
    refine wH_region ?_
    refine h_op (vI 1) (wt rfl) rfl ?_
    refine h_nil ?_
    obtain ⟨o_11, hj_12, hF⟩ := bind_some hF
    obtain ⟨nq_52, hj_12⟩ := loopO_iter hj_12
    refine wH_join (β := (Int)) (fun (s_8 : Int) => ([(0, (dV (extN 0) 1 s_1))] : List (Nat × V))) (fun (s_8 : Int) => ([((extN 0), gB 1 eI s_1)] : Hp)) (fun p => o_11 = .go p) ?_ ?_
    · refine wH_block ?_
      refine wH_loop (β := Nat × (Int)) (fun p => (fun (k_3 : Nat) (s_8 : Int) => ([(0, (dV (extN 0) 1 s_1)), (3, (vI s_8))] : List (Nat × V))) p.1 p.2) (fun p => (fun (k_3 : Nat) (s_8 : Int) => ([((extN 0), gB 1 eI s_1)] : Hp)) p.1 p.2) (fun p => iterN (fun s => slices_Compact_int_int_v1_L2 s_1 s) p.1 p.2 = some o_11) (fun p => p.1) (nq_52, 1) hj_12 rfl (pre_r rfl) ?_
      rintro ⟨k_3, s_8⟩ hL_10
      dsimp only at hL_10
      cases k_3 with
      | zero => cases hL_10
      | succ k_3 =>
        obtain ⟨c_, hc_9, hL_10⟩ := bind_some hL_10
        unfold slices_Compact_int_int_v1_L2 at hc_9
        refine wH_seq ?_
        refine wH_seq ?_
        refine wH_region ?_
        refine h_op (vI s_8) (wt rfl) rfl ?_
        refine h_op (dV (extN 0) 1 s_1) (wt rfl) rfl ?_
        refine h_lend un22 rfl (wt rfl) ?_
        refine h_op (vB (decide (s_8 < (s_1.length : Int)))) (wt rfl) rfl ?_
        refine h_nil ?_
        rcases cond_some hc_9 with ⟨hc_13, hc_9⟩ | ⟨hc_13, hc_9⟩
        · refine wH_ift rfl hc_13 ?_
          refine wH_skip ?_
          refine wH_seq ?_
          refine wH_block ?_
          refine wH_seq ?_
          refine wH_draws ?_
          refine h_op (dV (extN 0) 1 s_1) (wt rfl) rfl ?_
          refine h_op (vI s_8) (wt rfl) rfl ?_
          obtain ⟨_, hi_14, hc_9⟩ := bind_some hc_9
          refine h_iavd es22 rfl rfl (inR_0 hi_14) (inR_lt hi_14) (wt rfl) ?_
          obtain ⟨e_15, hy_16, hc_9⟩ := bind_some hc_9
          refine h_ldvg 3 0 (.inr (by kernel_rfl)) (fun _ _ ag => trivial) sz3 ag3 rfl rfl hy_16 (vI e_15) rfl (wt rfl) ?_
          refine h_op (dV (extN 0) 1 s_1) (wt rfl) rfl ?_
          refine h_op (vI s_8) (wt rfl) rfl ?_
          refine h_op (vI (w64 (s_8 - 1))) (wt rfl) rfl ?_
          obtain ⟨_, hi_17, hc_9⟩ := bind_some hc_9
          refine h_iavd es22 rfl rfl (inR_0 hi_17) (inR_lt hi_17) (wt rfl) ?_
          obtain ⟨e_18, hy_19, hc_9⟩ := bind_some hc_9
          refine h_ldvg 8 0 (.inr (by kernel_rfl)) (fun _ _ ag => ⟨.inl ⟨rfl, rfl⟩, trivial⟩) sz3 ag3 rfl rfl hy_19 (vI e_18) rfl (wt rfl) ?_
          refine h_op (vB (e_15 == e_18)) (wt rfl) rfl ?_
          refine h_nil ?_
          rcases cond_some hc_9 with ⟨hc_20, hc_9⟩ | ⟨hc_20, hc_9⟩
          · refine wH_ift rfl hc_20 ?_
            refine wH_seq ?_
            refine wH_region ?_
            refine h_op (dV (extN 0) 1 s_1) (wt rfl) rfl ?_
            refine h_op (vI s_8) (wt rfl) rfl ?_
            obtain ⟨_, hn_21, hc_9⟩ := bind_some hc_9
            replace hn_21 := neL_ne hn_21
            refine h_re (v' := (vV (extN 0) 1 s_1)) 0 rfl (dV_cons hn_21) ?_
            refine h_re (v' := (vV (extN 0) 1 s_1)) 11 rfl (dV_cons hn_21) ?_
            refine h_re (v' := (vV (extN 0) 1 s_1)) 16 rfl (dV_cons hn_21) ?_
            refine h_re (v' := (vV (extN 0) 1 s_1)) 20 rfl (dV_cons hn_21) ?_
            refine h_re (v' := (vV (extN 0) 1 s_1)) 26 rfl (dV_cons hn_21) ?_
            refine h_reH 0 rfl (gB_cons hn_21) ?_
            obtain ⟨_, hr_22, hc_9⟩ := bind_some hc_9
            refine h_partTF un22 sz3 rfl rfl hr_22 (wt rfl) ?_
            refine h_op (.vs (extN 0) 1 ((s_8).toNat) (((s_1.length : Int)).toNat - (s_8).toNat)) (wt rfl) rfl ?_
            refine h_nil ?_
            refine wH_seq ?_
            refine wH_seq ?_
            refine wH_region ?_
            refine h_op (vI 1) (wt rfl) rfl ?_
            refine h_nil ?_
            obtain ⟨o_31, hj_32, hc_9⟩ := bind_some hc_9
            obtain ⟨nq_51, hj_32⟩ := loopO_iter hj_32
            refine wH_join (β := ((List Int) × Int × Int)) (fun (s_28 : (List Int) × Int × Int) => ([(0, (vV (extN 0) 1 s_28.1)), (3, (vI s_28.2.1))] : List (Nat × V))) (fun (s_28 : (List Int) × Int × Int) => ([((extN 0), some (bV 1 eI s_28.1))] : Hp)) (fun p => o_31 = .go p) ?_ ?_
            · refine wH_block ?_
              refine wH_loop (β := Nat × ((List Int) × Int × Int)) (fun p => (fun (k_23 : Nat) (s_28 : (List Int) × Int × Int) => ([(0, (vV (extN 0) 1 s_28.1)), (3, (vI s_28.2.1)), (4, (.vs (extN 0) 1 ((s_8).toNat) (((s_1.length : Int)).toNat - (s_8).toNat))), (5, (vI s_28.2.2))] : List (Nat × V))) p.1 p.2) (fun p => (fun (k_23 : Nat) (s_28 : (List Int) × Int × Int) => ([((extN 0), some (bV 1 eI s_28.1))] : Hp)) p.1 p.2) (fun p => iterN (fun s => slices_Compact_int_int_v1_L1 s_1 s_8 s) p.1 p.2 = some o_31) (fun p => p.1) (nq_51, (s_1, s_8, 1)) hj_32 rfl (pre_r rfl) ?_
              rintro ⟨k_23, s_28⟩ hL_30
              dsimp only at hL_30
              cases k_23 with
              | zero => cases hL_30
              | succ k_23 =>
                obtain ⟨c_, hc_29, hL_30⟩ := bind_some hL_30
                unfold slices_Compact_int_int_v1_L1 at hc_29
                refine wH_seq ?_
                refine wH_seq ?_
                refine wH_region ?_
                refine h_op (vI s_28.2.2) (wt rfl) rfl ?_
                refine h_op (.vs (extN 0) 1 ((s_8).toNat) (((s_1.length : Int)).toNat - (s_8).toNat)) (wt rfl) rfl ?_
                refine h_lenp un22 rfl (wt rfl) ?_
                refine h_op (vB (decide (s_28.2.2 < (((((s_1.length : Int)).toNat - (s_8).toNat) : Nat) : Int)))) (wt rfl) rfl ?_
                refine h_nil ?_
                rcases cond_some hc_29 with ⟨hc_33, hc_29⟩ | ⟨hc_33, hc_29⟩
                · refine wH_ift rfl hc_33 ?_
                  refine wH_skip ?_
                  refine wH_seq ?_
                  refine wH_block ?_
                  refine wH_seq ?_
                  refine wH_draws ?_
                  refine h_op (.vs (extN 0) 1 ((s_8).toNat) (((s_1.length : Int)).toNat - (s_8).toNat)) (wt rfl) rfl ?_
                  refine h_op (vI s_28.2.2) (wt rfl) rfl ?_
                  obtain ⟨_, hi_34, hc_29⟩ := bind_some hc_29
                  refine h_iav es22 rfl rfl (inN_0 hi_34) (inN_lt hi_34) (wt rfl) ?_
                  obtain ⟨e_35, hy_36, hc_29⟩ := bind_some hc_29
                  refine h_ldv 3 0 (.inr (by kernel_rfl)) (fun _ _ ag => trivial) sz3 ag3 rfl rfl hy_36 (vI e_35) rfl (wt rfl) ?_
                  refine h_op (.vs (extN 0) 1 ((s_8).toNat) (((s_1.length : Int)).toNat - (s_8).toNat)) (wt rfl) rfl ?_
                  refine h_op (vI s_28.2.2) (wt rfl) rfl ?_
                  refine h_op (vI (w64 (s_28.2.2 - 1))) (wt rfl) rfl ?_
                  obtain ⟨_, hi_37, hc_29⟩ := bind_some hc_29
                  refine h_iav es22 rfl rfl (inN_0 hi_37) (inN_lt hi_37) (wt rfl) ?_
                  obtain ⟨e_38, hy_39, hc_29⟩ := bind_some hc_29
                  refine h_ldv 8 0 (.inr (by kernel_rfl)) (fun _ _ ag => ⟨.inl ⟨rfl, rfl⟩, trivial⟩) sz3 ag3 rfl rfl hy_39 (vI e_38) rfl (wt rfl) ?_
                  refine h_op (vB (e_35 != e_38)) (wt rfl) rfl ?_
                  refine h_nil ?_
                  obtain ⟨v_40, h_41, hc_29⟩ := bind_some hc_29
                  refine wH_join (β := Unit) (fun _ => ([(0, (vV (extN 0) 1 v_40.1)), (3, (vI v_40.2)), (4, (.vs (extN 0) 1 ((s_8).toNat) (((s_1.length : Int)).toNat - (s_8).toNat))), (5, (vI s_28.2.2))] : List (Nat × V))) (fun _ => ([((extN 0), some (bV 1 eI v_40.1))] : Hp)) (fun _ => True) ?_ ?_
                  · rcases cond_some h_41 with ⟨hc_42, h_41⟩ | ⟨hc_42, h_41⟩
                    · refine wH_ift rfl hc_42 ?_
                      refine wH_seq ?_
                      refine wH_region ?_
                      refine h_op (vV (extN 0) 1 s_28.1) (wt rfl) rfl ?_
                      refine h_op (vI s_28.2.1) (wt rfl) rfl ?_
                      refine h_op (.vs (extN 0) 1 ((s_8).toNat) (((s_1.length : Int)).toNat - (s_8).toNat)) (wt rfl) rfl ?_
                      refine h_op (vI s_28.2.2) (wt rfl) rfl ?_
                      obtain ⟨_, hi_43, h_41⟩ := bind_some h_41
                      refine h_iav es22 rfl rfl (inN_0 hi_43) (inN_lt hi_43) (wt rfl) ?_
                      obtain ⟨e_44, hy_45, h_41⟩ := bind_some h_41
                      refine h_ldv 0 0 (.inl rfl) (fun _ _ _ => trivial) sz3 ag3 rfl rfl hy_45 (vI e_44) rfl (wt rfl) ?_
                      obtain ⟨_, hi_46, h_41⟩ := bind_some h_41
                      refine h_iav es22 rfl rfl (inR_0 hi_46) (inR_lt hi_46) (wt rfl) ?_
                      obtain ⟨e_47, hy_48, h_41⟩ := bind_some h_41
                      refine h_stv 0 (.inl rfl) (fun _ _ _ => trivial) 0 sz3 rfl rfl hy_48 e_44 rfl (wt rfl) ?_
                      refine h_re (v' := (vV (extN 0) 1 (s_28.1.set (0 + (s_28.2.1).toNat) e_44))) 0 rfl (vV_len (by simp)) ?_
                      refine h_re (v' := (vV (extN 0) 1 (s_28.1.set (0 + (s_28.2.1).toNat) e_44))) 45 rfl (vV_len (by simp)) ?_
                      refine h_nil ?_
                      refine wH_region ?_
                      refine h_op (vI s_28.2.1) (wt rfl) rfl ?_
                      refine h_op (vI (w64 (s_28.2.1 + 1))) (wt rfl) rfl ?_
                      refine h_op (vI (w64 (s_28.2.1 + 1))) (wt rfl) rfl ?_
                      refine h_nil ?_
                      replace h_41 := some_inj h_41
                      subst h_41
                      exact cut_mk () trivial rfl (pre_r rfl)
                    · refine wH_iff rfl hc_42 ?_
                      refine wH_skip ?_
                      replace h_41 := some_inj h_41
                      subst h_41
                      exact cut_mk () trivial rfl (pre_r rfl)
                  · rintro ⟨⟩ _ sl_ H_ hp_ hq_
                    refine wH_at _ hp_ hq_ ?_
                    refine wH_region ?_
                    refine h_op (vI s_28.2.2) (wt rfl) rfl ?_
                    refine h_op (vI (w64 (s_28.2.2 + 1))) (wt rfl) rfl ?_
                    refine h_op (vI (w64 (s_28.2.2 + 1))) (wt rfl) rfl ?_
                    refine h_nil ?_
                    replace hc_29 := some_inj hc_29
                    subst hc_29
                    exact loop_mk (k_23, (v_40.1, v_40.2, (w64 (s_28.2.2 + 1)))) hL_30 (Nat.lt_succ_self _) rfl (pre_r rfl)
                · refine wH_iff rfl hc_33 ?_
                  refine wH_exit ?_
                  replace hc_29 := some_inj hc_29
                  subst hc_29
                  replace hL_30 := some_inj hL_30
                  subst hL_30
                  exact cut_mk ((s_28.1, s_28.2.1, s_28.2.2)) rfl rfl (pre_r rfl)
            · rintro s_28 ho_ sl_ H_ hp_ hq_
              subst ho_
              refine wH_at _ hp_ hq_ ?_
              refine wH_seq ?_
              refine wH_region ?_
              refine h_op (vV (extN 0) 1 s_28.1) (wt rfl) rfl ?_
              refine h_op (vI s_28.2.1) (wt rfl) rfl ?_
              obtain ⟨_, hr_49, hc_9⟩ := bind_some hc_9
              refine h_partTF un22 sz3 rfl rfl hr_49 (wt rfl) ?_
              refine h_clear (i := 0) 0 (.inl rfl) (fun _ _ _ => trivial) 0 el22 sz3 z3 rfl rfl rfl (by decide) rfl (subR_le hr_49) rfl (wt rfl) ?_
              refine h_re (v' := (vV (extN 0) 1 (s_28.1.take ((s_28.2.1).toNat) ++ List.replicate (((s_28.1.length : Int)).toNat - (s_28.2.1).toNat) 0 ++ s_28.1.drop (((s_28.2.1).toNat) + (((s_28.1.length : Int)).toNat - (s_28.2.1).toNat))))) 0 rfl (vV_len (clear_len (subR_le hr_49))) ?_
              refine h_re (v' := (vV (extN 0) 1 (s_28.1.take ((s_28.2.1).toNat) ++ List.replicate (((s_28.1.length : Int)).toNat - (s_28.2.1).toNat) 0 ++ s_28.1.drop (((s_28.2.1).toNat) + (((s_28.1.length : Int)).toNat - (s_28.2.1).toNat))))) 54 rfl (vV_len (clear_len (subR_le hr_49))) ?_
              refine h_nil ?_
              refine wH_seq ?_
              refine wH_region ?_
              refine h_op (vV (extN 0) 1 (s_28.1.take ((s_28.2.1).toNat) ++ List.replicate (((s_28.1.length : Int)).toNat - (s_28.2.1).toNat) 0 ++ s_28.1.drop (((s_28.2.1).toNat) + (((s_28.1.length : Int)).toNat - (s_28.2.1).toNat)))) (wt rfl) rfl ?_
              refine h_op (vI s_28.2.1) (wt rfl) rfl ?_
              obtain ⟨_, hr_50, hc_9⟩ := bind_some hc_9
              refine h_partFT un22 sz3 rfl rfl hr_50 (wt rfl) ?_
              refine h_op (.vs (extN 0) 1 0 ((s_28.2.1).toNat)) (wt rfl) rfl ?_
              refine h_nil ?_
              refine wH_froz 0 rfl ?_
              refine wH_co 0 0 rfl rfl ?_
              refine wH_cop 2 0 rfl rfl (subR_le hr_50) ?_
              refine wH_co 54 0 rfl rfl ?_
              refine wH_co 57 0 rfl rfl ?_
              refine wH_cop 59 0 rfl rfl (subR_le hr_50) ?_
              refine wH_drop (i := 0) rfl ?_
              replace hc_9 := some_inj hc_9
              subst hc_9
              replace hL_10 := some_inj hL_10
              subst hL_10
              replace hF := some_inj hF
              subst hF
              refine wH_ret ?_
              exact finV (bs := ([] : List Box)) (os := ([] : List Box)) (xs := s_1) (o := none) (.inr rfl) [(vL eI (cutL (s_28.1.take ((s_28.2.1).toNat) ++ List.replicate (((s_28.1.length : Int)).toNat - (s_28.2.1).toNat) 0 ++ s_28.1.drop (((s_28.2.1).toNat) + (((s_28.1.length : Int)).toNat - (s_28.2.1).toNat))) 0 ((s_28.2.1).toNat)))] ⟨rfl, trivial⟩ rfl rfl rfl rfl rfl (by kernel_rfl) none_ok rfl
          · refine wH_iff rfl hc_20 ?_
            refine wH_skip ?_
            refine wH_region ?_
            refine h_op (vI s_8) (wt rfl) rfl ?_
            refine h_op (vI (w64 (s_8 + 1))) (wt rfl) rfl ?_
            refine h_op (vI (w64 (s_8 + 1))) (wt rfl) rfl ?_
            refine h_nil ?_
            replace hc_9 := some_inj hc_9
            subst hc_9
            exact loop_mk (k_3, (w64 (s_8 + 1))) hL_10 (Nat.lt_succ_self _) rfl (pre_r rfl)
        · refine wH_iff rfl hc_13 ?_
          refine wH_exit ?_
          replace hc_9 := some_inj hc_9
          subst hc_9
          replace hL_10 := some_inj hL_10
          subst hL_10
          exact cut_mk (s_8) rfl rfl (pre_r rfl)
    · rintro s_8 ho_ sl_ H_ hp_ hq_
      subst ho_
      refine wH_at _ hp_ hq_ ?_
      refine wH_seq ?_
      refine wH_region ?_
      refine h_op (dV (extN 0) 1 s_1) (wt rfl) rfl ?_
      refine h_op (dV (extN 0) 1 s_1) (wt rfl) rfl ?_
      refine h_nil ?_
      refine wH_frozg 0 rfl ?_
      refine wH_cod 0 0 rfl rfl ?_
      refine wH_cod 2 0 rfl rfl ?_
      refine wH_cod 60 0 rfl rfl ?_
      refine wH_drop (i := 0) rfl ?_
      replace hF := some_inj hF
      subst hF
      refine wH_ret ?_
      exact finV (bs := ([] : List Box)) (os := ([] : List Box)) (xs := s_1) (o := none) (.inr rfl) [(vL eI s_1)] ⟨rfl, trivial⟩ rfl rfl rfl rfl rfl (by kernel_rfl) none_ok rfl
theorem screen_runs_1_ok {a_1 : Run} {b_2 : Run} {r : Int} (hF : screen_runs_1 a_1 b_2 = some r) :
    FnM Tryz.prog 95 [(.d (.agg (Run.enc a_1))), (.d (.agg (Run.enc b_2)))] [] (vI r) [] := by
  refine FnM.of_wH ⟨Tryz.prog, 10, [], []⟩ rfl Tryz.func95 rfl rfl (Nat.le_of_ble_eq_true rfl) (by kernel_rfl) ?_
  unfold screen_runs_1 at hF
  refine wH_seq ?_
  refine wH_region ?_
  refine h_box 0 (.inl rfl) [(vI a_1.f_from), (vI a_1.f_to)] rfl rfl (wt rfl) (fun n_3 => ?_)
  refine h_box 0 (.inl rfl) [(vI b_2.f_from), (vI b_2.f_to)] rfl rfl (wt rfl) (fun n_4 => ?_)
  refine h_op (vI 0) (wt rfl) rfl ?_
  refine h_nil ?_
  refine wH_seq ?_
  refine wH_region ?_
  refine h_far pl121_0 rfl 0 rfl (wt rfl) ?_
  refine h_ldr 0 0 (.inl rfl) (fun _ _ _ => trivial) sz3 ag3 rfl rfl (vI a_1.f_from) rfl (wt rfl) ?_
  refine h_far pl121_0 rfl 0 rfl (wt rfl) ?_
  refine h_ldr 0 1 (.inl rfl) (fun _ _ _ => trivial) sz3 ag3 rfl rfl (vI b_2.f_from) rfl (wt rfl) ?_
  refine h_op (vI (w64 (a_1.f_from - b_2.f_from))) (wt rfl) rfl ?_
  refine h_op (vI (w64 (a_1.f_from - b_2.f_from))) (wt rfl) rfl ?_
  refine h_nil ?_
  replace hF := some_inj hF
  subst hF
  refine wH_ret ?_
  exact fin0 (.inr rfl) [(vI (w64 (a_1.f_from - b_2.f_from)))] ⟨rfl, trivial⟩ rfl rfl rfl
theorem math_bits_Len64_ok {x_1 : Int} {r : Int} (hF : math_bits_Len64 x_1 = some r) :
    FnM Tryz.prog 109 [(.d (.int .u64 x_1))] [] (vI r) [] := by
  refine FnM.of_wH ⟨Tryz.prog, 25, [], []⟩ rfl Tryz.func109 rfl rfl (Nat.le_of_ble_eq_true rfl) (by kernel_rfl) ?_
  unfold math_bits_Len64 at hF
  refine wH_seq ?_
  refine wH_region ?_
  refine h_op (vI 0) (wt rfl) rfl ?_
  refine h_nil ?_
  refine wH_seq ?_
  refine wH_seq ?_
  refine wH_region ?_
  refine h_op (.d (.int .u64 x_1)) (wt rfl) rfl ?_
  refine h_op (vB (decide (x_1 ≥ 4294967296))) (wt rfl) rfl ?_
  refine h_nil ?_
  obtain ⟨v_2, h_3, hF⟩ := bind_some hF
  refine wH_join (β := Unit) (fun _ => ([(0, (.d (.int .u64 v_2.1))), (2, (vI v_2.2))] : List (Nat × V))) (fun _ => ([] : Hp)) (fun _ => True) ?_ ?_
  · rcases cond_some h_3 with ⟨hc_4, h_3⟩ | ⟨hc_4, h_3⟩
    · refine wH_ift rfl hc_4 ?_
      refine wH_seq ?_
      refine wH_region ?_
      refine h_op (.d (.int .u64 x_1)) (wt rfl) rfl ?_
      obtain ⟨q_5, hz_6, h_3⟩ := bind_some h_3
      refine h_shr rfl rfl hz_6 (wt rfl) ?_
      refine h_op (.d (.int .u64 q_5)) (wt rfl) rfl ?_
      refine h_nil ?_
      refine wH_region ?_
      refine h_op (vI 32) (wt rfl) rfl ?_
      refine h_nil ?_
      replace h_3 := some_inj h_3
      subst h_3
      exact cut_mk () trivial rfl (pre_r rfl)
    · refine wH_iff rfl hc_4 ?_
      refine wH_skip ?_
      replace h_3 := some_inj h_3
      subst h_3
      exact cut_mk () trivial rfl (pre_r rfl)
  · rintro ⟨⟩ _ sl_ H_ hp_ hq_
    refine wH_at _ hp_ hq_ ?_
    refine wH_seq ?_
    refine wH_seq ?_
    refine wH_region ?_
    refine h_op (.d (.int .u64 v_2.1)) (wt rfl) rfl ?_
    refine h_op (vB (decide (v_2.1 ≥ 65536))) (wt rfl) rfl ?_
    refine h_nil ?_
    obtain ⟨v_7, h_8, hF⟩ := bind_some hF
    refine wH_join (β := Unit) (fun _ => ([(0, (.d (.int .u64 v_7.1))), (2, (vI v_7.2))] : List (Nat × V))) (fun _ => ([] : Hp)) (fun _ => True) ?_ ?_
    · rcases cond_some h_8 with ⟨hc_9, h_8⟩ | ⟨hc_9, h_8⟩
      · refine wH_ift rfl hc_9 ?_
        refine wH_seq ?_
        refine wH_region ?_
        refine h_op (.d (.int .u64 v_2.1)) (wt rfl) rfl ?_
        obtain ⟨q_10, hz_11, h_8⟩ := bind_some h_8
        refine h_shr rfl rfl hz_11 (wt rfl) ?_
        refine h_op (.d (.int .u64 q_10)) (wt rfl) rfl ?_
        refine h_nil ?_
        refine wH_region ?_
        refine h_op (vI v_2.2) (wt rfl) rfl ?_
        refine h_op (vI (w64 (v_2.2 + 16))) (wt rfl) rfl ?_
        refine h_op (vI (w64 (v_2.2 + 16))) (wt rfl) rfl ?_
        refine h_nil ?_
        replace h_8 := some_inj h_8
        subst h_8
        exact cut_mk () trivial rfl (pre_r rfl)
      · refine wH_iff rfl hc_9 ?_
        refine wH_skip ?_
        replace h_8 := some_inj h_8
        subst h_8
        exact cut_mk () trivial rfl (pre_r rfl)
    · rintro ⟨⟩ _ sl_ H_ hp_ hq_
      refine wH_at _ hp_ hq_ ?_
      refine wH_seq ?_
      refine wH_seq ?_
      refine wH_region ?_
      refine h_op (.d (.int .u64 v_7.1)) (wt rfl) rfl ?_
      refine h_op (vB (decide (v_7.1 ≥ 256))) (wt rfl) rfl ?_
      refine h_nil ?_
      obtain ⟨v_12, h_13, hF⟩ := bind_some hF
      refine wH_join (β := Unit) (fun _ => ([(0, (.d (.int .u64 v_12.1))), (2, (vI v_12.2))] : List (Nat × V))) (fun _ => ([] : Hp)) (fun _ => True) ?_ ?_
      · rcases cond_some h_13 with ⟨hc_14, h_13⟩ | ⟨hc_14, h_13⟩
        · refine wH_ift rfl hc_14 ?_
          refine wH_seq ?_
          refine wH_region ?_
          refine h_op (.d (.int .u64 v_7.1)) (wt rfl) rfl ?_
          obtain ⟨q_15, hz_16, h_13⟩ := bind_some h_13
          refine h_shr rfl rfl hz_16 (wt rfl) ?_
          refine h_op (.d (.int .u64 q_15)) (wt rfl) rfl ?_
          refine h_nil ?_
          refine wH_region ?_
          refine h_op (vI v_7.2) (wt rfl) rfl ?_
          refine h_op (vI (w64 (v_7.2 + 8))) (wt rfl) rfl ?_
          refine h_op (vI (w64 (v_7.2 + 8))) (wt rfl) rfl ?_
          refine h_nil ?_
          replace h_13 := some_inj h_13
          subst h_13
          exact cut_mk () trivial rfl (pre_r rfl)
        · refine wH_iff rfl hc_14 ?_
          refine wH_skip ?_
          replace h_13 := some_inj h_13
          subst h_13
          exact cut_mk () trivial rfl (pre_r rfl)
      · rintro ⟨⟩ _ sl_ H_ hp_ hq_
        refine wH_at _ hp_ hq_ ?_
        refine wH_seq ?_
        refine wH_region ?_
        refine h_op (vI v_12.2) (wt rfl) rfl ?_
        refine h_op (.d (.int .u64 v_12.1)) (wt rfl) rfl ?_
        refine h_conv un145 un5 rfl (wt rfl) ?_
        obtain ⟨b_17, hy_18, hF⟩ := bind_some hF
        refine h_idxs un9 rfl rfl hy_18 (wt rfl) ?_
        refine h_conv un5 un3 rfl (wt rfl) ?_
        refine h_op (vI (w64 (v_12.2 + (w64 (b_17.toNat : Int))))) (wt rfl) rfl ?_
        refine h_op (vI (w64 (v_12.2 + (w64 (b_17.toNat : Int))))) (wt rfl) rfl ?_
        refine h_nil ?_
        replace hF := some_inj hF
        subst hF
        refine wH_ret ?_
        exact fin0 (.inr rfl) [(vI (w64 (v_12.2 + (w64 (b_17.toNat : Int)))))] ⟨rfl, trivial⟩ rfl rfl rfl
theorem math_bits_Len_ok {x_1 : Int} {r : Int} (hF : math_bits_Len x_1 = some r) :
    FnM Tryz.prog 93 [(.d (.int .u64 x_1))] [] (vI r) [] := by
  refine FnM.of_wH ⟨Tryz.prog, 8, [], []⟩ rfl Tryz.func93 rfl rfl (Nat.le_of_ble_eq_true rfl) (by kernel_rfl) ?_
  unfold math_bits_Len at hF
  refine wH_seq ?_
  refine wH_region ?_
  refine h_op (vI 0) (wt rfl) rfl ?_
  refine h_nil ?_
  refine wH_seq ?_
  refine wH_iff rfl rfl ?_
  refine wH_skip ?_
  refine wH_seq ?_
  refine wH_region ?_
  refine h_op (.d (.int .u64 x_1)) (wt rfl) rfl ?_
  obtain ⟨r_2, hr_3, hF⟩ := bind_some hF
  refine h_call0 (math_bits_Len64_ok hr_3) rfl hb109 rfl rfl rfl rfl (wt rfl) ?_
  refine h_op (vI r_2) (wt rfl) rfl ?_
  refine h_nil ?_
  replace hF := some_inj hF
  subst hF
  refine wH_ret ?_
  exact fin0 (.inr rfl) [(vI r_2)] ⟨rfl, trivial⟩ rfl rfl rfl
end Go.Proofs.YtodfcleaapnklaaGreat.Law
