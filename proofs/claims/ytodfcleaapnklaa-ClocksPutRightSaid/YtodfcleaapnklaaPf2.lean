/-
  The machine computes these plain functions (written by a program of ours).
-/
import Derived.Test.YtodfcleaapnklaaFacts
import Derived.Test.YtodfcleaapnklaaDefs
import Derived.Test.YtodfcleaapnklaaPf1
open Go Go.Eng Go.Proofs
namespace Go.Proofs.Ytodfcleaapnklaa.Law
set_option maxRecDepth 100000
set_option linter.unusedVariables false
set_option maxHeartbeats 1000000
theorem proof_mapped_ok {l_1 : (List Beat_)} {n_2 : Int} {r : Int × Int} (hF : proof_mapped l_1 n_2 = some r) :
    FnM Try.prog 148 [(vL Beat_.enc l_1), (vI n_2)] [] (.tup [(vI r.1), (vI r.2)]) [] := by
  refine FnM.of_wH ⟨Try.prog, 108, [], []⟩ rfl Try.func148 rfl rfl (Nat.le_of_ble_eq_true rfl) (by kernel_rfl) ?_
  unfold proof_mapped at hF
  refine wH_seq ?_
  refine wH_region ?_
  refine h_op (vI 0) (wt rfl) rfl ?_
  refine h_op (vI 0) (wt rfl) rfl ?_
  refine h_nil ?_
  refine wH_seq ?_
  refine wH_seq ?_
  refine wH_region ?_
  refine h_op (vL Beat_.enc l_1) (wt rfl) rfl ?_
  refine h_len un122 rfl (wt rfl) ?_
  refine h_op (vB ((l_1.length : Int) == 0)) (wt rfl) rfl ?_
  refine h_nil ?_
  rcases cond_some hF with ⟨hc_3, hF⟩ | ⟨hc_3, hF⟩
  · refine wH_ift rfl hc_3 ?_
    refine wH_seq ?_
    refine wH_region ?_
    refine h_op (vI 0) (wt rfl) rfl ?_
    refine h_op (vI 8) (wt rfl) rfl ?_
    refine h_nil ?_
    replace hF := some_inj hF
    subst hF
    refine wH_ret ?_
    exact fin0 (.inr rfl) [(vI 0), (vI 8)] ⟨rfl, ⟨rfl, trivial⟩⟩ rfl rfl rfl
  · refine wH_iff rfl hc_3 ?_
    refine wH_skip ?_
    refine wH_seq ?_
    refine wH_region ?_
    refine h_op (vI 0) (wt rfl) rfl ?_
    refine h_nil ?_
    refine wH_seq ?_
    obtain ⟨o_12, hj_13, hF⟩ := bind_some hF
    obtain ⟨nq_51, hj_13⟩ := loopO_iter hj_13
    refine wH_join (β := (Int)) (fun (s_9 : Int) => ([(0, (vL Beat_.enc l_1)), (1, (vI n_2)), (6, (vI s_9))] : List (Nat × V))) (fun (s_9 : Int) => ([] : Hp)) (fun p => o_12 = .go p) ?_ ?_
    · refine wH_block ?_
      refine wH_loop (β := Nat × (Int)) (fun p => (fun (k_4 : Nat) (s_9 : Int) => ([(0, (vL Beat_.enc l_1)), (1, (vI n_2)), (6, (vI s_9))] : List (Nat × V))) p.1 p.2) (fun p => (fun (k_4 : Nat) (s_9 : Int) => ([] : Hp)) p.1 p.2) (fun p => iterN (fun s => proof_mapped_L1 l_1 n_2 s) p.1 p.2 = some o_12) (fun p => p.1) (nq_51, 0) hj_13 rfl rfl ?_
      rintro ⟨k_4, s_9⟩ hL_11
      dsimp only at hL_11
      cases k_4 with
      | zero => cases hL_11
      | succ k_4 =>
        obtain ⟨c_, hc_10, hL_11⟩ := bind_some hL_11
        unfold proof_mapped_L1 at hc_10
        refine wH_seq ?_
        refine wH_seq ?_
        obtain ⟨v_14, h_15, hc_10⟩ := bind_some hc_10
        refine wH_join (β := Unit) (fun _ => ([(0, (vL Beat_.enc l_1)), (1, (vI n_2)), (6, (vI s_9)), (25, (vB v_14))] : List (Nat × V))) (fun _ => ([] : Hp)) (fun _ => True) ?_ ?_
        · refine wH_region ?_
          refine h_op (vI s_9) (wt rfl) rfl ?_
          refine h_op (vL Beat_.enc l_1) (wt rfl) rfl ?_
          refine h_len un122 rfl (wt rfl) ?_
          refine h_op (vB (decide (s_9 < (l_1.length : Int)))) (wt rfl) rfl ?_
          rcases cond_some h_15 with ⟨hc_16, h_15⟩ | ⟨hc_16, h_15⟩
          · refine h_movb rfl hc_16 (wt rfl) ?_
            refine h_op (vL Beat_.enc l_1) (wg rfl rfl rfl) rfl ?_
            refine h_op (vI s_9) (wg rfl rfl rfl) rfl ?_
            obtain ⟨y_17, hy_18, h_15⟩ := bind_some h_15
            refine h_ia es122 rfl rfl hy_18 rfl (wg rfl rfl rfl) ?_
            refine h_fac pl125_0 rfl [.int .i64 y_17.f_from, .int .i64 y_17.f_to] rfl rfl (wg rfl rfl rfl) ?_
            refine h_ldc sz3 ag3 rfl (vI y_17.f_from) rfl (wg rfl rfl rfl) ?_
            refine h_op (vI n_2) (wg rfl rfl rfl) rfl ?_
            refine h_op (vB (decide (y_17.f_from ≤ n_2))) (wg rfl rfl rfl) rfl ?_
            refine h_op (vB (decide (y_17.f_from ≤ n_2))) (wt rfl) rfl ?_
            refine h_nil ?_
            replace h_15 := some_inj h_15
            subst h_15
            exact cut_mk () trivial rfl rfl
          · refine h_movb rfl hc_16 (wt rfl) ?_
            refine h_skip (wg rfl rfl rfl) ?_
            refine h_skip (wg rfl rfl rfl) ?_
            refine h_skip (wg rfl rfl rfl) ?_
            refine h_skip (wg rfl rfl rfl) ?_
            refine h_skip (wg rfl rfl rfl) ?_
            refine h_skip (wg rfl rfl rfl) ?_
            refine h_skip (wg rfl rfl rfl) ?_
            refine h_op (vB false) (wt rfl) rfl ?_
            refine h_nil ?_
            replace h_15 := some_inj h_15
            subst h_15
            exact cut_mk () trivial rfl rfl
        · rintro ⟨⟩ _ sl_ H_ hp_ hq_
          refine wH_at _ hp_ hq_ ?_
          rcases cond_some hc_10 with ⟨hc_19, hc_10⟩ | ⟨hc_19, hc_10⟩
          · refine wH_ift rfl hc_19 ?_
            refine wH_skip ?_
            refine wH_block ?_
            refine wH_region ?_
            refine h_op (vI s_9) (wt rfl) rfl ?_
            refine h_op (vI (w64 (s_9 + 1))) (wt rfl) rfl ?_
            refine h_op (vI (w64 (s_9 + 1))) (wt rfl) rfl ?_
            refine h_nil ?_
            replace hc_10 := some_inj hc_10
            subst hc_10
            exact loop_mk (k_4, (w64 (s_9 + 1))) hL_11 (Nat.lt_succ_self _) rfl rfl
          · refine wH_iff rfl hc_19 ?_
            refine wH_exit ?_
            replace hc_10 := some_inj hc_10
            subst hc_10
            replace hL_11 := some_inj hL_11
            subst hL_11
            exact cut_mk (s_9) rfl rfl rfl
    · rintro s_9 ho_ sl_ H_ hp_ hq_
      subst ho_
      refine wH_at _ hp_ hq_ ?_
      refine wH_seq ?_
      refine wH_region ?_
      refine h_op (vI 0) (wt rfl) rfl ?_
      refine h_nil ?_
      refine wH_seq ?_
      refine wH_block ?_
      refine wH_seq ?_
      refine wH_region ?_
      refine h_op (vI s_9) (wt rfl) rfl ?_
      refine h_op (vB (s_9 == 0)) (wt rfl) rfl ?_
      refine h_op (vB (s_9 == 0)) (wt rfl) rfl ?_
      refine h_nil ?_
      rcases cond_some hF with ⟨hc_20, hF⟩ | ⟨hc_20, hF⟩
      · refine wH_ift rfl hc_20 ?_
        refine wH_draws ?_
        refine h_op (vL Beat_.enc l_1) (wt rfl) rfl ?_
        obtain ⟨y_21, hy_22, hF⟩ := bind_some hF
        refine h_ia es122 rfl rfl hy_22 rfl (wt rfl) ?_
        refine h_fac pl125_1 rfl [.int .i64 y_21.f_to] rfl rfl (wt rfl) ?_
        refine h_ldc sz3 ag3 rfl (vI y_21.f_to) rfl (wt rfl) ?_
        refine h_op (vL Beat_.enc l_1) (wt rfl) rfl ?_
        obtain ⟨y_23, hy_24, hF⟩ := bind_some hF
        refine h_ia es122 rfl rfl hy_24 rfl (wt rfl) ?_
        refine h_fac pl125_0 rfl [.int .i64 y_23.f_from, .int .i64 y_23.f_to] rfl rfl (wt rfl) ?_
        refine h_ldc sz3 ag3 rfl (vI y_23.f_from) rfl (wt rfl) ?_
        refine h_op (vI n_2) (wt rfl) rfl ?_
        refine h_op (vI (w64 (y_23.f_from - n_2))) (wt rfl) rfl ?_
        refine h_op (vI (w64 (y_21.f_to - (w64 (y_23.f_from - n_2))))) (wt rfl) rfl ?_
        refine h_op (vI (w64 (y_21.f_to - (w64 (y_23.f_from - n_2))))) (wt rfl) rfl ?_
        refine h_nil ?_
        refine wH_seq ?_
        refine wH_seq ?_
        refine wH_region ?_
        refine h_op (vI (w64 (y_21.f_to - (w64 (y_23.f_from - n_2))))) (wt rfl) rfl ?_
        obtain ⟨r_25, hr_26, hF⟩ := bind_some hF
        refine h_call0 (kit_IsMoment_ok hr_26) rfl hb81 rfl rfl rfl rfl (wt rfl) ?_
        refine h_op (vB (!r_25)) (wt rfl) rfl ?_
        refine h_nil ?_
        rcases cond_some hF with ⟨hc_27, hF⟩ | ⟨hc_27, hF⟩
        · refine wH_ift rfl hc_27 ?_
          refine wH_seq ?_
          refine wH_region ?_
          refine h_op (vI 0) (wt rfl) rfl ?_
          refine h_op (vI 11) (wt rfl) rfl ?_
          refine h_nil ?_
          replace hF := some_inj hF
          subst hF
          refine wH_ret ?_
          exact fin0 (.inr rfl) [(vI 0), (vI 11)] ⟨rfl, ⟨rfl, trivial⟩⟩ rfl rfl rfl
        · refine wH_iff rfl hc_27 ?_
          refine wH_skip ?_
          refine wH_seq ?_
          refine wH_region ?_
          refine h_op (vI (w64 (y_21.f_to - (w64 (y_23.f_from - n_2))))) (wt rfl) rfl ?_
          refine h_op (vI (w64 (y_21.f_to - (w64 (y_23.f_from - n_2))))) (wt rfl) rfl ?_
          refine h_op (vI 0) (wt rfl) rfl ?_
          refine h_nil ?_
          replace hF := some_inj hF
          subst hF
          refine wH_ret ?_
          exact fin0 (.inr rfl) [(vI (w64 (y_21.f_to - (w64 (y_23.f_from - n_2))))), (vI 0)] ⟨rfl, ⟨rfl, trivial⟩⟩ rfl rfl rfl
      · refine wH_iff rfl hc_20 ?_
        refine wH_seq ?_
        refine wH_region ?_
        refine h_op (vI s_9) (wt rfl) rfl ?_
        refine h_op (vL Beat_.enc l_1) (wt rfl) rfl ?_
        refine h_len un122 rfl (wt rfl) ?_
        refine h_op (vB (s_9 == (l_1.length : Int))) (wt rfl) rfl ?_
        refine h_op (vB (s_9 == (l_1.length : Int))) (wt rfl) rfl ?_
        refine h_nil ?_
        rcases cond_some hF with ⟨hc_28, hF⟩ | ⟨hc_28, hF⟩
        · refine wH_ift rfl hc_28 ?_
          refine wH_draws ?_
          refine h_op (vL Beat_.enc l_1) (wt rfl) rfl ?_
          refine h_op (vI s_9) (wt rfl) rfl ?_
          refine h_op (vI (w64 (s_9 - 1))) (wt rfl) rfl ?_
          obtain ⟨y_29, hy_30, hF⟩ := bind_some hF
          refine h_ia es122 rfl rfl hy_30 rfl (wt rfl) ?_
          refine h_fac pl125_1 rfl [.int .i64 y_29.f_to] rfl rfl (wt rfl) ?_
          refine h_ldc sz3 ag3 rfl (vI y_29.f_to) rfl (wt rfl) ?_
          refine h_op (vI n_2) (wt rfl) rfl ?_
          refine h_op (vI (w64 (y_29.f_to + n_2))) (wt rfl) rfl ?_
          refine h_op (vL Beat_.enc l_1) (wt rfl) rfl ?_
          refine h_op (vI s_9) (wt rfl) rfl ?_
          refine h_op (vI (w64 (s_9 - 1))) (wt rfl) rfl ?_
          obtain ⟨y_31, hy_32, hF⟩ := bind_some hF
          refine h_ia es122 rfl rfl hy_32 rfl (wt rfl) ?_
          refine h_fac pl125_0 rfl [.int .i64 y_31.f_from, .int .i64 y_31.f_to] rfl rfl (wt rfl) ?_
          refine h_ldc sz3 ag3 rfl (vI y_31.f_from) rfl (wt rfl) ?_
          refine h_op (vI (w64 ((w64 (y_29.f_to + n_2)) - y_31.f_from))) (wt rfl) rfl ?_
          refine h_op (vI (w64 ((w64 (y_29.f_to + n_2)) - y_31.f_from))) (wt rfl) rfl ?_
          refine h_nil ?_
          refine wH_seq ?_
          refine wH_seq ?_
          refine wH_region ?_
          refine h_op (vI (w64 ((w64 (y_29.f_to + n_2)) - y_31.f_from))) (wt rfl) rfl ?_
          obtain ⟨r_33, hr_34, hF⟩ := bind_some hF
          refine h_call0 (kit_IsMoment_ok hr_34) rfl hb81 rfl rfl rfl rfl (wt rfl) ?_
          refine h_op (vB (!r_33)) (wt rfl) rfl ?_
          refine h_nil ?_
          rcases cond_some hF with ⟨hc_35, hF⟩ | ⟨hc_35, hF⟩
          · refine wH_ift rfl hc_35 ?_
            refine wH_seq ?_
            refine wH_region ?_
            refine h_op (vI 0) (wt rfl) rfl ?_
            refine h_op (vI 11) (wt rfl) rfl ?_
            refine h_nil ?_
            replace hF := some_inj hF
            subst hF
            refine wH_ret ?_
            exact fin0 (.inr rfl) [(vI 0), (vI 11)] ⟨rfl, ⟨rfl, trivial⟩⟩ rfl rfl rfl
          · refine wH_iff rfl hc_35 ?_
            refine wH_skip ?_
            refine wH_seq ?_
            refine wH_region ?_
            refine h_op (vI (w64 ((w64 (y_29.f_to + n_2)) - y_31.f_from))) (wt rfl) rfl ?_
            refine h_op (vI (w64 ((w64 (y_29.f_to + n_2)) - y_31.f_from))) (wt rfl) rfl ?_
            refine h_op (vI 0) (wt rfl) rfl ?_
            refine h_nil ?_
            replace hF := some_inj hF
            subst hF
            refine wH_ret ?_
            exact fin0 (.inr rfl) [(vI (w64 ((w64 (y_29.f_to + n_2)) - y_31.f_from))), (vI 0)] ⟨rfl, ⟨rfl, trivial⟩⟩ rfl rfl rfl
        · refine wH_iff rfl hc_28 ?_
          refine wH_seq ?_
          refine wH_draws ?_
          refine h_op (vL Beat_.enc l_1) (wt rfl) rfl ?_
          refine h_op (vI s_9) (wt rfl) rfl ?_
          refine h_op (vI (w64 (s_9 - 1))) (wt rfl) rfl ?_
          obtain ⟨y_36, hy_37, hF⟩ := bind_some hF
          refine h_ia es122 rfl rfl hy_37 rfl (wt rfl) ?_
          refine h_ldc sz125 ag125 rfl (.d (.agg (Beat_.enc y_36))) rfl (wt rfl) ?_
          refine h_op (vL Beat_.enc l_1) (wt rfl) rfl ?_
          refine h_op (vI s_9) (wt rfl) rfl ?_
          obtain ⟨y_38, hy_39, hF⟩ := bind_some hF
          refine h_ia es122 rfl rfl hy_39 rfl (wt rfl) ?_
          refine h_ldc sz125 ag125 rfl (.d (.agg (Beat_.enc y_38))) rfl (wt rfl) ?_
          refine h_alloc 9 (.inr (by kernel_rfl)) z125 rfl (wt rfl) (fun n_40 => ?_)
          refine h_alloc 10 (.inr (by kernel_rfl)) z125 rfl (wt rfl) (fun n_41 => ?_)
          refine h_str 11 (.inr (by kernel_rfl)) (fun _ _ ag => ⟨.inr (.inr (by kernel_rfl)), ⟨.inr (.inr (by kernel_rfl)), trivial⟩⟩) 0 sz125 rfl rfl [(vI y_36.f_from), (vI y_36.f_to)] rfl (wt rfl) ?_
          refine h_str 12 (.inr (by kernel_rfl)) (fun _ _ ag => ⟨.inr (.inr (by kernel_rfl)), ⟨.inr (.inr (by kernel_rfl)), ⟨.inr (.inr (by kernel_rfl)), trivial⟩⟩⟩) 1 sz125 rfl rfl [(vI y_38.f_from), (vI y_38.f_to)] rfl (wt rfl) ?_
          refine h_nil ?_
          refine wH_seq ?_
          refine wH_seq ?_
          obtain ⟨v_42, h_43, hF⟩ := bind_some hF
          refine wH_join (β := Unit) (fun _ => ([(1, (vI n_2)), (8, (.ref n_40 0 0)), (9, (.ref n_41 0 0)), (50, (vB v_42))] : List (Nat × V))) (fun _ => ([(n_40, some (.cells 2 [(vI y_36.f_from), (vI y_36.f_to)])), (n_41, some (.cells 2 [(vI y_38.f_from), (vI y_38.f_to)]))] : Hp)) (fun _ => True) ?_ ?_
          · refine wH_region ?_
            refine h_far pl125_0 rfl 0 rfl (wt rfl) ?_
            refine h_ldr 0 1 (.inl rfl) (fun _ _ _ => trivial) sz3 ag3 rfl rfl (vI y_38.f_from) rfl (wt rfl) ?_
            refine h_far pl125_0 rfl 0 rfl (wt rfl) ?_
            refine h_ldr 0 0 (.inl rfl) (fun _ _ _ => trivial) sz3 ag3 rfl rfl (vI y_36.f_from) rfl (wt rfl) ?_
            refine h_op (vI (w64 (y_38.f_from - y_36.f_from))) (wt rfl) rfl ?_
            refine h_op (vB (decide ((w64 (y_38.f_from - y_36.f_from)) > 2592000000))) (wt rfl) rfl ?_
            rcases cond_some h_43 with ⟨hc_44, h_43⟩ | ⟨hc_44, h_43⟩
            · refine h_movb rfl hc_44 (wt rfl) ?_
              refine h_skip (wg rfl rfl rfl) ?_
              refine h_skip (wg rfl rfl rfl) ?_
              refine h_skip (wg rfl rfl rfl) ?_
              refine h_skip (wg rfl rfl rfl) ?_
              refine h_skip (wg rfl rfl rfl) ?_
              refine h_skip (wg rfl rfl rfl) ?_
              refine h_op (vB true) (wt rfl) rfl ?_
              refine h_nil ?_
              replace h_43 := some_inj h_43
              subst h_43
              exact cut_mk () trivial rfl rfl
            · refine h_movb rfl hc_44 (wt rfl) ?_
              refine h_far pl125_1 rfl 1 rfl (wg rfl rfl rfl) ?_
              refine h_ldr 0 1 (.inl rfl) (fun _ _ _ => trivial) sz3 ag3 rfl rfl (vI y_38.f_to) rfl (wg rfl rfl rfl) ?_
              refine h_far pl125_1 rfl 1 rfl (wg rfl rfl rfl) ?_
              refine h_ldr 0 0 (.inl rfl) (fun _ _ _ => trivial) sz3 ag3 rfl rfl (vI y_36.f_to) rfl (wg rfl rfl rfl) ?_
              refine h_op (vI (w64 (y_38.f_to - y_36.f_to))) (wg rfl rfl rfl) rfl ?_
              refine h_op (vB (decide ((w64 (y_38.f_to - y_36.f_to)) > 2592000000))) (wg rfl rfl rfl) rfl ?_
              refine h_op (vB (decide ((w64 (y_38.f_to - y_36.f_to)) > 2592000000))) (wt rfl) rfl ?_
              refine h_nil ?_
              replace h_43 := some_inj h_43
              subst h_43
              exact cut_mk () trivial rfl rfl
          · rintro ⟨⟩ _ sl_ H_ hp_ hq_
            refine wH_at _ hp_ hq_ ?_
            rcases cond_some hF with ⟨hc_45, hF⟩ | ⟨hc_45, hF⟩
            · refine wH_ift rfl hc_45 ?_
              refine wH_seq ?_
              refine wH_region ?_
              refine h_op (vI 0) (wt rfl) rfl ?_
              refine h_op (vI 2) (wt rfl) rfl ?_
              refine h_nil ?_
              replace hF := some_inj hF
              subst hF
              refine wH_ret ?_
              exact fin0 (.inr rfl) [(vI 0), (vI 2)] ⟨rfl, ⟨rfl, trivial⟩⟩ rfl rfl rfl
            · refine wH_iff rfl hc_45 ?_
              refine wH_skip ?_
              refine wH_draws ?_
              refine h_far pl125_1 rfl 1 rfl (wt rfl) ?_
              refine h_ldr 1 0 (.inr (by kernel_rfl)) (fun _ _ ag => trivial) sz3 ag3 rfl rfl (vI y_36.f_to) rfl (wt rfl) ?_
              refine h_op (vI n_2) (wt rfl) rfl ?_
              refine h_far pl125_0 rfl 0 rfl (wt rfl) ?_
              refine h_ldr 4 0 (.inr (by kernel_rfl)) (fun _ _ ag => ⟨.inl ⟨rfl, rfl⟩, trivial⟩) sz3 ag3 rfl rfl (vI y_36.f_from) rfl (wt rfl) ?_
              refine h_op (vI (w64 (n_2 - y_36.f_from))) (wt rfl) rfl ?_
              refine h_far pl125_1 rfl 1 rfl (wt rfl) ?_
              refine h_ldr 7 1 (.inr (by kernel_rfl)) (fun _ _ ag => ⟨.inl ⟨rfl, rfl⟩, ⟨.inl ⟨rfl, rfl⟩, trivial⟩⟩) sz3 ag3 rfl rfl (vI y_38.f_to) rfl (wt rfl) ?_
              refine h_far pl125_1 rfl 1 rfl (wt rfl) ?_
              refine h_ldr 9 0 (.inr (by kernel_rfl)) (fun _ _ ag => ⟨.inl ⟨rfl, rfl⟩, ⟨.inl ⟨rfl, rfl⟩, ⟨.inl ⟨rfl, rfl⟩, trivial⟩⟩⟩) sz3 ag3 rfl rfl (vI y_36.f_to) rfl (wt rfl) ?_
              refine h_op (vI (w64 (y_38.f_to - y_36.f_to))) (wt rfl) rfl ?_
              refine h_op (vI (w64 ((w64 (n_2 - y_36.f_from)) * (w64 (y_38.f_to - y_36.f_to))))) (wt rfl) rfl ?_
              refine h_far pl125_0 rfl 0 rfl (wt rfl) ?_
              refine h_ldr 13 1 (.inr (by kernel_rfl)) (fun _ _ ag => ⟨.inl ⟨rfl, rfl⟩, ⟨.inl ⟨rfl, rfl⟩, ⟨.inl ⟨rfl, rfl⟩, ⟨.inl ⟨rfl, rfl⟩, trivial⟩⟩⟩⟩) sz3 ag3 rfl rfl (vI y_38.f_from) rfl (wt rfl) ?_
              refine h_far pl125_0 rfl 0 rfl (wt rfl) ?_
              refine h_ldr 15 0 (.inr (by kernel_rfl)) (fun _ _ ag => ⟨.inl ⟨rfl, rfl⟩, ⟨.inl ⟨rfl, rfl⟩, ⟨.inl ⟨rfl, rfl⟩, ⟨.inl ⟨rfl, rfl⟩, ⟨.inl ⟨rfl, rfl⟩, trivial⟩⟩⟩⟩⟩) sz3 ag3 rfl rfl (vI y_36.f_from) rfl (wt rfl) ?_
              refine h_op (vI (w64 (y_38.f_from - y_36.f_from))) (wt rfl) rfl ?_
              obtain ⟨q_46, hz_47, hF⟩ := bind_some hF
              refine h_quo rfl rfl hz_47 (wt rfl) ?_
              refine h_op (vI (w64 (y_36.f_to + q_46))) (wt rfl) rfl ?_
              refine h_op (vI (w64 (y_36.f_to + q_46))) (wt rfl) rfl ?_
              refine h_nil ?_
              refine wH_seq ?_
              refine wH_seq ?_
              refine wH_region ?_
              refine h_op (vI (w64 (y_36.f_to + q_46))) (wt rfl) rfl ?_
              obtain ⟨r_48, hr_49, hF⟩ := bind_some hF
              refine h_call0 (kit_IsMoment_ok hr_49) rfl hb81 rfl rfl rfl rfl (wt rfl) ?_
              refine h_op (vB (!r_48)) (wt rfl) rfl ?_
              refine h_nil ?_
              rcases cond_some hF with ⟨hc_50, hF⟩ | ⟨hc_50, hF⟩
              · refine wH_ift rfl hc_50 ?_
                refine wH_seq ?_
                refine wH_region ?_
                refine h_op (vI 0) (wt rfl) rfl ?_
                refine h_op (vI 11) (wt rfl) rfl ?_
                refine h_nil ?_
                replace hF := some_inj hF
                subst hF
                refine wH_ret ?_
                exact fin0 (.inr rfl) [(vI 0), (vI 11)] ⟨rfl, ⟨rfl, trivial⟩⟩ rfl rfl rfl
              · refine wH_iff rfl hc_50 ?_
                refine wH_skip ?_
                refine wH_seq ?_
                refine wH_region ?_
                refine h_op (vI (w64 (y_36.f_to + q_46))) (wt rfl) rfl ?_
                refine h_op (vI (w64 (y_36.f_to + q_46))) (wt rfl) rfl ?_
                refine h_op (vI 0) (wt rfl) rfl ?_
                refine h_nil ?_
                replace hF := some_inj hF
                subst hF
                refine wH_ret ?_
                exact fin0 (.inr rfl) [(vI (w64 (y_36.f_to + q_46))), (vI 0)] ⟨rfl, ⟨rfl, trivial⟩⟩ rfl rfl rfl
theorem proof_asked_ok {l_1 : (List Beat)} {player_2 : ByteArray} {n_3 : Int} {back_4 : Bool} {r : Int × Int} (hF : proof_asked l_1 player_2 n_3 back_4 = some r) :
    FnM Try.prog 76 [(vL Beat.enc l_1), (vS player_2), (vI n_3), (vB back_4)] [] (.tup [(vI r.1), (vI r.2)]) [] := by
  refine FnM.of_wH ⟨Try.prog, 30, [], []⟩ rfl Try.func76 rfl rfl (Nat.le_of_ble_eq_true rfl) (by kernel_rfl) ?_
  unfold proof_asked at hF
  refine wH_seq ?_
  refine wH_region ?_
  refine h_op (vI 0) (wt rfl) rfl ?_
  refine h_op (vI 0) (wt rfl) rfl ?_
  refine h_nil ?_
  refine wH_seq ?_
  refine wH_seq ?_
  refine wH_region ?_
  refine h_op (vL Beat.enc l_1) (wt rfl) rfl ?_
  obtain ⟨r_5, hr_6, hF⟩ := bind_some hF
  refine h_call0 (proof_CheckBeats_ok hr_6) rfl hb15 rfl rfl rfl rfl (wt rfl) ?_
  refine h_op (vI r_5) (wt rfl) rfl ?_
  refine h_nil ?_
  refine wH_seq ?_
  refine wH_region ?_
  refine h_op (vI r_5) (wt rfl) rfl ?_
  refine h_op (vB (r_5 != 0)) (wt rfl) rfl ?_
  refine h_nil ?_
  rcases cond_some hF with ⟨hc_7, hF⟩ | ⟨hc_7, hF⟩
  · refine wH_ift rfl hc_7 ?_
    refine wH_seq ?_
    refine wH_region ?_
    refine h_op (vI r_5) (wt rfl) rfl ?_
    refine h_op (vI 0) (wt rfl) rfl ?_
    refine h_op (vI r_5) (wt rfl) rfl ?_
    refine h_nil ?_
    replace hF := some_inj hF
    subst hF
    refine wH_ret ?_
    exact fin0 (.inr rfl) [(vI 0), (vI r_5)] ⟨rfl, ⟨rfl, trivial⟩⟩ rfl rfl rfl
  · refine wH_iff rfl hc_7 ?_
    refine wH_skip ?_
    refine wH_seq ?_
    refine wH_seq ?_
    refine wH_region ?_
    refine h_op (vS player_2) (wt rfl) rfl ?_
    obtain ⟨r_8, hr_9, hF⟩ := bind_some hF
    refine h_call0 (kit_IsKey_ok hr_9) rfl hb77 rfl rfl rfl rfl (wt rfl) ?_
    refine h_op (vB (!r_8)) (wt rfl) rfl ?_
    refine h_nil ?_
    rcases cond_some hF with ⟨hc_10, hF⟩ | ⟨hc_10, hF⟩
    · refine wH_ift rfl hc_10 ?_
      refine wH_seq ?_
      refine wH_region ?_
      refine h_op (vI 0) (wt rfl) rfl ?_
      refine h_op (vI 5) (wt rfl) rfl ?_
      refine h_nil ?_
      replace hF := some_inj hF
      subst hF
      refine wH_ret ?_
      exact fin0 (.inr rfl) [(vI 0), (vI 5)] ⟨rfl, ⟨rfl, trivial⟩⟩ rfl rfl rfl
    · refine wH_iff rfl hc_10 ?_
      refine wH_skip ?_
      refine wH_seq ?_
      refine wH_seq ?_
      refine wH_region ?_
      refine h_op (vI n_3) (wt rfl) rfl ?_
      obtain ⟨r_11, hr_12, hF⟩ := bind_some hF
      refine h_call0 (kit_IsMoment_ok hr_12) rfl hb81 rfl rfl rfl rfl (wt rfl) ?_
      refine h_op (vB (!r_11)) (wt rfl) rfl ?_
      refine h_nil ?_
      rcases cond_some hF with ⟨hc_13, hF⟩ | ⟨hc_13, hF⟩
      · refine wH_ift rfl hc_13 ?_
        refine wH_seq ?_
        refine wH_region ?_
        refine h_op (vI 0) (wt rfl) rfl ?_
        refine h_op (vI 1) (wt rfl) rfl ?_
        refine h_nil ?_
        replace hF := some_inj hF
        subst hF
        refine wH_ret ?_
        exact fin0 (.inr rfl) [(vI 0), (vI 1)] ⟨rfl, ⟨rfl, trivial⟩⟩ rfl rfl rfl
      · refine wH_iff rfl hc_13 ?_
        refine wH_skip ?_
        refine wH_seq ?_
        refine wH_region ?_
        refine h_op (vL Beat.enc l_1) (wt rfl) rfl ?_
        refine h_op (vS player_2) (wt rfl) rfl ?_
        refine h_op (vB back_4) (wt rfl) rfl ?_
        obtain ⟨r_14, hr_15, hF⟩ := bind_some hF
        refine h_call0 (proof_beatsOf_ok hr_15) rfl hb78 rfl rfl rfl rfl (wt rfl) ?_
        refine h_op (vI n_3) (wt rfl) rfl ?_
        obtain ⟨r_16, hr_17, hF⟩ := bind_some hF
        refine h_call0 (proof_mapped_ok hr_17) rfl hb148 rfl rfl rfl rfl (wt rfl) ?_
        refine h_op (vI r_16.1) (wt rfl) rfl ?_
        refine h_op (vI r_16.2) (wt rfl) rfl ?_
        refine h_op (vI r_16.1) (wt rfl) rfl ?_
        refine h_op (vI r_16.2) (wt rfl) rfl ?_
        refine h_nil ?_
        replace hF := some_inj hF
        subst hF
        refine wH_ret ?_
        exact fin0 (.inr rfl) [(vI r_16.1), (vI r_16.2)] ⟨rfl, ⟨rfl, trivial⟩⟩ rfl rfl rfl
theorem proof_Right_ok {l_1 : (List Beat)} {player_2 : ByteArray} {clock_3 : Int} {r : Int × Int} (hF : proof_Right l_1 player_2 clock_3 = some r) :
    FnM Try.prog 11 [(vL Beat.enc l_1), (vS player_2), (vI clock_3)] [] (.tup [(vI r.1), (vI r.2)]) [] := by
  refine FnM.of_wH ⟨Try.prog, 14, [], []⟩ rfl Try.func11 rfl rfl (Nat.le_of_ble_eq_true rfl) (by kernel_rfl) ?_
  unfold proof_Right at hF
  refine wH_seq ?_
  refine wH_region ?_
  refine h_op (vI 0) (wt rfl) rfl ?_
  refine h_op (vI 0) (wt rfl) rfl ?_
  refine h_nil ?_
  refine wH_seq ?_
  refine wH_region ?_
  refine h_op (vL Beat.enc l_1) (wt rfl) rfl ?_
  refine h_op (vS player_2) (wt rfl) rfl ?_
  refine h_op (vI clock_3) (wt rfl) rfl ?_
  obtain ⟨r_4, hr_5, hF⟩ := bind_some hF
  refine h_call0 (proof_asked_ok hr_5) rfl hb76 rfl rfl rfl rfl (wt rfl) ?_
  refine h_op (vI r_4.1) (wt rfl) rfl ?_
  refine h_op (vI r_4.2) (wt rfl) rfl ?_
  refine h_op (vI r_4.1) (wt rfl) rfl ?_
  refine h_op (vI r_4.2) (wt rfl) rfl ?_
  refine h_nil ?_
  replace hF := some_inj hF
  subst hF
  refine wH_ret ?_
  exact fin0 (.inr rfl) [(vI r_4.1), (vI r_4.2)] ⟨rfl, ⟨rfl, trivial⟩⟩ rfl rfl rfl
theorem proof_Shown_ok {l_1 : (List Beat)} {player_2 : ByteArray} {atv_3 : Int} {r : Int × Int} (hF : proof_Shown l_1 player_2 atv_3 = some r) :
    FnM Try.prog 12 [(vL Beat.enc l_1), (vS player_2), (vI atv_3)] [] (.tup [(vI r.1), (vI r.2)]) [] := by
  refine FnM.of_wH ⟨Try.prog, 14, [], []⟩ rfl Try.func12 rfl rfl (Nat.le_of_ble_eq_true rfl) (by kernel_rfl) ?_
  unfold proof_Shown at hF
  refine wH_seq ?_
  refine wH_region ?_
  refine h_op (vI 0) (wt rfl) rfl ?_
  refine h_op (vI 0) (wt rfl) rfl ?_
  refine h_nil ?_
  refine wH_seq ?_
  refine wH_region ?_
  refine h_op (vL Beat.enc l_1) (wt rfl) rfl ?_
  refine h_op (vS player_2) (wt rfl) rfl ?_
  refine h_op (vI atv_3) (wt rfl) rfl ?_
  obtain ⟨r_4, hr_5, hF⟩ := bind_some hF
  refine h_call0 (proof_asked_ok hr_5) rfl hb76 rfl rfl rfl rfl (wt rfl) ?_
  refine h_op (vI r_4.1) (wt rfl) rfl ?_
  refine h_op (vI r_4.2) (wt rfl) rfl ?_
  refine h_op (vI r_4.1) (wt rfl) rfl ?_
  refine h_op (vI r_4.2) (wt rfl) rfl ?_
  refine h_nil ?_
  replace hF := some_inj hF
  subst hF
  refine wH_ret ?_
  exact fin0 (.inr rfl) [(vI r_4.1), (vI r_4.2)] ⟨rfl, ⟨rfl, trivial⟩⟩ rfl rfl rfl
theorem kit_Gcd_ok {a_1 : Int} {b_2 : Int} {r : Int} (hF : kit_Gcd a_1 b_2 = some r) :
    FnM Try.prog 149 [(vI a_1), (vI b_2)] [] (vI r) [] := by
  refine FnM.of_wH ⟨Try.prog, 15, [], []⟩ rfl Try.func149 rfl rfl (Nat.le_of_ble_eq_true rfl) (by kernel_rfl) ?_
  unfold kit_Gcd at hF
  refine wH_seq ?_
  refine wH_region ?_
  refine h_op (vI 0) (wt rfl) rfl ?_
  refine h_nil ?_
  refine wH_seq ?_
  obtain ⟨o_11, hj_12, hF⟩ := bind_some hF
  obtain ⟨nq_16, hj_12⟩ := loopO_iter hj_12
  refine wH_join (β := (Int × Int)) (fun (s_8 : Int × Int) => ([(0, (vI s_8.1))] : List (Nat × V))) (fun (s_8 : Int × Int) => ([] : Hp)) (fun p => o_11 = .go p) ?_ ?_
  · refine wH_block ?_
    refine wH_loop (β := Nat × (Int × Int)) (fun p => (fun (k_3 : Nat) (s_8 : Int × Int) => ([(0, (vI s_8.1)), (1, (vI s_8.2))] : List (Nat × V))) p.1 p.2) (fun p => (fun (k_3 : Nat) (s_8 : Int × Int) => ([] : Hp)) p.1 p.2) (fun p => iterN (fun s => kit_Gcd_L1 s) p.1 p.2 = some o_11) (fun p => p.1) (nq_16, (a_1, b_2)) hj_12 rfl rfl ?_
    rintro ⟨k_3, s_8⟩ hL_10
    dsimp only at hL_10
    cases k_3 with
    | zero => cases hL_10
    | succ k_3 =>
      obtain ⟨c_, hc_9, hL_10⟩ := bind_some hL_10
      unfold kit_Gcd_L1 at hc_9
      refine wH_seq ?_
      refine wH_seq ?_
      refine wH_region ?_
      refine h_op (vI s_8.2) (wt rfl) rfl ?_
      refine h_op (vB (s_8.2 != 0)) (wt rfl) rfl ?_
      refine h_nil ?_
      rcases cond_some hc_9 with ⟨hc_13, hc_9⟩ | ⟨hc_13, hc_9⟩
      · refine wH_ift rfl hc_13 ?_
        refine wH_skip ?_
        refine wH_block ?_
        refine wH_draws ?_
        refine h_op (vI s_8.2) (wt rfl) rfl ?_
        refine h_op (vI s_8.1) (wt rfl) rfl ?_
        refine h_op (vI s_8.2) (wt rfl) rfl ?_
        obtain ⟨q_14, hz_15, hc_9⟩ := bind_some hc_9
        refine h_rem rfl rfl hz_15 (wt rfl) ?_
        refine h_op (vI s_8.2) (wt rfl) rfl ?_
        refine h_op (vI q_14) (wt rfl) rfl ?_
        refine h_nil ?_
        replace hc_9 := some_inj hc_9
        subst hc_9
        exact loop_mk (k_3, (s_8.2, q_14)) hL_10 (Nat.lt_succ_self _) rfl rfl
      · refine wH_iff rfl hc_13 ?_
        refine wH_exit ?_
        replace hc_9 := some_inj hc_9
        subst hc_9
        replace hL_10 := some_inj hL_10
        subst hL_10
        exact cut_mk ((s_8.1, s_8.2)) rfl rfl rfl
  · rintro s_8 ho_ sl_ H_ hp_ hq_
    subst ho_
    refine wH_at _ hp_ hq_ ?_
    refine wH_seq ?_
    refine wH_region ?_
    refine h_op (vI s_8.1) (wt rfl) rfl ?_
    refine h_op (vI s_8.1) (wt rfl) rfl ?_
    refine h_op (vI (w64 (0 - s_8.1))) (wt rfl) rfl ?_
    refine h_minmax (vI (maxI s_8.1 (w64 (0 - s_8.1)))) rfl (.inr rfl) (wt rfl) ?_
    refine h_op (vI (maxI s_8.1 (w64 (0 - s_8.1)))) (wt rfl) rfl ?_
    refine h_nil ?_
    replace hF := some_inj hF
    subst hF
    refine wH_ret ?_
    exact fin0 (.inr rfl) [(vI (maxI s_8.1 (w64 (0 - s_8.1))))] ⟨rfl, trivial⟩ rfl rfl rfl
theorem kit_Lowest_ok {num_1 : Int} {den_2 : Int} {r : Fraction} (hF : kit_Lowest num_1 den_2 = some r) :
    FnM Try.prog 79 [(vI num_1), (vI den_2)] [] (.d (.agg (Fraction.enc r))) [] := by
  refine FnM.of_wH ⟨Try.prog, 22, [], []⟩ rfl Try.func79 rfl rfl (Nat.le_of_ble_eq_true rfl) (by kernel_rfl) ?_
  unfold kit_Lowest at hF
  refine wH_seq ?_
  refine wH_region ?_
  refine h_alloc 0 (.inl rfl) z34 rfl (wt rfl) (fun n_3 => ?_)
  refine h_nil ?_
  refine wH_seq ?_
  refine wH_seq ?_
  refine wH_region ?_
  refine h_op (vI den_2) (wt rfl) rfl ?_
  refine h_op (vB (decide (den_2 < 0))) (wt rfl) rfl ?_
  refine h_nil ?_
  obtain ⟨v_4, h_5, hF⟩ := bind_some hF
  refine wH_join (β := Unit) (fun _ => ([(0, (vI v_4.1)), (1, (vI v_4.2)), (4, (.ref n_3 0 0))] : List (Nat × V))) (fun _ => ([(n_3, some (.cells 2 [(vI 0), (vI 0)]))] : Hp)) (fun _ => True) ?_ ?_
  · rcases cond_some h_5 with ⟨hc_6, h_5⟩ | ⟨hc_6, h_5⟩
    · refine wH_ift rfl hc_6 ?_
      refine wH_region ?_
      refine h_op (vI num_1) (wt rfl) rfl ?_
      refine h_op (vI (w64 (0 - num_1))) (wt rfl) rfl ?_
      refine h_op (vI den_2) (wt rfl) rfl ?_
      refine h_op (vI (w64 (0 - den_2))) (wt rfl) rfl ?_
      refine h_op (vI (w64 (0 - num_1))) (wt rfl) rfl ?_
      refine h_op (vI (w64 (0 - den_2))) (wt rfl) rfl ?_
      refine h_nil ?_
      replace h_5 := some_inj h_5
      subst h_5
      exact cut_mk () trivial rfl rfl
    · refine wH_iff rfl hc_6 ?_
      refine wH_skip ?_
      replace h_5 := some_inj h_5
      subst h_5
      exact cut_mk () trivial rfl rfl
  · rintro ⟨⟩ _ sl_ H_ hp_ hq_
    refine wH_at _ hp_ hq_ ?_
    refine wH_seq ?_
    refine wH_region ?_
    refine h_op (vI v_4.1) (wt rfl) rfl ?_
    refine h_op (vI v_4.2) (wt rfl) rfl ?_
    obtain ⟨r_7, hr_8, hF⟩ := bind_some hF
    refine h_call0 (kit_Gcd_ok hr_8) rfl hb149 rfl rfl rfl rfl (wt rfl) ?_
    refine h_op (vI r_7) (wt rfl) rfl ?_
    refine h_nil ?_
    refine wH_seq ?_
    refine wH_draws ?_
    refine h_op (vI v_4.1) (wt rfl) rfl ?_
    refine h_op (vI r_7) (wt rfl) rfl ?_
    obtain ⟨q_9, hz_10, hF⟩ := bind_some hF
    refine h_quo rfl rfl hz_10 (wt rfl) ?_
    refine h_op (vI v_4.2) (wt rfl) rfl ?_
    refine h_op (vI r_7) (wt rfl) rfl ?_
    obtain ⟨q_11, hz_12, hF⟩ := bind_some hF
    refine h_quo rfl rfl hz_12 (wt rfl) ?_
    refine h_op (.d (.agg (Fraction.enc (⟨q_9, q_11⟩ : Fraction)))) (wt rfl) (by kernel_rfl) ?_
    refine h_str 7 (.inr (by kernel_rfl)) (fun _ _ ag => trivial) 0 sz34 rfl rfl [(vI q_9), (vI q_11)] rfl (wt rfl) ?_
    refine h_nil ?_
    replace hF := some_inj hF
    subst hF
    refine wH_ret ?_
    exact fin0 (.inr rfl) [(.d (.agg (Fraction.enc (⟨q_9, q_11⟩ : Fraction))))] ⟨⟨0, _, _, _, _, _, _, _, rfl, rfl, sz34, ag34, rfl⟩, trivial⟩ rfl rfl rfl
theorem proof_Drift_ok {l_1 : (List Beat)} {player_2 : ByteArray} {r : Fraction × Int} (hF : proof_Drift l_1 player_2 = some r) :
    FnM Try.prog 13 [(vL Beat.enc l_1), (vS player_2)] [] (.tup [(.d (.agg (Fraction.enc r.1))), (vI r.2)]) [] := by
  refine FnM.of_wH ⟨Try.prog, 53, [], []⟩ rfl Try.func13 rfl rfl (Nat.le_of_ble_eq_true rfl) (by kernel_rfl) ?_
  unfold proof_Drift at hF
  refine wH_seq ?_
  refine wH_region ?_
  refine h_alloc 0 (.inl rfl) z34 rfl (wt rfl) (fun n_3 => ?_)
  refine h_op (vI 0) (wt rfl) rfl ?_
  refine h_nil ?_
  refine wH_seq ?_
  refine wH_seq ?_
  refine wH_region ?_
  refine h_op (vL Beat.enc l_1) (wt rfl) rfl ?_
  obtain ⟨r_4, hr_5, hF⟩ := bind_some hF
  refine h_call0 (proof_CheckBeats_ok hr_5) rfl hb15 rfl rfl rfl rfl (wt rfl) ?_
  refine h_op (vI r_4) (wt rfl) rfl ?_
  refine h_nil ?_
  refine wH_seq ?_
  refine wH_region ?_
  refine h_op (vI r_4) (wt rfl) rfl ?_
  refine h_op (vB (r_4 != 0)) (wt rfl) rfl ?_
  refine h_nil ?_
  rcases cond_some hF with ⟨hc_6, hF⟩ | ⟨hc_6, hF⟩
  · refine wH_ift rfl hc_6 ?_
    refine wH_seq ?_
    refine wH_region ?_
    refine h_op (.d (.agg (Fraction.enc (⟨0, 0⟩ : Fraction)))) (wt rfl) (by kernel_rfl) ?_
    refine h_op (vI r_4) (wt rfl) rfl ?_
    refine h_str 0 (.inl rfl) (fun _ _ _ => trivial) 0 sz34 rfl rfl [(vI 0), (vI 0)] rfl (wt rfl) ?_
    refine h_op (vI r_4) (wt rfl) rfl ?_
    refine h_nil ?_
    replace hF := some_inj hF
    subst hF
    refine wH_ret ?_
    exact fin0 (.inr rfl) [(.d (.agg (Fraction.enc (⟨0, 0⟩ : Fraction)))), (vI r_4)] ⟨⟨0, _, _, _, _, _, _, _, rfl, rfl, sz34, ag34, rfl⟩, ⟨rfl, trivial⟩⟩ rfl rfl rfl
  · refine wH_iff rfl hc_6 ?_
    refine wH_skip ?_
    refine wH_seq ?_
    refine wH_seq ?_
    refine wH_region ?_
    refine h_op (vS player_2) (wt rfl) rfl ?_
    obtain ⟨r_7, hr_8, hF⟩ := bind_some hF
    refine h_call0 (kit_IsKey_ok hr_8) rfl hb77 rfl rfl rfl rfl (wt rfl) ?_
    refine h_op (vB (!r_7)) (wt rfl) rfl ?_
    refine h_nil ?_
    rcases cond_some hF with ⟨hc_9, hF⟩ | ⟨hc_9, hF⟩
    · refine wH_ift rfl hc_9 ?_
      refine wH_seq ?_
      refine wH_region ?_
      refine h_op (.d (.agg (Fraction.enc (⟨0, 0⟩ : Fraction)))) (wt rfl) (by kernel_rfl) ?_
      refine h_str 0 (.inl rfl) (fun _ _ _ => trivial) 0 sz34 rfl rfl [(vI 0), (vI 0)] rfl (wt rfl) ?_
      refine h_op (vI 5) (wt rfl) rfl ?_
      refine h_nil ?_
      replace hF := some_inj hF
      subst hF
      refine wH_ret ?_
      exact fin0 (.inr rfl) [(.d (.agg (Fraction.enc (⟨0, 0⟩ : Fraction)))), (vI 5)] ⟨⟨0, _, _, _, _, _, _, _, rfl, rfl, sz34, ag34, rfl⟩, ⟨rfl, trivial⟩⟩ rfl rfl rfl
    · refine wH_iff rfl hc_9 ?_
      refine wH_skip ?_
      refine wH_seq ?_
      refine wH_region ?_
      refine h_op (vL Beat.enc l_1) (wt rfl) rfl ?_
      refine h_op (vS player_2) (wt rfl) rfl ?_
      obtain ⟨r_10, hr_11, hF⟩ := bind_some hF
      refine h_call0 (proof_beatsOf_ok hr_11) rfl hb78 rfl rfl rfl rfl (wt rfl) ?_
      refine h_op (vL Beat_.enc r_10) (wt rfl) rfl ?_
      refine h_nil ?_
      refine wH_seq ?_
      refine wH_seq ?_
      refine wH_region ?_
      refine h_op (vL Beat_.enc r_10) (wt rfl) rfl ?_
      refine h_len un122 rfl (wt rfl) ?_
      refine h_op (vB (decide ((r_10.length : Int) < 2))) (wt rfl) rfl ?_
      refine h_nil ?_
      rcases cond_some hF with ⟨hc_12, hF⟩ | ⟨hc_12, hF⟩
      · refine wH_ift rfl hc_12 ?_
        refine wH_seq ?_
        refine wH_region ?_
        refine h_op (.d (.agg (Fraction.enc (⟨0, 0⟩ : Fraction)))) (wt rfl) (by kernel_rfl) ?_
        refine h_str 0 (.inl rfl) (fun _ _ _ => trivial) 0 sz34 rfl rfl [(vI 0), (vI 0)] rfl (wt rfl) ?_
        refine h_op (vI 8) (wt rfl) rfl ?_
        refine h_nil ?_
        replace hF := some_inj hF
        subst hF
        refine wH_ret ?_
        exact fin0 (.inr rfl) [(.d (.agg (Fraction.enc (⟨0, 0⟩ : Fraction)))), (vI 8)] ⟨⟨0, _, _, _, _, _, _, _, rfl, rfl, sz34, ag34, rfl⟩, ⟨rfl, trivial⟩⟩ rfl rfl rfl
      · refine wH_iff rfl hc_12 ?_
        refine wH_skip ?_
        refine wH_seq ?_
        refine wH_draws ?_
        refine h_op (vL Beat_.enc r_10) (wt rfl) rfl ?_
        obtain ⟨y_13, hy_14, hF⟩ := bind_some hF
        refine h_ia es122 rfl rfl hy_14 rfl (wt rfl) ?_
        refine h_ldc sz125 ag125 rfl (.d (.agg (Beat_.enc y_13))) rfl (wt rfl) ?_
        refine h_op (vL Beat_.enc r_10) (wt rfl) rfl ?_
        refine h_op (vL Beat_.enc r_10) (wt rfl) rfl ?_
        refine h_len un122 rfl (wt rfl) ?_
        refine h_op (vI (w64 ((r_10.length : Int) - 1))) (wt rfl) rfl ?_
        obtain ⟨y_15, hy_16, hF⟩ := bind_some hF
        refine h_ia es122 rfl rfl hy_16 rfl (wt rfl) ?_
        refine h_ldc sz125 ag125 rfl (.d (.agg (Beat_.enc y_15))) rfl (wt rfl) ?_
        refine h_alloc 9 (.inr (by kernel_rfl)) z125 rfl (wt rfl) (fun n_17 => ?_)
        refine h_alloc 10 (.inr (by kernel_rfl)) z125 rfl (wt rfl) (fun n_18 => ?_)
        refine h_str 11 (.inr (by kernel_rfl)) (fun _ _ ag => ⟨.inr (.inr (by kernel_rfl)), ⟨.inr (.inr (by kernel_rfl)), trivial⟩⟩) 1 sz125 rfl rfl [(vI y_13.f_from), (vI y_13.f_to)] rfl (wt rfl) ?_
        refine h_str 12 (.inr (by kernel_rfl)) (fun _ _ ag => ⟨.inr (.inr (by kernel_rfl)), ⟨.inr (.inr (by kernel_rfl)), ⟨.inr (.inr (by kernel_rfl)), trivial⟩⟩⟩) 2 sz125 rfl rfl [(vI y_15.f_from), (vI y_15.f_to)] rfl (wt rfl) ?_
        refine h_nil ?_
        refine wH_seq ?_
        refine wH_region ?_
        refine h_far pl125_1 rfl 1 rfl (wt rfl) ?_
        refine h_ldr 0 2 (.inl rfl) (fun _ _ _ => trivial) sz3 ag3 rfl rfl (vI y_15.f_to) rfl (wt rfl) ?_
        refine h_far pl125_1 rfl 1 rfl (wt rfl) ?_
        refine h_ldr 0 1 (.inl rfl) (fun _ _ _ => trivial) sz3 ag3 rfl rfl (vI y_13.f_to) rfl (wt rfl) ?_
        refine h_op (vI (w64 (y_15.f_to - y_13.f_to))) (wt rfl) rfl ?_
        refine h_far pl125_0 rfl 0 rfl (wt rfl) ?_
        refine h_ldr 0 2 (.inl rfl) (fun _ _ _ => trivial) sz3 ag3 rfl rfl (vI y_15.f_from) rfl (wt rfl) ?_
        refine h_far pl125_0 rfl 0 rfl (wt rfl) ?_
        refine h_ldr 0 1 (.inl rfl) (fun _ _ _ => trivial) sz3 ag3 rfl rfl (vI y_13.f_from) rfl (wt rfl) ?_
        refine h_op (vI (w64 (y_15.f_from - y_13.f_from))) (wt rfl) rfl ?_
        refine h_op (vI (w64 ((w64 (y_15.f_to - y_13.f_to)) - (w64 (y_15.f_from - y_13.f_from))))) (wt rfl) rfl ?_
        refine h_far pl125_0 rfl 0 rfl (wt rfl) ?_
        refine h_ldr 0 2 (.inl rfl) (fun _ _ _ => trivial) sz3 ag3 rfl rfl (vI y_15.f_from) rfl (wt rfl) ?_
        refine h_far pl125_0 rfl 0 rfl (wt rfl) ?_
        refine h_ldr 0 1 (.inl rfl) (fun _ _ _ => trivial) sz3 ag3 rfl rfl (vI y_13.f_from) rfl (wt rfl) ?_
        refine h_op (vI (w64 (y_15.f_from - y_13.f_from))) (wt rfl) rfl ?_
        obtain ⟨r_19, hr_20, hF⟩ := bind_some hF
        refine h_call0 (kit_Lowest_ok hr_20) rfl hb79 rfl rfl rfl rfl (wt rfl) ?_
        refine h_str 0 (.inl rfl) (fun _ _ _ => trivial) 0 sz34 rfl rfl [(vI r_19.Num), (vI r_19.Den)] rfl (wt rfl) ?_
        refine h_op (vI 0) (wt rfl) rfl ?_
        refine h_nil ?_
        replace hF := some_inj hF
        subst hF
        refine wH_ret ?_
        exact fin0 (.inr rfl) [(.d (.agg (Fraction.enc r_19))), (vI 0)] ⟨⟨0, _, _, _, _, _, _, _, rfl, rfl, sz34, ag34, rfl⟩, ⟨rfl, trivial⟩⟩ rfl rfl rfl
theorem ref_in_ok {n_1 : Int} {low_2 : Int} {high_3 : Int} {r : Bool} (hF : ref_in n_1 low_2 high_3 = some r) :
    FnM Try.prog 84 [(vI n_1), (vI low_2), (vI high_3)] [] (vB r) [] := by
  refine FnM.of_wH ⟨Try.prog, 15, [], []⟩ rfl Try.func84 rfl rfl (Nat.le_of_ble_eq_true rfl) (by kernel_rfl) ?_
  unfold ref_in at hF
  refine wH_seq ?_
  refine wH_region ?_
  refine h_op (vB false) (wt rfl) rfl ?_
  refine h_nil ?_
  refine wH_seq ?_
  obtain ⟨v_4, h_5, hF⟩ := bind_some hF
  refine wH_join (β := Unit) (fun _ => ([(6, (vB v_4))] : List (Nat × V))) (fun _ => ([] : Hp)) (fun _ => True) ?_ ?_
  · refine wH_region ?_
    refine h_op (vI low_2) (wt rfl) rfl ?_
    refine h_op (vI n_1) (wt rfl) rfl ?_
    refine h_op (vB (decide (low_2 ≤ n_1))) (wt rfl) rfl ?_
    rcases cond_some h_5 with ⟨hc_6, h_5⟩ | ⟨hc_6, h_5⟩
    · refine h_movb rfl hc_6 (wt rfl) ?_
      refine h_op (vI n_1) (wg rfl rfl rfl) rfl ?_
      refine h_op (vI high_3) (wg rfl rfl rfl) rfl ?_
      refine h_op (vB (decide (n_1 ≤ high_3))) (wg rfl rfl rfl) rfl ?_
      refine h_op (vB (decide (n_1 ≤ high_3))) (wt rfl) rfl ?_
      refine h_op (vB (decide (n_1 ≤ high_3))) (wt rfl) rfl ?_
      refine h_nil ?_
      replace h_5 := some_inj h_5
      subst h_5
      exact cut_mk () trivial rfl rfl
    · refine h_movb rfl hc_6 (wt rfl) ?_
      refine h_skip (wg rfl rfl rfl) ?_
      refine h_skip (wg rfl rfl rfl) ?_
      refine h_skip (wg rfl rfl rfl) ?_
      refine h_op (vB false) (wt rfl) rfl ?_
      refine h_op (vB false) (wt rfl) rfl ?_
      refine h_nil ?_
      replace h_5 := some_inj h_5
      subst h_5
      exact cut_mk () trivial rfl rfl
  · rintro ⟨⟩ _ sl_ H_ hp_ hq_
    refine wH_at _ hp_ hq_ ?_
    replace hF := some_inj hF
    subst hF
    refine wH_ret ?_
    exact fin0 (.inr rfl) [(vB v_4)] ⟨rfl, trivial⟩ rfl rfl rfl
theorem internal_stringslite_IndexByte_ok {s_1 : ByteArray} {c_2 : Int} {r : Int} (hF : internal_stringslite_IndexByte s_1 c_2 = some r) :
    FnM Try.prog 183 [(vS s_1), (.d (.int .u8 c_2))] [] (vI r) [] := by
  refine FnM.of_wH ⟨Try.prog, 8, [], []⟩ rfl Try.func183 rfl rfl (Nat.le_of_ble_eq_true rfl) (by kernel_rfl) ?_
  unfold internal_stringslite_IndexByte at hF
  refine wH_seq ?_
  refine wH_region ?_
  refine h_op (vI 0) (wt rfl) rfl ?_
  refine h_nil ?_
  refine wH_seq ?_
  refine wH_region ?_
  refine h_op (vS s_1) (wt rfl) rfl ?_
  refine h_op (.d (.int .u8 c_2)) (wt rfl) rfl ?_
  refine h_ext (ext_ixB (f := 206) Try.func206 rfl rfl (by kernel_rfl) (by kernel_rfl) _ _) rfl nb206 rfl (wt rfl) ?_
  refine h_op (vI (ixB s_1 c_2)) (wt rfl) rfl ?_
  refine h_nil ?_
  replace hF := some_inj hF
  subst hF
  refine wH_ret ?_
  exact fin0 (.inr rfl) [(vI (ixB s_1 c_2))] ⟨rfl, trivial⟩ rfl rfl rfl
theorem strings_IndexByte_ok {s_1 : ByteArray} {c_2 : Int} {r : Int} (hF : strings_IndexByte s_1 c_2 = some r) :
    FnM Try.prog 150 [(vS s_1), (.d (.int .u8 c_2))] [] (vI r) [] := by
  refine FnM.of_wH ⟨Try.prog, 8, [], []⟩ rfl Try.func150 rfl rfl (Nat.le_of_ble_eq_true rfl) (by kernel_rfl) ?_
  unfold strings_IndexByte at hF
  refine wH_seq ?_
  refine wH_region ?_
  refine h_op (vI 0) (wt rfl) rfl ?_
  refine h_nil ?_
  refine wH_seq ?_
  refine wH_region ?_
  refine h_op (vS s_1) (wt rfl) rfl ?_
  refine h_op (.d (.int .u8 c_2)) (wt rfl) rfl ?_
  obtain ⟨r_3, hr_4, hF⟩ := bind_some hF
  refine h_call0 (internal_stringslite_IndexByte_ok hr_4) rfl hb183 rfl rfl rfl rfl (wt rfl) ?_
  refine h_op (vI r_3) (wt rfl) rfl ?_
  refine h_nil ?_
  replace hF := some_inj hF
  subst hF
  refine wH_ret ?_
  exact fin0 (.inr rfl) [(vI r_3)] ⟨rfl, trivial⟩ rfl rfl rfl
theorem ref_only_ok {s_1 : ByteArray} {somev_2 : ByteArray} {r : Bool} (hF : ref_only s_1 somev_2 = some r) :
    FnM Try.prog 85 [(vS s_1), (vS somev_2)] [] (vB r) [] := by
  refine FnM.of_wH ⟨Try.prog, 18, [], []⟩ rfl Try.func85 rfl rfl (Nat.le_of_ble_eq_true rfl) (by kernel_rfl) ?_
  unfold ref_only at hF
  refine wH_seq ?_
  refine wH_region ?_
  refine h_op (vB false) (wt rfl) rfl ?_
  refine h_nil ?_
  refine wH_seq ?_
  refine wH_seq ?_
  refine wH_region ?_
  refine h_op (vS s_1) (wt rfl) rfl ?_
  refine h_lens un9 rfl (wt rfl) ?_
  refine h_op (vI 0) (wt rfl) rfl ?_
  refine h_nil ?_
  obtain ⟨o_11, hj_12, hF⟩ := bind_some hF
  obtain ⟨hn_7, hj_12⟩ := forL_some hj_12
  refine wH_join (β := (Unit)) (fun (s_8 : Unit) => ([] : List (Nat × V))) (fun (s_8 : Unit) => ([] : Hp)) (fun p => o_11 = .go p) ?_ ?_
  · refine wH_block ?_
    refine wH_loop (β := Nat × (List Nat) × (Unit)) (fun p => (fun (k_3 : Nat) (l_4 : List Nat) (s_8 : Unit) => ([(0, (vS s_1)), (1, (vS somev_2)), (7, (vI (s_1.size : Int))), (8, (vI (k_3 : Int)))] : List (Nat × V))) p.1 p.2.1 p.2.2) (fun p => (fun (k_3 : Nat) (l_4 : List Nat) (s_8 : Unit) => ([] : Hp)) p.1 p.2.1 p.2.2) (fun p => forR (fun k x s => ref_only_L1 s_1 somev_2 k x s) p.2.1 p.1 p.2.2 = some o_11 ∧ ((List.range ((s_1.size : Int)).toNat)).drop p.1 = p.2.1) (fun p => p.2.1.length) (0, (List.range ((s_1.size : Int)).toNat), ()) ⟨hj_12, rfl⟩ rfl rfl ?_
    rintro ⟨k_3, l_4, s_8⟩ ⟨hL_10, hD_6⟩
    dsimp only at hL_10 hD_6
    cases l_4 with
    | nil =>
      replace hL_10 := some_inj hL_10
      subst hL_10
      refine wH_seq (wH_region (h_op (vB (decide ((k_3 : Int) < (s_1.size : Int)))) (wt rfl) rfl (h_nil ?_)))
      refine wH_seq (wH_iff rfl (range_nil hD_6) (wH_exit ?_))
      exact cut_mk (s_8) rfl rfl rfl
    | cons x_5 l_4 =>
      obtain ⟨c_, hc_9, hL_10⟩ := bind_some hL_10
      refine wH_seq (wH_region (h_op (vB (decide ((k_3 : Int) < (s_1.size : Int)))) (wt rfl) rfl (h_nil ?_)))
      refine wH_seq (wH_ift rfl (range_cons hD_6) (wH_skip ?_))
      unfold ref_only_L1 at hc_9
      refine wH_seq ?_
      refine wH_block ?_
      refine wH_seq ?_
      refine wH_region ?_
      refine h_op (vI (k_3 : Int)) (wt rfl) rfl ?_
      refine h_op (vI (k_3 : Int)) (wt rfl) rfl ?_
      refine h_nil ?_
      refine wH_seq ?_
      refine wH_region ?_
      refine h_op (vS somev_2) (wt rfl) rfl ?_
      refine h_op (vS s_1) (wt rfl) rfl ?_
      refine h_op (vI (k_3 : Int)) (wt rfl) rfl ?_
      obtain ⟨b_13, hy_14, hc_9⟩ := bind_some hc_9
      refine h_idxs un9 rfl rfl hy_14 (wt rfl) ?_
      obtain ⟨r_15, hr_16, hc_9⟩ := bind_some hc_9
      refine h_call0 (strings_IndexByte_ok hr_16) rfl hb150 rfl rfl rfl rfl (wt rfl) ?_
      refine h_op (vB (decide (r_15 < 0))) (wt rfl) rfl ?_
      refine h_nil ?_
      rcases cond_some hc_9 with ⟨hc_17, hc_9⟩ | ⟨hc_17, hc_9⟩
      · refine wH_ift rfl hc_17 ?_
        refine wH_seq ?_
        refine wH_region ?_
        refine h_op (vB false) (wt rfl) rfl ?_
        refine h_nil ?_
        replace hc_9 := some_inj hc_9
        subst hc_9
        replace hL_10 := some_inj hL_10
        subst hL_10
        replace hF := some_inj hF
        subst hF
        refine wH_ret ?_
        exact fin0 (.inr rfl) [(vB false)] ⟨rfl, trivial⟩ rfl rfl rfl
      · refine wH_iff rfl hc_17 ?_
        refine wH_skip ?_
        refine wH_region ?_
        refine h_opw (w64_nextr hD_6 hn_7) (wt rfl) rfl ?_
        refine h_op (vI ((k_3 + 1 : Nat) : Int)) (wt rfl) rfl ?_
        refine h_nil ?_
        replace hc_9 := some_inj hc_9
        subst hc_9
        exact loop_mk (k_3 + 1, l_4, ()) ⟨hL_10, drop_next hD_6⟩ (Nat.lt_succ_self _) rfl rfl
  · rintro s_8 ho_ sl_ H_ hp_ hq_
    subst ho_
    refine wH_at _ hp_ hq_ ?_
    refine wH_seq ?_
    refine wH_region ?_
    refine h_op (vB true) (wt rfl) rfl ?_
    refine h_nil ?_
    replace hF := some_inj hF
    subst hF
    refine wH_ret ?_
    exact fin0 (.inr rfl) [(vB true)] ⟨rfl, trivial⟩ rfl rfl rfl
theorem ref_Key_ok {s_1 : ByteArray} {r : Bool} (hF : ref_Key s_1 = some r) :
    FnM Try.prog 18 [(vS s_1)] [] (vB r) [] := by
  refine FnM.of_wH ⟨Try.prog, 15, [], []⟩ rfl Try.func18 rfl rfl (Nat.le_of_ble_eq_true rfl) (by kernel_rfl) ?_
  unfold ref_Key at hF
  refine wH_seq ?_
  refine wH_region ?_
  refine h_op (vB false) (wt rfl) rfl ?_
  refine h_nil ?_
  refine wH_seq ?_
  obtain ⟨v_2, h_3, hF⟩ := bind_some hF
  refine wH_join (β := Unit) (fun _ => ([(2, (vB v_2))] : List (Nat × V))) (fun _ => ([] : Hp)) (fun _ => True) ?_ ?_
  · refine wH_region ?_
    refine h_op (vS s_1) (wt rfl) rfl ?_
    refine h_lens un9 rfl (wt rfl) ?_
    obtain ⟨r_4, hr_5, h_3⟩ := bind_some h_3
    refine h_call0 (ref_in_ok hr_5) rfl hb84 rfl rfl rfl rfl (wt rfl) ?_
    rcases cond_some h_3 with ⟨hc_6, h_3⟩ | ⟨hc_6, h_3⟩
    · refine h_movb rfl hc_6 (wt rfl) ?_
      refine h_op (vS s_1) (wg rfl rfl rfl) rfl ?_
      obtain ⟨y_7, hy_8, h_3⟩ := bind_some h_3
      refine h_subFalseTrue un9 rfl rfl hy_8 (wg rfl rfl rfl) ?_
      obtain ⟨r_9, hr_10, h_3⟩ := bind_some h_3
      refine h_call0 (ref_only_ok hr_10) rfl hb85 rfl rfl rfl rfl (wg rfl rfl rfl) ?_
      refine h_op (vB r_9) (wt rfl) rfl ?_
      rcases cond_some h_3 with ⟨hc_11, h_3⟩ | ⟨hc_11, h_3⟩
      · refine h_movb rfl hc_11 (wt rfl) ?_
        refine h_op (vS s_1) (wg rfl rfl rfl) rfl ?_
        obtain ⟨r_12, hr_13, h_3⟩ := bind_some h_3
        refine h_call0 (ref_only_ok hr_13) rfl hb85 rfl rfl rfl rfl (wg rfl rfl rfl) ?_
        refine h_op (vB r_12) (wt rfl) rfl ?_
        refine h_op (vB r_12) (wt rfl) rfl ?_
        refine h_nil ?_
        replace h_3 := some_inj h_3
        subst h_3
        exact cut_mk () trivial rfl rfl
      · refine h_movb rfl hc_11 (wt rfl) ?_
        refine h_skip (wg rfl rfl rfl) ?_
        refine h_skip (wg rfl rfl rfl) ?_
        refine h_op (vB false) (wt rfl) rfl ?_
        refine h_op (vB false) (wt rfl) rfl ?_
        refine h_nil ?_
        replace h_3 := some_inj h_3
        subst h_3
        exact cut_mk () trivial rfl rfl
    · refine h_movb rfl hc_6 (wt rfl) ?_
      refine h_skip (wg rfl rfl rfl) ?_
      refine h_skip (wg rfl rfl rfl) ?_
      refine h_skip (wg rfl rfl rfl) ?_
      refine h_op (vB false) (wt rfl) rfl ?_
      refine h_op (vB false) (wt rfl) rfl ?_
      refine h_skip (wg rfl rfl rfl) ?_
      refine h_skip (wg rfl rfl rfl) ?_
      refine h_op (vB false) (wt rfl) rfl ?_
      refine h_op (vB false) (wt rfl) rfl ?_
      refine h_nil ?_
      replace h_3 := some_inj h_3
      subst h_3
      exact cut_mk () trivial rfl rfl
  · rintro ⟨⟩ _ sl_ H_ hp_ hq_
    refine wH_at _ hp_ hq_ ?_
    replace hF := some_inj hF
    subst hF
    refine wH_ret ?_
    exact fin0 (.inr rfl) [(vB v_2)] ⟨rfl, trivial⟩ rfl rfl rfl
theorem ref_Moment_ok {atv_1 : Int} {r : Bool} (hF : ref_Moment atv_1 = some r) :
    FnM Try.prog 80 [(vI atv_1)] [] (vB r) [] := by
  refine FnM.of_wH ⟨Try.prog, 5, [], []⟩ rfl Try.func80 rfl rfl (Nat.le_of_ble_eq_true rfl) (by kernel_rfl) ?_
  unfold ref_Moment at hF
  refine wH_seq ?_
  refine wH_region ?_
  refine h_op (vB false) (wt rfl) rfl ?_
  refine h_nil ?_
  refine wH_seq ?_
  refine wH_region ?_
  refine h_op (vI atv_1) (wt rfl) rfl ?_
  obtain ⟨r_2, hr_3, hF⟩ := bind_some hF
  refine h_call0 (ref_in_ok hr_3) rfl hb84 rfl rfl rfl rfl (wt rfl) ?_
  refine h_op (vB r_2) (wt rfl) rfl ?_
  refine h_nil ?_
  replace hF := some_inj hF
  subst hF
  refine wH_ret ?_
  exact fin0 (.inr rfl) [(vB r_2)] ⟨rfl, trivial⟩ rfl rfl rfl
theorem ref_BeatsFault_ok {l_1 : (List Beat)} {r : Int} (hF : ref_BeatsFault l_1 = some r) :
    FnM Try.prog 14 [(vL Beat.enc l_1)] [] (vI r) [] := by
  refine FnM.of_wH ⟨Try.prog, 73, [], []⟩ rfl Try.func14 rfl rfl (Nat.le_of_ble_eq_true rfl) (by kernel_rfl) ?_
  unfold ref_BeatsFault at hF
  refine wH_seq ?_
  refine wH_region ?_
  refine h_op (vI 0) (wt rfl) rfl ?_
  refine h_nil ?_
  refine wH_seq ?_
  refine wH_seq ?_
  refine wH_region ?_
  refine h_op (vL Beat.enc l_1) (wt rfl) rfl ?_
  refine h_len un26 rfl (wt rfl) ?_
  refine h_op (vB (decide ((l_1.length : Int) > 500))) (wt rfl) rfl ?_
  refine h_nil ?_
  rcases cond_some hF with ⟨hc_2, hF⟩ | ⟨hc_2, hF⟩
  · refine wH_ift rfl hc_2 ?_
    refine wH_seq ?_
    refine wH_region ?_
    refine h_op (vI 2) (wt rfl) rfl ?_
    refine h_nil ?_
    replace hF := some_inj hF
    subst hF
    refine wH_ret ?_
    exact fin0 (.inr rfl) [(vI 2)] ⟨rfl, trivial⟩ rfl rfl rfl
  · refine wH_iff rfl hc_2 ?_
    refine wH_skip ?_
    refine wH_seq ?_
    refine wH_seq ?_
    refine wH_region ?_
    refine h_op (vL Beat.enc l_1) (wt rfl) rfl ?_
    refine h_len un26 rfl (wt rfl) ?_
    refine h_op (vI 0) (wt rfl) rfl ?_
    refine h_nil ?_
    obtain ⟨o_11, hj_12, hF⟩ := bind_some hF
    obtain ⟨hn_7, hj_12⟩ := forL_some hj_12
    refine wH_join (β := (Unit)) (fun (s_8 : Unit) => ([] : List (Nat × V))) (fun (s_8 : Unit) => ([] : Hp)) (fun p => o_11 = .go p) ?_ ?_
    · refine wH_block ?_
      refine wH_loop (β := Nat × (List Beat) × (Unit)) (fun p => (fun (k_3 : Nat) (l_4 : List Beat) (s_8 : Unit) => ([(0, (vL Beat.enc l_1)), (9, (vL Beat.enc l_1)), (10, (vI (l_1.length : Int))), (11, (vI (k_3 : Int)))] : List (Nat × V))) p.1 p.2.1 p.2.2) (fun p => (fun (k_3 : Nat) (l_4 : List Beat) (s_8 : Unit) => ([] : Hp)) p.1 p.2.1 p.2.2) (fun p => forR (fun k x s => ref_BeatsFault_L1 l_1 k x s) p.2.1 p.1 p.2.2 = some o_11 ∧ (l_1).drop p.1 = p.2.1) (fun p => p.2.1.length) (0, l_1, ()) ⟨hj_12, rfl⟩ rfl rfl ?_
      rintro ⟨k_3, l_4, s_8⟩ ⟨hL_10, hD_6⟩
      dsimp only at hL_10 hD_6
      cases l_4 with
      | nil =>
        replace hL_10 := some_inj hL_10
        subst hL_10
        refine wH_seq (wH_region (h_op (vB (decide ((k_3 : Int) < (l_1.length : Int)))) (wt rfl) rfl (h_nil ?_)))
        refine wH_seq (wH_iff rfl (drop_nil hD_6) (wH_exit ?_))
        exact cut_mk (s_8) rfl rfl rfl
      | cons x_5 l_4 =>
        obtain ⟨c_, hc_9, hL_10⟩ := bind_some hL_10
        refine wH_seq (wH_region (h_op (vB (decide ((k_3 : Int) < (l_1.length : Int)))) (wt rfl) rfl (h_nil ?_)))
        refine wH_seq (wH_ift rfl (drop_cons hD_6) (wH_skip ?_))
        unfold ref_BeatsFault_L1 at hc_9
        refine wH_seq ?_
        refine wH_block ?_
        refine wH_seq ?_
        refine wH_region ?_
        refine h_op (vI (k_3 : Int)) (wt rfl) rfl ?_
        refine h_ia es26 rfl rfl (drop_idx hD_6) rfl (wt rfl) ?_
        refine h_ldc sz119 ag119 rfl (.d (.agg (Beat.enc x_5))) rfl (wt rfl) ?_
        refine h_alloc 0 (.inl rfl) z119 rfl (wt rfl) (fun n_13 => ?_)
        refine h_op (vI (k_3 : Int)) (wt rfl) rfl ?_
        refine h_str 0 (.inl rfl) (fun _ _ _ => trivial) 0 sz119 rfl rfl [(vS x_5.Player), (vI x_5.At), (vI x_5.Clock)] rfl (wt rfl) ?_
        refine h_nil ?_
        refine wH_seq ?_
        refine wH_block ?_
        refine wH_seq ?_
        refine wH_region ?_
        refine h_far pl119_0 rfl 0 rfl (wt rfl) ?_
        refine h_ldr 0 0 (.inl rfl) (fun _ _ _ => trivial) sz9 ag9 rfl rfl (vS x_5.Player) rfl (wt rfl) ?_
        obtain ⟨r_14, hr_15, hc_9⟩ := bind_some hc_9
        refine h_call0 (ref_Key_ok hr_15) rfl hb18 rfl rfl rfl rfl (wt rfl) ?_
        refine h_op (vB (!r_14)) (wt rfl) rfl ?_
        refine h_op (vB (!r_14)) (wt rfl) rfl ?_
        refine h_nil ?_
        rcases cond_some hc_9 with ⟨hc_16, hc_9⟩ | ⟨hc_16, hc_9⟩
        · refine wH_ift rfl hc_16 ?_
          refine wH_seq ?_
          refine wH_region ?_
          refine h_op (vI 5) (wt rfl) rfl ?_
          refine h_nil ?_
          replace hc_9 := some_inj hc_9
          subst hc_9
          replace hL_10 := some_inj hL_10
          subst hL_10
          replace hF := some_inj hF
          subst hF
          refine wH_ret ?_
          exact fin0 (.inr rfl) [(vI 5)] ⟨rfl, trivial⟩ rfl rfl rfl
        · refine wH_iff rfl hc_16 ?_
          refine wH_seq ?_
          obtain ⟨v_17, h_18, hc_9⟩ := bind_some hc_9
          refine wH_join (β := Unit) (fun _ => ([(0, (vL Beat.enc l_1)), (3, (vI (k_3 : Int))), (4, (.ref n_13 0 0)), (9, (vL Beat.enc l_1)), (10, (vI (l_1.length : Int))), (11, (vI (k_3 : Int))), (21, (vB v_17))] : List (Nat × V))) (fun _ => ([(n_13, some (.cells 3 [(vS x_5.Player), (vI x_5.At), (vI x_5.Clock)]))] : Hp)) (fun _ => True) ?_ ?_
          · refine wH_region ?_
            refine h_far pl119_1 rfl 1 rfl (wt rfl) ?_
            refine h_ldr 0 0 (.inl rfl) (fun _ _ _ => trivial) sz3 ag3 rfl rfl (vI x_5.At) rfl (wt rfl) ?_
            obtain ⟨r_19, hr_20, h_18⟩ := bind_some h_18
            refine h_call0 (ref_Moment_ok hr_20) rfl hb80 rfl rfl rfl rfl (wt rfl) ?_
            refine h_op (vB (!r_19)) (wt rfl) rfl ?_
            rcases cond_some h_18 with ⟨hc_21, h_18⟩ | ⟨hc_21, h_18⟩
            · refine h_movb rfl hc_21 (wt rfl) ?_
              refine h_skip (wg rfl rfl rfl) ?_
              refine h_skip (wg rfl rfl rfl) ?_
              refine h_skip (wg rfl rfl rfl) ?_
              refine h_skip (wg rfl rfl rfl) ?_
              refine h_op (vB true) (wt rfl) rfl ?_
              refine h_op (vB true) (wt rfl) rfl ?_
              refine h_nil ?_
              replace h_18 := some_inj h_18
              subst h_18
              exact cut_mk () trivial rfl rfl
            · refine h_movb rfl hc_21 (wt rfl) ?_
              refine h_far pl119_2 rfl 2 rfl (wg rfl rfl rfl) ?_
              refine h_ldr 0 0 (.inl rfl) (fun _ _ _ => trivial) sz3 ag3 rfl rfl (vI x_5.Clock) rfl (wg rfl rfl rfl) ?_
              obtain ⟨r_22, hr_23, h_18⟩ := bind_some h_18
              refine h_call0 (ref_Moment_ok hr_23) rfl hb80 rfl rfl rfl rfl (wg rfl rfl rfl) ?_
              refine h_op (vB (!r_22)) (wg rfl rfl rfl) rfl ?_
              refine h_op (vB (!r_22)) (wt rfl) rfl ?_
              refine h_op (vB (!r_22)) (wt rfl) rfl ?_
              refine h_nil ?_
              replace h_18 := some_inj h_18
              subst h_18
              exact cut_mk () trivial rfl rfl
          · rintro ⟨⟩ _ sl_ H_ hp_ hq_
            refine wH_at _ hp_ hq_ ?_
            rcases cond_some hc_9 with ⟨hc_24, hc_9⟩ | ⟨hc_24, hc_9⟩
            · refine wH_ift rfl hc_24 ?_
              refine wH_seq ?_
              refine wH_region ?_
              refine h_op (vI 1) (wt rfl) rfl ?_
              refine h_nil ?_
              replace hc_9 := some_inj hc_9
              subst hc_9
              replace hL_10 := some_inj hL_10
              subst hL_10
              replace hF := some_inj hF
              subst hF
              refine wH_ret ?_
              exact fin0 (.inr rfl) [(vI 1)] ⟨rfl, trivial⟩ rfl rfl rfl
            · refine wH_iff rfl hc_24 ?_
              refine wH_skip ?_
              refine wH_seq ?_
              refine wH_seq ?_
              refine wH_region ?_
              refine h_op (vI (k_3 : Int)) (wt rfl) rfl ?_
              refine h_op (vB ((k_3 : Int) == 0)) (wt rfl) rfl ?_
              refine h_nil ?_
              rcases cond_some hc_9 with ⟨hc_25, hc_9⟩ | ⟨hc_25, hc_9⟩
              · refine wH_ift rfl hc_25 ?_
                refine wH_exit ?_
                refine wH_region ?_
                refine h_opw (w64_next hD_6 hn_7) (wt rfl) rfl ?_
                refine h_op (vI ((k_3 + 1 : Nat) : Int)) (wt rfl) rfl ?_
                refine h_nil ?_
                replace hc_9 := some_inj hc_9
                subst hc_9
                exact loop_mk (k_3 + 1, l_4, ()) ⟨hL_10, drop_next hD_6⟩ (Nat.lt_succ_self _) rfl rfl
              · refine wH_iff rfl hc_25 ?_
                refine wH_skip ?_
                refine wH_seq ?_
                refine wH_region ?_
                refine h_op (vL Beat.enc l_1) (wt rfl) rfl ?_
                refine h_op (vI (k_3 : Int)) (wt rfl) rfl ?_
                refine h_op (vI (w64 ((k_3 : Int) - 1))) (wt rfl) rfl ?_
                obtain ⟨y_26, hy_27, hc_9⟩ := bind_some hc_9
                refine h_ia es26 rfl rfl hy_27 rfl (wt rfl) ?_
                refine h_ldc sz119 ag119 rfl (.d (.agg (Beat.enc y_26))) rfl (wt rfl) ?_
                refine h_alloc 0 (.inl rfl) z119 rfl (wt rfl) (fun n_28 => ?_)
                refine h_str 0 (.inl rfl) (fun _ _ _ => trivial) 1 sz119 rfl rfl [(vS y_26.Player), (vI y_26.At), (vI y_26.Clock)] rfl (wt rfl) ?_
                refine h_nil ?_
                refine wH_block ?_
                refine wH_seq ?_
                obtain ⟨v_29, h_30, hc_9⟩ := bind_some hc_9
                refine wH_join (β := Unit) (fun _ => ([(0, (vL Beat.enc l_1)), (4, (.ref n_13 0 0)), (5, (.ref n_28 0 0)), (9, (vL Beat.enc l_1)), (10, (vI (l_1.length : Int))), (11, (vI (k_3 : Int))), (39, (vB v_29))] : List (Nat × V))) (fun _ => ([(n_13, some (.cells 3 [(vS x_5.Player), (vI x_5.At), (vI x_5.Clock)])), (n_28, some (.cells 3 [(vS y_26.Player), (vI y_26.At), (vI y_26.Clock)]))] : Hp)) (fun _ => True) ?_ ?_
                · refine wH_region ?_
                  refine h_far pl119_0 rfl 0 rfl (wt rfl) ?_
                  refine h_ldr 0 0 (.inl rfl) (fun _ _ _ => trivial) sz9 ag9 rfl rfl (vS x_5.Player) rfl (wt rfl) ?_
                  refine h_far pl119_0 rfl 0 rfl (wt rfl) ?_
                  refine h_ldr 0 1 (.inl rfl) (fun _ _ _ => trivial) sz9 ag9 rfl rfl (vS y_26.Player) rfl (wt rfl) ?_
                  refine h_op (vB (sLt x_5.Player y_26.Player)) (wt rfl) rfl ?_
                  rcases cond_some h_30 with ⟨hc_31, h_30⟩ | ⟨hc_31, h_30⟩
                  · refine h_movb rfl hc_31 (wt rfl) ?_
                    refine h_skip (wg rfl rfl rfl) ?_
                    refine h_skip (wg rfl rfl rfl) ?_
                    refine h_skip (wg rfl rfl rfl) ?_
                    refine h_skip (wg rfl rfl rfl) ?_
                    refine h_skip (wg rfl rfl rfl) ?_
                    refine h_skip (wg rfl rfl rfl) ?_
                    refine h_skip (wn rfl rfl) ?_
                    refine h_skip (wn rfl rfl) ?_
                    refine h_skip (wn rfl rfl) ?_
                    refine h_skip (wn rfl rfl) ?_
                    refine h_skip (wn rfl rfl) ?_
                    refine h_skip (wg rfl rfl rfl) ?_
                    refine h_op (vB true) (wt rfl) rfl ?_
                    refine h_op (vB true) (wt rfl) rfl ?_
                    refine h_nil ?_
                    replace h_30 := some_inj h_30
                    subst h_30
                    exact cut_mk () trivial rfl rfl
                  · refine h_movb rfl hc_31 (wt rfl) ?_
                    refine h_far pl119_0 rfl 0 rfl (wg rfl rfl rfl) ?_
                    refine h_ldr 0 0 (.inl rfl) (fun _ _ _ => trivial) sz9 ag9 rfl rfl (vS x_5.Player) rfl (wg rfl rfl rfl) ?_
                    refine h_far pl119_0 rfl 0 rfl (wg rfl rfl rfl) ?_
                    refine h_ldr 0 1 (.inl rfl) (fun _ _ _ => trivial) sz9 ag9 rfl rfl (vS y_26.Player) rfl (wg rfl rfl rfl) ?_
                    refine h_op (vB (sEq x_5.Player y_26.Player)) (wg rfl rfl rfl) rfl ?_
                    rcases cond_some h_30 with ⟨hc_32, h_30⟩ | ⟨hc_32, h_30⟩
                    · refine h_movb rfl hc_32 (wg rfl rfl rfl) ?_
                      refine h_far pl119_1 rfl 1 rfl (wg rfl rfl rfl) ?_
                      refine h_ldr 0 0 (.inl rfl) (fun _ _ _ => trivial) sz3 ag3 rfl rfl (vI x_5.At) rfl (wg rfl rfl rfl) ?_
                      refine h_far pl119_1 rfl 1 rfl (wg rfl rfl rfl) ?_
                      refine h_ldr 0 1 (.inl rfl) (fun _ _ _ => trivial) sz3 ag3 rfl rfl (vI y_26.At) rfl (wg rfl rfl rfl) ?_
                      refine h_op (vB (decide (x_5.At ≤ y_26.At))) (wg rfl rfl rfl) rfl ?_
                      refine h_op (vB (decide (x_5.At ≤ y_26.At))) (wg rfl rfl rfl) rfl ?_
                      refine h_op (vB (decide (x_5.At ≤ y_26.At))) (wt rfl) rfl ?_
                      refine h_op (vB (decide (x_5.At ≤ y_26.At))) (wt rfl) rfl ?_
                      refine h_nil ?_
                      replace h_30 := some_inj h_30
                      subst h_30
                      exact cut_mk () trivial rfl rfl
                    · refine h_movb rfl hc_32 (wg rfl rfl rfl) ?_
                      refine h_skip (wg rfl rfl rfl) ?_
                      refine h_skip (wg rfl rfl rfl) ?_
                      refine h_skip (wg rfl rfl rfl) ?_
                      refine h_skip (wg rfl rfl rfl) ?_
                      refine h_skip (wg rfl rfl rfl) ?_
                      refine h_op (vB false) (wg rfl rfl rfl) rfl ?_
                      refine h_op (vB false) (wt rfl) rfl ?_
                      refine h_op (vB false) (wt rfl) rfl ?_
                      refine h_nil ?_
                      replace h_30 := some_inj h_30
                      subst h_30
                      exact cut_mk () trivial rfl rfl
                · rintro ⟨⟩ _ sl_ H_ hp_ hq_
                  refine wH_at _ hp_ hq_ ?_
                  rcases cond_some hc_9 with ⟨hc_33, hc_9⟩ | ⟨hc_33, hc_9⟩
                  · refine wH_ift rfl hc_33 ?_
                    refine wH_seq ?_
                    refine wH_region ?_
                    refine h_op (vI 7) (wt rfl) rfl ?_
                    refine h_nil ?_
                    replace hc_9 := some_inj hc_9
                    subst hc_9
                    replace hL_10 := some_inj hL_10
                    subst hL_10
                    replace hF := some_inj hF
                    subst hF
                    refine wH_ret ?_
                    exact fin0 (.inr rfl) [(vI 7)] ⟨rfl, trivial⟩ rfl rfl rfl
                  · refine wH_iff rfl hc_33 ?_
                    refine wH_seq ?_
                    obtain ⟨v_34, h_35, hc_9⟩ := bind_some hc_9
                    refine wH_join (β := Unit) (fun _ => ([(0, (vL Beat.enc l_1)), (9, (vL Beat.enc l_1)), (10, (vI (l_1.length : Int))), (11, (vI (k_3 : Int))), (59, (vB v_34))] : List (Nat × V))) (fun _ => ([(n_13, some (.cells 3 [(vS x_5.Player), (vI x_5.At), (vI x_5.Clock)])), (n_28, some (.cells 3 [(vS y_26.Player), (vI y_26.At), (vI y_26.Clock)]))] : Hp)) (fun _ => True) ?_ ?_
                    · refine wH_region ?_
                      refine h_far pl119_0 rfl 0 rfl (wt rfl) ?_
                      refine h_ldr 0 0 (.inl rfl) (fun _ _ _ => trivial) sz9 ag9 rfl rfl (vS x_5.Player) rfl (wt rfl) ?_
                      refine h_far pl119_0 rfl 0 rfl (wt rfl) ?_
                      refine h_ldr 0 1 (.inl rfl) (fun _ _ _ => trivial) sz9 ag9 rfl rfl (vS y_26.Player) rfl (wt rfl) ?_
                      refine h_op (vB (sEq x_5.Player y_26.Player)) (wt rfl) rfl ?_
                      rcases cond_some h_35 with ⟨hc_36, h_35⟩ | ⟨hc_36, h_35⟩
                      · refine h_movb rfl hc_36 (wt rfl) ?_
                        refine h_far pl119_2 rfl 2 rfl (wg rfl rfl rfl) ?_
                        refine h_ldr 0 0 (.inl rfl) (fun _ _ _ => trivial) sz3 ag3 rfl rfl (vI x_5.Clock) rfl (wg rfl rfl rfl) ?_
                        refine h_far pl119_2 rfl 2 rfl (wg rfl rfl rfl) ?_
                        refine h_ldr 0 1 (.inl rfl) (fun _ _ _ => trivial) sz3 ag3 rfl rfl (vI y_26.Clock) rfl (wg rfl rfl rfl) ?_
                        refine h_op (vB (decide (x_5.Clock ≤ y_26.Clock))) (wg rfl rfl rfl) rfl ?_
                        refine h_op (vB (decide (x_5.Clock ≤ y_26.Clock))) (wt rfl) rfl ?_
                        refine h_op (vB (decide (x_5.Clock ≤ y_26.Clock))) (wt rfl) rfl ?_
                        refine h_nil ?_
                        replace h_35 := some_inj h_35
                        subst h_35
                        exact cut_mk () trivial rfl rfl
                      · refine h_movb rfl hc_36 (wt rfl) ?_
                        refine h_skip (wg rfl rfl rfl) ?_
                        refine h_skip (wg rfl rfl rfl) ?_
                        refine h_skip (wg rfl rfl rfl) ?_
                        refine h_skip (wg rfl rfl rfl) ?_
                        refine h_skip (wg rfl rfl rfl) ?_
                        refine h_op (vB false) (wt rfl) rfl ?_
                        refine h_op (vB false) (wt rfl) rfl ?_
                        refine h_nil ?_
                        replace h_35 := some_inj h_35
                        subst h_35
                        exact cut_mk () trivial rfl rfl
                    · rintro ⟨⟩ _ sl_ H_ hp_ hq_
                      refine wH_at _ hp_ hq_ ?_
                      rcases cond_some hc_9 with ⟨hc_37, hc_9⟩ | ⟨hc_37, hc_9⟩
                      · refine wH_ift rfl hc_37 ?_
                        refine wH_seq ?_
                        refine wH_region ?_
                        refine h_op (vI 16) (wt rfl) rfl ?_
                        refine h_nil ?_
                        replace hc_9 := some_inj hc_9
                        subst hc_9
                        replace hL_10 := some_inj hL_10
                        subst hL_10
                        replace hF := some_inj hF
                        subst hF
                        refine wH_ret ?_
                        exact fin0 (.inr rfl) [(vI 16)] ⟨rfl, trivial⟩ rfl rfl rfl
                      · refine wH_iff rfl hc_37 ?_
                        refine wH_skip ?_
                        refine wH_region ?_
                        refine h_opw (w64_next hD_6 hn_7) (wt rfl) rfl ?_
                        refine h_op (vI ((k_3 + 1 : Nat) : Int)) (wt rfl) rfl ?_
                        refine h_nil ?_
                        replace hc_9 := some_inj hc_9
                        subst hc_9
                        exact loop_mk (k_3 + 1, l_4, ()) ⟨hL_10, drop_next hD_6⟩ (Nat.lt_succ_self _) rfl rfl
    · rintro s_8 ho_ sl_ H_ hp_ hq_
      subst ho_
      refine wH_at _ hp_ hq_ ?_
      refine wH_seq ?_
      refine wH_region ?_
      refine h_op (vI 0) (wt rfl) rfl ?_
      refine h_nil ?_
      replace hF := some_inj hF
      subst hF
      refine wH_ret ?_
      exact fin0 (.inr rfl) [(vI 0)] ⟨rfl, trivial⟩ rfl rfl rfl
theorem law_when_ok {is_1 : Bool} {e_2 : Int} {r : Int} (hF : law_when is_1 e_2 = some r) :
    FnM Try.prog 17 [(vB is_1), (vI e_2)] [] (vI r) [] := by
  refine FnM.of_wH ⟨Try.prog, 7, [], []⟩ rfl Try.func17 rfl rfl (Nat.le_of_ble_eq_true rfl) (by kernel_rfl) ?_
  unfold law_when at hF
  refine wH_seq ?_
  refine wH_region ?_
  refine h_op (vI 0) (wt rfl) rfl ?_
  refine h_nil ?_
  refine wH_seq ?_
  refine wH_seq ?_
  refine wH_region ?_
  refine h_op (vB is_1) (wt rfl) rfl ?_
  refine h_nil ?_
  rcases cond_some hF with ⟨hc_3, hF⟩ | ⟨hc_3, hF⟩
  · refine wH_ift rfl hc_3 ?_
    refine wH_seq ?_
    refine wH_region ?_
    refine h_op (vI e_2) (wt rfl) rfl ?_
    refine h_op (vI e_2) (wt rfl) rfl ?_
    refine h_nil ?_
    replace hF := some_inj hF
    subst hF
    refine wH_ret ?_
    exact fin0 (.inr rfl) [(vI e_2)] ⟨rfl, trivial⟩ rfl rfl rfl
  · refine wH_iff rfl hc_3 ?_
    refine wH_skip ?_
    refine wH_seq ?_
    refine wH_region ?_
    refine h_op (vI 0) (wt rfl) rfl ?_
    refine h_nil ?_
    replace hF := some_inj hF
    subst hF
    refine wH_ret ?_
    exact fin0 (.inr rfl) [(vI 0)] ⟨rfl, trivial⟩ rfl rfl rfl
theorem law_errs_ok {l_1 : (List Int)} {r : Int} (hF : law_errs l_1 = some r) :
    FnM Try.prog 16 [(vL eI l_1)] [] (vI r) [] := by
  refine FnM.of_wH ⟨Try.prog, 15, [], []⟩ rfl Try.func16 rfl rfl (Nat.le_of_ble_eq_true rfl) (by kernel_rfl) ?_
  unfold law_errs at hF
  refine wH_seq ?_
  refine wH_region ?_
  refine h_op (vI 0) (wt rfl) rfl ?_
  refine h_nil ?_
  refine wH_seq ?_
  refine wH_seq ?_
  refine wH_region ?_
  refine h_op (vL eI l_1) (wt rfl) rfl ?_
  refine h_len un129 rfl (wt rfl) ?_
  refine h_op (vI 0) (wt rfl) rfl ?_
  refine h_nil ?_
  obtain ⟨o_10, hj_11, hF⟩ := bind_some hF
  obtain ⟨hn_6, hj_11⟩ := forL_some hj_11
  refine wH_join (β := (Unit)) (fun (s_7 : Unit) => ([] : List (Nat × V))) (fun (s_7 : Unit) => ([] : Hp)) (fun p => o_10 = .go p) ?_ ?_
  · refine wH_block ?_
    refine wH_loop (β := Nat × (List Int) × (Unit)) (fun p => (fun (k_2 : Nat) (l_3 : List Int) (s_7 : Unit) => ([(5, (vL eI l_1)), (6, (vI (l_1.length : Int))), (7, (vI (k_2 : Int)))] : List (Nat × V))) p.1 p.2.1 p.2.2) (fun p => (fun (k_2 : Nat) (l_3 : List Int) (s_7 : Unit) => ([] : Hp)) p.1 p.2.1 p.2.2) (fun p => forR (fun k x s => law_errs_L1 k x s) p.2.1 p.1 p.2.2 = some o_10 ∧ (l_1).drop p.1 = p.2.1) (fun p => p.2.1.length) (0, l_1, ()) ⟨hj_11, rfl⟩ rfl rfl ?_
    rintro ⟨k_2, l_3, s_7⟩ ⟨hL_9, hD_5⟩
    dsimp only at hL_9 hD_5
    cases l_3 with
    | nil =>
      replace hL_9 := some_inj hL_9
      subst hL_9
      refine wH_seq (wH_region (h_op (vB (decide ((k_2 : Int) < (l_1.length : Int)))) (wt rfl) rfl (h_nil ?_)))
      refine wH_seq (wH_iff rfl (drop_nil hD_5) (wH_exit ?_))
      exact cut_mk (s_7) rfl rfl rfl
    | cons x_4 l_3 =>
      obtain ⟨c_, hc_8, hL_9⟩ := bind_some hL_9
      refine wH_seq (wH_region (h_op (vB (decide ((k_2 : Int) < (l_1.length : Int)))) (wt rfl) rfl (h_nil ?_)))
      refine wH_seq (wH_ift rfl (drop_cons hD_5) (wH_skip ?_))
      unfold law_errs_L1 at hc_8
      refine wH_seq ?_
      refine wH_block ?_
      refine wH_seq ?_
      refine wH_region ?_
      refine h_ia es129 rfl rfl (drop_idx hD_5) rfl (wt rfl) ?_
      refine h_ldc sz30 ag30 rfl (vI x_4) rfl (wt rfl) ?_
      refine h_op (vI x_4) (wt rfl) rfl ?_
      refine h_nil ?_
      refine wH_seq ?_
      refine wH_region ?_
      refine h_op (vI x_4) (wt rfl) rfl ?_
      refine h_op (vB (x_4 != 0)) (wt rfl) rfl ?_
      refine h_nil ?_
      rcases cond_some hc_8 with ⟨hc_12, hc_8⟩ | ⟨hc_12, hc_8⟩
      · refine wH_ift rfl hc_12 ?_
        refine wH_seq ?_
        refine wH_region ?_
        refine h_op (vI x_4) (wt rfl) rfl ?_
        refine h_op (vI x_4) (wt rfl) rfl ?_
        refine h_nil ?_
        replace hc_8 := some_inj hc_8
        subst hc_8
        replace hL_9 := some_inj hL_9
        subst hL_9
        replace hF := some_inj hF
        subst hF
        refine wH_ret ?_
        exact fin0 (.inr rfl) [(vI x_4)] ⟨rfl, trivial⟩ rfl rfl rfl
      · refine wH_iff rfl hc_12 ?_
        refine wH_skip ?_
        refine wH_region ?_
        refine h_opw (w64_next hD_5 hn_6) (wt rfl) rfl ?_
        refine h_op (vI ((k_2 + 1 : Nat) : Int)) (wt rfl) rfl ?_
        refine h_nil ?_
        replace hc_8 := some_inj hc_8
        subst hc_8
        exact loop_mk (k_2 + 1, l_3, ()) ⟨hL_9, drop_next hD_5⟩ (Nat.lt_succ_self _) rfl rfl
  · rintro s_7 ho_ sl_ H_ hp_ hq_
    subst ho_
    refine wH_at _ hp_ hq_ ?_
    refine wH_seq ?_
    refine wH_region ?_
    refine h_op (vI 0) (wt rfl) rfl ?_
    refine h_nil ?_
    replace hF := some_inj hF
    subst hF
    refine wH_ret ?_
    exact fin0 (.inr rfl) [(vI 0)] ⟨rfl, trivial⟩ rfl rfl rfl
theorem law_momentFault_ok {atv_1 : Int} {r : Int} (hF : law_momentFault atv_1 = some r) :
    FnM Try.prog 19 [(vI atv_1)] [] (vI r) [] := by
  refine FnM.of_wH ⟨Try.prog, 7, [], []⟩ rfl Try.func19 rfl rfl (Nat.le_of_ble_eq_true rfl) (by kernel_rfl) ?_
  unfold law_momentFault at hF
  refine wH_seq ?_
  refine wH_region ?_
  refine h_op (vI 0) (wt rfl) rfl ?_
  refine h_nil ?_
  refine wH_seq ?_
  refine wH_region ?_
  refine h_op (vI atv_1) (wt rfl) rfl ?_
  obtain ⟨r_2, hr_3, hF⟩ := bind_some hF
  refine h_call0 (ref_Moment_ok hr_3) rfl hb80 rfl rfl rfl rfl (wt rfl) ?_
  refine h_op (vB (!r_2)) (wt rfl) rfl ?_
  obtain ⟨r_4, hr_5, hF⟩ := bind_some hF
  refine h_call0 (law_when_ok hr_5) rfl hb17 rfl rfl rfl rfl (wt rfl) ?_
  refine h_op (vI r_4) (wt rfl) rfl ?_
  refine h_nil ?_
  replace hF := some_inj hF
  subst hF
  refine wH_ret ?_
  exact fin0 (.inr rfl) [(vI r_4)] ⟨rfl, trivial⟩ rfl rfl rfl
theorem slices_Clone_api_Beat_api_Beat_ok {s_1 : (List Beat)} {r : (List Beat)} (hF : slices_Clone_api_Beat_api_Beat s_1 = some r) :
    FnM Try.prog 152 [(vL Beat.enc s_1)] [] (vL Beat.enc r) [] := by
  refine FnM.of_wH ⟨Try.prog, 8, [], []⟩ rfl Try.func152 rfl rfl (Nat.le_of_ble_eq_true rfl) (by kernel_rfl) ?_
  unfold slices_Clone_api_Beat_api_Beat at hF
  refine wH_seq ?_
  refine wH_region ?_
  refine h_op .nil (wt rfl) rfl ?_
  refine h_nil ?_
  refine wH_seq ?_
  refine wH_seq ?_
  refine wH_region ?_
  refine h_op (vL Beat.enc s_1) (wt rfl) rfl ?_
  refine h_nileq un26 rfl (wt rfl) (fun b_2 hb_3 => ?_)
  refine h_nil ?_
  cases b_2 with
  | true =>
    refine wH_ift rfl rfl ?_
    obtain rfl := hb_3 rfl
    replace hF := clone_nil hF
    refine wH_seq ?_
    refine wH_region ?_
    refine h_op .nil (wt rfl) rfl ?_
    refine h_nil ?_
    replace hF := some_inj hF
    subst hF
    refine wH_ret ?_
    exact fin0 (.inr rfl) [.nil] ⟨rfl, trivial⟩ rfl rfl rfl
  | false =>
    refine wH_iff rfl rfl ?_
    refine wH_skip ?_
    refine wH_seq ?_
    refine wH_region ?_
    refine h_lit0 es26 ez26 rfl (wt rfl) ?_
    refine h_op (vL Beat.enc s_1) (wt rfl) rfl ?_
    obtain ⟨a_4, hz_5, hF⟩ := bind_some hF
    refine h_appn 0 (.inl rfl) el26 el26 sz119 z119 rfl (by decide) by119 (by decide) (fun _ => rfl) rfl rfl hz_5 (wt rfl) (fun n_6 => ?_)
    refine h_op (gV n_6 3 a_4) (wt rfl) rfl ?_
    refine h_nil ?_
    refine wH_frozg 0 rfl ?_
    refine wH_cog 2 0 rfl rfl ?_
    refine wH_cog 7 0 rfl rfl ?_
    replace hF := some_inj hF
    subst hF
    refine wH_ret ?_
    exact fin0 (.inr rfl) [(vL Beat.enc a_4)] ⟨rfl, trivial⟩ rfl rfl rfl
theorem ref_beatsOf_1_ok {b_1 : Beat} {p_2 : ByteArray} {r : Bool} (hF : ref_beatsOf_1 b_1 p_2 = some r) :
    FnM Try.prog 153 [(.d (.agg (Beat.enc b_1))), (.ref (extN 0) 0 0)] [(.cells 1 [(vS p_2)])] (vB r) [some (.cells 1 [(vS p_2)])] := by
  refine FnM.of_wH ⟨Try.prog, 8, [], []⟩ rfl Try.func153 rfl rfl (Nat.le_of_ble_eq_true rfl) (by kernel_rfl) ?_
  unfold ref_beatsOf_1 at hF
  refine wH_seq ?_
  refine wH_region ?_
  refine h_box 0 (.inl rfl) [(vS b_1.Player), (vI b_1.At), (vI b_1.Clock)] rfl rfl (wt rfl) (fun n_3 => ?_)
  refine h_op (vB false) (wt rfl) rfl ?_
  refine h_nil ?_
  refine wH_seq ?_
  refine wH_region ?_
  refine h_far pl119_0 rfl 0 rfl (wt rfl) ?_
  refine h_ldr 0 1 (.inl rfl) (fun _ _ _ => trivial) sz9 ag9 rfl rfl (vS b_1.Player) rfl (wt rfl) ?_
  refine h_ldr 0 0 (.inl rfl) (fun _ _ _ => trivial) sz9 ag9 rfl rfl (vS p_2) rfl (wt rfl) ?_
  refine h_op (vB (sNe b_1.Player p_2)) (wt rfl) rfl ?_
  refine h_op (vB (sNe b_1.Player p_2)) (wt rfl) rfl ?_
  refine h_nil ?_
  replace hF := some_inj hF
  subst hF
  refine wH_ret ?_
  exact finB (.inr rfl) [(vB (sNe b_1.Player p_2))] _ [0] [extN 0] ⟨rfl, trivial⟩ (.cons (co_data rfl rfl) (.nil)) (by kernel_rfl) ⟨(by kernel_rfl), trivial⟩ (by decide) (by kernel_rfl)
theorem slices_IndexFunc_api_Beat_api_Beat_v1_ok {s_1 : (List Beat)} {f2_3 : ByteArray} {r : Int} (hF : slices_IndexFunc_api_Beat_api_Beat_v1 s_1 f2_3 = some r) :
    FnM Try.prog 184 [(dV (extN 1) 3 s_1), (.fn 153 [(.ref (extN 0) 0 0)])] (([(.cells 1 [(vS f2_3)])] : List Box) ++ gI 3 Beat.enc s_1) (vI r) (([(.cells 1 [(vS f2_3)])] : List Box).map some ++ gT s_1 (gB 3 Beat.enc s_1)) := by
  refine FnM.of_wHv ⟨Try.prog, 19, [], []⟩ rfl Try.func184 rfl rfl (Nat.le_of_ble_eq_true rfl) (by kernel_rfl) ?_
  unfold slices_IndexFunc_api_Beat_api_Beat_v1 at hF
  refine wH_seq ?_
  refine wH_region ?_
  refine h_op (vI 0) (wt rfl) rfl ?_
  refine h_nil ?_
  refine wH_seq ?_
  refine wH_seq ?_
  refine wH_region ?_
  refine h_op (dV (extN 1) 3 s_1) (wt rfl) rfl ?_
  refine h_lend un26 rfl (wt rfl) ?_
  refine h_op (vI 0) (wt rfl) rfl ?_
  refine h_nil ?_
  obtain ⟨o_12, hj_13, hF⟩ := bind_some hF
  obtain ⟨hn_8, hj_13⟩ := forL_some hj_13
  refine wH_join (β := (Unit)) (fun (s_9 : Unit) => ([] : List (Nat × V))) (fun (s_9 : Unit) => ([((extN 0), some (.cells 1 [(vS f2_3)])), ((extN 1), gB 3 Beat.enc s_1)] : Hp)) (fun p => o_12 = .go p) ?_ ?_
  · refine wH_block ?_
    refine wH_loop (β := Nat × (List Nat) × (Unit)) (fun p => (fun (k_4 : Nat) (l_5 : List Nat) (s_9 : Unit) => ([(0, (dV (extN 1) 3 s_1)), (1, (.fn 153 [(.ref (extN 0) 0 0)])), (7, (vI (s_1.length : Int))), (8, (vI (k_4 : Int)))] : List (Nat × V))) p.1 p.2.1 p.2.2) (fun p => (fun (k_4 : Nat) (l_5 : List Nat) (s_9 : Unit) => ([((extN 0), some (.cells 1 [(vS f2_3)])), ((extN 1), gB 3 Beat.enc s_1)] : Hp)) p.1 p.2.1 p.2.2) (fun p => forR (fun k x s => slices_IndexFunc_api_Beat_api_Beat_v1_L1 s_1 f2_3 k x s) p.2.1 p.1 p.2.2 = some o_12 ∧ ((List.range ((s_1.length : Int)).toNat)).drop p.1 = p.2.1) (fun p => p.2.1.length) (0, (List.range ((s_1.length : Int)).toNat), ()) ⟨hj_13, rfl⟩ rfl rfl ?_
    rintro ⟨k_4, l_5, s_9⟩ ⟨hL_11, hD_7⟩
    dsimp only at hL_11 hD_7
    cases l_5 with
    | nil =>
      replace hL_11 := some_inj hL_11
      subst hL_11
      refine wH_seq (wH_region (h_op (vB (decide ((k_4 : Int) < (s_1.length : Int)))) (wt rfl) rfl (h_nil ?_)))
      refine wH_seq (wH_iff rfl (range_nil hD_7) (wH_exit ?_))
      exact cut_mk (s_9) rfl rfl rfl
    | cons x_6 l_5 =>
      obtain ⟨c_, hc_10, hL_11⟩ := bind_some hL_11
      refine wH_seq (wH_region (h_op (vB (decide ((k_4 : Int) < (s_1.length : Int)))) (wt rfl) rfl (h_nil ?_)))
      refine wH_seq (wH_ift rfl (range_cons hD_7) (wH_skip ?_))
      unfold slices_IndexFunc_api_Beat_api_Beat_v1_L1 at hc_10
      refine wH_seq ?_
      refine wH_block ?_
      refine wH_seq ?_
      refine wH_region ?_
      refine h_op (vI (k_4 : Int)) (wt rfl) rfl ?_
      refine h_op (vI (k_4 : Int)) (wt rfl) rfl ?_
      refine h_nil ?_
      refine wH_seq ?_
      refine wH_region ?_
      refine h_op (.fn 153 [(.ref (extN 0) 0 0)]) (wt rfl) rfl ?_
      refine h_op (dV (extN 1) 3 s_1) (wt rfl) rfl ?_
      refine h_op (vI (k_4 : Int)) (wt rfl) rfl ?_
      obtain ⟨_, hi_14, hc_10⟩ := bind_some hc_10
      refine h_iavd es26 rfl rfl (inR_0 hi_14) (inR_lt hi_14) (wt rfl) ?_
      obtain ⟨e_15, hy_16, hc_10⟩ := bind_some hc_10
      refine h_ldvg 0 1 (.inl rfl) (fun _ _ _ => trivial) sz119 ag119 rfl rfl hy_16 (.d (.agg (Beat.enc e_15))) rfl (wt rfl) ?_
      obtain ⟨r_17, hr_18, hc_10⟩ := bind_some hc_10
      refine h_callq 0 [0] (.inl rfl) (fun _ _ _ => trivial) (ref_beatsOf_1_ok hr_18) rfl hb153 rfl (by kernel_rfl) (by kernel_rfl) (by kernel_rfl) (by kernel_rfl) (by kernel_rfl) (by kernel_rfl) (by kernel_rfl) (by decide) (by kernel_rfl) (wt rfl) (vB r_17) (by kernel_rfl) ([((extN 0), some (.cells 1 [(vS f2_3)])), ((extN 1), gB 3 Beat.enc s_1)] : Hp) (by kernel_rfl) ?_
      refine h_nil ?_
      rcases cond_some hc_10 with ⟨hc_20, hc_10⟩ | ⟨hc_20, hc_10⟩
      · refine wH_ift rfl hc_20 ?_
        refine wH_seq ?_
        refine wH_region ?_
        refine h_op (vI (k_4 : Int)) (wt rfl) rfl ?_
        refine h_op (vI (k_4 : Int)) (wt rfl) rfl ?_
        refine h_nil ?_
        replace hc_10 := some_inj hc_10
        subst hc_10
        replace hL_11 := some_inj hL_11
        subst hL_11
        replace hF := some_inj hF
        subst hF
        refine wH_ret ?_
        exact finV (bs := ([(.cells 1 [(vS f2_3)])] : List Box)) (os := ([(.cells 1 [(vS f2_3)])] : List Box)) (xs := s_1) (o := gB 3 Beat.enc s_1) (.inr rfl) [(vI (k_4 : Int))] ⟨rfl, trivial⟩ rfl rfl rfl rfl rfl (by kernel_rfl) gB_ok rfl
      · refine wH_iff rfl hc_20 ?_
        refine wH_skip ?_
        refine wH_region ?_
        refine h_opw (w64_nextr hD_7 hn_8) (wt rfl) rfl ?_
        refine h_op (vI ((k_4 + 1 : Nat) : Int)) (wt rfl) rfl ?_
        refine h_nil ?_
        replace hc_10 := some_inj hc_10
        subst hc_10
        exact loop_mk (k_4 + 1, l_5, ()) ⟨hL_11, drop_next hD_7⟩ (Nat.lt_succ_self _) rfl rfl
  · rintro s_9 ho_ sl_ H_ hp_ hq_
    subst ho_
    refine wH_at _ hp_ hq_ ?_
    refine wH_seq ?_
    refine wH_region ?_
    refine h_op (vI (-1)) (wt rfl) rfl ?_
    refine h_nil ?_
    replace hF := some_inj hF
    subst hF
    refine wH_ret ?_
    exact finV (bs := ([(.cells 1 [(vS f2_3)])] : List Box)) (os := ([(.cells 1 [(vS f2_3)])] : List Box)) (xs := s_1) (o := gB 3 Beat.enc s_1) (.inr rfl) [(vI (-1))] ⟨rfl, trivial⟩ rfl rfl rfl rfl rfl (by kernel_rfl) gB_ok rfl
theorem slices_DeleteFunc_api_Beat_api_Beat_v1_ok {s_1 : (List Beat)} {del2_3 : ByteArray} {r : (List Beat)} (hF : slices_DeleteFunc_api_Beat_api_Beat_v1 s_1 del2_3 = some r) :
    FnM Try.prog 151 [(dV (extN 1) 3 s_1), (.fn 153 [(.ref (extN 0) 0 0)])] (([(.cells 1 [(vS del2_3)])] : List Box) ++ gI 3 Beat.enc s_1) (vL Beat.enc r) (([(.cells 1 [(vS del2_3)])] : List Box).map some ++ gT s_1 none) := by
  refine FnM.of_wHv ⟨Try.prog, 42, [], []⟩ rfl Try.func151 rfl rfl (Nat.le_of_ble_eq_true rfl) (by kernel_rfl) ?_
  unfold slices_DeleteFunc_api_Beat_api_Beat_v1 at hF
  refine wH_seq ?_
  refine wH_region ?_
  refine h_op .nil (wt rfl) rfl ?_
  refine h_nil ?_
  refine wH_seq ?_
  refine wH_region ?_
  refine h_op (dV (extN 1) 3 s_1) (wt rfl) rfl ?_
  refine h_op (.fn 153 [(.ref (extN 0) 0 0)]) (wt rfl) rfl ?_
  obtain ⟨r_4, hr_5, hF⟩ := bind_some hF
  refine h_callv 0 [0] 1 0 (.inl rfl) (fun _ _ _ => trivial) (slices_IndexFunc_api_Beat_api_Beat_v1_ok hr_5) rfl hb184 rfl rfl rfl (by kernel_rfl) rfl (.inr (.inl rfl)) rfl (by kernel_rfl) (by kernel_rfl) (by kernel_rfl) (by kernel_rfl) rfl (by decide) (by kernel_rfl) gB_ok (gB_ho rfl) (wt rfl) ([((extN 0), some (.cells 1 [(vS del2_3)])), ((extN 1), gB 3 Beat.enc s_1)] : Hp) (by kernel_rfl) ?_
  refine h_op (vI r_4) (wt rfl) rfl ?_
  refine h_nil ?_
  refine wH_seq ?_
  refine wH_seq ?_
  refine wH_region ?_
  refine h_op (vI r_4) (wt rfl) rfl ?_
  refine h_op (vB (r_4 == (-1))) (wt rfl) rfl ?_
  refine h_nil ?_
  rcases cond_some hF with ⟨hc_6, hF⟩ | ⟨hc_6, hF⟩
  · refine wH_ift rfl hc_6 ?_
    refine wH_seq ?_
    refine wH_region ?_
    refine h_op (dV (extN 1) 3 s_1) (wt rfl) rfl ?_
    refine h_op (dV (extN 1) 3 s_1) (wt rfl) rfl ?_
    refine h_nil ?_
    refine wH_frozg 1 rfl ?_
    refine wH_cod 0 1 rfl rfl ?_
    refine wH_cod 4 1 rfl rfl ?_
    refine wH_cod 8 1 rfl rfl ?_
    refine wH_cod 13 1 rfl rfl ?_
    refine wH_drop (i := 1) rfl ?_
    replace hF := some_inj hF
    subst hF
    refine wH_ret ?_
    exact finV (bs := ([(.cells 1 [(vS del2_3)])] : List Box)) (os := ([(.cells 1 [(vS del2_3)])] : List Box)) (xs := s_1) (o := none) (.inr rfl) [(vL Beat.enc s_1)] ⟨rfl, trivial⟩ rfl rfl rfl rfl rfl (by kernel_rfl) none_ok rfl
  · refine wH_iff rfl hc_6 ?_
    refine wH_skip ?_
    refine wH_seq ?_
    refine wH_seq ?_
    refine wH_region ?_
    refine h_op (vI r_4) (wt rfl) rfl ?_
    refine h_op (vI (w64 (r_4 + 1))) (wt rfl) rfl ?_
    refine h_op (vI (w64 (r_4 + 1))) (wt rfl) rfl ?_
    refine h_nil ?_
    obtain ⟨o_15, hj_16, hF⟩ := bind_some hF
    obtain ⟨nq_34, hj_16⟩ := loopO_iter hj_16
    refine wH_join (β := ((List Beat) × Int × Int)) (fun (s_12 : (List Beat) × Int × Int) => ([(0, (dV (extN 1) 3 s_12.1)), (5, (vI s_12.2.1))] : List (Nat × V))) (fun (s_12 : (List Beat) × Int × Int) => ([((extN 0), some (.cells 1 [(vS del2_3)])), ((extN 1), gB 3 Beat.enc s_12.1)] : Hp)) (fun p => o_15 = .go p) ?_ ?_
    · refine wH_block ?_
      refine wH_loop (β := Nat × ((List Beat) × Int × Int)) (fun p => (fun (k_7 : Nat) (s_12 : (List Beat) × Int × Int) => ([(0, (dV (extN 1) 3 s_12.1)), (1, (.fn 153 [(.ref (extN 0) 0 0)])), (5, (vI s_12.2.1)), (6, (vI s_12.2.2))] : List (Nat × V))) p.1 p.2) (fun p => (fun (k_7 : Nat) (s_12 : (List Beat) × Int × Int) => ([((extN 0), some (.cells 1 [(vS del2_3)])), ((extN 1), gB 3 Beat.enc s_12.1)] : Hp)) p.1 p.2) (fun p => iterN (fun s => slices_DeleteFunc_api_Beat_api_Beat_v1_L1 del2_3 s) p.1 p.2 = some o_15) (fun p => p.1) (nq_34, (s_1, r_4, (w64 (r_4 + 1)))) hj_16 rfl rfl ?_
      rintro ⟨k_7, s_12⟩ hL_14
      dsimp only at hL_14
      cases k_7 with
      | zero => cases hL_14
      | succ k_7 =>
        obtain ⟨c_, hc_13, hL_14⟩ := bind_some hL_14
        unfold slices_DeleteFunc_api_Beat_api_Beat_v1_L1 at hc_13
        refine wH_seq ?_
        refine wH_seq ?_
        refine wH_region ?_
        refine h_op (vI s_12.2.2) (wt rfl) rfl ?_
        refine h_op (dV (extN 1) 3 s_12.1) (wt rfl) rfl ?_
        refine h_lend un26 rfl (wt rfl) ?_
        refine h_op (vB (decide (s_12.2.2 < (s_12.1.length : Int)))) (wt rfl) rfl ?_
        refine h_nil ?_
        rcases cond_some hc_13 with ⟨hc_17, hc_13⟩ | ⟨hc_17, hc_13⟩
        · refine wH_ift rfl hc_17 ?_
          refine wH_skip ?_
          refine wH_seq ?_
          refine wH_block ?_
          refine wH_seq ?_
          refine wH_region ?_
          refine h_op (dV (extN 1) 3 s_12.1) (wt rfl) rfl ?_
          refine h_op (vI s_12.2.2) (wt rfl) rfl ?_
          obtain ⟨_, hi_18, hc_13⟩ := bind_some hc_13
          refine h_iavd es26 rfl rfl (inR_0 hi_18) (inR_lt hi_18) (wt rfl) ?_
          obtain ⟨e_19, hy_20, hc_13⟩ := bind_some hc_13
          refine h_ldvg 0 1 (.inl rfl) (fun _ _ _ => trivial) sz119 ag119 rfl rfl hy_20 (.d (.agg (Beat.enc e_19))) rfl (wt rfl) ?_
          refine h_alloc 0 (.inl rfl) z119 rfl (wt rfl) (fun n_21 => ?_)
          refine h_str 0 (.inl rfl) (fun _ _ _ => trivial) 2 sz119 rfl rfl [(vS e_19.Player), (vI e_19.At), (vI e_19.Clock)] rfl (wt rfl) ?_
          refine h_nil ?_
          refine wH_seq ?_
          refine wH_region ?_
          refine h_op (.fn 153 [(.ref (extN 0) 0 0)]) (wt rfl) rfl ?_
          refine h_ldr 0 2 (.inl rfl) (fun _ _ _ => trivial) sz119 ag119 rfl rfl (.d (.agg (Beat.enc e_19))) rfl (wt rfl) ?_
          obtain ⟨r_22, hr_23, hc_13⟩ := bind_some hc_13
          refine h_callq 0 [0] (.inl rfl) (fun _ _ _ => trivial) (ref_beatsOf_1_ok hr_23) rfl hb153 rfl (by kernel_rfl) (by kernel_rfl) (by kernel_rfl) (by kernel_rfl) (by kernel_rfl) (by kernel_rfl) (by kernel_rfl) (by decide) (by kernel_rfl) (wt rfl) (vB r_22) (by kernel_rfl) ([((extN 0), some (.cells 1 [(vS del2_3)])), ((extN 1), gB 3 Beat.enc s_12.1), (n_21, some (.cells 3 [(vS e_19.Player), (vI e_19.At), (vI e_19.Clock)]))] : Hp) (by kernel_rfl) ?_
          refine h_op (vB (!r_22)) (wt rfl) rfl ?_
          refine h_nil ?_
          obtain ⟨v_25, h_26, hc_13⟩ := bind_some hc_13
          refine wH_join (β := Unit) (fun _ => ([(0, (dV (extN 1) 3 v_25.1)), (1, (.fn 153 [(.ref (extN 0) 0 0)])), (5, (vI v_25.2)), (6, (vI s_12.2.2))] : List (Nat × V))) (fun _ => ([((extN 0), some (.cells 1 [(vS del2_3)])), ((extN 1), gB 3 Beat.enc v_25.1), (n_21, some (.cells 3 [(vS e_19.Player), (vI e_19.At), (vI e_19.Clock)]))] : Hp)) (fun _ => True) ?_ ?_
          · rcases cond_some h_26 with ⟨hc_27, h_26⟩ | ⟨hc_27, h_26⟩
            · refine wH_ift rfl hc_27 ?_
              refine wH_seq ?_
              refine wH_region ?_
              refine h_op (dV (extN 1) 3 s_12.1) (wt rfl) rfl ?_
              refine h_op (vI s_12.2.1) (wt rfl) rfl ?_
              refine h_ldr 0 2 (.inl rfl) (fun _ _ _ => trivial) sz119 ag119 rfl rfl (.d (.agg (Beat.enc e_19))) rfl (wt rfl) ?_
              obtain ⟨_, hi_28, h_26⟩ := bind_some h_26
              refine h_iavd es26 rfl rfl (inR_0 hi_28) (inR_lt hi_28) (wt rfl) ?_
              obtain ⟨e_29, hy_30, h_26⟩ := bind_some h_26
              refine h_stvg 0 (.inl rfl) (fun _ _ _ => trivial) 1 sz119 rfl rfl hy_30 e_19 rfl (wt rfl) ?_
              refine h_re (v' := (dV (extN 1) 3 (s_12.1.set (0 + (s_12.2.1).toNat) e_19))) 0 rfl (dV_len (by simp)) ?_
              refine h_re (v' := (dV (extN 1) 3 (s_12.1.set (0 + (s_12.2.1).toNat) e_19))) 17 rfl (dV_len (by simp)) ?_
              refine h_re (v' := (dV (extN 1) 3 (s_12.1.set (0 + (s_12.2.1).toNat) e_19))) 22 rfl (dV_len (by simp)) ?_
              refine h_re (v' := (dV (extN 1) 3 (s_12.1.set (0 + (s_12.2.1).toNat) e_19))) 30 rfl (dV_len (by simp)) ?_
              refine h_nil ?_
              refine wH_region ?_
              refine h_op (vI s_12.2.1) (wt rfl) rfl ?_
              refine h_op (vI (w64 (s_12.2.1 + 1))) (wt rfl) rfl ?_
              refine h_op (vI (w64 (s_12.2.1 + 1))) (wt rfl) rfl ?_
              refine h_nil ?_
              replace h_26 := some_inj h_26
              subst h_26
              exact cut_mk () trivial rfl rfl
            · refine wH_iff rfl hc_27 ?_
              refine wH_skip ?_
              replace h_26 := some_inj h_26
              subst h_26
              exact cut_mk () trivial rfl rfl
          · rintro ⟨⟩ _ sl_ H_ hp_ hq_
            refine wH_at _ hp_ hq_ ?_
            refine wH_region ?_
            refine h_op (vI s_12.2.2) (wt rfl) rfl ?_
            refine h_op (vI (w64 (s_12.2.2 + 1))) (wt rfl) rfl ?_
            refine h_op (vI (w64 (s_12.2.2 + 1))) (wt rfl) rfl ?_
            refine h_nil ?_
            replace hc_13 := some_inj hc_13
            subst hc_13
            exact loop_mk (k_7, (v_25.1, v_25.2, (w64 (s_12.2.2 + 1)))) hL_14 (Nat.lt_succ_self _) rfl rfl
        · refine wH_iff rfl hc_17 ?_
          refine wH_exit ?_
          replace hc_13 := some_inj hc_13
          subst hc_13
          replace hL_14 := some_inj hL_14
          subst hL_14
          exact cut_mk ((s_12.1, s_12.2.1, s_12.2.2)) rfl rfl rfl
    · rintro s_12 ho_ sl_ H_ hp_ hq_
      subst ho_
      refine wH_at _ hp_ hq_ ?_
      refine wH_seq ?_
      refine wH_region ?_
      refine h_op (dV (extN 1) 3 s_12.1) (wt rfl) rfl ?_
      refine h_op (vI s_12.2.1) (wt rfl) rfl ?_
      obtain ⟨_, hn_31, hF⟩ := bind_some hF
      replace hn_31 := neL_ne hn_31
      refine h_re (v' := (vV (extN 1) 3 s_12.1)) 0 rfl (dV_cons hn_31) ?_
      refine h_re (v' := (vV (extN 1) 3 s_12.1)) 36 rfl (dV_cons hn_31) ?_
      refine h_reH 1 rfl (gB_cons hn_31) ?_
      obtain ⟨_, hr_32, hF⟩ := bind_some hF
      refine h_partTF un26 sz119 rfl rfl hr_32 (wt rfl) ?_
      refine h_clear (i := 1) 0 (.inl rfl) (fun _ _ _ => trivial) (⟨(⟨#[]⟩ : ByteArray), 0, 0⟩ : Beat) el26 sz119 z119 rfl rfl rfl (by decide) rfl (subR_le hr_32) rfl (wt rfl) ?_
      refine h_re (v' := (vV (extN 1) 3 (s_12.1.take ((s_12.2.1).toNat) ++ List.replicate (((s_12.1.length : Int)).toNat - (s_12.2.1).toNat) (⟨(⟨#[]⟩ : ByteArray), 0, 0⟩ : Beat) ++ s_12.1.drop (((s_12.2.1).toNat) + (((s_12.1.length : Int)).toNat - (s_12.2.1).toNat))))) 0 rfl (vV_len (clear_len (subR_le hr_32))) ?_
      refine h_re (v' := (vV (extN 1) 3 (s_12.1.take ((s_12.2.1).toNat) ++ List.replicate (((s_12.1.length : Int)).toNat - (s_12.2.1).toNat) (⟨(⟨#[]⟩ : ByteArray), 0, 0⟩ : Beat) ++ s_12.1.drop (((s_12.2.1).toNat) + (((s_12.1.length : Int)).toNat - (s_12.2.1).toNat))))) 36 rfl (vV_len (clear_len (subR_le hr_32))) ?_
      refine h_nil ?_
      refine wH_seq ?_
      refine wH_region ?_
      refine h_op (vV (extN 1) 3 (s_12.1.take ((s_12.2.1).toNat) ++ List.replicate (((s_12.1.length : Int)).toNat - (s_12.2.1).toNat) (⟨(⟨#[]⟩ : ByteArray), 0, 0⟩ : Beat) ++ s_12.1.drop (((s_12.2.1).toNat) + (((s_12.1.length : Int)).toNat - (s_12.2.1).toNat)))) (wt rfl) rfl ?_
      refine h_op (vI s_12.2.1) (wt rfl) rfl ?_
      obtain ⟨_, hr_33, hF⟩ := bind_some hF
      refine h_partFT un26 sz119 rfl rfl hr_33 (wt rfl) ?_
      refine h_op (.vs (extN 1) 3 0 ((s_12.2.1).toNat)) (wt rfl) rfl ?_
      refine h_nil ?_
      refine wH_froz 1 rfl ?_
      refine wH_co 0 1 rfl rfl ?_
      refine wH_cop 4 1 rfl rfl (subR_le hr_33) ?_
      refine wH_co 36 1 rfl rfl ?_
      refine wH_co 39 1 rfl rfl ?_
      refine wH_cop 41 1 rfl rfl (subR_le hr_33) ?_
      refine wH_drop (i := 1) rfl ?_
      replace hF := some_inj hF
      subst hF
      refine wH_ret ?_
      exact finV (bs := ([(.cells 1 [(vS del2_3)])] : List Box)) (os := ([(.cells 1 [(vS del2_3)])] : List Box)) (xs := s_1) (o := none) (.inr rfl) [(vL Beat.enc (cutL (s_12.1.take ((s_12.2.1).toNat) ++ List.replicate (((s_12.1.length : Int)).toNat - (s_12.2.1).toNat) (⟨(⟨#[]⟩ : ByteArray), 0, 0⟩ : Beat) ++ s_12.1.drop (((s_12.2.1).toNat) + (((s_12.1.length : Int)).toNat - (s_12.2.1).toNat))) 0 ((s_12.2.1).toNat)))] ⟨rfl, trivial⟩ rfl rfl rfl rfl rfl (by kernel_rfl) none_ok rfl
theorem slices_Clone_api_Beat_api_Beat_okb {s_1 : (List Beat)} {r : (List Beat)} (hF : slices_Clone_api_Beat_api_Beat s_1 = some r) :
    FnM Try.prog 152 [(vL Beat.enc s_1)] [] (gV (extN 0) 3 r) (([] : List Box).map some ++ gO 3 Beat.enc r) := by
  refine FnM.of_wH ⟨Try.prog, 8, [], []⟩ rfl Try.func152 rfl rfl (Nat.le_of_ble_eq_true rfl) (by kernel_rfl) ?_
  unfold slices_Clone_api_Beat_api_Beat at hF
  refine wH_seq ?_
  refine wH_region ?_
  refine h_op .nil (wt rfl) rfl ?_
  refine h_nil ?_
  refine wH_seq ?_
  refine wH_seq ?_
  refine wH_region ?_
  refine h_op (vL Beat.enc s_1) (wt rfl) rfl ?_
  refine h_nileq un26 rfl (wt rfl) (fun b_2 hb_3 => ?_)
  refine h_nil ?_
  cases b_2 with
  | true =>
    refine wH_ift rfl rfl ?_
    obtain rfl := hb_3 rfl
    replace hF := clone_nil hF
    refine wH_seq ?_
    refine wH_region ?_
    refine h_op .nil (wt rfl) rfl ?_
    refine h_nil ?_
    refine wH_new (fun n_4 => ?_)
    replace hF := some_inj hF
    subst hF
    refine wH_ret ?_
    exact finG (outs := ([] : List Box)) (.inr rfl) 0 rfl rfl rfl (by kernel_rfl) (by kernel_rfl)
  | false =>
    refine wH_iff rfl rfl ?_
    refine wH_skip ?_
    refine wH_seq ?_
    refine wH_region ?_
    refine h_lit0 es26 ez26 rfl (wt rfl) ?_
    refine h_op (vL Beat.enc s_1) (wt rfl) rfl ?_
    obtain ⟨a_5, hz_6, hF⟩ := bind_some hF
    refine h_appn 0 (.inl rfl) el26 el26 sz119 z119 rfl (by decide) by119 (by decide) (fun _ => rfl) rfl rfl hz_6 (wt rfl) (fun n_7 => ?_)
    refine h_op (gV n_7 3 a_5) (wt rfl) rfl ?_
    refine h_nil ?_
    replace hF := some_inj hF
    subst hF
    refine wH_ret ?_
    exact finG (outs := ([] : List Box)) (.inr rfl) 0 rfl rfl rfl (by kernel_rfl) (by kernel_rfl)
theorem ref_beatsOf_ok {l_1 : (List Beat)} {player_2 : ByteArray} {r : (List Beat)} (hF : ref_beatsOf l_1 player_2 = some r) :
    FnM Try.prog 86 [(vL Beat.enc l_1), (vS player_2)] [] (vL Beat.enc r) [] := by
  refine FnM.of_wH ⟨Try.prog, 9, [], []⟩ rfl Try.func86 rfl rfl (Nat.le_of_ble_eq_true rfl) (by kernel_rfl) ?_
  unfold ref_beatsOf at hF
  refine wH_seq ?_
  refine wH_region ?_
  refine h_box 0 (.inl rfl) [(vS player_2)] rfl rfl (wt rfl) (fun n_3 => ?_)
  refine h_op .nil (wt rfl) rfl ?_
  refine h_nil ?_
  refine wH_seq ?_
  refine wH_region ?_
  refine h_op (vL Beat.enc l_1) (wt rfl) rfl ?_
  obtain ⟨r_4, hr_5, hF⟩ := bind_some hF
  refine h_callg [] (slices_Clone_api_Beat_api_Beat_okb hr_5) rfl hb152 rfl (by kernel_rfl) (by kernel_rfl) (by kernel_rfl) (by kernel_rfl) (by kernel_rfl) rfl (by decide) (by kernel_rfl) (wt rfl) ([(n_3, some (.cells 1 [(vS player_2)]))] : Hp) (fun _ => by kernel_rfl) (fun n_7 => ?_)
  refine h_op (.fn 153 [(.ref n_3 0 0)]) (wt rfl) rfl ?_
  obtain ⟨r_8, hr_9, hF⟩ := bind_some hF
  refine h_callv 0 [0] 1 0 (.inl rfl) (fun _ _ _ => trivial) (slices_DeleteFunc_api_Beat_api_Beat_v1_ok hr_9) rfl hb151 rfl rfl rfl (by kernel_rfl) rfl (.inl rfl) rfl (by kernel_rfl) (by kernel_rfl) (by kernel_rfl) (by kernel_rfl) rfl (by decide) (by kernel_rfl) none_ok (fun _ => rfl) (wt rfl) ([(n_3, some (.cells 1 [(vS player_2)])), (n_7, none)] : Hp) (by kernel_rfl) ?_
  refine h_op (vL Beat.enc r_8) (wt rfl) rfl ?_
  refine h_nil ?_
  replace hF := some_inj hF
  subst hF
  refine wH_ret ?_
  exact fin0 (.inr rfl) [(vL Beat.enc r_8)] ⟨rfl, trivial⟩ rfl rfl rfl
theorem ref_RightOf_ok {all_1 : (List Beat)} {player_2 : ByteArray} {clock_3 : Int} {r : Int × Int} (hF : ref_RightOf all_1 player_2 clock_3 = some r) :
    FnM Try.prog 20 [(vL Beat.enc all_1), (vS player_2), (vI clock_3)] [] (.tup [(vI r.1), (vI r.2)]) [] := by
  refine FnM.of_wH ⟨Try.prog, 106, [], []⟩ rfl Try.func20 rfl rfl (Nat.le_of_ble_eq_true rfl) (by kernel_rfl) ?_
  unfold ref_RightOf at hF
  refine wH_seq ?_
  refine wH_region ?_
  refine h_op (vI 0) (wt rfl) rfl ?_
  refine h_op (vI 0) (wt rfl) rfl ?_
  refine h_nil ?_
  refine wH_seq ?_
  refine wH_region ?_
  refine h_op (vL Beat.enc all_1) (wt rfl) rfl ?_
  refine h_op (vS player_2) (wt rfl) rfl ?_
  obtain ⟨r_4, hr_5, hF⟩ := bind_some hF
  refine h_call0 (ref_beatsOf_ok hr_5) rfl hb86 rfl rfl rfl rfl (wt rfl) ?_
  refine h_op (vL Beat.enc r_4) (wt rfl) rfl ?_
  refine h_nil ?_
  refine wH_seq ?_
  refine wH_seq ?_
  refine wH_region ?_
  refine h_op (vL Beat.enc r_4) (wt rfl) rfl ?_
  refine h_len un26 rfl (wt rfl) ?_
  refine h_op (vB ((r_4.length : Int) == 0)) (wt rfl) rfl ?_
  refine h_nil ?_
  rcases cond_some hF with ⟨hc_6, hF⟩ | ⟨hc_6, hF⟩
  · refine wH_ift rfl hc_6 ?_
    refine wH_seq ?_
    refine wH_region ?_
    refine h_op (vI 0) (wt rfl) rfl ?_
    refine h_op (vI 8) (wt rfl) rfl ?_
    refine h_nil ?_
    replace hF := some_inj hF
    subst hF
    refine wH_ret ?_
    exact fin0 (.inr rfl) [(vI 0), (vI 8)] ⟨rfl, ⟨rfl, trivial⟩⟩ rfl rfl rfl
  · refine wH_iff rfl hc_6 ?_
    refine wH_skip ?_
    refine wH_seq ?_
    refine wH_draws ?_
    refine h_op (vL Beat.enc r_4) (wt rfl) rfl ?_
    obtain ⟨y_7, hy_8, hF⟩ := bind_some hF
    refine h_ia es26 rfl rfl hy_8 rfl (wt rfl) ?_
    refine h_fac pl119_1 rfl [.int .i64 y_7.At, .int .i64 y_7.Clock] rfl rfl (wt rfl) ?_
    refine h_ldc sz3 ag3 rfl (vI y_7.At) rfl (wt rfl) ?_
    refine h_op (vI clock_3) (wt rfl) rfl ?_
    refine h_op (vI (w64 (y_7.At + clock_3))) (wt rfl) rfl ?_
    refine h_op (vL Beat.enc r_4) (wt rfl) rfl ?_
    obtain ⟨y_9, hy_10, hF⟩ := bind_some hF
    refine h_ia es26 rfl rfl hy_10 rfl (wt rfl) ?_
    refine h_fac pl119_2 rfl [.int .i64 y_9.Clock] rfl rfl (wt rfl) ?_
    refine h_ldc sz3 ag3 rfl (vI y_9.Clock) rfl (wt rfl) ?_
    refine h_op (vI (w64 ((w64 (y_7.At + clock_3)) - y_9.Clock))) (wt rfl) rfl ?_
    refine h_op (vI (w64 ((w64 (y_7.At + clock_3)) - y_9.Clock))) (wt rfl) rfl ?_
    refine h_nil ?_
    refine wH_seq ?_
    refine wH_seq ?_
    refine wH_region ?_
    refine h_op (vL Beat.enc r_4) (wt rfl) rfl ?_
    refine h_len un26 rfl (wt rfl) ?_
    refine h_op (vI 0) (wt rfl) rfl ?_
    refine h_nil ?_
    obtain ⟨o_19, hj_20, hF⟩ := bind_some hF
    obtain ⟨hn_15, hj_20⟩ := forL_some hj_20
    refine wH_join (β := (Int)) (fun (s_16 : Int) => ([(9, (vI s_16))] : List (Nat × V))) (fun (s_16 : Int) => ([] : Hp)) (fun p => o_19 = .go p) ?_ ?_
    · refine wH_block ?_
      refine wH_loop (β := Nat × (List Beat) × (Int)) (fun p => (fun (k_11 : Nat) (l_12 : List Beat) (s_16 : Int) => ([(2, (vI clock_3)), (8, (vL Beat.enc r_4)), (9, (vI s_16)), (30, (vL Beat.enc r_4)), (31, (vI (r_4.length : Int))), (32, (vI (k_11 : Int)))] : List (Nat × V))) p.1 p.2.1 p.2.2) (fun p => (fun (k_11 : Nat) (l_12 : List Beat) (s_16 : Int) => ([] : Hp)) p.1 p.2.1 p.2.2) (fun p => forR (fun k x s => ref_RightOf_L1 clock_3 r_4 k x s) p.2.1 p.1 p.2.2 = some o_19 ∧ (r_4).drop p.1 = p.2.1) (fun p => p.2.1.length) (0, r_4, (w64 ((w64 (y_7.At + clock_3)) - y_9.Clock))) ⟨hj_20, rfl⟩ rfl rfl ?_
      rintro ⟨k_11, l_12, s_16⟩ ⟨hL_18, hD_14⟩
      dsimp only at hL_18 hD_14
      cases l_12 with
      | nil =>
        replace hL_18 := some_inj hL_18
        subst hL_18
        refine wH_seq (wH_region (h_op (vB (decide ((k_11 : Int) < (r_4.length : Int)))) (wt rfl) rfl (h_nil ?_)))
        refine wH_seq (wH_iff rfl (drop_nil hD_14) (wH_exit ?_))
        exact cut_mk (s_16) rfl rfl rfl
      | cons x_13 l_12 =>
        obtain ⟨c_, hc_17, hL_18⟩ := bind_some hL_18
        refine wH_seq (wH_region (h_op (vB (decide ((k_11 : Int) < (r_4.length : Int)))) (wt rfl) rfl (h_nil ?_)))
        refine wH_seq (wH_ift rfl (drop_cons hD_14) (wH_skip ?_))
        unfold ref_RightOf_L1 at hc_17
        refine wH_seq ?_
        refine wH_block ?_
        refine wH_seq ?_
        refine wH_region ?_
        refine h_op (vI (k_11 : Int)) (wt rfl) rfl ?_
        refine h_ia es26 rfl rfl (drop_idx hD_14) rfl (wt rfl) ?_
        refine h_ldc sz119 ag119 rfl (.d (.agg (Beat.enc x_13))) rfl (wt rfl) ?_
        refine h_alloc 0 (.inl rfl) z119 rfl (wt rfl) (fun n_21 => ?_)
        refine h_op (vI (k_11 : Int)) (wt rfl) rfl ?_
        refine h_str 0 (.inl rfl) (fun _ _ _ => trivial) 0 sz119 rfl rfl [(vS x_13.Player), (vI x_13.At), (vI x_13.Clock)] rfl (wt rfl) ?_
        refine h_nil ?_
        refine wH_seq ?_
        refine wH_seq ?_
        refine wH_region ?_
        refine h_far pl119_2 rfl 2 rfl (wt rfl) ?_
        refine h_ldr 0 0 (.inl rfl) (fun _ _ _ => trivial) sz3 ag3 rfl rfl (vI x_13.Clock) rfl (wt rfl) ?_
        refine h_op (vI clock_3) (wt rfl) rfl ?_
        refine h_op (vB (decide (x_13.Clock > clock_3))) (wt rfl) rfl ?_
        refine h_nil ?_
        rcases cond_some hc_17 with ⟨hc_22, hc_17⟩ | ⟨hc_22, hc_17⟩
        · refine wH_ift rfl hc_22 ?_
          refine wH_exit ?_
          replace hc_17 := some_inj hc_17
          subst hc_17
          replace hL_18 := some_inj hL_18
          subst hL_18
          exact cut_mk (s_16) rfl rfl rfl
        · refine wH_iff rfl hc_22 ?_
          refine wH_skip ?_
          refine wH_seq ?_
          refine wH_region ?_
          refine h_far pl119_1 rfl 1 rfl (wt rfl) ?_
          refine h_ldr 0 0 (.inl rfl) (fun _ _ _ => trivial) sz3 ag3 rfl rfl (vI x_13.At) rfl (wt rfl) ?_
          refine h_op (vI clock_3) (wt rfl) rfl ?_
          refine h_op (vI (w64 (x_13.At + clock_3))) (wt rfl) rfl ?_
          refine h_far pl119_2 rfl 2 rfl (wt rfl) ?_
          refine h_ldr 0 0 (.inl rfl) (fun _ _ _ => trivial) sz3 ag3 rfl rfl (vI x_13.Clock) rfl (wt rfl) ?_
          refine h_op (vI (w64 ((w64 (x_13.At + clock_3)) - x_13.Clock))) (wt rfl) rfl ?_
          refine h_op (vI (w64 ((w64 (x_13.At + clock_3)) - x_13.Clock))) (wt rfl) rfl ?_
          refine h_nil ?_
          refine wH_seq ?_
          refine wH_seq ?_
          obtain ⟨v_23, h_24, hc_17⟩ := bind_some hc_17
          refine wH_join (β := Unit) (fun _ => ([(2, (vI clock_3)), (8, (vL Beat.enc r_4)), (9, (vI (w64 ((w64 (x_13.At + clock_3)) - x_13.Clock)))), (10, (vI (k_11 : Int))), (11, (.ref n_21 0 0)), (30, (vL Beat.enc r_4)), (31, (vI (r_4.length : Int))), (32, (vI (k_11 : Int))), (62, (vB v_23))] : List (Nat × V))) (fun _ => ([(n_21, some (.cells 3 [(vS x_13.Player), (vI x_13.At), (vI x_13.Clock)]))] : Hp)) (fun _ => True) ?_ ?_
          · refine wH_region ?_
            refine h_op (vI (k_11 : Int)) (wt rfl) rfl ?_
            refine h_op (vI (w64 ((k_11 : Int) + 1))) (wt rfl) rfl ?_
            refine h_op (vL Beat.enc r_4) (wt rfl) rfl ?_
            refine h_len un26 rfl (wt rfl) ?_
            refine h_op (vB ((w64 ((k_11 : Int) + 1)) == (r_4.length : Int))) (wt rfl) rfl ?_
            rcases cond_some h_24 with ⟨hc_25, h_24⟩ | ⟨hc_25, h_24⟩
            · refine h_movb rfl hc_25 (wt rfl) ?_
              refine h_skip (wg rfl rfl rfl) ?_
              refine h_skip (wg rfl rfl rfl) ?_
              refine h_skip (wg rfl rfl rfl) ?_
              refine h_skip (wg rfl rfl rfl) ?_
              refine h_skip (wg rfl rfl rfl) ?_
              refine h_skip (wg rfl rfl rfl) ?_
              refine h_skip (wg rfl rfl rfl) ?_
              refine h_skip (wg rfl rfl rfl) ?_
              refine h_op (vB true) (wt rfl) rfl ?_
              refine h_nil ?_
              replace h_24 := some_inj h_24
              subst h_24
              exact cut_mk () trivial rfl rfl
            · refine h_movb rfl hc_25 (wt rfl) ?_
              refine h_op (vL Beat.enc r_4) (wg rfl rfl rfl) rfl ?_
              refine h_op (vI (k_11 : Int)) (wg rfl rfl rfl) rfl ?_
              refine h_op (vI (w64 ((k_11 : Int) + 1))) (wg rfl rfl rfl) rfl ?_
              obtain ⟨y_26, hy_27, h_24⟩ := bind_some h_24
              refine h_ia es26 rfl rfl hy_27 rfl (wg rfl rfl rfl) ?_
              refine h_fac pl119_2 rfl [.int .i64 y_26.Clock] rfl rfl (wg rfl rfl rfl) ?_
              refine h_ldc sz3 ag3 rfl (vI y_26.Clock) rfl (wg rfl rfl rfl) ?_
              refine h_op (vI clock_3) (wg rfl rfl rfl) rfl ?_
              refine h_op (vB (decide (y_26.Clock ≤ clock_3))) (wg rfl rfl rfl) rfl ?_
              refine h_op (vB (decide (y_26.Clock ≤ clock_3))) (wt rfl) rfl ?_
              refine h_nil ?_
              replace h_24 := some_inj h_24
              subst h_24
              exact cut_mk () trivial rfl rfl
          · rintro ⟨⟩ _ sl_ H_ hp_ hq_
            refine wH_at _ hp_ hq_ ?_
            rcases cond_some hc_17 with ⟨hc_28, hc_17⟩ | ⟨hc_28, hc_17⟩
            · refine wH_ift rfl hc_28 ?_
              refine wH_exit ?_
              refine wH_region ?_
              refine h_opw (w64_next hD_14 hn_15) (wt rfl) rfl ?_
              refine h_op (vI ((k_11 + 1 : Nat) : Int)) (wt rfl) rfl ?_
              refine h_nil ?_
              replace hc_17 := some_inj hc_17
              subst hc_17
              exact loop_mk (k_11 + 1, l_12, (w64 ((w64 (x_13.At + clock_3)) - x_13.Clock))) ⟨hL_18, drop_next hD_14⟩ (Nat.lt_succ_self _) rfl rfl
            · refine wH_iff rfl hc_28 ?_
              refine wH_skip ?_
              refine wH_seq ?_
              refine wH_region ?_
              refine h_op (vL Beat.enc r_4) (wt rfl) rfl ?_
              refine h_op (vI (k_11 : Int)) (wt rfl) rfl ?_
              refine h_op (vI (w64 ((k_11 : Int) + 1))) (wt rfl) rfl ?_
              obtain ⟨y_29, hy_30, hc_17⟩ := bind_some hc_17
              refine h_ia es26 rfl rfl hy_30 rfl (wt rfl) ?_
              refine h_ldc sz119 ag119 rfl (.d (.agg (Beat.enc y_29))) rfl (wt rfl) ?_
              refine h_alloc 0 (.inl rfl) z119 rfl (wt rfl) (fun n_31 => ?_)
              refine h_str 0 (.inl rfl) (fun _ _ _ => trivial) 1 sz119 rfl rfl [(vS y_29.Player), (vI y_29.At), (vI y_29.Clock)] rfl (wt rfl) ?_
              refine h_nil ?_
              refine wH_seq ?_
              refine wH_seq ?_
              obtain ⟨v_32, h_33, hc_17⟩ := bind_some hc_17
              refine wH_join (β := Unit) (fun _ => ([(2, (vI clock_3)), (8, (vL Beat.enc r_4)), (11, (.ref n_21 0 0)), (12, (.ref n_31 0 0)), (30, (vL Beat.enc r_4)), (31, (vI (r_4.length : Int))), (32, (vI (k_11 : Int))), (81, (vB v_32))] : List (Nat × V))) (fun _ => ([(n_21, some (.cells 3 [(vS x_13.Player), (vI x_13.At), (vI x_13.Clock)])), (n_31, some (.cells 3 [(vS y_29.Player), (vI y_29.At), (vI y_29.Clock)]))] : Hp)) (fun _ => True) ?_ ?_
              · refine wH_region ?_
                refine h_far pl119_1 rfl 1 rfl (wt rfl) ?_
                refine h_ldr 0 1 (.inl rfl) (fun _ _ _ => trivial) sz3 ag3 rfl rfl (vI y_29.At) rfl (wt rfl) ?_
                refine h_far pl119_1 rfl 1 rfl (wt rfl) ?_
                refine h_ldr 0 0 (.inl rfl) (fun _ _ _ => trivial) sz3 ag3 rfl rfl (vI x_13.At) rfl (wt rfl) ?_
                refine h_op (vI (w64 (y_29.At - x_13.At))) (wt rfl) rfl ?_
                refine h_op (vB (decide ((w64 (y_29.At - x_13.At)) > 2592000000))) (wt rfl) rfl ?_
                rcases cond_some h_33 with ⟨hc_34, h_33⟩ | ⟨hc_34, h_33⟩
                · refine h_movb rfl hc_34 (wt rfl) ?_
                  refine h_skip (wg rfl rfl rfl) ?_
                  refine h_skip (wg rfl rfl rfl) ?_
                  refine h_skip (wg rfl rfl rfl) ?_
                  refine h_skip (wg rfl rfl rfl) ?_
                  refine h_skip (wg rfl rfl rfl) ?_
                  refine h_skip (wg rfl rfl rfl) ?_
                  refine h_op (vB true) (wt rfl) rfl ?_
                  refine h_nil ?_
                  replace h_33 := some_inj h_33
                  subst h_33
                  exact cut_mk () trivial rfl rfl
                · refine h_movb rfl hc_34 (wt rfl) ?_
                  refine h_far pl119_2 rfl 2 rfl (wg rfl rfl rfl) ?_
                  refine h_ldr 0 1 (.inl rfl) (fun _ _ _ => trivial) sz3 ag3 rfl rfl (vI y_29.Clock) rfl (wg rfl rfl rfl) ?_
                  refine h_far pl119_2 rfl 2 rfl (wg rfl rfl rfl) ?_
                  refine h_ldr 0 0 (.inl rfl) (fun _ _ _ => trivial) sz3 ag3 rfl rfl (vI x_13.Clock) rfl (wg rfl rfl rfl) ?_
                  refine h_op (vI (w64 (y_29.Clock - x_13.Clock))) (wg rfl rfl rfl) rfl ?_
                  refine h_op (vB (decide ((w64 (y_29.Clock - x_13.Clock)) > 2592000000))) (wg rfl rfl rfl) rfl ?_
                  refine h_op (vB (decide ((w64 (y_29.Clock - x_13.Clock)) > 2592000000))) (wt rfl) rfl ?_
                  refine h_nil ?_
                  replace h_33 := some_inj h_33
                  subst h_33
                  exact cut_mk () trivial rfl rfl
              · rintro ⟨⟩ _ sl_ H_ hp_ hq_
                refine wH_at _ hp_ hq_ ?_
                rcases cond_some hc_17 with ⟨hc_35, hc_17⟩ | ⟨hc_35, hc_17⟩
                · refine wH_ift rfl hc_35 ?_
                  refine wH_seq ?_
                  refine wH_region ?_
                  refine h_op (vI 0) (wt rfl) rfl ?_
                  refine h_op (vI 2) (wt rfl) rfl ?_
                  refine h_nil ?_
                  replace hc_17 := some_inj hc_17
                  subst hc_17
                  replace hL_18 := some_inj hL_18
                  subst hL_18
                  replace hF := some_inj hF
                  subst hF
                  refine wH_ret ?_
                  exact fin0 (.inr rfl) [(vI 0), (vI 2)] ⟨rfl, ⟨rfl, trivial⟩⟩ rfl rfl rfl
                · refine wH_iff rfl hc_35 ?_
                  refine wH_skip ?_
                  refine wH_draws ?_
                  refine h_far pl119_1 rfl 1 rfl (wt rfl) ?_
                  refine h_ldr 1 0 (.inr (by kernel_rfl)) (fun _ _ ag => trivial) sz3 ag3 rfl rfl (vI x_13.At) rfl (wt rfl) ?_
                  refine h_op (vI clock_3) (wt rfl) rfl ?_
                  refine h_far pl119_2 rfl 2 rfl (wt rfl) ?_
                  refine h_ldr 4 0 (.inr (by kernel_rfl)) (fun _ _ ag => ⟨.inl ⟨rfl, rfl⟩, trivial⟩) sz3 ag3 rfl rfl (vI x_13.Clock) rfl (wt rfl) ?_
                  refine h_op (vI (w64 (clock_3 - x_13.Clock))) (wt rfl) rfl ?_
                  refine h_far pl119_1 rfl 1 rfl (wt rfl) ?_
                  refine h_ldr 7 1 (.inr (by kernel_rfl)) (fun _ _ ag => ⟨.inl ⟨rfl, rfl⟩, ⟨.inl ⟨rfl, rfl⟩, trivial⟩⟩) sz3 ag3 rfl rfl (vI y_29.At) rfl (wt rfl) ?_
                  refine h_far pl119_1 rfl 1 rfl (wt rfl) ?_
                  refine h_ldr 9 0 (.inr (by kernel_rfl)) (fun _ _ ag => ⟨.inl ⟨rfl, rfl⟩, ⟨.inl ⟨rfl, rfl⟩, ⟨.inl ⟨rfl, rfl⟩, trivial⟩⟩⟩) sz3 ag3 rfl rfl (vI x_13.At) rfl (wt rfl) ?_
                  refine h_op (vI (w64 (y_29.At - x_13.At))) (wt rfl) rfl ?_
                  refine h_op (vI (w64 ((w64 (clock_3 - x_13.Clock)) * (w64 (y_29.At - x_13.At))))) (wt rfl) rfl ?_
                  refine h_far pl119_2 rfl 2 rfl (wt rfl) ?_
                  refine h_ldr 13 1 (.inr (by kernel_rfl)) (fun _ _ ag => ⟨.inl ⟨rfl, rfl⟩, ⟨.inl ⟨rfl, rfl⟩, ⟨.inl ⟨rfl, rfl⟩, ⟨.inl ⟨rfl, rfl⟩, trivial⟩⟩⟩⟩) sz3 ag3 rfl rfl (vI y_29.Clock) rfl (wt rfl) ?_
                  refine h_far pl119_2 rfl 2 rfl (wt rfl) ?_
                  refine h_ldr 15 0 (.inr (by kernel_rfl)) (fun _ _ ag => ⟨.inl ⟨rfl, rfl⟩, ⟨.inl ⟨rfl, rfl⟩, ⟨.inl ⟨rfl, rfl⟩, ⟨.inl ⟨rfl, rfl⟩, ⟨.inl ⟨rfl, rfl⟩, trivial⟩⟩⟩⟩⟩) sz3 ag3 rfl rfl (vI x_13.Clock) rfl (wt rfl) ?_
                  refine h_op (vI (w64 (y_29.Clock - x_13.Clock))) (wt rfl) rfl ?_
                  obtain ⟨q_36, hz_37, hc_17⟩ := bind_some hc_17
                  refine h_quo rfl rfl hz_37 (wt rfl) ?_
                  refine h_op (vI (w64 (x_13.At + q_36))) (wt rfl) rfl ?_
                  refine h_op (vI (w64 (x_13.At + q_36))) (wt rfl) rfl ?_
                  refine h_nil ?_
                  refine wH_region ?_
                  refine h_opw (w64_next hD_14 hn_15) (wt rfl) rfl ?_
                  refine h_op (vI ((k_11 + 1 : Nat) : Int)) (wt rfl) rfl ?_
                  refine h_nil ?_
                  replace hc_17 := some_inj hc_17
                  subst hc_17
                  exact loop_mk (k_11 + 1, l_12, (w64 (x_13.At + q_36))) ⟨hL_18, drop_next hD_14⟩ (Nat.lt_succ_self _) rfl rfl
    · rintro s_16 ho_ sl_ H_ hp_ hq_
      subst ho_
      refine wH_at _ hp_ hq_ ?_
      refine wH_seq ?_
      refine wH_seq ?_
      refine wH_region ?_
      refine h_op (vI s_16) (wt rfl) rfl ?_
      obtain ⟨r_38, hr_39, hF⟩ := bind_some hF
      refine h_call0 (ref_Moment_ok hr_39) rfl hb80 rfl rfl rfl rfl (wt rfl) ?_
      refine h_op (vB (!r_38)) (wt rfl) rfl ?_
      refine h_nil ?_
      rcases cond_some hF with ⟨hc_40, hF⟩ | ⟨hc_40, hF⟩
      · refine wH_ift rfl hc_40 ?_
        refine wH_seq ?_
        refine wH_region ?_
        refine h_op (vI 0) (wt rfl) rfl ?_
        refine h_op (vI 11) (wt rfl) rfl ?_
        refine h_nil ?_
        replace hF := some_inj hF
        subst hF
        refine wH_ret ?_
        exact fin0 (.inr rfl) [(vI 0), (vI 11)] ⟨rfl, ⟨rfl, trivial⟩⟩ rfl rfl rfl
      · refine wH_iff rfl hc_40 ?_
        refine wH_skip ?_
        refine wH_seq ?_
        refine wH_region ?_
        refine h_op (vI s_16) (wt rfl) rfl ?_
        refine h_op (vI s_16) (wt rfl) rfl ?_
        refine h_op (vI 0) (wt rfl) rfl ?_
        refine h_nil ?_
        replace hF := some_inj hF
        subst hF
        refine wH_ret ?_
        exact fin0 (.inr rfl) [(vI s_16), (vI 0)] ⟨rfl, ⟨rfl, trivial⟩⟩ rfl rfl rfl
theorem ref_swapped_ok {l_1 : (List Beat)} {r : (List Beat)} (hF : ref_swapped l_1 = some r) :
    FnM Try.prog 87 [(vL Beat.enc l_1)] [] (vL Beat.enc r) [] := by
  refine FnM.of_wH ⟨Try.prog, 24, [], []⟩ rfl Try.func87 rfl rfl (Nat.le_of_ble_eq_true rfl) (by kernel_rfl) ?_
  unfold ref_swapped at hF
  refine wH_seq ?_
  refine wH_region ?_
  refine h_op .nil (wt rfl) rfl ?_
  refine h_nil ?_
  refine wH_seq ?_
  refine wH_region ?_
  refine h_op .nil (wt rfl) rfl ?_
  refine h_nil ?_
  refine wH_seq ?_
  refine wH_seq ?_
  refine wH_region ?_
  refine h_op (vL Beat.enc l_1) (wt rfl) rfl ?_
  refine h_len un26 rfl (wt rfl) ?_
  refine h_op (vI 0) (wt rfl) rfl ?_
  refine h_nil ?_
  refine wH_new (fun n_8 => ?_)
  obtain ⟨o_13, hj_14, hF⟩ := bind_some hF
  obtain ⟨hn_6, hj_14⟩ := forL_some hj_14
  refine wH_join (β := ((List Beat)) × Nm) (fun p => (fun (s_7 : (List Beat)) (n_10 : Nm) => ([(3, (gV n_10 3 s_7))] : List (Nat × V))) p.1 p.2) (fun p => (fun (s_7 : (List Beat)) (n_10 : Nm) => ([(n_10, gB 3 Beat.enc s_7)] : Hp)) p.1 p.2) (fun p => o_13 = .go p.1) ?_ ?_
  · refine wH_block ?_
    refine wH_loop (β := Nat × (List Beat) × ((List Beat)) × Nm) (fun p => (fun (k_2 : Nat) (l_3 : List Beat) (s_7 : (List Beat)) (n_10 : Nm) => ([(3, (gV n_10 3 s_7)), (6, (vL Beat.enc l_1)), (7, (vI (l_1.length : Int))), (8, (vI (k_2 : Int)))] : List (Nat × V))) p.1 p.2.1 p.2.2.1 p.2.2.2) (fun p => (fun (k_2 : Nat) (l_3 : List Beat) (s_7 : (List Beat)) (n_10 : Nm) => ([(n_10, gB 3 Beat.enc s_7)] : Hp)) p.1 p.2.1 p.2.2.1 p.2.2.2) (fun p => forR (fun k x s => ref_swapped_L1 k x s) p.2.1 p.1 p.2.2.1 = some o_13 ∧ (l_1).drop p.1 = p.2.1) (fun p => p.2.1.length) (0, l_1, ([] : List Beat), n_8) ⟨hj_14, rfl⟩ rfl rfl ?_
    rintro ⟨k_2, l_3, s_7, n_10⟩ ⟨hL_12, hD_5⟩
    dsimp only at hL_12 hD_5
    cases l_3 with
    | nil =>
      replace hL_12 := some_inj hL_12
      subst hL_12
      refine wH_seq (wH_region (h_op (vB (decide ((k_2 : Int) < (l_1.length : Int)))) (wt rfl) rfl (h_nil ?_)))
      refine wH_seq (wH_iff rfl (drop_nil hD_5) (wH_exit ?_))
      exact cut_mk (s_7, n_10) rfl rfl rfl
    | cons x_4 l_3 =>
      obtain ⟨c_, hc_11, hL_12⟩ := bind_some hL_12
      refine wH_seq (wH_region (h_op (vB (decide ((k_2 : Int) < (l_1.length : Int)))) (wt rfl) rfl (h_nil ?_)))
      refine wH_seq (wH_ift rfl (drop_cons hD_5) (wH_skip ?_))
      unfold ref_swapped_L1 at hc_11
      refine wH_seq ?_
      refine wH_block ?_
      refine wH_seq ?_
      refine wH_region ?_
      refine h_ia es26 rfl rfl (drop_idx hD_5) rfl (wt rfl) ?_
      refine h_ldc sz119 ag119 rfl (.d (.agg (Beat.enc x_4))) rfl (wt rfl) ?_
      refine h_alloc 0 (.inl rfl) z119 rfl (wt rfl) (fun n_15 => ?_)
      refine h_str 0 (.inl rfl) (fun _ _ _ => trivial) 1 sz119 rfl rfl [(vS x_4.Player), (vI x_4.At), (vI x_4.Clock)] rfl (wt rfl) ?_
      refine h_nil ?_
      refine wH_region ?_
      refine h_op (gV n_10 3 s_7) (wt rfl) rfl ?_
      refine h_far pl119_0 rfl 0 rfl (wt rfl) ?_
      refine h_ldr 0 1 (.inl rfl) (fun _ _ _ => trivial) sz9 ag9 rfl rfl (vS x_4.Player) rfl (wt rfl) ?_
      refine h_far pl119_2 rfl 2 rfl (wt rfl) ?_
      refine h_ldr 0 1 (.inl rfl) (fun _ _ _ => trivial) sz3 ag3 rfl rfl (vI x_4.Clock) rfl (wt rfl) ?_
      refine h_far pl119_1 rfl 1 rfl (wt rfl) ?_
      refine h_ldr 0 1 (.inl rfl) (fun _ _ _ => trivial) sz3 ag3 rfl rfl (vI x_4.At) rfl (wt rfl) ?_
      refine h_op (.d (.agg (Beat.enc (⟨x_4.Player, x_4.Clock, x_4.At⟩ : Beat)))) (wt rfl) (by kernel_rfl) ?_
      refine h_lit (([(⟨x_4.Player, x_4.Clock, x_4.At⟩ : Beat)] : List Beat).map Beat.enc) es26 ez26 rfl rfl rfl rfl rfl (wt rfl) ?_
      obtain ⟨a_16, hz_17, hc_11⟩ := bind_some hc_11
      refine h_appg 0 (.inl rfl) (fun _ _ _ => trivial) (i := 0) el26 el26 sz119 z119 rfl (by decide) by119 (by decide) (fun _ => rfl) rfl rfl rfl hz_17 (wt rfl) (fun n_18 => ?_)
      refine h_op (gV n_18 3 a_16) (wt rfl) rfl ?_
      refine h_nil ?_
      refine wH_region ?_
      refine h_opw (w64_next hD_5 hn_6) (wt rfl) rfl ?_
      refine h_op (vI ((k_2 + 1 : Nat) : Int)) (wt rfl) rfl ?_
      refine h_nil ?_
      replace hc_11 := some_inj hc_11
      subst hc_11
      exact loop_mk (k_2 + 1, l_3, a_16, n_18) ⟨hL_12, drop_next hD_5⟩ (Nat.lt_succ_self _) rfl rfl
  · rintro ⟨s_7, n_10⟩ ho_ sl_ H_ hp_ hq_
    subst ho_
    refine wH_at _ hp_ hq_ ?_
    refine wH_seq ?_
    refine wH_region ?_
    refine h_op (gV n_10 3 s_7) (wt rfl) rfl ?_
    refine h_op (gV n_10 3 s_7) (wt rfl) rfl ?_
    refine h_nil ?_
    refine wH_frozg 0 rfl ?_
    refine wH_cog 2 0 rfl rfl ?_
    refine wH_cog 3 0 rfl rfl ?_
    refine wH_cog 23 0 rfl rfl ?_
    replace hF := some_inj hF
    subst hF
    refine wH_ret ?_
    exact fin0 (.inr rfl) [(vL Beat.enc s_7)] ⟨rfl, trivial⟩ rfl rfl rfl
theorem ref_ShownOf_ok {all_1 : (List Beat)} {player_2 : ByteArray} {atv_3 : Int} {r : Int × Int} (hF : ref_ShownOf all_1 player_2 atv_3 = some r) :
    FnM Try.prog 21 [(vL Beat.enc all_1), (vS player_2), (vI atv_3)] [] (.tup [(vI r.1), (vI r.2)]) [] := by
  refine FnM.of_wH ⟨Try.prog, 15, [], []⟩ rfl Try.func21 rfl rfl (Nat.le_of_ble_eq_true rfl) (by kernel_rfl) ?_
  unfold ref_ShownOf at hF
  refine wH_seq ?_
  refine wH_region ?_
  refine h_op (vI 0) (wt rfl) rfl ?_
  refine h_op (vI 0) (wt rfl) rfl ?_
  refine h_nil ?_
  refine wH_seq ?_
  refine wH_region ?_
  refine h_op (vL Beat.enc all_1) (wt rfl) rfl ?_
  obtain ⟨r_4, hr_5, hF⟩ := bind_some hF
  refine h_call0 (ref_swapped_ok hr_5) rfl hb87 rfl rfl rfl rfl (wt rfl) ?_
  refine h_op (vS player_2) (wt rfl) rfl ?_
  refine h_op (vI atv_3) (wt rfl) rfl ?_
  obtain ⟨r_6, hr_7, hF⟩ := bind_some hF
  refine h_call0 (ref_RightOf_ok hr_7) rfl hb20 rfl rfl rfl rfl (wt rfl) ?_
  refine h_op (vI r_6.1) (wt rfl) rfl ?_
  refine h_op (vI r_6.2) (wt rfl) rfl ?_
  refine h_op (vI r_6.1) (wt rfl) rfl ?_
  refine h_op (vI r_6.2) (wt rfl) rfl ?_
  refine h_nil ?_
  replace hF := some_inj hF
  subst hF
  refine wH_ret ?_
  exact fin0 (.inr rfl) [(vI r_6.1), (vI r_6.2)] ⟨rfl, ⟨rfl, trivial⟩⟩ rfl rfl rfl
theorem ref_Lowest_ok {num_1 : Int} {den_2 : Int} {r : Fraction} (hF : ref_Lowest num_1 den_2 = some r) :
    FnM Try.prog 88 [(vI num_1), (vI den_2)] [] (.d (.agg (Fraction.enc r))) [] := by
  refine FnM.of_wH ⟨Try.prog, 26, [], []⟩ rfl Try.func88 rfl rfl (Nat.le_of_ble_eq_true rfl) (by kernel_rfl) ?_
  unfold ref_Lowest at hF
  refine wH_seq ?_
  refine wH_region ?_
  refine h_alloc 0 (.inl rfl) z34 rfl (wt rfl) (fun n_3 => ?_)
  refine h_nil ?_
  refine wH_seq ?_
  refine wH_region ?_
  refine h_op (vI num_1) (wt rfl) rfl ?_
  refine h_op (vI den_2) (wt rfl) rfl ?_
  refine h_op (vI num_1) (wt rfl) rfl ?_
  refine h_op (vI den_2) (wt rfl) rfl ?_
  refine h_nil ?_
  refine wH_seq ?_
  obtain ⟨o_12, hj_13, hF⟩ := bind_some hF
  obtain ⟨nq_24, hj_13⟩ := loopO_iter hj_13
  refine wH_join (β := (Int × Int)) (fun (s_9 : Int × Int) => ([(0, (vI num_1)), (1, (vI den_2)), (4, (.ref n_3 0 0)), (5, (vI s_9.1))] : List (Nat × V))) (fun (s_9 : Int × Int) => ([(n_3, some (.cells 2 [(vI 0), (vI 0)]))] : Hp)) (fun p => o_12 = .go p) ?_ ?_
  · refine wH_block ?_
    refine wH_loop (β := Nat × (Int × Int)) (fun p => (fun (k_4 : Nat) (s_9 : Int × Int) => ([(0, (vI num_1)), (1, (vI den_2)), (4, (.ref n_3 0 0)), (5, (vI s_9.1)), (6, (vI s_9.2))] : List (Nat × V))) p.1 p.2) (fun p => (fun (k_4 : Nat) (s_9 : Int × Int) => ([(n_3, some (.cells 2 [(vI 0), (vI 0)]))] : Hp)) p.1 p.2) (fun p => iterN (fun s => ref_Lowest_L1 s) p.1 p.2 = some o_12) (fun p => p.1) (nq_24, (num_1, den_2)) hj_13 rfl rfl ?_
    rintro ⟨k_4, s_9⟩ hL_11
    dsimp only at hL_11
    cases k_4 with
    | zero => cases hL_11
    | succ k_4 =>
      obtain ⟨c_, hc_10, hL_11⟩ := bind_some hL_11
      unfold ref_Lowest_L1 at hc_10
      refine wH_seq ?_
      refine wH_seq ?_
      refine wH_region ?_
      refine h_op (vI s_9.2) (wt rfl) rfl ?_
      refine h_op (vB (s_9.2 != 0)) (wt rfl) rfl ?_
      refine h_nil ?_
      rcases cond_some hc_10 with ⟨hc_14, hc_10⟩ | ⟨hc_14, hc_10⟩
      · refine wH_ift rfl hc_14 ?_
        refine wH_skip ?_
        refine wH_block ?_
        refine wH_draws ?_
        refine h_op (vI s_9.2) (wt rfl) rfl ?_
        refine h_op (vI s_9.1) (wt rfl) rfl ?_
        refine h_op (vI s_9.2) (wt rfl) rfl ?_
        obtain ⟨q_15, hz_16, hc_10⟩ := bind_some hc_10
        refine h_rem rfl rfl hz_16 (wt rfl) ?_
        refine h_op (vI s_9.2) (wt rfl) rfl ?_
        refine h_op (vI q_15) (wt rfl) rfl ?_
        refine h_nil ?_
        replace hc_10 := some_inj hc_10
        subst hc_10
        exact loop_mk (k_4, (s_9.2, q_15)) hL_11 (Nat.lt_succ_self _) rfl rfl
      · refine wH_iff rfl hc_14 ?_
        refine wH_exit ?_
        replace hc_10 := some_inj hc_10
        subst hc_10
        replace hL_11 := some_inj hL_11
        subst hL_11
        exact cut_mk ((s_9.1, s_9.2)) rfl rfl rfl
  · rintro s_9 ho_ sl_ H_ hp_ hq_
    subst ho_
    refine wH_at _ hp_ hq_ ?_
    refine wH_seq ?_
    refine wH_seq ?_
    refine wH_region ?_
    refine h_op (vI s_9.1) (wt rfl) rfl ?_
    refine h_op (vB (decide (s_9.1 < 0))) (wt rfl) rfl ?_
    refine h_nil ?_
    obtain ⟨v_17, h_18, hF⟩ := bind_some hF
    refine wH_join (β := Unit) (fun _ => ([(0, (vI num_1)), (1, (vI den_2)), (4, (.ref n_3 0 0)), (5, (vI v_17))] : List (Nat × V))) (fun _ => ([(n_3, some (.cells 2 [(vI 0), (vI 0)]))] : Hp)) (fun _ => True) ?_ ?_
    · rcases cond_some h_18 with ⟨hc_19, h_18⟩ | ⟨hc_19, h_18⟩
      · refine wH_ift rfl hc_19 ?_
        refine wH_region ?_
        refine h_op (vI s_9.1) (wt rfl) rfl ?_
        refine h_op (vI (w64 (0 - s_9.1))) (wt rfl) rfl ?_
        refine h_op (vI (w64 (0 - s_9.1))) (wt rfl) rfl ?_
        refine h_nil ?_
        replace h_18 := some_inj h_18
        subst h_18
        exact cut_mk () trivial rfl rfl
      · refine wH_iff rfl hc_19 ?_
        refine wH_skip ?_
        replace h_18 := some_inj h_18
        subst h_18
        exact cut_mk () trivial rfl rfl
    · rintro ⟨⟩ _ sl_ H_ hp_ hq_
      refine wH_at _ hp_ hq_ ?_
      refine wH_seq ?_
      refine wH_draws ?_
      refine h_op (vI num_1) (wt rfl) rfl ?_
      refine h_op (vI v_17) (wt rfl) rfl ?_
      obtain ⟨q_20, hz_21, hF⟩ := bind_some hF
      refine h_quo rfl rfl hz_21 (wt rfl) ?_
      refine h_op (vI den_2) (wt rfl) rfl ?_
      refine h_op (vI v_17) (wt rfl) rfl ?_
      obtain ⟨q_22, hz_23, hF⟩ := bind_some hF
      refine h_quo rfl rfl hz_23 (wt rfl) ?_
      refine h_op (.d (.agg (Fraction.enc (⟨q_20, q_22⟩ : Fraction)))) (wt rfl) (by kernel_rfl) ?_
      refine h_str 7 (.inr (by kernel_rfl)) (fun _ _ ag => trivial) 0 sz34 rfl rfl [(vI q_20), (vI q_22)] rfl (wt rfl) ?_
      refine h_nil ?_
      replace hF := some_inj hF
      subst hF
      refine wH_ret ?_
      exact fin0 (.inr rfl) [(.d (.agg (Fraction.enc (⟨q_20, q_22⟩ : Fraction))))] ⟨⟨0, _, _, _, _, _, _, _, rfl, rfl, sz34, ag34, rfl⟩, trivial⟩ rfl rfl rfl
theorem ref_DriftOf_ok {all_1 : (List Beat)} {player_2 : ByteArray} {r : Fraction × Bool} (hF : ref_DriftOf all_1 player_2 = some r) :
    FnM Try.prog 22 [(vL Beat.enc all_1), (vS player_2)] [] (.tup [(.d (.agg (Fraction.enc r.1))), (vB r.2)]) [] := by
  refine FnM.of_wH ⟨Try.prog, 42, [], []⟩ rfl Try.func22 rfl rfl (Nat.le_of_ble_eq_true rfl) (by kernel_rfl) ?_
  unfold ref_DriftOf at hF
  refine wH_seq ?_
  refine wH_region ?_
  refine h_alloc 0 (.inl rfl) z34 rfl (wt rfl) (fun n_3 => ?_)
  refine h_op (vB false) (wt rfl) rfl ?_
  refine h_nil ?_
  refine wH_seq ?_
  refine wH_region ?_
  refine h_op (vL Beat.enc all_1) (wt rfl) rfl ?_
  refine h_op (vS player_2) (wt rfl) rfl ?_
  obtain ⟨r_4, hr_5, hF⟩ := bind_some hF
  refine h_call0 (ref_beatsOf_ok hr_5) rfl hb86 rfl rfl rfl rfl (wt rfl) ?_
  refine h_op (vL Beat.enc r_4) (wt rfl) rfl ?_
  refine h_nil ?_
  refine wH_seq ?_
  refine wH_seq ?_
  refine wH_region ?_
  refine h_op (vL Beat.enc r_4) (wt rfl) rfl ?_
  refine h_len un26 rfl (wt rfl) ?_
  refine h_op (vB (decide ((r_4.length : Int) < 2))) (wt rfl) rfl ?_
  refine h_nil ?_
  rcases cond_some hF with ⟨hc_6, hF⟩ | ⟨hc_6, hF⟩
  · refine wH_ift rfl hc_6 ?_
    refine wH_seq ?_
    refine wH_region ?_
    refine h_op (.d (.agg (Fraction.enc (⟨0, 0⟩ : Fraction)))) (wt rfl) (by kernel_rfl) ?_
    refine h_str 0 (.inl rfl) (fun _ _ _ => trivial) 0 sz34 rfl rfl [(vI 0), (vI 0)] rfl (wt rfl) ?_
    refine h_op (vB false) (wt rfl) rfl ?_
    refine h_nil ?_
    replace hF := some_inj hF
    subst hF
    refine wH_ret ?_
    exact fin0 (.inr rfl) [(.d (.agg (Fraction.enc (⟨0, 0⟩ : Fraction)))), (vB false)] ⟨⟨0, _, _, _, _, _, _, _, rfl, rfl, sz34, ag34, rfl⟩, ⟨rfl, trivial⟩⟩ rfl rfl rfl
  · refine wH_iff rfl hc_6 ?_
    refine wH_skip ?_
    refine wH_seq ?_
    refine wH_draws ?_
    refine h_op (vL Beat.enc r_4) (wt rfl) rfl ?_
    obtain ⟨y_7, hy_8, hF⟩ := bind_some hF
    refine h_ia es26 rfl rfl hy_8 rfl (wt rfl) ?_
    refine h_ldc sz119 ag119 rfl (.d (.agg (Beat.enc y_7))) rfl (wt rfl) ?_
    refine h_op (vL Beat.enc r_4) (wt rfl) rfl ?_
    refine h_op (vL Beat.enc r_4) (wt rfl) rfl ?_
    refine h_len un26 rfl (wt rfl) ?_
    refine h_op (vI (w64 ((r_4.length : Int) - 1))) (wt rfl) rfl ?_
    obtain ⟨y_9, hy_10, hF⟩ := bind_some hF
    refine h_ia es26 rfl rfl hy_10 rfl (wt rfl) ?_
    refine h_ldc sz119 ag119 rfl (.d (.agg (Beat.enc y_9))) rfl (wt rfl) ?_
    refine h_alloc 9 (.inr (by kernel_rfl)) z119 rfl (wt rfl) (fun n_11 => ?_)
    refine h_alloc 10 (.inr (by kernel_rfl)) z119 rfl (wt rfl) (fun n_12 => ?_)
    refine h_str 11 (.inr (by kernel_rfl)) (fun _ _ ag => ⟨.inr (.inr (by kernel_rfl)), ⟨.inr (.inr (by kernel_rfl)), trivial⟩⟩) 1 sz119 rfl rfl [(vS y_7.Player), (vI y_7.At), (vI y_7.Clock)] rfl (wt rfl) ?_
    refine h_str 12 (.inr (by kernel_rfl)) (fun _ _ ag => ⟨.inr (.inr (by kernel_rfl)), ⟨.inr (.inr (by kernel_rfl)), ⟨.inr (.inr (by kernel_rfl)), trivial⟩⟩⟩) 2 sz119 rfl rfl [(vS y_9.Player), (vI y_9.At), (vI y_9.Clock)] rfl (wt rfl) ?_
    refine h_nil ?_
    refine wH_seq ?_
    refine wH_region ?_
    refine h_far pl119_2 rfl 2 rfl (wt rfl) ?_
    refine h_ldr 0 2 (.inl rfl) (fun _ _ _ => trivial) sz3 ag3 rfl rfl (vI y_9.Clock) rfl (wt rfl) ?_
    refine h_far pl119_2 rfl 2 rfl (wt rfl) ?_
    refine h_ldr 0 1 (.inl rfl) (fun _ _ _ => trivial) sz3 ag3 rfl rfl (vI y_7.Clock) rfl (wt rfl) ?_
    refine h_op (vI (w64 (y_9.Clock - y_7.Clock))) (wt rfl) rfl ?_
    refine h_far pl119_1 rfl 1 rfl (wt rfl) ?_
    refine h_ldr 0 2 (.inl rfl) (fun _ _ _ => trivial) sz3 ag3 rfl rfl (vI y_9.At) rfl (wt rfl) ?_
    refine h_far pl119_1 rfl 1 rfl (wt rfl) ?_
    refine h_ldr 0 1 (.inl rfl) (fun _ _ _ => trivial) sz3 ag3 rfl rfl (vI y_7.At) rfl (wt rfl) ?_
    refine h_op (vI (w64 (y_9.At - y_7.At))) (wt rfl) rfl ?_
    refine h_op (vI (w64 ((w64 (y_9.Clock - y_7.Clock)) - (w64 (y_9.At - y_7.At))))) (wt rfl) rfl ?_
    refine h_far pl119_1 rfl 1 rfl (wt rfl) ?_
    refine h_ldr 0 2 (.inl rfl) (fun _ _ _ => trivial) sz3 ag3 rfl rfl (vI y_9.At) rfl (wt rfl) ?_
    refine h_far pl119_1 rfl 1 rfl (wt rfl) ?_
    refine h_ldr 0 1 (.inl rfl) (fun _ _ _ => trivial) sz3 ag3 rfl rfl (vI y_7.At) rfl (wt rfl) ?_
    refine h_op (vI (w64 (y_9.At - y_7.At))) (wt rfl) rfl ?_
    obtain ⟨r_13, hr_14, hF⟩ := bind_some hF
    refine h_call0 (ref_Lowest_ok hr_14) rfl hb88 rfl rfl rfl rfl (wt rfl) ?_
    refine h_str 0 (.inl rfl) (fun _ _ _ => trivial) 0 sz34 rfl rfl [(vI r_13.Num), (vI r_13.Den)] rfl (wt rfl) ?_
    refine h_op (vB true) (wt rfl) rfl ?_
    refine h_nil ?_
    replace hF := some_inj hF
    subst hF
    refine wH_ret ?_
    exact fin0 (.inr rfl) [(.d (.agg (Fraction.enc r_13))), (vB true)] ⟨⟨0, _, _, _, _, _, _, _, rfl, rfl, sz34, ag34, rfl⟩, ⟨rfl, trivial⟩⟩ rfl rfl rfl
end Go.Proofs.Ytodfcleaapnklaa.Law
