/-
  The machine computes these plain functions (written by a program of ours).
-/
import Derived.Test.YtodfcleaapnklaaFacts
import Derived.Test.YtodfcleaapnklaaDefs
import Derived.Test.YtodfcleaapnklaaPf1
open Go Go.Eng Go.Proofs
namespace Go.Proofs.Ytodfcleaapnklaa.Law
set_option maxRecDepth 100000
set_option linter.unusedVariables false
set_option maxHeartbeats 1000000
theorem mk_Stream_RightEntries_okb {s_1 : Stream} {r : (List Entry) × Stream} (hF : mk_Stream_RightEntries s_1 = some r) :
    FnM Try.prog 90 [(.ref (extN 0) 0 0)] [(.cells 2 [(vL eI s_1.L), (vI s_1.f_at)])] (gV (extN 1) 13 r.1) (([(.cells 2 [(vL eI r.2.L), (vI r.2.f_at)])] : List Box).map some ++ gO 13 Entry.enc r.1) := by
  refine FnM.of_wH ⟨Try.prog, 89, [], []⟩ rfl Try.func90 rfl rfl (Nat.le_of_ble_eq_true rfl) (by kernel_rfl) ?_
  unfold mk_Stream_RightEntries at hF
  refine wH_seq ?_
  refine wH_region ?_
  refine h_op .nil (wt rfl) rfl ?_
  refine h_nil ?_
  refine wH_seq ?_
  refine wH_region ?_
  refine h_op .nil (wt rfl) rfl ?_
  refine h_nil ?_
  refine wH_seq ?_
  refine wH_seq ?_
  refine wH_region ?_
  refine h_lit (([(⟨#[101, 97]⟩ : ByteArray), (⟨#[101, 98]⟩ : ByteArray), (⟨#[101, 99]⟩ : ByteArray), (⟨#[101, 100]⟩ : ByteArray)] : List ByteArray).map eS) es46 ez46 rfl rfl rfl rfl rfl (wt rfl) ?_
  refine h_len un46 rfl (wt rfl) ?_
  refine h_op (vI 0) (wt rfl) rfl ?_
  refine h_nil ?_
  refine wH_new (fun n_8 => ?_)
  obtain ⟨o_13, hj_14, hF⟩ := bind_some hF
  obtain ⟨hn_6, hj_14⟩ := forL_some hj_14
  refine wH_join (β := ((List Entry) × (List Int) × Int) × Nm) (fun p => (fun (s_7 : (List Entry) × (List Int) × Int) (n_10 : Nm) => ([(3, (gV n_10 13 s_7.1))] : List (Nat × V))) p.1 p.2) (fun p => (fun (s_7 : (List Entry) × (List Int) × Int) (n_10 : Nm) => ([((extN 0), some (.cells 2 [(vL eI s_7.2.1), (vI s_7.2.2)])), (n_10, gB 13 Entry.enc s_7.1)] : Hp)) p.1 p.2) (fun p => o_13 = .go p.1) ?_ ?_
  · refine wH_block ?_
    refine wH_loop (β := Nat × (List ByteArray) × ((List Entry) × (List Int) × Int) × Nm) (fun p => (fun (k_2 : Nat) (l_3 : List ByteArray) (s_7 : (List Entry) × (List Int) × Int) (n_10 : Nm) => ([(0, (.ref (extN 0) 0 0)), (3, (gV n_10 13 s_7.1)), (11, (vL eS ([(⟨#[101, 97]⟩ : ByteArray), (⟨#[101, 98]⟩ : ByteArray), (⟨#[101, 99]⟩ : ByteArray), (⟨#[101, 100]⟩ : ByteArray)] : List ByteArray))), (12, (vI (([(⟨#[101, 97]⟩ : ByteArray), (⟨#[101, 98]⟩ : ByteArray), (⟨#[101, 99]⟩ : ByteArray), (⟨#[101, 100]⟩ : ByteArray)] : List ByteArray).length : Int))), (13, (vI (k_2 : Int)))] : List (Nat × V))) p.1 p.2.1 p.2.2.1 p.2.2.2) (fun p => (fun (k_2 : Nat) (l_3 : List ByteArray) (s_7 : (List Entry) × (List Int) × Int) (n_10 : Nm) => ([((extN 0), some (.cells 2 [(vL eI s_7.2.1), (vI s_7.2.2)])), (n_10, gB 13 Entry.enc s_7.1)] : Hp)) p.1 p.2.1 p.2.2.1 p.2.2.2) (fun p => forR (fun k x s => mk_Stream_RightEntries_L3 k x s) p.2.1 p.1 p.2.2.1 = some o_13 ∧ (([(⟨#[101, 97]⟩ : ByteArray), (⟨#[101, 98]⟩ : ByteArray), (⟨#[101, 99]⟩ : ByteArray), (⟨#[101, 100]⟩ : ByteArray)] : List ByteArray)).drop p.1 = p.2.1) (fun p => p.2.1.length) (0, ([(⟨#[101, 97]⟩ : ByteArray), (⟨#[101, 98]⟩ : ByteArray), (⟨#[101, 99]⟩ : ByteArray), (⟨#[101, 100]⟩ : ByteArray)] : List ByteArray), (([] : List Entry), s_1.L, s_1.f_at), n_8) ⟨hj_14, rfl⟩ rfl rfl ?_
    rintro ⟨k_2, l_3, s_7, n_10⟩ ⟨hL_12, hD_5⟩
    dsimp only at hL_12 hD_5
    cases l_3 with
    | nil =>
      replace hL_12 := some_inj hL_12
      subst hL_12
      refine wH_seq (wH_region (h_op (vB (decide ((k_2 : Int) < (([(⟨#[101, 97]⟩ : ByteArray), (⟨#[101, 98]⟩ : ByteArray), (⟨#[101, 99]⟩ : ByteArray), (⟨#[101, 100]⟩ : ByteArray)] : List ByteArray).length : Int)))) (wt rfl) rfl (h_nil ?_)))
      refine wH_seq (wH_iff rfl (drop_nil hD_5) (wH_exit ?_))
      exact cut_mk (s_7, n_10) rfl rfl rfl
    | cons x_4 l_3 =>
      obtain ⟨c_, hc_11, hL_12⟩ := bind_some hL_12
      refine wH_seq (wH_region (h_op (vB (decide ((k_2 : Int) < (([(⟨#[101, 97]⟩ : ByteArray), (⟨#[101, 98]⟩ : ByteArray), (⟨#[101, 99]⟩ : ByteArray), (⟨#[101, 100]⟩ : ByteArray)] : List ByteArray).length : Int)))) (wt rfl) rfl (h_nil ?_)))
      refine wH_seq (wH_ift rfl (drop_cons hD_5) (wH_skip ?_))
      unfold mk_Stream_RightEntries_L3 at hc_11
      refine wH_seq ?_
      refine wH_block ?_
      refine wH_seq ?_
      refine wH_region ?_
      refine h_ia es46 rfl rfl (drop_idx hD_5) rfl (wt rfl) ?_
      refine h_ldc sz9 ag9 rfl (vS x_4) rfl (wt rfl) ?_
      refine h_op (vS x_4) (wt rfl) rfl ?_
      refine h_nil ?_
      refine wH_seq ?_
      refine wH_seq ?_
      refine wH_region ?_
      refine h_op (.ref (extN 0) 0 0) (wt rfl) rfl ?_
      obtain ⟨r_15, hr_16, hc_11⟩ := bind_some hc_11
      refine h_callq 0 [0] (.inl rfl) (fun _ _ _ => trivial) (mk_Stream_Flip_ok hr_16) rfl hb37 rfl (by kernel_rfl) (by kernel_rfl) (by kernel_rfl) (by kernel_rfl) (by kernel_rfl) (by kernel_rfl) (by kernel_rfl) (by decide) (by kernel_rfl) (wt rfl) (vB r_15.1) (by kernel_rfl) ([((extN 0), some (.cells 2 [(vL eI r_15.2.L), (vI r_15.2.f_at)])), (n_10, gB 13 Entry.enc s_7.1)] : Hp) (by kernel_rfl) ?_
      refine h_nil ?_
      rcases cond_some hc_11 with ⟨hc_18, hc_11⟩ | ⟨hc_18, hc_11⟩
      · refine wH_ift rfl hc_18 ?_
        refine wH_exit ?_
        refine wH_region ?_
        refine h_opw (w64_next hD_5 hn_6) (wt rfl) rfl ?_
        refine h_op (vI ((k_2 + 1 : Nat) : Int)) (wt rfl) rfl ?_
        refine h_nil ?_
        replace hc_11 := some_inj hc_11
        subst hc_11
        exact loop_mk (k_2 + 1, l_3, (s_7.1, r_15.2.L, r_15.2.f_at), n_10) ⟨hL_12, drop_next hD_5⟩ (Nat.lt_succ_self _) rfl rfl
      · refine wH_iff rfl hc_18 ?_
        refine wH_skip ?_
        refine wH_seq ?_
        refine wH_region ?_
        refine h_op (vS x_4) (wt rfl) rfl ?_
        refine h_op (.ref (extN 0) 0 0) (wt rfl) rfl ?_
        refine h_lit (([(⟨#[105, 97]⟩ : ByteArray), (⟨#[105, 98]⟩ : ByteArray), (⟨#[105, 99]⟩ : ByteArray)] : List ByteArray).map eS) es46 ez46 rfl rfl rfl rfl rfl (wt rfl) ?_
        obtain ⟨r_19, hr_20, hc_11⟩ := bind_some hc_11
        refine h_callq 0 [0] (.inl rfl) (fun _ _ _ => trivial) (mk_Stream_Some_ok hr_20) rfl hb9 rfl (by kernel_rfl) (by kernel_rfl) (by kernel_rfl) (by kernel_rfl) (by kernel_rfl) (by kernel_rfl) (by kernel_rfl) (by decide) (by kernel_rfl) (wt rfl) (vS r_19.1) (by kernel_rfl) ([((extN 0), some (.cells 2 [(vL eI r_19.2.L), (vI r_19.2.f_at)])), (n_10, gB 13 Entry.enc s_7.1)] : Hp) (by kernel_rfl) ?_
        refine h_op (.ref (extN 0) 0 0) (wt rfl) rfl ?_
        obtain ⟨r_22, hr_23, hc_11⟩ := bind_some hc_11
        refine h_callq 0 [0] (.inl rfl) (fun _ _ _ => trivial) (mk_Stream_Range_ok hr_23) rfl hb106 rfl (by kernel_rfl) (by kernel_rfl) (by kernel_rfl) (by kernel_rfl) (by kernel_rfl) (by kernel_rfl) (by kernel_rfl) (by decide) (by kernel_rfl) (wt rfl) (vI r_22.1) (by kernel_rfl) ([((extN 0), some (.cells 2 [(vL eI r_22.2.L), (vI r_22.2.f_at)])), (n_10, gB 13 Entry.enc s_7.1)] : Hp) (by kernel_rfl) ?_
        refine h_op (.ref (extN 0) 0 0) (wt rfl) rfl ?_
        refine h_lit (([0, 0, 1, 3] : List Int).map eI) es22 ez22 rfl rfl rfl rfl rfl (wt rfl) ?_
        obtain ⟨r_25, hr_26, hc_11⟩ := bind_some hc_11
        refine h_callq 0 [0] (.inl rfl) (fun _ _ _ => trivial) (mk_Stream_Pick_ok hr_26) rfl hb10 rfl (by kernel_rfl) (by kernel_rfl) (by kernel_rfl) (by kernel_rfl) (by kernel_rfl) (by kernel_rfl) (by kernel_rfl) (by decide) (by kernel_rfl) (wt rfl) (vI r_25.1) (by kernel_rfl) ([((extN 0), some (.cells 2 [(vL eI r_25.2.L), (vI r_25.2.f_at)])), (n_10, gB 13 Entry.enc s_7.1)] : Hp) (by kernel_rfl) ?_
        refine h_op (.ref (extN 0) 0 0) (wt rfl) rfl ?_
        refine h_lit (([1, 1, 2, 3, 7] : List Int).map eI) es22 ez22 rfl rfl rfl rfl rfl (wt rfl) ?_
        obtain ⟨r_28, hr_29, hc_11⟩ := bind_some hc_11
        refine h_callq 0 [0] (.inl rfl) (fun _ _ _ => trivial) (mk_Stream_Pick_ok hr_29) rfl hb10 rfl (by kernel_rfl) (by kernel_rfl) (by kernel_rfl) (by kernel_rfl) (by kernel_rfl) (by kernel_rfl) (by kernel_rfl) (by decide) (by kernel_rfl) (wt rfl) (vI r_28.1) (by kernel_rfl) ([((extN 0), some (.cells 2 [(vL eI r_28.2.L), (vI r_28.2.f_at)])), (n_10, gB 13 Entry.enc s_7.1)] : Hp) (by kernel_rfl) ?_
        refine h_op (.ref (extN 0) 0 0) (wt rfl) rfl ?_
        refine h_lit (([127, 127, 31, 96, 1, 2] : List Int).map eI) es22 ez22 rfl rfl rfl rfl rfl (wt rfl) ?_
        obtain ⟨r_31, hr_32, hc_11⟩ := bind_some hc_11
        refine h_callq 0 [0] (.inl rfl) (fun _ _ _ => trivial) (mk_Stream_Pick_ok hr_32) rfl hb10 rfl (by kernel_rfl) (by kernel_rfl) (by kernel_rfl) (by kernel_rfl) (by kernel_rfl) (by kernel_rfl) (by kernel_rfl) (by decide) (by kernel_rfl) (wt rfl) (vI r_31.1) (by kernel_rfl) ([((extN 0), some (.cells 2 [(vL eI r_31.2.L), (vI r_31.2.f_at)])), (n_10, gB 13 Entry.enc s_7.1)] : Hp) (by kernel_rfl) ?_
        refine h_op (.ref (extN 0) 0 0) (wt rfl) rfl ?_
        refine h_lit (([0, 0, 60, 600, 1380] : List Int).map eI) es22 ez22 rfl rfl rfl rfl rfl (wt rfl) ?_
        obtain ⟨r_34, hr_35, hc_11⟩ := bind_some hc_11
        refine h_callq 0 [0] (.inl rfl) (fun _ _ _ => trivial) (mk_Stream_Pick_ok hr_35) rfl hb10 rfl (by kernel_rfl) (by kernel_rfl) (by kernel_rfl) (by kernel_rfl) (by kernel_rfl) (by kernel_rfl) (by kernel_rfl) (by decide) (by kernel_rfl) (wt rfl) (vI r_34.1) (by kernel_rfl) ([((extN 0), some (.cells 2 [(vL eI r_34.2.L), (vI r_34.2.f_at)])), (n_10, gB 13 Entry.enc s_7.1)] : Hp) (by kernel_rfl) ?_
        refine h_op (.ref (extN 0) 0 0) (wt rfl) rfl ?_
        refine h_lit (([0, 60, 120, 600, 720, 1439] : List Int).map eI) es22 ez22 rfl rfl rfl rfl rfl (wt rfl) ?_
        obtain ⟨r_37, hr_38, hc_11⟩ := bind_some hc_11
        refine h_callq 0 [0] (.inl rfl) (fun _ _ _ => trivial) (mk_Stream_Pick_ok hr_38) rfl hb10 rfl (by kernel_rfl) (by kernel_rfl) (by kernel_rfl) (by kernel_rfl) (by kernel_rfl) (by kernel_rfl) (by kernel_rfl) (by decide) (by kernel_rfl) (wt rfl) (vI r_37.1) (by kernel_rfl) ([((extN 0), some (.cells 2 [(vL eI r_37.2.L), (vI r_37.2.f_at)])), (n_10, gB 13 Entry.enc s_7.1)] : Hp) (by kernel_rfl) ?_
        refine h_op (.ref (extN 0) 0 0) (wt rfl) rfl ?_
        refine h_lit (([0, 0, 1, 5] : List Int).map eI) es22 ez22 rfl rfl rfl rfl rfl (wt rfl) ?_
        obtain ⟨r_40, hr_41, hc_11⟩ := bind_some hc_11
        refine h_callq 0 [0] (.inl rfl) (fun _ _ _ => trivial) (mk_Stream_Pick_ok hr_41) rfl hb10 rfl (by kernel_rfl) (by kernel_rfl) (by kernel_rfl) (by kernel_rfl) (by kernel_rfl) (by kernel_rfl) (by kernel_rfl) (by decide) (by kernel_rfl) (wt rfl) (vI r_40.1) (by kernel_rfl) ([((extN 0), some (.cells 2 [(vL eI r_40.2.L), (vI r_40.2.f_at)])), (n_10, gB 13 Entry.enc s_7.1)] : Hp) (by kernel_rfl) ?_
        refine h_op (.ref (extN 0) 0 0) (wt rfl) rfl ?_
        obtain ⟨r_43, hr_44, hc_11⟩ := bind_some hc_11
        refine h_callq 0 [0] (.inl rfl) (fun _ _ _ => trivial) (mk_Stream_Flip_ok hr_44) rfl hb37 rfl (by kernel_rfl) (by kernel_rfl) (by kernel_rfl) (by kernel_rfl) (by kernel_rfl) (by kernel_rfl) (by kernel_rfl) (by decide) (by kernel_rfl) (wt rfl) (vB r_43.1) (by kernel_rfl) ([((extN 0), some (.cells 2 [(vL eI r_43.2.L), (vI r_43.2.f_at)])), (n_10, gB 13 Entry.enc s_7.1)] : Hp) (by kernel_rfl) ?_
        refine h_op (.agg [(vS x_4), (vS r_19.1), (vI r_22.1), (vI r_25.1), (vI 0), (vI r_28.1), (vI r_31.1), .nil, (vI r_34.1), (vI r_37.1), (vI r_40.1), .nil, (vB r_43.1)]) (wt rfl) (by kernel_rfl) ?_
        refine h_alloc 0 (.inl rfl) z56 rfl (wt rfl) (fun n_46 => ?_)
        refine h_str 0 (.inl rfl) (fun _ _ _ => trivial) 2 sz56 rfl rfl [(vS x_4), (vS r_19.1), (vI r_22.1), (vI r_25.1), (vI 0), (vI r_28.1), (vI r_31.1), .nil, (vI r_34.1), (vI r_37.1), (vI r_40.1), .nil, (vB r_43.1)] rfl (wt rfl) ?_
        refine h_nil ?_
        refine wH_seq ?_
        refine wH_draws ?_
        refine h_far pl56_3 rfl 3 rfl (wt rfl) ?_
        refine h_ldr 1 2 (.inr (by kernel_rfl)) (fun _ _ ag => trivial) sz3 ag3 rfl rfl (vI r_25.1) rfl (wt rfl) ?_
        refine h_op (.ref (extN 0) 0 0) (wt rfl) rfl ?_
        refine h_lit (([0, 1, 5, 10, 30] : List Int).map eI) es22 ez22 rfl rfl rfl rfl rfl (wt rfl) ?_
        obtain ⟨r_47, hr_48, hc_11⟩ := bind_some hc_11
        refine h_callq 4 [0] (.inr (by kernel_rfl)) (fun _ _ ag => by exact ⟨.inr (.inl (dis1 (ag_ne ag (i := 0) (j := 2) rfl rfl (by decide)))), trivial⟩) (mk_Stream_Pick_ok hr_48) rfl hb10 rfl (by kernel_rfl) (by kernel_rfl) (by kernel_rfl) (by kernel_rfl) (by kernel_rfl) (by kernel_rfl) (by kernel_rfl) (by decide) (by kernel_rfl) (wt rfl) (vI r_47.1) (by kernel_rfl) ([((extN 0), some (.cells 2 [(vL eI r_47.2.L), (vI r_47.2.f_at)])), (n_10, gB 13 Entry.enc s_7.1), (n_46, some (.cells 13 [(vS x_4), (vS r_19.1), (vI r_22.1), (vI r_25.1), (vI 0), (vI r_28.1), (vI r_31.1), .nil, (vI r_34.1), (vI r_37.1), (vI r_40.1), .nil, (vB r_43.1)]))] : Hp) (by kernel_rfl) ?_
        refine h_op (vI (w64 (r_25.1 + r_47.1))) (wt rfl) rfl ?_
        refine h_far pl56_4 rfl 4 rfl (wt rfl) ?_
        refine h_str 7 (.inr (by kernel_rfl)) (fun _ _ ag => ⟨.inr (.inr (by kernel_rfl)), ⟨.inr (.inr (by kernel_rfl)), trivial⟩⟩) 2 sz3 rfl rfl [(vS x_4), (vS r_19.1), (vI r_22.1), (vI r_25.1), (vI (w64 (r_25.1 + r_47.1))), (vI r_28.1), (vI r_31.1), .nil, (vI r_34.1), (vI r_37.1), (vI r_40.1), .nil, (vB r_43.1)] rfl (wt rfl) ?_
        refine h_nil ?_
        refine wH_seq ?_
        refine wH_seq ?_
        refine wH_region ?_
        refine h_lit (([1, 2, 8] : List Int).map eI) es22 ez22 rfl rfl rfl rfl rfl (wt rfl) ?_
        refine h_len un22 rfl (wt rfl) ?_
        refine h_op (vI 0) (wt rfl) rfl ?_
        refine h_nil ?_
        refine wH_new (fun n_56 => ?_)
        obtain ⟨o_61, hj_62, hc_11⟩ := bind_some hc_11
        obtain ⟨hn_54, hj_62⟩ := forL_some hj_62
        refine wH_join (β := ((List Int) × (List Int) × Int) × Nm) (fun p => (fun (s_55 : (List Int) × (List Int) × Int) (n_58 : Nm) => ([(0, (.ref (extN 0) 0 0)), (3, (gV n_10 13 s_7.1)), (6, (.ref n_46 0 0)), (11, (vL eS ([(⟨#[101, 97]⟩ : ByteArray), (⟨#[101, 98]⟩ : ByteArray), (⟨#[101, 99]⟩ : ByteArray), (⟨#[101, 100]⟩ : ByteArray)] : List ByteArray))), (12, (vI (([(⟨#[101, 97]⟩ : ByteArray), (⟨#[101, 98]⟩ : ByteArray), (⟨#[101, 99]⟩ : ByteArray), (⟨#[101, 100]⟩ : ByteArray)] : List ByteArray).length : Int))), (13, (vI (k_2 : Int)))] : List (Nat × V))) p.1 p.2) (fun p => (fun (s_55 : (List Int) × (List Int) × Int) (n_58 : Nm) => ([((extN 0), some (.cells 2 [(vL eI s_55.2.1), (vI s_55.2.2)])), (n_10, gB 13 Entry.enc s_7.1), (n_46, some (.cells 13 [(vS x_4), (vS r_19.1), (vI r_22.1), (vI r_25.1), (vI (w64 (r_25.1 + r_47.1))), (vI r_28.1), (vI r_31.1), (gV n_58 1 s_55.1), (vI r_34.1), (vI r_37.1), (vI r_40.1), .nil, (vB r_43.1)])), (n_58, gB 1 eI s_55.1)] : Hp)) p.1 p.2) (fun p => o_61 = .go p.1) ?_ ?_
        · refine wH_block ?_
          refine wH_loop (β := Nat × (List Int) × ((List Int) × (List Int) × Int) × Nm) (fun p => (fun (k_50 : Nat) (l_51 : List Int) (s_55 : (List Int) × (List Int) × Int) (n_58 : Nm) => ([(0, (.ref (extN 0) 0 0)), (3, (gV n_10 13 s_7.1)), (6, (.ref n_46 0 0)), (11, (vL eS ([(⟨#[101, 97]⟩ : ByteArray), (⟨#[101, 98]⟩ : ByteArray), (⟨#[101, 99]⟩ : ByteArray), (⟨#[101, 100]⟩ : ByteArray)] : List ByteArray))), (12, (vI (([(⟨#[101, 97]⟩ : ByteArray), (⟨#[101, 98]⟩ : ByteArray), (⟨#[101, 99]⟩ : ByteArray), (⟨#[101, 100]⟩ : ByteArray)] : List ByteArray).length : Int))), (13, (vI (k_2 : Int))), (53, (vL eI ([1, 2, 8] : List Int))), (54, (vI (([1, 2, 8] : List Int).length : Int))), (55, (vI (k_50 : Int)))] : List (Nat × V))) p.1 p.2.1 p.2.2.1 p.2.2.2) (fun p => (fun (k_50 : Nat) (l_51 : List Int) (s_55 : (List Int) × (List Int) × Int) (n_58 : Nm) => ([((extN 0), some (.cells 2 [(vL eI s_55.2.1), (vI s_55.2.2)])), (n_10, gB 13 Entry.enc s_7.1), (n_46, some (.cells 13 [(vS x_4), (vS r_19.1), (vI r_22.1), (vI r_25.1), (vI (w64 (r_25.1 + r_47.1))), (vI r_28.1), (vI r_31.1), (gV n_58 1 s_55.1), (vI r_34.1), (vI r_37.1), (vI r_40.1), .nil, (vB r_43.1)])), (n_58, gB 1 eI s_55.1)] : Hp)) p.1 p.2.1 p.2.2.1 p.2.2.2) (fun p => forR (fun k x s => mk_Stream_RightEntries_L1 k x s) p.2.1 p.1 p.2.2.1 = some o_61 ∧ (([1, 2, 8] : List Int)).drop p.1 = p.2.1) (fun p => p.2.1.length) (0, ([1, 2, 8] : List Int), (([] : List Int), r_47.2.L, r_47.2.f_at), n_56) ⟨hj_62, rfl⟩ rfl rfl ?_
          rintro ⟨k_50, l_51, s_55, n_58⟩ ⟨hL_60, hD_53⟩
          dsimp only at hL_60 hD_53
          cases l_51 with
          | nil =>
            replace hL_60 := some_inj hL_60
            subst hL_60
            refine wH_seq (wH_region (h_op (vB (decide ((k_50 : Int) < (([1, 2, 8] : List Int).length : Int)))) (wt rfl) rfl (h_nil ?_)))
            refine wH_seq (wH_iff rfl (drop_nil hD_53) (wH_exit ?_))
            exact cut_mk (s_55, n_58) rfl rfl rfl
          | cons x_52 l_51 =>
            obtain ⟨c_, hc_59, hL_60⟩ := bind_some hL_60
            refine wH_seq (wH_region (h_op (vB (decide ((k_50 : Int) < (([1, 2, 8] : List Int).length : Int)))) (wt rfl) rfl (h_nil ?_)))
            refine wH_seq (wH_ift rfl (drop_cons hD_53) (wH_skip ?_))
            unfold mk_Stream_RightEntries_L1 at hc_59
            refine wH_seq ?_
            refine wH_block ?_
            refine wH_seq ?_
            refine wH_region ?_
            refine h_ia es22 rfl rfl (drop_idx hD_53) rfl (wt rfl) ?_
            refine h_ldc sz3 ag3 rfl (vI x_52) rfl (wt rfl) ?_
            refine h_op (vI x_52) (wt rfl) rfl ?_
            refine h_nil ?_
            refine wH_seq ?_
            refine wH_region ?_
            refine h_op (.ref (extN 0) 0 0) (wt rfl) rfl ?_
            obtain ⟨r_63, hr_64, hc_59⟩ := bind_some hc_59
            refine h_callq 0 [0] (.inl rfl) (fun _ _ _ => trivial) (mk_Stream_Flip_ok hr_64) rfl hb37 rfl (by kernel_rfl) (by kernel_rfl) (by kernel_rfl) (by kernel_rfl) (by kernel_rfl) (by kernel_rfl) (by kernel_rfl) (by decide) (by kernel_rfl) (wt rfl) (vB r_63.1) (by kernel_rfl) ([((extN 0), some (.cells 2 [(vL eI r_63.2.L), (vI r_63.2.f_at)])), (n_10, gB 13 Entry.enc s_7.1), (n_46, some (.cells 13 [(vS x_4), (vS r_19.1), (vI r_22.1), (vI r_25.1), (vI (w64 (r_25.1 + r_47.1))), (vI r_28.1), (vI r_31.1), (gV n_58 1 s_55.1), (vI r_34.1), (vI r_37.1), (vI r_40.1), .nil, (vB r_43.1)])), (n_58, gB 1 eI s_55.1)] : Hp) (by kernel_rfl) ?_
            refine h_nil ?_
            obtain ⟨v_66, h_67, hc_59⟩ := bind_some hc_59
            refine wH_join (β := Nm) (fun (n_68 : Nm) => ([(0, (.ref (extN 0) 0 0)), (3, (gV n_10 13 s_7.1)), (6, (.ref n_46 0 0)), (11, (vL eS ([(⟨#[101, 97]⟩ : ByteArray), (⟨#[101, 98]⟩ : ByteArray), (⟨#[101, 99]⟩ : ByteArray), (⟨#[101, 100]⟩ : ByteArray)] : List ByteArray))), (12, (vI (([(⟨#[101, 97]⟩ : ByteArray), (⟨#[101, 98]⟩ : ByteArray), (⟨#[101, 99]⟩ : ByteArray), (⟨#[101, 100]⟩ : ByteArray)] : List ByteArray).length : Int))), (13, (vI (k_2 : Int))), (53, (vL eI ([1, 2, 8] : List Int))), (54, (vI (([1, 2, 8] : List Int).length : Int))), (55, (vI (k_50 : Int)))] : List (Nat × V))) (fun (n_68 : Nm) => ([((extN 0), some (.cells 2 [(vL eI r_63.2.L), (vI r_63.2.f_at)])), (n_10, gB 13 Entry.enc s_7.1), (n_46, some (.cells 13 [(vS x_4), (vS r_19.1), (vI r_22.1), (vI r_25.1), (vI (w64 (r_25.1 + r_47.1))), (vI r_28.1), (vI r_31.1), (gV n_68 1 v_66), (vI r_34.1), (vI r_37.1), (vI r_40.1), .nil, (vB r_43.1)])), (n_68, gB 1 eI v_66)] : Hp)) (fun _ => True) ?_ ?_
            · rcases cond_some h_67 with ⟨hc_69, h_67⟩ | ⟨hc_69, h_67⟩
              · refine wH_ift rfl hc_69 ?_
                refine wH_region ?_
                refine h_far pl56_7 rfl 7 rfl (wt rfl) ?_
                refine h_ldr 0 2 (.inl rfl) (fun _ _ _ => trivial) sz22 ag22 rfl rfl (gV n_58 1 s_55.1) rfl (wt rfl) ?_
                refine h_op (vI x_52) (wt rfl) rfl ?_
                refine h_lit (([x_52] : List Int).map eI) es22 ez22 rfl rfl rfl rfl rfl (wt rfl) ?_
                obtain ⟨a_70, hz_71, h_67⟩ := bind_some h_67
                refine h_appg 0 (.inl rfl) (fun _ _ _ => trivial) (i := 3) el22 el22 sz3 z3 rfl (by decide) by3 (by decide) (fun _ => rfl) rfl rfl rfl hz_71 (wt rfl) (fun n_72 => ?_)
                refine h_far pl56_7 rfl 7 rfl (wt rfl) ?_
                refine h_str 0 (.inl rfl) (fun _ _ _ => trivial) 2 sz22 rfl rfl [(vS x_4), (vS r_19.1), (vI r_22.1), (vI r_25.1), (vI (w64 (r_25.1 + r_47.1))), (vI r_28.1), (vI r_31.1), (gV n_72 1 a_70), (vI r_34.1), (vI r_37.1), (vI r_40.1), .nil, (vB r_43.1)] (stC_g rfl) (wt rfl) ?_
                refine h_nil ?_
                replace h_67 := some_inj h_67
                subst h_67
                exact cut_mk n_72 trivial rfl rfl
              · refine wH_iff rfl hc_69 ?_
                refine wH_skip ?_
                replace h_67 := some_inj h_67
                subst h_67
                exact cut_mk n_58 trivial rfl rfl
            · rintro n_68 _ sl_ H_ hp_ hq_
              refine wH_at _ hp_ hq_ ?_
              refine wH_region ?_
              refine h_opw (w64_next hD_53 hn_54) (wt rfl) rfl ?_
              refine h_op (vI ((k_50 + 1 : Nat) : Int)) (wt rfl) rfl ?_
              refine h_nil ?_
              replace hc_59 := some_inj hc_59
              subst hc_59
              exact loop_mk (k_50 + 1, l_51, (v_66, r_63.2.L, r_63.2.f_at), n_68) ⟨hL_60, drop_next hD_53⟩ (Nat.lt_succ_self _) rfl rfl
        · rintro ⟨s_55, n_58⟩ ho_ sl_ H_ hp_ hq_
          subst ho_
          refine wH_at _ hp_ hq_ ?_
          refine wH_seq ?_
          refine wH_seq ?_
          refine wH_region ?_
          refine h_lit (([(⟨#[99, 105, 116, 121]⟩ : ByteArray), (⟨#[109, 97, 108, 108]⟩ : ByteArray)] : List ByteArray).map eS) es46 ez46 rfl rfl rfl rfl rfl (wt rfl) ?_
          refine h_len un46 rfl (wt rfl) ?_
          refine h_op (vI 0) (wt rfl) rfl ?_
          refine h_nil ?_
          refine wH_new (fun n_79 => ?_)
          obtain ⟨o_84, hj_85, hc_11⟩ := bind_some hc_11
          obtain ⟨hn_77, hj_85⟩ := forL_some hj_85
          refine wH_join (β := ((List ByteArray) × (List Int) × Int) × Nm) (fun p => (fun (s_78 : (List ByteArray) × (List Int) × Int) (n_81 : Nm) => ([(0, (.ref (extN 0) 0 0)), (3, (gV n_10 13 s_7.1)), (6, (.ref n_46 0 0)), (11, (vL eS ([(⟨#[101, 97]⟩ : ByteArray), (⟨#[101, 98]⟩ : ByteArray), (⟨#[101, 99]⟩ : ByteArray), (⟨#[101, 100]⟩ : ByteArray)] : List ByteArray))), (12, (vI (([(⟨#[101, 97]⟩ : ByteArray), (⟨#[101, 98]⟩ : ByteArray), (⟨#[101, 99]⟩ : ByteArray), (⟨#[101, 100]⟩ : ByteArray)] : List ByteArray).length : Int))), (13, (vI (k_2 : Int)))] : List (Nat × V))) p.1 p.2) (fun p => (fun (s_78 : (List ByteArray) × (List Int) × Int) (n_81 : Nm) => ([((extN 0), some (.cells 2 [(vL eI s_78.2.1), (vI s_78.2.2)])), (n_10, gB 13 Entry.enc s_7.1), (n_46, some (.cells 13 [(vS x_4), (vS r_19.1), (vI r_22.1), (vI r_25.1), (vI (w64 (r_25.1 + r_47.1))), (vI r_28.1), (vI r_31.1), (gV n_58 1 s_55.1), (vI r_34.1), (vI r_37.1), (vI r_40.1), (gV n_81 1 s_78.1), (vB r_43.1)])), (n_58, gB 1 eI s_55.1), (n_81, gB 1 eS s_78.1)] : Hp)) p.1 p.2) (fun p => o_84 = .go p.1) ?_ ?_
          · refine wH_block ?_
            refine wH_loop (β := Nat × (List ByteArray) × ((List ByteArray) × (List Int) × Int) × Nm) (fun p => (fun (k_73 : Nat) (l_74 : List ByteArray) (s_78 : (List ByteArray) × (List Int) × Int) (n_81 : Nm) => ([(0, (.ref (extN 0) 0 0)), (3, (gV n_10 13 s_7.1)), (6, (.ref n_46 0 0)), (11, (vL eS ([(⟨#[101, 97]⟩ : ByteArray), (⟨#[101, 98]⟩ : ByteArray), (⟨#[101, 99]⟩ : ByteArray), (⟨#[101, 100]⟩ : ByteArray)] : List ByteArray))), (12, (vI (([(⟨#[101, 97]⟩ : ByteArray), (⟨#[101, 98]⟩ : ByteArray), (⟨#[101, 99]⟩ : ByteArray), (⟨#[101, 100]⟩ : ByteArray)] : List ByteArray).length : Int))), (13, (vI (k_2 : Int))), (68, (vL eS ([(⟨#[99, 105, 116, 121]⟩ : ByteArray), (⟨#[109, 97, 108, 108]⟩ : ByteArray)] : List ByteArray))), (69, (vI (([(⟨#[99, 105, 116, 121]⟩ : ByteArray), (⟨#[109, 97, 108, 108]⟩ : ByteArray)] : List ByteArray).length : Int))), (70, (vI (k_73 : Int)))] : List (Nat × V))) p.1 p.2.1 p.2.2.1 p.2.2.2) (fun p => (fun (k_73 : Nat) (l_74 : List ByteArray) (s_78 : (List ByteArray) × (List Int) × Int) (n_81 : Nm) => ([((extN 0), some (.cells 2 [(vL eI s_78.2.1), (vI s_78.2.2)])), (n_10, gB 13 Entry.enc s_7.1), (n_46, some (.cells 13 [(vS x_4), (vS r_19.1), (vI r_22.1), (vI r_25.1), (vI (w64 (r_25.1 + r_47.1))), (vI r_28.1), (vI r_31.1), (gV n_58 1 s_55.1), (vI r_34.1), (vI r_37.1), (vI r_40.1), (gV n_81 1 s_78.1), (vB r_43.1)])), (n_58, gB 1 eI s_55.1), (n_81, gB 1 eS s_78.1)] : Hp)) p.1 p.2.1 p.2.2.1 p.2.2.2) (fun p => forR (fun k x s => mk_Stream_RightEntries_L2 k x s) p.2.1 p.1 p.2.2.1 = some o_84 ∧ (([(⟨#[99, 105, 116, 121]⟩ : ByteArray), (⟨#[109, 97, 108, 108]⟩ : ByteArray)] : List ByteArray)).drop p.1 = p.2.1) (fun p => p.2.1.length) (0, ([(⟨#[99, 105, 116, 121]⟩ : ByteArray), (⟨#[109, 97, 108, 108]⟩ : ByteArray)] : List ByteArray), (([] : List ByteArray), s_55.2.1, s_55.2.2), n_79) ⟨hj_85, rfl⟩ rfl rfl ?_
            rintro ⟨k_73, l_74, s_78, n_81⟩ ⟨hL_83, hD_76⟩
            dsimp only at hL_83 hD_76
            cases l_74 with
            | nil =>
              replace hL_83 := some_inj hL_83
              subst hL_83
              refine wH_seq (wH_region (h_op (vB (decide ((k_73 : Int) < (([(⟨#[99, 105, 116, 121]⟩ : ByteArray), (⟨#[109, 97, 108, 108]⟩ : ByteArray)] : List ByteArray).length : Int)))) (wt rfl) rfl (h_nil ?_)))
              refine wH_seq (wH_iff rfl (drop_nil hD_76) (wH_exit ?_))
              exact cut_mk (s_78, n_81) rfl rfl rfl
            | cons x_75 l_74 =>
              obtain ⟨c_, hc_82, hL_83⟩ := bind_some hL_83
              refine wH_seq (wH_region (h_op (vB (decide ((k_73 : Int) < (([(⟨#[99, 105, 116, 121]⟩ : ByteArray), (⟨#[109, 97, 108, 108]⟩ : ByteArray)] : List ByteArray).length : Int)))) (wt rfl) rfl (h_nil ?_)))
              refine wH_seq (wH_ift rfl (drop_cons hD_76) (wH_skip ?_))
              unfold mk_Stream_RightEntries_L2 at hc_82
              refine wH_seq ?_
              refine wH_block ?_
              refine wH_seq ?_
              refine wH_region ?_
              refine h_ia es46 rfl rfl (drop_idx hD_76) rfl (wt rfl) ?_
              refine h_ldc sz9 ag9 rfl (vS x_75) rfl (wt rfl) ?_
              refine h_op (vS x_75) (wt rfl) rfl ?_
              refine h_nil ?_
              refine wH_seq ?_
              refine wH_region ?_
              refine h_op (.ref (extN 0) 0 0) (wt rfl) rfl ?_
              obtain ⟨r_86, hr_87, hc_82⟩ := bind_some hc_82
              refine h_callq 0 [0] (.inl rfl) (fun _ _ _ => trivial) (mk_Stream_Flip_ok hr_87) rfl hb37 rfl (by kernel_rfl) (by kernel_rfl) (by kernel_rfl) (by kernel_rfl) (by kernel_rfl) (by kernel_rfl) (by kernel_rfl) (by decide) (by kernel_rfl) (wt rfl) (vB r_86.1) (by kernel_rfl) ([((extN 0), some (.cells 2 [(vL eI r_86.2.L), (vI r_86.2.f_at)])), (n_10, gB 13 Entry.enc s_7.1), (n_46, some (.cells 13 [(vS x_4), (vS r_19.1), (vI r_22.1), (vI r_25.1), (vI (w64 (r_25.1 + r_47.1))), (vI r_28.1), (vI r_31.1), (gV n_58 1 s_55.1), (vI r_34.1), (vI r_37.1), (vI r_40.1), (gV n_81 1 s_78.1), (vB r_43.1)])), (n_58, gB 1 eI s_55.1), (n_81, gB 1 eS s_78.1)] : Hp) (by kernel_rfl) ?_
              refine h_nil ?_
              obtain ⟨v_89, h_90, hc_82⟩ := bind_some hc_82
              refine wH_join (β := Nm) (fun (n_91 : Nm) => ([(0, (.ref (extN 0) 0 0)), (3, (gV n_10 13 s_7.1)), (6, (.ref n_46 0 0)), (11, (vL eS ([(⟨#[101, 97]⟩ : ByteArray), (⟨#[101, 98]⟩ : ByteArray), (⟨#[101, 99]⟩ : ByteArray), (⟨#[101, 100]⟩ : ByteArray)] : List ByteArray))), (12, (vI (([(⟨#[101, 97]⟩ : ByteArray), (⟨#[101, 98]⟩ : ByteArray), (⟨#[101, 99]⟩ : ByteArray), (⟨#[101, 100]⟩ : ByteArray)] : List ByteArray).length : Int))), (13, (vI (k_2 : Int))), (68, (vL eS ([(⟨#[99, 105, 116, 121]⟩ : ByteArray), (⟨#[109, 97, 108, 108]⟩ : ByteArray)] : List ByteArray))), (69, (vI (([(⟨#[99, 105, 116, 121]⟩ : ByteArray), (⟨#[109, 97, 108, 108]⟩ : ByteArray)] : List ByteArray).length : Int))), (70, (vI (k_73 : Int)))] : List (Nat × V))) (fun (n_91 : Nm) => ([((extN 0), some (.cells 2 [(vL eI r_86.2.L), (vI r_86.2.f_at)])), (n_10, gB 13 Entry.enc s_7.1), (n_46, some (.cells 13 [(vS x_4), (vS r_19.1), (vI r_22.1), (vI r_25.1), (vI (w64 (r_25.1 + r_47.1))), (vI r_28.1), (vI r_31.1), (gV n_58 1 s_55.1), (vI r_34.1), (vI r_37.1), (vI r_40.1), (gV n_91 1 v_89), (vB r_43.1)])), (n_58, gB 1 eI s_55.1), (n_91, gB 1 eS v_89)] : Hp)) (fun _ => True) ?_ ?_
              · rcases cond_some h_90 with ⟨hc_92, h_90⟩ | ⟨hc_92, h_90⟩
                · refine wH_ift rfl hc_92 ?_
                  refine wH_region ?_
                  refine h_far pl56_11 rfl 11 rfl (wt rfl) ?_
                  refine h_ldr 0 2 (.inl rfl) (fun _ _ _ => trivial) sz46 ag46 rfl rfl (gV n_81 1 s_78.1) rfl (wt rfl) ?_
                  refine h_op (vS x_75) (wt rfl) rfl ?_
                  refine h_lit (([x_75] : List ByteArray).map eS) es46 ez46 rfl rfl rfl rfl rfl (wt rfl) ?_
                  obtain ⟨a_93, hz_94, h_90⟩ := bind_some h_90
                  refine h_appg 0 (.inl rfl) (fun _ _ _ => trivial) (i := 4) el46 el46 sz9 z9 rfl (by decide) by9 (by decide) (fun _ => rfl) rfl rfl rfl hz_94 (wt rfl) (fun n_95 => ?_)
                  refine h_far pl56_11 rfl 11 rfl (wt rfl) ?_
                  refine h_str 0 (.inl rfl) (fun _ _ _ => trivial) 2 sz46 rfl rfl [(vS x_4), (vS r_19.1), (vI r_22.1), (vI r_25.1), (vI (w64 (r_25.1 + r_47.1))), (vI r_28.1), (vI r_31.1), (gV n_58 1 s_55.1), (vI r_34.1), (vI r_37.1), (vI r_40.1), (gV n_95 1 a_93), (vB r_43.1)] (stC_g rfl) (wt rfl) ?_
                  refine h_nil ?_
                  replace h_90 := some_inj h_90
                  subst h_90
                  exact cut_mk n_95 trivial rfl rfl
                · refine wH_iff rfl hc_92 ?_
                  refine wH_skip ?_
                  replace h_90 := some_inj h_90
                  subst h_90
                  exact cut_mk n_81 trivial rfl rfl
              · rintro n_91 _ sl_ H_ hp_ hq_
                refine wH_at _ hp_ hq_ ?_
                refine wH_region ?_
                refine h_opw (w64_next hD_76 hn_77) (wt rfl) rfl ?_
                refine h_op (vI ((k_73 + 1 : Nat) : Int)) (wt rfl) rfl ?_
                refine h_nil ?_
                replace hc_82 := some_inj hc_82
                subst hc_82
                exact loop_mk (k_73 + 1, l_74, (v_89, r_86.2.L, r_86.2.f_at), n_91) ⟨hL_83, drop_next hD_76⟩ (Nat.lt_succ_self _) rfl rfl
          · rintro ⟨s_78, n_81⟩ ho_ sl_ H_ hp_ hq_
            subst ho_
            refine wH_at _ hp_ hq_ ?_
            refine wH_frozg 3 rfl ?_
            refine wH_frozg 4 rfl ?_
            refine wH_coc2 3 4 2 [(vS x_4), (vS r_19.1), (vI r_22.1), (vI r_25.1), (vI (w64 (r_25.1 + r_47.1))), (vI r_28.1), (vI r_31.1), (vL eI s_55.1), (vI r_34.1), (vI r_37.1), (vI r_40.1), (vL eS s_78.1), (vB r_43.1)] rfl rfl rfl (fun S hS hS2 => cons_eq (rfl) (cons_eq (rfl) (cons_eq (rfl) (cons_eq (rfl) (cons_eq (rfl) (cons_eq (rfl) (cons_eq (rfl) (cons_eq (hS) (cons_eq (rfl) (cons_eq (rfl) (cons_eq (rfl) (cons_eq (hS2) (cons_eq (rfl) (rfl)))))))))))))) ?_
            refine wH_region ?_
            refine h_op (gV n_10 13 s_7.1) (wt rfl) rfl ?_
            refine h_ldr 0 2 (.inl rfl) (fun _ _ _ => trivial) sz56 ag56 rfl rfl (.d (.agg (Entry.enc (⟨x_4, r_19.1, r_22.1, r_25.1, (w64 (r_25.1 + r_47.1)), r_28.1, r_31.1, s_55.1, r_34.1, r_37.1, r_40.1, s_78.1, r_43.1⟩ : Entry)))) rfl (wt rfl) ?_
            refine h_lit (([(⟨x_4, r_19.1, r_22.1, r_25.1, (w64 (r_25.1 + r_47.1)), r_28.1, r_31.1, s_55.1, r_34.1, r_37.1, r_40.1, s_78.1, r_43.1⟩ : Entry)] : List Entry).map Entry.enc) es53 ez53 rfl rfl rfl rfl rfl (wt rfl) ?_
            obtain ⟨a_96, hz_97, hc_11⟩ := bind_some hc_11
            refine h_appg 0 (.inl rfl) (fun _ _ _ => trivial) (i := 1) el53 el53 sz56 z56 rfl (by decide) by56 (by decide) (fun _ => rfl) rfl rfl rfl hz_97 (wt rfl) (fun n_98 => ?_)
            refine h_op (gV n_98 13 a_96) (wt rfl) rfl ?_
            refine h_nil ?_
            refine wH_region ?_
            refine h_opw (w64_next hD_5 hn_6) (wt rfl) rfl ?_
            refine h_op (vI ((k_2 + 1 : Nat) : Int)) (wt rfl) rfl ?_
            refine h_nil ?_
            replace hc_11 := some_inj hc_11
            subst hc_11
            exact loop_mk (k_2 + 1, l_3, (a_96, s_78.2.1, s_78.2.2), n_98) ⟨hL_12, drop_next hD_5⟩ (Nat.lt_succ_self _) rfl rfl
  · rintro ⟨s_7, n_10⟩ ho_ sl_ H_ hp_ hq_
    subst ho_
    refine wH_at _ hp_ hq_ ?_
    refine wH_seq ?_
    refine wH_region ?_
    refine h_op (gV n_10 13 s_7.1) (wt rfl) rfl ?_
    refine h_op (gV n_10 13 s_7.1) (wt rfl) rfl ?_
    refine h_nil ?_
    replace hF := some_inj hF
    subst hF
    refine wH_ret ?_
    exact finG (outs := [(.cells 2 [(vL eI s_7.2.1), (vI s_7.2.2)])]) (.inr rfl) 1 rfl rfl rfl (by kernel_rfl) (by kernel_rfl)
theorem slices_Clone_int_int_ok {s_1 : (List Int)} {r : (List Int)} (hF : slices_Clone_int_int s_1 = some r) :
    FnM Try.prog 91 [(vL eI s_1)] [] (vL eI r) [] := by
  refine FnM.of_wH ⟨Try.prog, 8, [], []⟩ rfl Try.func91 rfl rfl (Nat.le_of_ble_eq_true rfl) (by kernel_rfl) ?_
  unfold slices_Clone_int_int at hF
  refine wH_seq ?_
  refine wH_region ?_
  refine h_op .nil (wt rfl) rfl ?_
  refine h_nil ?_
  refine wH_seq ?_
  refine wH_seq ?_
  refine wH_region ?_
  refine h_op (vL eI s_1) (wt rfl) rfl ?_
  refine h_nileq un22 rfl (wt rfl) (fun b_2 hb_3 => ?_)
  refine h_nil ?_
  cases b_2 with
  | true =>
    refine wH_ift rfl rfl ?_
    obtain rfl := hb_3 rfl
    replace hF := clone_nil hF
    refine wH_seq ?_
    refine wH_region ?_
    refine h_op .nil (wt rfl) rfl ?_
    refine h_nil ?_
    replace hF := some_inj hF
    subst hF
    refine wH_ret ?_
    exact fin0 (.inr rfl) [.nil] ⟨rfl, trivial⟩ rfl rfl rfl
  | false =>
    refine wH_iff rfl rfl ?_
    refine wH_skip ?_
    refine wH_seq ?_
    refine wH_region ?_
    refine h_lit0 es22 ez22 rfl (wt rfl) ?_
    refine h_op (vL eI s_1) (wt rfl) rfl ?_
    obtain ⟨a_4, hz_5, hF⟩ := bind_some hF
    refine h_appn 0 (.inl rfl) el22 el22 sz3 z3 rfl (by decide) by3 (by decide) (fun _ => rfl) rfl rfl hz_5 (wt rfl) (fun n_6 => ?_)
    refine h_op (gV n_6 1 a_4) (wt rfl) rfl ?_
    refine h_nil ?_
    refine wH_frozg 0 rfl ?_
    refine wH_cog 2 0 rfl rfl ?_
    refine wH_cog 7 0 rfl rfl ?_
    replace hF := some_inj hF
    subst hF
    refine wH_ret ?_
    exact fin0 (.inr rfl) [(vL eI a_4)] ⟨rfl, trivial⟩ rfl rfl rfl
theorem slices_Clone_int_int_okb {s_1 : (List Int)} {r : (List Int)} (hF : slices_Clone_int_int s_1 = some r) :
    FnM Try.prog 91 [(vL eI s_1)] [] (gV (extN 0) 1 r) (([] : List Box).map some ++ gO 1 eI r) := by
  refine FnM.of_wH ⟨Try.prog, 8, [], []⟩ rfl Try.func91 rfl rfl (Nat.le_of_ble_eq_true rfl) (by kernel_rfl) ?_
  unfold slices_Clone_int_int at hF
  refine wH_seq ?_
  refine wH_region ?_
  refine h_op .nil (wt rfl) rfl ?_
  refine h_nil ?_
  refine wH_seq ?_
  refine wH_seq ?_
  refine wH_region ?_
  refine h_op (vL eI s_1) (wt rfl) rfl ?_
  refine h_nileq un22 rfl (wt rfl) (fun b_2 hb_3 => ?_)
  refine h_nil ?_
  cases b_2 with
  | true =>
    refine wH_ift rfl rfl ?_
    obtain rfl := hb_3 rfl
    replace hF := clone_nil hF
    refine wH_seq ?_
    refine wH_region ?_
    refine h_op .nil (wt rfl) rfl ?_
    refine h_nil ?_
    refine wH_new (fun n_4 => ?_)
    replace hF := some_inj hF
    subst hF
    refine wH_ret ?_
    exact finG (outs := []) (.inr rfl) 0 rfl rfl rfl (by kernel_rfl) (by kernel_rfl)
  | false =>
    refine wH_iff rfl rfl ?_
    refine wH_skip ?_
    refine wH_seq ?_
    refine wH_region ?_
    refine h_lit0 es22 ez22 rfl (wt rfl) ?_
    refine h_op (vL eI s_1) (wt rfl) rfl ?_
    obtain ⟨a_5, hz_6, hF⟩ := bind_some hF
    refine h_appn 0 (.inl rfl) el22 el22 sz3 z3 rfl (by decide) by3 (by decide) (fun _ => rfl) rfl rfl hz_6 (wt rfl) (fun n_7 => ?_)
    refine h_op (gV n_7 1 a_5) (wt rfl) rfl ?_
    refine h_nil ?_
    replace hF := some_inj hF
    subst hF
    refine wH_ret ?_
    exact finG (outs := []) (.inr rfl) 0 rfl rfl rfl (by kernel_rfl) (by kernel_rfl)
theorem mk_Stream_Entries_ok {s_1 : Stream} {r : (List Entry) × Stream} (hF : mk_Stream_Entries s_1 = some r) :
    FnM Try.prog 26 [(.ref (extN 0) 0 0)] [(.cells 2 [(vL eI s_1.L), (vI s_1.f_at)])] (vL Entry.enc r.1) [some (.cells 2 [(vL eI r.2.L), (vI r.2.f_at)])] := by
  refine FnM.of_wH ⟨Try.prog, 107, [], []⟩ rfl Try.func26 rfl rfl (Nat.le_of_ble_eq_true rfl) (by kernel_rfl) ?_
  unfold mk_Stream_Entries at hF
  refine wH_seq ?_
  refine wH_region ?_
  refine h_op .nil (wt rfl) rfl ?_
  refine h_nil ?_
  refine wH_seq ?_
  refine wH_region ?_
  refine h_op (.ref (extN 0) 0 0) (wt rfl) rfl ?_
  obtain ⟨r_2, hr_3, hF⟩ := bind_some hF
  refine h_callg [0] (mk_Stream_RightEntries_okb hr_3) rfl hb90 rfl (by kernel_rfl) (by kernel_rfl) (by kernel_rfl) (by kernel_rfl) (by kernel_rfl) rfl (by decide) (by kernel_rfl) (wt rfl) ([((extN 0), some (.cells 2 [(vL eI r_2.2.L), (vI r_2.2.f_at)]))] : Hp) (fun _ => by kernel_rfl) (fun n_5 => ?_)
  refine h_op (gV n_5 13 r_2.1) (wt rfl) rfl ?_
  refine h_nil ?_
  refine wH_seq ?_
  refine wH_seq ?_
  obtain ⟨v_6, h_7, hF⟩ := bind_some hF
  refine wH_join (β := Unit) (fun _ => ([(0, (.ref (extN 0) 0 0)), (3, (gV n_5 13 r_2.1)), (13, (vB v_6.1))] : List (Nat × V))) (fun _ => ([((extN 0), some (.cells 2 [(vL eI v_6.2.1), (vI v_6.2.2)])), (n_5, gB 13 Entry.enc r_2.1)] : Hp)) (fun _ => True) ?_ ?_
  · refine wH_region ?_
    refine h_op (gV n_5 13 r_2.1) (wt rfl) rfl ?_
    refine h_leng un53 rfl (wt rfl) ?_
    refine h_op (vB (decide ((r_2.1.length : Int) > 0))) (wt rfl) rfl ?_
    rcases cond_some h_7 with ⟨hc_8, h_7⟩ | ⟨hc_8, h_7⟩
    · refine h_movb rfl hc_8 (wt rfl) ?_
      refine h_op (.ref (extN 0) 0 0) (wg rfl rfl rfl) rfl ?_
      obtain ⟨r_9, hr_10, h_7⟩ := bind_some h_7
      refine h_callq 0 [0] (.inl rfl) (fun _ _ _ => trivial) (mk_Stream_Flip_ok hr_10) rfl hb37 rfl (by kernel_rfl) (by kernel_rfl) (by kernel_rfl) (by kernel_rfl) (by kernel_rfl) (by kernel_rfl) (by kernel_rfl) (by decide) (by kernel_rfl) (wg rfl rfl rfl) (vB r_9.1) (by kernel_rfl) ([((extN 0), some (.cells 2 [(vL eI r_9.2.L), (vI r_9.2.f_at)])), (n_5, gB 13 Entry.enc r_2.1)] : Hp) (by kernel_rfl) ?_
      refine h_op (vB r_9.1) (wt rfl) rfl ?_
      refine h_nil ?_
      replace h_7 := some_inj h_7
      subst h_7
      exact cut_mk () trivial rfl rfl
    · refine h_movb rfl hc_8 (wt rfl) ?_
      refine h_skip (wg rfl rfl rfl) ?_
      refine h_skip (wg rfl rfl rfl) ?_
      refine h_op (vB false) (wt rfl) rfl ?_
      refine h_nil ?_
      replace h_7 := some_inj h_7
      subst h_7
      exact cut_mk () trivial rfl rfl
  · rintro ⟨⟩ _ sl_ H_ hp_ hq_
    refine wH_at _ hp_ hq_ ?_
    obtain ⟨v_12, h_13, hF⟩ := bind_some hF
    refine wH_join (β := Unit) (fun _ => ([(3, (gV n_5 13 v_12.1))] : List (Nat × V))) (fun _ => ([((extN 0), some (.cells 2 [(vL eI v_12.2.1), (vI v_12.2.2)])), (n_5, gB 13 Entry.enc v_12.1)] : Hp)) (fun _ => True) ?_ ?_
    · rcases cond_some h_13 with ⟨hc_14, h_13⟩ | ⟨hc_14, h_13⟩
      · refine wH_ift rfl hc_14 ?_
        refine wH_seq ?_
        refine wH_region ?_
        refine h_op (gV n_5 13 r_2.1) (wt rfl) rfl ?_
        refine h_op (.ref (extN 0) 0 0) (wt rfl) rfl ?_
        refine h_op (gV n_5 13 r_2.1) (wt rfl) rfl ?_
        refine h_leng un53 rfl (wt rfl) ?_
        obtain ⟨r_15, hr_16, h_13⟩ := bind_some h_13
        refine h_callq 0 [0] (.inl rfl) (fun _ _ _ => trivial) (mk_Stream_Next_ok hr_16) rfl hb75 rfl (by kernel_rfl) (by kernel_rfl) (by kernel_rfl) (by kernel_rfl) (by kernel_rfl) (by kernel_rfl) (by kernel_rfl) (by decide) (by kernel_rfl) (wt rfl) (vI r_15.1) (by kernel_rfl) ([((extN 0), some (.cells 2 [(vL eI r_15.2.L), (vI r_15.2.f_at)])), (n_5, gB 13 Entry.enc r_2.1)] : Hp) (by kernel_rfl) ?_
        obtain ⟨_, hi_18, h_13⟩ := bind_some h_13
        refine h_iavg es53 rfl rfl (inR_0 hi_18) (inR_lt hi_18) (wt rfl) ?_
        refine h_op (.ref n_5 (0 + (r_15.1).toNat) 0) (wt rfl) rfl ?_
        refine h_nil ?_
        refine wH_seq ?_
        refine wH_region ?_
        refine h_op (.ref (extN 0) 0 0) (wt rfl) rfl ?_
        obtain ⟨r_19, hr_20, h_13⟩ := bind_some h_13
        refine h_callq 0 [0] (.inl rfl) (fun _ _ _ => trivial) (mk_Stream_Next_ok hr_20) rfl hb75 rfl (by kernel_rfl) (by kernel_rfl) (by kernel_rfl) (by kernel_rfl) (by kernel_rfl) (by kernel_rfl) (by kernel_rfl) (by decide) (by kernel_rfl) (wt rfl) (vI r_19.1) (by kernel_rfl) ([((extN 0), some (.cells 2 [(vL eI r_19.2.L), (vI r_19.2.f_at)])), (n_5, gB 13 Entry.enc r_2.1)] : Hp) (by kernel_rfl) ?_
        refine h_nil ?_
        refine wH_block ?_
        refine wH_seq ?_
        refine wH_region ?_
        refine h_op (vB (r_19.1 == 0)) (wt rfl) rfl ?_
        refine h_op (vB (r_19.1 == 0)) (wt rfl) rfl ?_
        refine h_nil ?_
        rcases cond_some h_13 with ⟨hc_22, h_13⟩ | ⟨hc_22, h_13⟩
        · refine wH_ift rfl hc_22 ?_
          refine wH_region ?_
          refine h_op (.ref n_5 (0 + (r_15.1).toNat) 0) (wt rfl) rfl ?_
          refine h_op (.ref n_5 (0 + (r_15.1).toNat) 0) (wt rfl) rfl ?_
          refine h_op (.ref (extN 0) 0 0) (wt rfl) rfl ?_
          refine h_op (.ref n_5 (0 + (r_15.1).toNat) 0) (wt rfl) rfl ?_
          refine h_op (.ref n_5 (0 + (r_15.1).toNat) 0) (wt rfl) rfl ?_
          refine h_far pl56_0 rfl 0 rfl (wt rfl) ?_
          obtain ⟨e_23, hy_24, h_13⟩ := bind_some h_13
          refine h_ldvg 0 1 (.inl rfl) (fun _ _ _ => trivial) sz9 ag9 rfl rfl hy_24 (vS e_23.Key) rfl (wt rfl) ?_
          refine h_lit (([e_23.Key, (⟨#[]⟩ : ByteArray), (⟨#[65]⟩ : ByteArray), (⟨#[101, 97]⟩ : ByteArray)] : List ByteArray).map eS) es46 ez46 rfl rfl rfl rfl rfl (wt rfl) ?_
          obtain ⟨r_25, hr_26, h_13⟩ := bind_some h_13
          refine h_callq 0 [0] (.inl rfl) (fun _ _ _ => trivial) (mk_Stream_Some_ok hr_26) rfl hb9 rfl (by kernel_rfl) (by kernel_rfl) (by kernel_rfl) (by kernel_rfl) (by kernel_rfl) (by kernel_rfl) (by kernel_rfl) (by decide) (by kernel_rfl) (wt rfl) (vS r_25.1) (by kernel_rfl) ([((extN 0), some (.cells 2 [(vL eI r_25.2.L), (vI r_25.2.f_at)])), (n_5, gB 13 Entry.enc r_2.1)] : Hp) (by kernel_rfl) ?_
          refine h_op (.ref (extN 0) 0 0) (wt rfl) rfl ?_
          refine h_lit (([(⟨#[105, 97]⟩ : ByteArray), (⟨#[]⟩ : ByteArray), (⟨#[66]⟩ : ByteArray)] : List ByteArray).map eS) es46 ez46 rfl rfl rfl rfl rfl (wt rfl) ?_
          obtain ⟨r_28, hr_29, h_13⟩ := bind_some h_13
          refine h_callq 0 [0] (.inl rfl) (fun _ _ _ => trivial) (mk_Stream_Some_ok hr_29) rfl hb9 rfl (by kernel_rfl) (by kernel_rfl) (by kernel_rfl) (by kernel_rfl) (by kernel_rfl) (by kernel_rfl) (by kernel_rfl) (by decide) (by kernel_rfl) (wt rfl) (vS r_28.1) (by kernel_rfl) ([((extN 0), some (.cells 2 [(vL eI r_28.2.L), (vI r_28.2.f_at)])), (n_5, gB 13 Entry.enc r_2.1)] : Hp) (by kernel_rfl) ?_
          refine h_op (.ref n_5 (0 + (r_15.1).toNat) 0) (wt rfl) rfl ?_
          refine h_far pl56_0 rfl 0 rfl (wt rfl) ?_
          obtain ⟨e_31, hy_32, h_13⟩ := bind_some h_13
          refine h_stvg 0 (.inl rfl) (fun _ _ _ => trivial) 1 sz9 rfl rfl hy_32 (⟨r_25.1, e_31.Item, e_31.Version, e_31.First, e_31.Last, e_31.Every, e_31.Days, e_31.Except, e_31.From, e_31.To, e_31.Prio, e_31.Tags, e_31.Gone⟩ : Entry) rfl (wt rfl) ?_
          refine h_re (v' := (gV n_5 13 (r_2.1.set (0 + (r_15.1).toNat) (⟨r_25.1, e_31.Item, e_31.Version, e_31.First, e_31.Last, e_31.Every, e_31.Days, e_31.Except, e_31.From, e_31.To, e_31.Prio, e_31.Tags, e_31.Gone⟩ : Entry)))) 3 rfl (gV_len (by simp)) ?_
          refine h_re (v' := (gV n_5 13 (r_2.1.set (0 + (r_15.1).toNat) (⟨r_25.1, e_31.Item, e_31.Version, e_31.First, e_31.Last, e_31.Every, e_31.Days, e_31.Except, e_31.From, e_31.To, e_31.Prio, e_31.Tags, e_31.Gone⟩ : Entry)))) 14 rfl (gV_len (by simp)) ?_
          refine h_re (v' := (gV n_5 13 (r_2.1.set (0 + (r_15.1).toNat) (⟨r_25.1, e_31.Item, e_31.Version, e_31.First, e_31.Last, e_31.Every, e_31.Days, e_31.Except, e_31.From, e_31.To, e_31.Prio, e_31.Tags, e_31.Gone⟩ : Entry)))) 16 rfl (gV_len (by simp)) ?_
          refine h_op (.ref n_5 (0 + (r_15.1).toNat) 0) (wt rfl) rfl ?_
          refine h_far pl56_1 rfl 1 rfl (wt rfl) ?_
          obtain ⟨e_33, hy_34, h_13⟩ := bind_some h_13
          refine h_stvg 0 (.inl rfl) (fun _ _ _ => trivial) 1 sz9 rfl rfl hy_34 (⟨e_33.Key, r_28.1, e_33.Version, e_33.First, e_33.Last, e_33.Every, e_33.Days, e_33.Except, e_33.From, e_33.To, e_33.Prio, e_33.Tags, e_33.Gone⟩ : Entry) rfl (wt rfl) ?_
          refine h_re (v' := (gV n_5 13 ((r_2.1.set (0 + (r_15.1).toNat) (⟨r_25.1, e_31.Item, e_31.Version, e_31.First, e_31.Last, e_31.Every, e_31.Days, e_31.Except, e_31.From, e_31.To, e_31.Prio, e_31.Tags, e_31.Gone⟩ : Entry)).set (0 + (r_15.1).toNat) (⟨e_33.Key, r_28.1, e_33.Version, e_33.First, e_33.Last, e_33.Every, e_33.Days, e_33.Except, e_33.From, e_33.To, e_33.Prio, e_33.Tags, e_33.Gone⟩ : Entry)))) 3 rfl (gV_len (by simp)) ?_
          refine h_re (v' := (gV n_5 13 ((r_2.1.set (0 + (r_15.1).toNat) (⟨r_25.1, e_31.Item, e_31.Version, e_31.First, e_31.Last, e_31.Every, e_31.Days, e_31.Except, e_31.From, e_31.To, e_31.Prio, e_31.Tags, e_31.Gone⟩ : Entry)).set (0 + (r_15.1).toNat) (⟨e_33.Key, r_28.1, e_33.Version, e_33.First, e_33.Last, e_33.Every, e_33.Days, e_33.Except, e_33.From, e_33.To, e_33.Prio, e_33.Tags, e_33.Gone⟩ : Entry)))) 14 rfl (gV_len (by simp)) ?_
          refine h_re (v' := (gV n_5 13 ((r_2.1.set (0 + (r_15.1).toNat) (⟨r_25.1, e_31.Item, e_31.Version, e_31.First, e_31.Last, e_31.Every, e_31.Days, e_31.Except, e_31.From, e_31.To, e_31.Prio, e_31.Tags, e_31.Gone⟩ : Entry)).set (0 + (r_15.1).toNat) (⟨e_33.Key, r_28.1, e_33.Version, e_33.First, e_33.Last, e_33.Every, e_33.Days, e_33.Except, e_33.From, e_33.To, e_33.Prio, e_33.Tags, e_33.Gone⟩ : Entry)))) 16 rfl (gV_len (by simp)) ?_
          refine h_nil ?_
          replace h_13 := some_inj h_13
          subst h_13
          exact cut_mk () trivial rfl rfl
        · refine wH_iff rfl hc_22 ?_
          refine wH_seq ?_
          refine wH_region ?_
          refine h_op (vB (r_19.1 == 1)) (wt rfl) rfl ?_
          refine h_op (vB (r_19.1 == 1)) (wt rfl) rfl ?_
          refine h_nil ?_
          rcases cond_some h_13 with ⟨hc_35, h_13⟩ | ⟨hc_35, h_13⟩
          · refine wH_ift rfl hc_35 ?_
            refine wH_region ?_
            refine h_op (.ref n_5 (0 + (r_15.1).toNat) 0) (wt rfl) rfl ?_
            refine h_op (.ref n_5 (0 + (r_15.1).toNat) 0) (wt rfl) rfl ?_
            refine h_op (.ref (extN 0) 0 0) (wt rfl) rfl ?_
            obtain ⟨r_36, hr_37, h_13⟩ := bind_some h_13
            refine h_callq 0 [0] (.inl rfl) (fun _ _ _ => trivial) (mk_Stream_Odd_ok hr_37) rfl hb38 rfl (by kernel_rfl) (by kernel_rfl) (by kernel_rfl) (by kernel_rfl) (by kernel_rfl) (by kernel_rfl) (by kernel_rfl) (by decide) (by kernel_rfl) (wt rfl) (vI r_36.1) (by kernel_rfl) ([((extN 0), some (.cells 2 [(vL eI r_36.2.L), (vI r_36.2.f_at)])), (n_5, gB 13 Entry.enc r_2.1)] : Hp) (by kernel_rfl) ?_
            refine h_op (.ref (extN 0) 0 0) (wt rfl) rfl ?_
            obtain ⟨r_39, hr_40, h_13⟩ := bind_some h_13
            refine h_callq 0 [0] (.inl rfl) (fun _ _ _ => trivial) (mk_Stream_Odd_ok hr_40) rfl hb38 rfl (by kernel_rfl) (by kernel_rfl) (by kernel_rfl) (by kernel_rfl) (by kernel_rfl) (by kernel_rfl) (by kernel_rfl) (by decide) (by kernel_rfl) (wt rfl) (vI r_39.1) (by kernel_rfl) ([((extN 0), some (.cells 2 [(vL eI r_39.2.L), (vI r_39.2.f_at)])), (n_5, gB 13 Entry.enc r_2.1)] : Hp) (by kernel_rfl) ?_
            refine h_op (.ref n_5 (0 + (r_15.1).toNat) 0) (wt rfl) rfl ?_
            refine h_far pl56_3 rfl 3 rfl (wt rfl) ?_
            obtain ⟨e_42, hy_43, h_13⟩ := bind_some h_13
            refine h_stvg 0 (.inl rfl) (fun _ _ _ => trivial) 1 sz3 rfl rfl hy_43 (⟨e_42.Key, e_42.Item, e_42.Version, r_36.1, e_42.Last, e_42.Every, e_42.Days, e_42.Except, e_42.From, e_42.To, e_42.Prio, e_42.Tags, e_42.Gone⟩ : Entry) rfl (wt rfl) ?_
            refine h_re (v' := (gV n_5 13 (r_2.1.set (0 + (r_15.1).toNat) (⟨e_42.Key, e_42.Item, e_42.Version, r_36.1, e_42.Last, e_42.Every, e_42.Days, e_42.Except, e_42.From, e_42.To, e_42.Prio, e_42.Tags, e_42.Gone⟩ : Entry)))) 3 rfl (gV_len (by simp)) ?_
            refine h_re (v' := (gV n_5 13 (r_2.1.set (0 + (r_15.1).toNat) (⟨e_42.Key, e_42.Item, e_42.Version, r_36.1, e_42.Last, e_42.Every, e_42.Days, e_42.Except, e_42.From, e_42.To, e_42.Prio, e_42.Tags, e_42.Gone⟩ : Entry)))) 14 rfl (gV_len (by simp)) ?_
            refine h_re (v' := (gV n_5 13 (r_2.1.set (0 + (r_15.1).toNat) (⟨e_42.Key, e_42.Item, e_42.Version, r_36.1, e_42.Last, e_42.Every, e_42.Days, e_42.Except, e_42.From, e_42.To, e_42.Prio, e_42.Tags, e_42.Gone⟩ : Entry)))) 16 rfl (gV_len (by simp)) ?_
            refine h_op (.ref n_5 (0 + (r_15.1).toNat) 0) (wt rfl) rfl ?_
            refine h_far pl56_4 rfl 4 rfl (wt rfl) ?_
            obtain ⟨e_44, hy_45, h_13⟩ := bind_some h_13
            refine h_stvg 0 (.inl rfl) (fun _ _ _ => trivial) 1 sz3 rfl rfl hy_45 (⟨e_44.Key, e_44.Item, e_44.Version, e_44.First, r_39.1, e_44.Every, e_44.Days, e_44.Except, e_44.From, e_44.To, e_44.Prio, e_44.Tags, e_44.Gone⟩ : Entry) rfl (wt rfl) ?_
            refine h_re (v' := (gV n_5 13 ((r_2.1.set (0 + (r_15.1).toNat) (⟨e_42.Key, e_42.Item, e_42.Version, r_36.1, e_42.Last, e_42.Every, e_42.Days, e_42.Except, e_42.From, e_42.To, e_42.Prio, e_42.Tags, e_42.Gone⟩ : Entry)).set (0 + (r_15.1).toNat) (⟨e_44.Key, e_44.Item, e_44.Version, e_44.First, r_39.1, e_44.Every, e_44.Days, e_44.Except, e_44.From, e_44.To, e_44.Prio, e_44.Tags, e_44.Gone⟩ : Entry)))) 3 rfl (gV_len (by simp)) ?_
            refine h_re (v' := (gV n_5 13 ((r_2.1.set (0 + (r_15.1).toNat) (⟨e_42.Key, e_42.Item, e_42.Version, r_36.1, e_42.Last, e_42.Every, e_42.Days, e_42.Except, e_42.From, e_42.To, e_42.Prio, e_42.Tags, e_42.Gone⟩ : Entry)).set (0 + (r_15.1).toNat) (⟨e_44.Key, e_44.Item, e_44.Version, e_44.First, r_39.1, e_44.Every, e_44.Days, e_44.Except, e_44.From, e_44.To, e_44.Prio, e_44.Tags, e_44.Gone⟩ : Entry)))) 14 rfl (gV_len (by simp)) ?_
            refine h_re (v' := (gV n_5 13 ((r_2.1.set (0 + (r_15.1).toNat) (⟨e_42.Key, e_42.Item, e_42.Version, r_36.1, e_42.Last, e_42.Every, e_42.Days, e_42.Except, e_42.From, e_42.To, e_42.Prio, e_42.Tags, e_42.Gone⟩ : Entry)).set (0 + (r_15.1).toNat) (⟨e_44.Key, e_44.Item, e_44.Version, e_44.First, r_39.1, e_44.Every, e_44.Days, e_44.Except, e_44.From, e_44.To, e_44.Prio, e_44.Tags, e_44.Gone⟩ : Entry)))) 16 rfl (gV_len (by simp)) ?_
            refine h_nil ?_
            replace h_13 := some_inj h_13
            subst h_13
            exact cut_mk () trivial rfl rfl
          · refine wH_iff rfl hc_35 ?_
            refine wH_seq ?_
            refine wH_region ?_
            refine h_op (vB (r_19.1 == 2)) (wt rfl) rfl ?_
            refine h_op (vB (r_19.1 == 2)) (wt rfl) rfl ?_
            refine h_nil ?_
            rcases cond_some h_13 with ⟨hc_46, h_13⟩ | ⟨hc_46, h_13⟩
            · refine wH_ift rfl hc_46 ?_
              refine wH_region ?_
              refine h_op (.ref n_5 (0 + (r_15.1).toNat) 0) (wt rfl) rfl ?_
              refine h_op (.ref n_5 (0 + (r_15.1).toNat) 0) (wt rfl) rfl ?_
              refine h_op (.ref (extN 0) 0 0) (wt rfl) rfl ?_
              obtain ⟨r_47, hr_48, h_13⟩ := bind_some h_13
              refine h_callq 0 [0] (.inl rfl) (fun _ _ _ => trivial) (mk_Stream_Odd_ok hr_48) rfl hb38 rfl (by kernel_rfl) (by kernel_rfl) (by kernel_rfl) (by kernel_rfl) (by kernel_rfl) (by kernel_rfl) (by kernel_rfl) (by decide) (by kernel_rfl) (wt rfl) (vI r_47.1) (by kernel_rfl) ([((extN 0), some (.cells 2 [(vL eI r_47.2.L), (vI r_47.2.f_at)])), (n_5, gB 13 Entry.enc r_2.1)] : Hp) (by kernel_rfl) ?_
              refine h_op (.ref (extN 0) 0 0) (wt rfl) rfl ?_
              obtain ⟨r_50, hr_51, h_13⟩ := bind_some h_13
              refine h_callq 0 [0] (.inl rfl) (fun _ _ _ => trivial) (mk_Stream_Odd_ok hr_51) rfl hb38 rfl (by kernel_rfl) (by kernel_rfl) (by kernel_rfl) (by kernel_rfl) (by kernel_rfl) (by kernel_rfl) (by kernel_rfl) (by decide) (by kernel_rfl) (wt rfl) (vI r_50.1) (by kernel_rfl) ([((extN 0), some (.cells 2 [(vL eI r_50.2.L), (vI r_50.2.f_at)])), (n_5, gB 13 Entry.enc r_2.1)] : Hp) (by kernel_rfl) ?_
              refine h_op (.ref n_5 (0 + (r_15.1).toNat) 0) (wt rfl) rfl ?_
              refine h_far pl56_5 rfl 5 rfl (wt rfl) ?_
              obtain ⟨e_53, hy_54, h_13⟩ := bind_some h_13
              refine h_stvg 0 (.inl rfl) (fun _ _ _ => trivial) 1 sz3 rfl rfl hy_54 (⟨e_53.Key, e_53.Item, e_53.Version, e_53.First, e_53.Last, r_47.1, e_53.Days, e_53.Except, e_53.From, e_53.To, e_53.Prio, e_53.Tags, e_53.Gone⟩ : Entry) rfl (wt rfl) ?_
              refine h_re (v' := (gV n_5 13 (r_2.1.set (0 + (r_15.1).toNat) (⟨e_53.Key, e_53.Item, e_53.Version, e_53.First, e_53.Last, r_47.1, e_53.Days, e_53.Except, e_53.From, e_53.To, e_53.Prio, e_53.Tags, e_53.Gone⟩ : Entry)))) 3 rfl (gV_len (by simp)) ?_
              refine h_re (v' := (gV n_5 13 (r_2.1.set (0 + (r_15.1).toNat) (⟨e_53.Key, e_53.Item, e_53.Version, e_53.First, e_53.Last, r_47.1, e_53.Days, e_53.Except, e_53.From, e_53.To, e_53.Prio, e_53.Tags, e_53.Gone⟩ : Entry)))) 14 rfl (gV_len (by simp)) ?_
              refine h_re (v' := (gV n_5 13 (r_2.1.set (0 + (r_15.1).toNat) (⟨e_53.Key, e_53.Item, e_53.Version, e_53.First, e_53.Last, r_47.1, e_53.Days, e_53.Except, e_53.From, e_53.To, e_53.Prio, e_53.Tags, e_53.Gone⟩ : Entry)))) 16 rfl (gV_len (by simp)) ?_
              refine h_op (.ref n_5 (0 + (r_15.1).toNat) 0) (wt rfl) rfl ?_
              refine h_far pl56_6 rfl 6 rfl (wt rfl) ?_
              obtain ⟨e_55, hy_56, h_13⟩ := bind_some h_13
              refine h_stvg 0 (.inl rfl) (fun _ _ _ => trivial) 1 sz3 rfl rfl hy_56 (⟨e_55.Key, e_55.Item, e_55.Version, e_55.First, e_55.Last, e_55.Every, r_50.1, e_55.Except, e_55.From, e_55.To, e_55.Prio, e_55.Tags, e_55.Gone⟩ : Entry) rfl (wt rfl) ?_
              refine h_re (v' := (gV n_5 13 ((r_2.1.set (0 + (r_15.1).toNat) (⟨e_53.Key, e_53.Item, e_53.Version, e_53.First, e_53.Last, r_47.1, e_53.Days, e_53.Except, e_53.From, e_53.To, e_53.Prio, e_53.Tags, e_53.Gone⟩ : Entry)).set (0 + (r_15.1).toNat) (⟨e_55.Key, e_55.Item, e_55.Version, e_55.First, e_55.Last, e_55.Every, r_50.1, e_55.Except, e_55.From, e_55.To, e_55.Prio, e_55.Tags, e_55.Gone⟩ : Entry)))) 3 rfl (gV_len (by simp)) ?_
              refine h_re (v' := (gV n_5 13 ((r_2.1.set (0 + (r_15.1).toNat) (⟨e_53.Key, e_53.Item, e_53.Version, e_53.First, e_53.Last, r_47.1, e_53.Days, e_53.Except, e_53.From, e_53.To, e_53.Prio, e_53.Tags, e_53.Gone⟩ : Entry)).set (0 + (r_15.1).toNat) (⟨e_55.Key, e_55.Item, e_55.Version, e_55.First, e_55.Last, e_55.Every, r_50.1, e_55.Except, e_55.From, e_55.To, e_55.Prio, e_55.Tags, e_55.Gone⟩ : Entry)))) 14 rfl (gV_len (by simp)) ?_
              refine h_re (v' := (gV n_5 13 ((r_2.1.set (0 + (r_15.1).toNat) (⟨e_53.Key, e_53.Item, e_53.Version, e_53.First, e_53.Last, r_47.1, e_53.Days, e_53.Except, e_53.From, e_53.To, e_53.Prio, e_53.Tags, e_53.Gone⟩ : Entry)).set (0 + (r_15.1).toNat) (⟨e_55.Key, e_55.Item, e_55.Version, e_55.First, e_55.Last, e_55.Every, r_50.1, e_55.Except, e_55.From, e_55.To, e_55.Prio, e_55.Tags, e_55.Gone⟩ : Entry)))) 16 rfl (gV_len (by simp)) ?_
              refine h_nil ?_
              replace h_13 := some_inj h_13
              subst h_13
              exact cut_mk () trivial rfl rfl
            · refine wH_iff rfl hc_46 ?_
              refine wH_seq ?_
              refine wH_region ?_
              refine h_op (vB (r_19.1 == 3)) (wt rfl) rfl ?_
              refine h_op (vB (r_19.1 == 3)) (wt rfl) rfl ?_
              refine h_nil ?_
              rcases cond_some h_13 with ⟨hc_57, h_13⟩ | ⟨hc_57, h_13⟩
              · refine wH_ift rfl hc_57 ?_
                refine wH_region ?_
                refine h_op (.ref n_5 (0 + (r_15.1).toNat) 0) (wt rfl) rfl ?_
                refine h_op (.ref n_5 (0 + (r_15.1).toNat) 0) (wt rfl) rfl ?_
                refine h_op (.ref n_5 (0 + (r_15.1).toNat) 0) (wt rfl) rfl ?_
                refine h_far pl56_7 rfl 7 rfl (wt rfl) ?_
                obtain ⟨e_58, hy_59, h_13⟩ := bind_some h_13
                refine h_ldvg 0 1 (.inl rfl) (fun _ _ _ => trivial) sz22 ag22 rfl rfl hy_59 (vL eI e_58.Except) rfl (wt rfl) ?_
                obtain ⟨r_60, hr_61, h_13⟩ := bind_some h_13
                refine h_callg [] (slices_Clone_int_int_okb hr_61) rfl hb91 rfl (by kernel_rfl) (by kernel_rfl) (by kernel_rfl) (by kernel_rfl) (by kernel_rfl) rfl (by decide) (by kernel_rfl) (wt rfl) ([((extN 0), some (.cells 2 [(vL eI r_19.2.L), (vI r_19.2.f_at)])), (n_5, gB 13 Entry.enc r_2.1)] : Hp) (fun _ => by kernel_rfl) (fun n_63 => ?_)
                refine h_op (.ref (extN 0) 0 0) (wt rfl) rfl ?_
                obtain ⟨r_64, hr_65, h_13⟩ := bind_some h_13
                refine h_callq 0 [0] (.inl rfl) (fun _ _ _ => trivial) (mk_Stream_Odd_ok hr_65) rfl hb38 rfl (by kernel_rfl) (by kernel_rfl) (by kernel_rfl) (by kernel_rfl) (by kernel_rfl) (by kernel_rfl) (by kernel_rfl) (by decide) (by kernel_rfl) (wt rfl) (vI r_64.1) (by kernel_rfl) ([((extN 0), some (.cells 2 [(vL eI r_64.2.L), (vI r_64.2.f_at)])), (n_5, gB 13 Entry.enc r_2.1), (n_63, gB 1 eI r_60)] : Hp) (by kernel_rfl) ?_
                refine h_lit (([r_64.1] : List Int).map eI) es22 ez22 rfl rfl rfl rfl rfl (wt rfl) ?_
                obtain ⟨a_67, hz_68, h_13⟩ := bind_some h_13
                refine h_appg 0 (.inl rfl) (fun _ _ _ => trivial) (i := 2) el22 el22 sz3 z3 rfl (by decide) by3 (by decide) (fun _ => rfl) rfl rfl rfl hz_68 (wt rfl) (fun n_69 => ?_)
                refine h_op (.ref n_5 (0 + (r_15.1).toNat) 0) (wt rfl) rfl ?_
                refine h_far pl56_7 rfl 7 rfl (wt rfl) ?_
                refine h_ghost (fun hw => wH_frozg 2 rfl hw) (by kernel_rfl) ?_
                refine h_ghost (fun hw => wH_cog 91 2 rfl rfl hw) (by kernel_rfl) ?_
                obtain ⟨e_70, hy_71, h_13⟩ := bind_some h_13
                refine h_stvg 0 (.inl rfl) (fun _ _ _ => trivial) 1 sz22 rfl rfl hy_71 (⟨e_70.Key, e_70.Item, e_70.Version, e_70.First, e_70.Last, e_70.Every, e_70.Days, a_67, e_70.From, e_70.To, e_70.Prio, e_70.Tags, e_70.Gone⟩ : Entry) rfl (wt rfl) ?_
                refine h_re (v' := (gV n_5 13 (r_2.1.set (0 + (r_15.1).toNat) (⟨e_70.Key, e_70.Item, e_70.Version, e_70.First, e_70.Last, e_70.Every, e_70.Days, a_67, e_70.From, e_70.To, e_70.Prio, e_70.Tags, e_70.Gone⟩ : Entry)))) 3 rfl (gV_len (by simp)) ?_
                refine h_re (v' := (gV n_5 13 (r_2.1.set (0 + (r_15.1).toNat) (⟨e_70.Key, e_70.Item, e_70.Version, e_70.First, e_70.Last, e_70.Every, e_70.Days, a_67, e_70.From, e_70.To, e_70.Prio, e_70.Tags, e_70.Gone⟩ : Entry)))) 14 rfl (gV_len (by simp)) ?_
                refine h_re (v' := (gV n_5 13 (r_2.1.set (0 + (r_15.1).toNat) (⟨e_70.Key, e_70.Item, e_70.Version, e_70.First, e_70.Last, e_70.Every, e_70.Days, a_67, e_70.From, e_70.To, e_70.Prio, e_70.Tags, e_70.Gone⟩ : Entry)))) 16 rfl (gV_len (by simp)) ?_
                refine h_nil ?_
                replace h_13 := some_inj h_13
                subst h_13
                exact cut_mk () trivial rfl rfl
              · refine wH_iff rfl hc_57 ?_
                refine wH_seq ?_
                refine wH_region ?_
                refine h_op (vB (r_19.1 == 4)) (wt rfl) rfl ?_
                refine h_op (vB (r_19.1 == 4)) (wt rfl) rfl ?_
                refine h_nil ?_
                rcases cond_some h_13 with ⟨hc_72, h_13⟩ | ⟨hc_72, h_13⟩
                · refine wH_ift rfl hc_72 ?_
                  refine wH_region ?_
                  refine h_op (.ref n_5 (0 + (r_15.1).toNat) 0) (wt rfl) rfl ?_
                  refine h_op (.ref n_5 (0 + (r_15.1).toNat) 0) (wt rfl) rfl ?_
                  refine h_op (.ref (extN 0) 0 0) (wt rfl) rfl ?_
                  obtain ⟨r_73, hr_74, h_13⟩ := bind_some h_13
                  refine h_callq 0 [0] (.inl rfl) (fun _ _ _ => trivial) (mk_Stream_Odd_ok hr_74) rfl hb38 rfl (by kernel_rfl) (by kernel_rfl) (by kernel_rfl) (by kernel_rfl) (by kernel_rfl) (by kernel_rfl) (by kernel_rfl) (by decide) (by kernel_rfl) (wt rfl) (vI r_73.1) (by kernel_rfl) ([((extN 0), some (.cells 2 [(vL eI r_73.2.L), (vI r_73.2.f_at)])), (n_5, gB 13 Entry.enc r_2.1)] : Hp) (by kernel_rfl) ?_
                  refine h_op (.ref (extN 0) 0 0) (wt rfl) rfl ?_
                  obtain ⟨r_76, hr_77, h_13⟩ := bind_some h_13
                  refine h_callq 0 [0] (.inl rfl) (fun _ _ _ => trivial) (mk_Stream_Odd_ok hr_77) rfl hb38 rfl (by kernel_rfl) (by kernel_rfl) (by kernel_rfl) (by kernel_rfl) (by kernel_rfl) (by kernel_rfl) (by kernel_rfl) (by decide) (by kernel_rfl) (wt rfl) (vI r_76.1) (by kernel_rfl) ([((extN 0), some (.cells 2 [(vL eI r_76.2.L), (vI r_76.2.f_at)])), (n_5, gB 13 Entry.enc r_2.1)] : Hp) (by kernel_rfl) ?_
                  refine h_op (.ref n_5 (0 + (r_15.1).toNat) 0) (wt rfl) rfl ?_
                  refine h_far pl56_8 rfl 8 rfl (wt rfl) ?_
                  obtain ⟨e_79, hy_80, h_13⟩ := bind_some h_13
                  refine h_stvg 0 (.inl rfl) (fun _ _ _ => trivial) 1 sz3 rfl rfl hy_80 (⟨e_79.Key, e_79.Item, e_79.Version, e_79.First, e_79.Last, e_79.Every, e_79.Days, e_79.Except, r_73.1, e_79.To, e_79.Prio, e_79.Tags, e_79.Gone⟩ : Entry) rfl (wt rfl) ?_
                  refine h_re (v' := (gV n_5 13 (r_2.1.set (0 + (r_15.1).toNat) (⟨e_79.Key, e_79.Item, e_79.Version, e_79.First, e_79.Last, e_79.Every, e_79.Days, e_79.Except, r_73.1, e_79.To, e_79.Prio, e_79.Tags, e_79.Gone⟩ : Entry)))) 3 rfl (gV_len (by simp)) ?_
                  refine h_re (v' := (gV n_5 13 (r_2.1.set (0 + (r_15.1).toNat) (⟨e_79.Key, e_79.Item, e_79.Version, e_79.First, e_79.Last, e_79.Every, e_79.Days, e_79.Except, r_73.1, e_79.To, e_79.Prio, e_79.Tags, e_79.Gone⟩ : Entry)))) 14 rfl (gV_len (by simp)) ?_
                  refine h_re (v' := (gV n_5 13 (r_2.1.set (0 + (r_15.1).toNat) (⟨e_79.Key, e_79.Item, e_79.Version, e_79.First, e_79.Last, e_79.Every, e_79.Days, e_79.Except, r_73.1, e_79.To, e_79.Prio, e_79.Tags, e_79.Gone⟩ : Entry)))) 16 rfl (gV_len (by simp)) ?_
                  refine h_op (.ref n_5 (0 + (r_15.1).toNat) 0) (wt rfl) rfl ?_
                  refine h_far pl56_9 rfl 9 rfl (wt rfl) ?_
                  obtain ⟨e_81, hy_82, h_13⟩ := bind_some h_13
                  refine h_stvg 0 (.inl rfl) (fun _ _ _ => trivial) 1 sz3 rfl rfl hy_82 (⟨e_81.Key, e_81.Item, e_81.Version, e_81.First, e_81.Last, e_81.Every, e_81.Days, e_81.Except, e_81.From, r_76.1, e_81.Prio, e_81.Tags, e_81.Gone⟩ : Entry) rfl (wt rfl) ?_
                  refine h_re (v' := (gV n_5 13 ((r_2.1.set (0 + (r_15.1).toNat) (⟨e_79.Key, e_79.Item, e_79.Version, e_79.First, e_79.Last, e_79.Every, e_79.Days, e_79.Except, r_73.1, e_79.To, e_79.Prio, e_79.Tags, e_79.Gone⟩ : Entry)).set (0 + (r_15.1).toNat) (⟨e_81.Key, e_81.Item, e_81.Version, e_81.First, e_81.Last, e_81.Every, e_81.Days, e_81.Except, e_81.From, r_76.1, e_81.Prio, e_81.Tags, e_81.Gone⟩ : Entry)))) 3 rfl (gV_len (by simp)) ?_
                  refine h_re (v' := (gV n_5 13 ((r_2.1.set (0 + (r_15.1).toNat) (⟨e_79.Key, e_79.Item, e_79.Version, e_79.First, e_79.Last, e_79.Every, e_79.Days, e_79.Except, r_73.1, e_79.To, e_79.Prio, e_79.Tags, e_79.Gone⟩ : Entry)).set (0 + (r_15.1).toNat) (⟨e_81.Key, e_81.Item, e_81.Version, e_81.First, e_81.Last, e_81.Every, e_81.Days, e_81.Except, e_81.From, r_76.1, e_81.Prio, e_81.Tags, e_81.Gone⟩ : Entry)))) 14 rfl (gV_len (by simp)) ?_
                  refine h_re (v' := (gV n_5 13 ((r_2.1.set (0 + (r_15.1).toNat) (⟨e_79.Key, e_79.Item, e_79.Version, e_79.First, e_79.Last, e_79.Every, e_79.Days, e_79.Except, r_73.1, e_79.To, e_79.Prio, e_79.Tags, e_79.Gone⟩ : Entry)).set (0 + (r_15.1).toNat) (⟨e_81.Key, e_81.Item, e_81.Version, e_81.First, e_81.Last, e_81.Every, e_81.Days, e_81.Except, e_81.From, r_76.1, e_81.Prio, e_81.Tags, e_81.Gone⟩ : Entry)))) 16 rfl (gV_len (by simp)) ?_
                  refine h_nil ?_
                  replace h_13 := some_inj h_13
                  subst h_13
                  exact cut_mk () trivial rfl rfl
                · refine wH_iff rfl hc_72 ?_
                  refine wH_draws ?_
                  refine h_op (.ref n_5 (0 + (r_15.1).toNat) 0) (wt rfl) rfl ?_
                  refine h_op (.ref n_5 (0 + (r_15.1).toNat) 0) (wt rfl) rfl ?_
                  refine h_lit (([(⟨#[109, 97, 108, 108]⟩ : ByteArray), (⟨#[99, 105, 116, 121]⟩ : ByteArray)] : List ByteArray).map eS) es46 ez46 rfl rfl rfl rfl rfl (wt rfl) ?_
                  refine h_lit (([(⟨#[]⟩ : ByteArray)] : List ByteArray).map eS) es46 ez46 rfl rfl rfl rfl rfl (wt rfl) ?_
                  refine h_lit (([(⟨#[97]⟩ : ByteArray), (⟨#[97]⟩ : ByteArray)] : List ByteArray).map eS) es46 ez46 rfl rfl rfl rfl rfl (wt rfl) ?_
                  refine h_lit (([([(⟨#[109, 97, 108, 108]⟩ : ByteArray), (⟨#[99, 105, 116, 121]⟩ : ByteArray)] : List ByteArray), ([(⟨#[]⟩ : ByteArray)] : List ByteArray), ([(⟨#[97]⟩ : ByteArray), (⟨#[97]⟩ : ByteArray)] : List ByteArray)] : List (List ByteArray)).map (eL eS)) es133 ez133 rfl rfl rfl rfl rfl (wt rfl) ?_
                  refine h_op (.ref (extN 0) 0 0) (wt rfl) rfl ?_
                  obtain ⟨r_83, hr_84, h_13⟩ := bind_some h_13
                  refine h_callq 7 [0] (.inr (by kernel_rfl)) (fun _ _ ag => by exact trivial) (mk_Stream_Next_ok hr_84) rfl hb75 rfl (by kernel_rfl) (by kernel_rfl) (by kernel_rfl) (by kernel_rfl) (by kernel_rfl) (by kernel_rfl) (by kernel_rfl) (by decide) (by kernel_rfl) (wt rfl) (vI r_83.1) (by kernel_rfl) ([((extN 0), some (.cells 2 [(vL eI r_83.2.L), (vI r_83.2.f_at)])), (n_5, gB 13 Entry.enc r_2.1)] : Hp) (by kernel_rfl) ?_
                  obtain ⟨y_86, hy_87, h_13⟩ := bind_some h_13
                  refine h_ia es133 rfl rfl hy_87 rfl (wt rfl) ?_
                  refine h_ldc sz46 ag46 rfl (vL eS y_86) rfl (wt rfl) ?_
                  refine h_op (.ref (extN 0) 0 0) (wt rfl) rfl ?_
                  obtain ⟨r_88, hr_89, h_13⟩ := bind_some h_13
                  refine h_callq 11 [0] (.inr (by kernel_rfl)) (fun _ _ ag => by exact ⟨.inr (.inr (by kernel_rfl)), trivial⟩) (mk_Stream_Odd_ok hr_89) rfl hb38 rfl (by kernel_rfl) (by kernel_rfl) (by kernel_rfl) (by kernel_rfl) (by kernel_rfl) (by kernel_rfl) (by kernel_rfl) (by decide) (by kernel_rfl) (wt rfl) (vI r_88.1) (by kernel_rfl) ([((extN 0), some (.cells 2 [(vL eI r_88.2.L), (vI r_88.2.f_at)])), (n_5, gB 13 Entry.enc r_2.1)] : Hp) (by kernel_rfl) ?_
                  refine h_op (.ref n_5 (0 + (r_15.1).toNat) 0) (wt rfl) rfl ?_
                  refine h_far pl56_11 rfl 11 rfl (wt rfl) ?_
                  obtain ⟨e_91, hy_92, h_13⟩ := bind_some h_13
                  refine h_stvg 14 (.inr (by kernel_rfl)) (fun _ _ ag => ⟨.inr (.inr (by kernel_rfl)), ⟨.inr (.inr (by kernel_rfl)), trivial⟩⟩) 1 sz46 rfl rfl hy_92 (⟨e_91.Key, e_91.Item, e_91.Version, e_91.First, e_91.Last, e_91.Every, e_91.Days, e_91.Except, e_91.From, e_91.To, e_91.Prio, y_86, e_91.Gone⟩ : Entry) rfl (wt rfl) ?_
                  refine h_re (v' := (gV n_5 13 (r_2.1.set (0 + (r_15.1).toNat) (⟨e_91.Key, e_91.Item, e_91.Version, e_91.First, e_91.Last, e_91.Every, e_91.Days, e_91.Except, e_91.From, e_91.To, e_91.Prio, y_86, e_91.Gone⟩ : Entry)))) 3 rfl (gV_len (by simp)) ?_
                  refine h_re (v' := (gV n_5 13 (r_2.1.set (0 + (r_15.1).toNat) (⟨e_91.Key, e_91.Item, e_91.Version, e_91.First, e_91.Last, e_91.Every, e_91.Days, e_91.Except, e_91.From, e_91.To, e_91.Prio, y_86, e_91.Gone⟩ : Entry)))) 14 rfl (gV_len (by simp)) ?_
                  refine h_re (v' := (gV n_5 13 (r_2.1.set (0 + (r_15.1).toNat) (⟨e_91.Key, e_91.Item, e_91.Version, e_91.First, e_91.Last, e_91.Every, e_91.Days, e_91.Except, e_91.From, e_91.To, e_91.Prio, y_86, e_91.Gone⟩ : Entry)))) 16 rfl (gV_len (by simp)) ?_
                  refine h_op (.ref n_5 (0 + (r_15.1).toNat) 0) (wt rfl) rfl ?_
                  refine h_far pl56_10 rfl 10 rfl (wt rfl) ?_
                  obtain ⟨e_93, hy_94, h_13⟩ := bind_some h_13
                  refine h_stvg 17 (.inr (by kernel_rfl)) (fun _ _ ag => ⟨.inr (.inr (by kernel_rfl)), ⟨.inr (.inr (by kernel_rfl)), ⟨.inr (.inr (by kernel_rfl)), trivial⟩⟩⟩) 1 sz3 rfl rfl hy_94 (⟨e_93.Key, e_93.Item, e_93.Version, e_93.First, e_93.Last, e_93.Every, e_93.Days, e_93.Except, e_93.From, e_93.To, r_88.1, e_93.Tags, e_93.Gone⟩ : Entry) rfl (wt rfl) ?_
                  refine h_re (v' := (gV n_5 13 ((r_2.1.set (0 + (r_15.1).toNat) (⟨e_91.Key, e_91.Item, e_91.Version, e_91.First, e_91.Last, e_91.Every, e_91.Days, e_91.Except, e_91.From, e_91.To, e_91.Prio, y_86, e_91.Gone⟩ : Entry)).set (0 + (r_15.1).toNat) (⟨e_93.Key, e_93.Item, e_93.Version, e_93.First, e_93.Last, e_93.Every, e_93.Days, e_93.Except, e_93.From, e_93.To, r_88.1, e_93.Tags, e_93.Gone⟩ : Entry)))) 3 rfl (gV_len (by simp)) ?_
                  refine h_re (v' := (gV n_5 13 ((r_2.1.set (0 + (r_15.1).toNat) (⟨e_91.Key, e_91.Item, e_91.Version, e_91.First, e_91.Last, e_91.Every, e_91.Days, e_91.Except, e_91.From, e_91.To, e_91.Prio, y_86, e_91.Gone⟩ : Entry)).set (0 + (r_15.1).toNat) (⟨e_93.Key, e_93.Item, e_93.Version, e_93.First, e_93.Last, e_93.Every, e_93.Days, e_93.Except, e_93.From, e_93.To, r_88.1, e_93.Tags, e_93.Gone⟩ : Entry)))) 14 rfl (gV_len (by simp)) ?_
                  refine h_re (v' := (gV n_5 13 ((r_2.1.set (0 + (r_15.1).toNat) (⟨e_91.Key, e_91.Item, e_91.Version, e_91.First, e_91.Last, e_91.Every, e_91.Days, e_91.Except, e_91.From, e_91.To, e_91.Prio, y_86, e_91.Gone⟩ : Entry)).set (0 + (r_15.1).toNat) (⟨e_93.Key, e_93.Item, e_93.Version, e_93.First, e_93.Last, e_93.Every, e_93.Days, e_93.Except, e_93.From, e_93.To, r_88.1, e_93.Tags, e_93.Gone⟩ : Entry)))) 16 rfl (gV_len (by simp)) ?_
                  refine h_nil ?_
                  replace h_13 := some_inj h_13
                  subst h_13
                  exact cut_mk () trivial rfl rfl
      · refine wH_iff rfl hc_14 ?_
        refine wH_skip ?_
        replace h_13 := some_inj h_13
        subst h_13
        exact cut_mk () trivial rfl rfl
    · rintro ⟨⟩ _ sl_ H_ hp_ hq_
      refine wH_at _ hp_ hq_ ?_
      refine wH_seq ?_
      refine wH_region ?_
      refine h_op (gV n_5 13 v_12.1) (wt rfl) rfl ?_
      refine h_op (gV n_5 13 v_12.1) (wt rfl) rfl ?_
      refine h_nil ?_
      refine wH_frozg 1 rfl ?_
      refine wH_cog 2 1 rfl rfl ?_
      refine wH_cog 3 1 rfl rfl ?_
      refine wH_cog 106 1 rfl rfl ?_
      replace hF := some_inj hF
      subst hF
      refine wH_ret ?_
      exact finB (.inr rfl) [(vL Entry.enc v_12.1)] _ [0] [extN 0] ⟨rfl, trivial⟩ (.cons (co_data rfl rfl) (.nil)) (by kernel_rfl) ⟨(by kernel_rfl), trivial⟩ (by decide) (by kernel_rfl)
theorem kit_IsDay_ok {n_1 : Int} {r : Bool} (hF : kit_IsDay n_1 = some r) :
    FnM Try.prog 207 [(vI n_1)] [] (vB r) [] := by
  refine FnM.of_wH ⟨Try.prog, 9, [], []⟩ rfl Try.func207 rfl rfl (Nat.le_of_ble_eq_true rfl) (by kernel_rfl) ?_
  unfold kit_IsDay at hF
  refine wH_seq ?_
  refine wH_region ?_
  refine h_op (vB false) (wt rfl) rfl ?_
  refine h_nil ?_
  refine wH_seq ?_
  obtain ⟨v_2, h_3, hF⟩ := bind_some hF
  refine wH_join (β := Unit) (fun _ => ([(2, (vB v_2))] : List (Nat × V))) (fun _ => ([] : Hp)) (fun _ => True) ?_ ?_
  · refine wH_region ?_
    refine h_op (vI n_1) (wt rfl) rfl ?_
    refine h_op (vB (decide (n_1 ≥ 0))) (wt rfl) rfl ?_
    rcases cond_some h_3 with ⟨hc_4, h_3⟩ | ⟨hc_4, h_3⟩
    · refine h_movb rfl hc_4 (wt rfl) ?_
      refine h_op (vI n_1) (wg rfl rfl rfl) rfl ?_
      refine h_op (vB (decide (n_1 ≤ 4000))) (wg rfl rfl rfl) rfl ?_
      refine h_op (vB (decide (n_1 ≤ 4000))) (wt rfl) rfl ?_
      refine h_op (vB (decide (n_1 ≤ 4000))) (wt rfl) rfl ?_
      refine h_nil ?_
      replace h_3 := some_inj h_3
      subst h_3
      exact cut_mk () trivial rfl rfl
    · refine h_movb rfl hc_4 (wt rfl) ?_
      refine h_skip (wg rfl rfl rfl) ?_
      refine h_skip (wg rfl rfl rfl) ?_
      refine h_op (vB false) (wt rfl) rfl ?_
      refine h_op (vB false) (wt rfl) rfl ?_
      refine h_nil ?_
      replace h_3 := some_inj h_3
      subst h_3
      exact cut_mk () trivial rfl rfl
  · rintro ⟨⟩ _ sl_ H_ hp_ hq_
    refine wH_at _ hp_ hq_ ?_
    replace hF := some_inj hF
    subst hF
    refine wH_ret ?_
    exact fin0 (.inr rfl) [(vB v_2)] ⟨rfl, trivial⟩ rfl rfl rfl
theorem schedule_exceptFault_ok {l_1 : (List Int)} {r : Int} (hF : schedule_exceptFault l_1 = some r) :
    FnM Try.prog 185 [(vL eI l_1)] [] (vI r) [] := by
  refine FnM.of_wH ⟨Try.prog, 30, [], []⟩ rfl Try.func185 rfl rfl (Nat.le_of_ble_eq_true rfl) (by kernel_rfl) ?_
  unfold schedule_exceptFault at hF
  refine wH_seq ?_
  refine wH_region ?_
  refine h_op (vI 0) (wt rfl) rfl ?_
  refine h_nil ?_
  refine wH_seq ?_
  refine wH_seq ?_
  refine wH_region ?_
  refine h_op (vL eI l_1) (wt rfl) rfl ?_
  refine h_len un22 rfl (wt rfl) ?_
  refine h_op (vB (decide ((l_1.length : Int) > 100))) (wt rfl) rfl ?_
  refine h_nil ?_
  rcases cond_some hF with ⟨hc_2, hF⟩ | ⟨hc_2, hF⟩
  · refine wH_ift rfl hc_2 ?_
    refine wH_seq ?_
    refine wH_region ?_
    refine h_op (vI 2) (wt rfl) rfl ?_
    refine h_nil ?_
    replace hF := some_inj hF
    subst hF
    refine wH_ret ?_
    exact fin0 (.inr rfl) [(vI 2)] ⟨rfl, trivial⟩ rfl rfl rfl
  · refine wH_iff rfl hc_2 ?_
    refine wH_skip ?_
    refine wH_seq ?_
    refine wH_seq ?_
    refine wH_region ?_
    refine h_op (vL eI l_1) (wt rfl) rfl ?_
    refine h_len un22 rfl (wt rfl) ?_
    refine h_op (vI 0) (wt rfl) rfl ?_
    refine h_nil ?_
    obtain ⟨o_11, hj_12, hF⟩ := bind_some hF
    obtain ⟨hn_7, hj_12⟩ := forL_some hj_12
    refine wH_join (β := (Unit)) (fun (s_8 : Unit) => ([] : List (Nat × V))) (fun (s_8 : Unit) => ([] : Hp)) (fun p => o_11 = .go p) ?_ ?_
    · refine wH_block ?_
      refine wH_loop (β := Nat × (List Int) × (Unit)) (fun p => (fun (k_3 : Nat) (l_4 : List Int) (s_8 : Unit) => ([(0, (vL eI l_1)), (8, (vL eI l_1)), (9, (vI (l_1.length : Int))), (10, (vI (k_3 : Int)))] : List (Nat × V))) p.1 p.2.1 p.2.2) (fun p => (fun (k_3 : Nat) (l_4 : List Int) (s_8 : Unit) => ([] : Hp)) p.1 p.2.1 p.2.2) (fun p => forR (fun k x s => schedule_exceptFault_L1 l_1 k x s) p.2.1 p.1 p.2.2 = some o_11 ∧ (l_1).drop p.1 = p.2.1) (fun p => p.2.1.length) (0, l_1, ()) ⟨hj_12, rfl⟩ rfl rfl ?_
      rintro ⟨k_3, l_4, s_8⟩ ⟨hL_10, hD_6⟩
      dsimp only at hL_10 hD_6
      cases l_4 with
      | nil =>
        replace hL_10 := some_inj hL_10
        subst hL_10
        refine wH_seq (wH_region (h_op (vB (decide ((k_3 : Int) < (l_1.length : Int)))) (wt rfl) rfl (h_nil ?_)))
        refine wH_seq (wH_iff rfl (drop_nil hD_6) (wH_exit ?_))
        exact cut_mk (s_8) rfl rfl rfl
      | cons x_5 l_4 =>
        obtain ⟨c_, hc_9, hL_10⟩ := bind_some hL_10
        refine wH_seq (wH_region (h_op (vB (decide ((k_3 : Int) < (l_1.length : Int)))) (wt rfl) rfl (h_nil ?_)))
        refine wH_seq (wH_ift rfl (drop_cons hD_6) (wH_skip ?_))
        unfold schedule_exceptFault_L1 at hc_9
        refine wH_seq ?_
        refine wH_block ?_
        refine wH_seq ?_
        refine wH_region ?_
        refine h_op (vI (k_3 : Int)) (wt rfl) rfl ?_
        refine h_ia es22 rfl rfl (drop_idx hD_6) rfl (wt rfl) ?_
        refine h_ldc sz3 ag3 rfl (vI x_5) rfl (wt rfl) ?_
        refine h_op (vI (k_3 : Int)) (wt rfl) rfl ?_
        refine h_op (vI x_5) (wt rfl) rfl ?_
        refine h_nil ?_
        refine wH_seq ?_
        refine wH_seq ?_
        refine wH_region ?_
        refine h_op (vI x_5) (wt rfl) rfl ?_
        obtain ⟨r_13, hr_14, hc_9⟩ := bind_some hc_9
        refine h_call0 (kit_IsDay_ok hr_14) rfl hb207 rfl rfl rfl rfl (wt rfl) ?_
        refine h_op (vB (!r_13)) (wt rfl) rfl ?_
        refine h_nil ?_
        rcases cond_some hc_9 with ⟨hc_15, hc_9⟩ | ⟨hc_15, hc_9⟩
        · refine wH_ift rfl hc_15 ?_
          refine wH_seq ?_
          refine wH_region ?_
          refine h_op (vI 1) (wt rfl) rfl ?_
          refine h_nil ?_
          replace hc_9 := some_inj hc_9
          subst hc_9
          replace hL_10 := some_inj hL_10
          subst hL_10
          replace hF := some_inj hF
          subst hF
          refine wH_ret ?_
          exact fin0 (.inr rfl) [(vI 1)] ⟨rfl, trivial⟩ rfl rfl rfl
        · refine wH_iff rfl hc_15 ?_
          refine wH_skip ?_
          refine wH_seq ?_
          obtain ⟨v_16, h_17, hc_9⟩ := bind_some hc_9
          refine wH_join (β := Unit) (fun _ => ([(0, (vL eI l_1)), (8, (vL eI l_1)), (9, (vI (l_1.length : Int))), (10, (vI (k_3 : Int))), (28, (vB v_16))] : List (Nat × V))) (fun _ => ([] : Hp)) (fun _ => True) ?_ ?_
          · refine wH_region ?_
            refine h_op (vI (k_3 : Int)) (wt rfl) rfl ?_
            refine h_op (vB (decide ((k_3 : Int) > 0))) (wt rfl) rfl ?_
            rcases cond_some h_17 with ⟨hc_18, h_17⟩ | ⟨hc_18, h_17⟩
            · refine h_movb rfl hc_18 (wt rfl) ?_
              refine h_op (vI x_5) (wg rfl rfl rfl) rfl ?_
              refine h_op (vL eI l_1) (wg rfl rfl rfl) rfl ?_
              refine h_op (vI (k_3 : Int)) (wg rfl rfl rfl) rfl ?_
              refine h_op (vI (w64 ((k_3 : Int) - 1))) (wg rfl rfl rfl) rfl ?_
              obtain ⟨y_19, hy_20, h_17⟩ := bind_some h_17
              refine h_ia es22 rfl rfl hy_20 rfl (wg rfl rfl rfl) ?_
              refine h_ldc sz3 ag3 rfl (vI y_19) rfl (wg rfl rfl rfl) ?_
              refine h_op (vB (decide (x_5 ≤ y_19))) (wg rfl rfl rfl) rfl ?_
              refine h_op (vB (decide (x_5 ≤ y_19))) (wt rfl) rfl ?_
              refine h_nil ?_
              replace h_17 := some_inj h_17
              subst h_17
              exact cut_mk () trivial rfl rfl
            · refine h_movb rfl hc_18 (wt rfl) ?_
              refine h_skip (wg rfl rfl rfl) ?_
              refine h_skip (wg rfl rfl rfl) ?_
              refine h_skip (wg rfl rfl rfl) ?_
              refine h_skip (wg rfl rfl rfl) ?_
              refine h_skip (wg rfl rfl rfl) ?_
              refine h_skip (wg rfl rfl rfl) ?_
              refine h_skip (wg rfl rfl rfl) ?_
              refine h_op (vB false) (wt rfl) rfl ?_
              refine h_nil ?_
              replace h_17 := some_inj h_17
              subst h_17
              exact cut_mk () trivial rfl rfl
          · rintro ⟨⟩ _ sl_ H_ hp_ hq_
            refine wH_at _ hp_ hq_ ?_
            rcases cond_some hc_9 with ⟨hc_21, hc_9⟩ | ⟨hc_21, hc_9⟩
            · refine wH_ift rfl hc_21 ?_
              refine wH_seq ?_
              refine wH_region ?_
              refine h_op (vI 7) (wt rfl) rfl ?_
              refine h_nil ?_
              replace hc_9 := some_inj hc_9
              subst hc_9
              replace hL_10 := some_inj hL_10
              subst hL_10
              replace hF := some_inj hF
              subst hF
              refine wH_ret ?_
              exact fin0 (.inr rfl) [(vI 7)] ⟨rfl, trivial⟩ rfl rfl rfl
            · refine wH_iff rfl hc_21 ?_
              refine wH_skip ?_
              refine wH_region ?_
              refine h_opw (w64_next hD_6 hn_7) (wt rfl) rfl ?_
              refine h_op (vI ((k_3 + 1 : Nat) : Int)) (wt rfl) rfl ?_
              refine h_nil ?_
              replace hc_9 := some_inj hc_9
              subst hc_9
              exact loop_mk (k_3 + 1, l_4, ()) ⟨hL_10, drop_next hD_6⟩ (Nat.lt_succ_self _) rfl rfl
    · rintro s_8 ho_ sl_ H_ hp_ hq_
      subst ho_
      refine wH_at _ hp_ hq_ ?_
      refine wH_seq ?_
      refine wH_region ?_
      refine h_op (vI 0) (wt rfl) rfl ?_
      refine h_nil ?_
      replace hF := some_inj hF
      subst hF
      refine wH_ret ?_
      exact fin0 (.inr rfl) [(vI 0)] ⟨rfl, trivial⟩ rfl rfl rfl
theorem kit_RisingFault_ok {l_1 : (List ByteArray)} {r : Int} (hF : kit_RisingFault l_1 = some r) :
    FnM Try.prog 187 [(vL eS l_1)] [] (vI r) [] := by
  refine FnM.of_wH ⟨Try.prog, 27, [], []⟩ rfl Try.func187 rfl rfl (Nat.le_of_ble_eq_true rfl) (by kernel_rfl) ?_
  unfold kit_RisingFault at hF
  refine wH_seq ?_
  refine wH_region ?_
  refine h_op (vI 0) (wt rfl) rfl ?_
  refine h_nil ?_
  refine wH_seq ?_
  refine wH_seq ?_
  refine wH_region ?_
  refine h_op (vL eS l_1) (wt rfl) rfl ?_
  refine h_len un46 rfl (wt rfl) ?_
  refine h_op (vI 0) (wt rfl) rfl ?_
  refine h_nil ?_
  obtain ⟨o_10, hj_11, hF⟩ := bind_some hF
  obtain ⟨hn_6, hj_11⟩ := forL_some hj_11
  refine wH_join (β := (Unit)) (fun (s_7 : Unit) => ([] : List (Nat × V))) (fun (s_7 : Unit) => ([] : Hp)) (fun p => o_10 = .go p) ?_ ?_
  · refine wH_block ?_
    refine wH_loop (β := Nat × (List ByteArray) × (Unit)) (fun p => (fun (k_2 : Nat) (l_3 : List ByteArray) (s_7 : Unit) => ([(0, (vL eS l_1)), (5, (vL eS l_1)), (6, (vI (l_1.length : Int))), (7, (vI (k_2 : Int)))] : List (Nat × V))) p.1 p.2.1 p.2.2) (fun p => (fun (k_2 : Nat) (l_3 : List ByteArray) (s_7 : Unit) => ([] : Hp)) p.1 p.2.1 p.2.2) (fun p => forR (fun k x s => kit_RisingFault_L1 l_1 k x s) p.2.1 p.1 p.2.2 = some o_10 ∧ (l_1).drop p.1 = p.2.1) (fun p => p.2.1.length) (0, l_1, ()) ⟨hj_11, rfl⟩ rfl rfl ?_
    rintro ⟨k_2, l_3, s_7⟩ ⟨hL_9, hD_5⟩
    dsimp only at hL_9 hD_5
    cases l_3 with
    | nil =>
      replace hL_9 := some_inj hL_9
      subst hL_9
      refine wH_seq (wH_region (h_op (vB (decide ((k_2 : Int) < (l_1.length : Int)))) (wt rfl) rfl (h_nil ?_)))
      refine wH_seq (wH_iff rfl (drop_nil hD_5) (wH_exit ?_))
      exact cut_mk (s_7) rfl rfl rfl
    | cons x_4 l_3 =>
      obtain ⟨c_, hc_8, hL_9⟩ := bind_some hL_9
      refine wH_seq (wH_region (h_op (vB (decide ((k_2 : Int) < (l_1.length : Int)))) (wt rfl) rfl (h_nil ?_)))
      refine wH_seq (wH_ift rfl (drop_cons hD_5) (wH_skip ?_))
      unfold kit_RisingFault_L1 at hc_8
      refine wH_seq ?_
      refine wH_block ?_
      refine wH_seq ?_
      refine wH_region ?_
      refine h_op (vI (k_2 : Int)) (wt rfl) rfl ?_
      refine h_ia es46 rfl rfl (drop_idx hD_5) rfl (wt rfl) ?_
      refine h_ldc sz9 ag9 rfl (vS x_4) rfl (wt rfl) ?_
      refine h_op (vI (k_2 : Int)) (wt rfl) rfl ?_
      refine h_op (vS x_4) (wt rfl) rfl ?_
      refine h_nil ?_
      refine wH_seq ?_
      refine wH_seq ?_
      refine wH_region ?_
      refine h_op (vS x_4) (wt rfl) rfl ?_
      obtain ⟨r_12, hr_13, hc_8⟩ := bind_some hc_8
      refine h_call0 (kit_IsKey_ok hr_13) rfl hb77 rfl rfl rfl rfl (wt rfl) ?_
      refine h_op (vB (!r_12)) (wt rfl) rfl ?_
      refine h_nil ?_
      rcases cond_some hc_8 with ⟨hc_14, hc_8⟩ | ⟨hc_14, hc_8⟩
      · refine wH_ift rfl hc_14 ?_
        refine wH_seq ?_
        refine wH_region ?_
        refine h_op (vI 5) (wt rfl) rfl ?_
        refine h_nil ?_
        replace hc_8 := some_inj hc_8
        subst hc_8
        replace hL_9 := some_inj hL_9
        subst hL_9
        replace hF := some_inj hF
        subst hF
        refine wH_ret ?_
        exact fin0 (.inr rfl) [(vI 5)] ⟨rfl, trivial⟩ rfl rfl rfl
      · refine wH_iff rfl hc_14 ?_
        refine wH_skip ?_
        refine wH_seq ?_
        obtain ⟨v_15, h_16, hc_8⟩ := bind_some hc_8
        refine wH_join (β := Unit) (fun _ => ([(0, (vL eS l_1)), (5, (vL eS l_1)), (6, (vI (l_1.length : Int))), (7, (vI (k_2 : Int))), (25, (vB v_15))] : List (Nat × V))) (fun _ => ([] : Hp)) (fun _ => True) ?_ ?_
        · refine wH_region ?_
          refine h_op (vI (k_2 : Int)) (wt rfl) rfl ?_
          refine h_op (vB (decide ((k_2 : Int) > 0))) (wt rfl) rfl ?_
          rcases cond_some h_16 with ⟨hc_17, h_16⟩ | ⟨hc_17, h_16⟩
          · refine h_movb rfl hc_17 (wt rfl) ?_
            refine h_op (vS x_4) (wg rfl rfl rfl) rfl ?_
            refine h_op (vL eS l_1) (wg rfl rfl rfl) rfl ?_
            refine h_op (vI (k_2 : Int)) (wg rfl rfl rfl) rfl ?_
            refine h_op (vI (w64 ((k_2 : Int) - 1))) (wg rfl rfl rfl) rfl ?_
            obtain ⟨y_18, hy_19, h_16⟩ := bind_some h_16
            refine h_ia es46 rfl rfl hy_19 rfl (wg rfl rfl rfl) ?_
            refine h_ldc sz9 ag9 rfl (vS y_18) rfl (wg rfl rfl rfl) ?_
            refine h_op (vB (sLe x_4 y_18)) (wg rfl rfl rfl) rfl ?_
            refine h_op (vB (sLe x_4 y_18)) (wt rfl) rfl ?_
            refine h_nil ?_
            replace h_16 := some_inj h_16
            subst h_16
            exact cut_mk () trivial rfl rfl
          · refine h_movb rfl hc_17 (wt rfl) ?_
            refine h_skip (wg rfl rfl rfl) ?_
            refine h_skip (wg rfl rfl rfl) ?_
            refine h_skip (wg rfl rfl rfl) ?_
            refine h_skip (wg rfl rfl rfl) ?_
            refine h_skip (wg rfl rfl rfl) ?_
            refine h_skip (wg rfl rfl rfl) ?_
            refine h_skip (wg rfl rfl rfl) ?_
            refine h_op (vB false) (wt rfl) rfl ?_
            refine h_nil ?_
            replace h_16 := some_inj h_16
            subst h_16
            exact cut_mk () trivial rfl rfl
        · rintro ⟨⟩ _ sl_ H_ hp_ hq_
          refine wH_at _ hp_ hq_ ?_
          rcases cond_some hc_8 with ⟨hc_20, hc_8⟩ | ⟨hc_20, hc_8⟩
          · refine wH_ift rfl hc_20 ?_
            refine wH_seq ?_
            refine wH_region ?_
            refine h_op (vI 7) (wt rfl) rfl ?_
            refine h_nil ?_
            replace hc_8 := some_inj hc_8
            subst hc_8
            replace hL_9 := some_inj hL_9
            subst hL_9
            replace hF := some_inj hF
            subst hF
            refine wH_ret ?_
            exact fin0 (.inr rfl) [(vI 7)] ⟨rfl, trivial⟩ rfl rfl rfl
          · refine wH_iff rfl hc_20 ?_
            refine wH_skip ?_
            refine wH_region ?_
            refine h_opw (w64_next hD_5 hn_6) (wt rfl) rfl ?_
            refine h_op (vI ((k_2 + 1 : Nat) : Int)) (wt rfl) rfl ?_
            refine h_nil ?_
            replace hc_8 := some_inj hc_8
            subst hc_8
            exact loop_mk (k_2 + 1, l_3, ()) ⟨hL_9, drop_next hD_5⟩ (Nat.lt_succ_self _) rfl rfl
  · rintro s_7 ho_ sl_ H_ hp_ hq_
    subst ho_
    refine wH_at _ hp_ hq_ ?_
    refine wH_seq ?_
    refine wH_region ?_
    refine h_op (vI 0) (wt rfl) rfl ?_
    refine h_nil ?_
    replace hF := some_inj hF
    subst hF
    refine wH_ret ?_
    exact fin0 (.inr rfl) [(vI 0)] ⟨rfl, trivial⟩ rfl rfl rfl
theorem schedule_tagsFault_ok {l_1 : (List ByteArray)} {r : Int} (hF : schedule_tagsFault l_1 = some r) :
    FnM Try.prog 157 [(vL eS l_1)] [] (vI r) [] := by
  refine FnM.of_wH ⟨Try.prog, 8, [], []⟩ rfl Try.func157 rfl rfl (Nat.le_of_ble_eq_true rfl) (by kernel_rfl) ?_
  unfold schedule_tagsFault at hF
  refine wH_seq ?_
  refine wH_region ?_
  refine h_op (vI 0) (wt rfl) rfl ?_
  refine h_nil ?_
  refine wH_seq ?_
  refine wH_seq ?_
  refine wH_region ?_
  refine h_op (vL eS l_1) (wt rfl) rfl ?_
  refine h_len un46 rfl (wt rfl) ?_
  refine h_op (vB (decide ((l_1.length : Int) > 20))) (wt rfl) rfl ?_
  refine h_nil ?_
  rcases cond_some hF with ⟨hc_2, hF⟩ | ⟨hc_2, hF⟩
  · refine wH_ift rfl hc_2 ?_
    refine wH_seq ?_
    refine wH_region ?_
    refine h_op (vI 2) (wt rfl) rfl ?_
    refine h_nil ?_
    replace hF := some_inj hF
    subst hF
    refine wH_ret ?_
    exact fin0 (.inr rfl) [(vI 2)] ⟨rfl, trivial⟩ rfl rfl rfl
  · refine wH_iff rfl hc_2 ?_
    refine wH_skip ?_
    refine wH_seq ?_
    refine wH_region ?_
    refine h_op (vL eS l_1) (wt rfl) rfl ?_
    obtain ⟨r_3, hr_4, hF⟩ := bind_some hF
    refine h_call0 (kit_RisingFault_ok hr_4) rfl hb187 rfl rfl rfl rfl (wt rfl) ?_
    refine h_op (vI r_3) (wt rfl) rfl ?_
    refine h_nil ?_
    replace hF := some_inj hF
    subst hF
    refine wH_ret ?_
    exact fin0 (.inr rfl) [(vI r_3)] ⟨rfl, trivial⟩ rfl rfl rfl
theorem schedule_entryFault_ok {e_1 : Entry} {r : Int} (hF : schedule_entryFault e_1 = some r) :
    FnM Try.prog 154 [(.d (.agg (Entry.enc e_1)))] [] (vI r) [] := by
  refine FnM.of_wH ⟨Try.prog, 61, [], []⟩ rfl Try.func154 rfl rfl (Nat.le_of_ble_eq_true rfl) (by kernel_rfl) ?_
  unfold schedule_entryFault at hF
  refine wH_seq ?_
  refine wH_region ?_
  refine h_box 0 (.inl rfl) [(vS e_1.Key), (vS e_1.Item), (vI e_1.Version), (vI e_1.First), (vI e_1.Last), (vI e_1.Every), (vI e_1.Days), (vL eI e_1.Except), (vI e_1.From), (vI e_1.To), (vI e_1.Prio), (vL eS e_1.Tags), (vB e_1.Gone)] rfl rfl (wt rfl) (fun n_2 => ?_)
  refine h_op (vI 0) (wt rfl) rfl ?_
  refine h_nil ?_
  refine wH_seq ?_
  refine wH_seq ?_
  obtain ⟨v_3, h_4, hF⟩ := bind_some hF
  refine wH_join (β := Unit) (fun _ => ([(1, (.ref n_2 0 0)), (13, (vB v_3))] : List (Nat × V))) (fun _ => ([(n_2, some (.cells 13 [(vS e_1.Key), (vS e_1.Item), (vI e_1.Version), (vI e_1.First), (vI e_1.Last), (vI e_1.Every), (vI e_1.Days), (vL eI e_1.Except), (vI e_1.From), (vI e_1.To), (vI e_1.Prio), (vL eS e_1.Tags), (vB e_1.Gone)]))] : Hp)) (fun _ => True) ?_ ?_
  · refine wH_region ?_
    refine h_far pl56_0 rfl 0 rfl (wt rfl) ?_
    refine h_ldr 0 0 (.inl rfl) (fun _ _ _ => trivial) sz9 ag9 rfl rfl (vS e_1.Key) rfl (wt rfl) ?_
    obtain ⟨r_5, hr_6, h_4⟩ := bind_some h_4
    refine h_call0 (kit_IsKey_ok hr_6) rfl hb77 rfl rfl rfl rfl (wt rfl) ?_
    refine h_op (vB (!r_5)) (wt rfl) rfl ?_
    rcases cond_some h_4 with ⟨hc_7, h_4⟩ | ⟨hc_7, h_4⟩
    · refine h_movb rfl hc_7 (wt rfl) ?_
      refine h_skip (wg rfl rfl rfl) ?_
      refine h_skip (wg rfl rfl rfl) ?_
      refine h_skip (wg rfl rfl rfl) ?_
      refine h_skip (wg rfl rfl rfl) ?_
      refine h_op (vB true) (wt rfl) rfl ?_
      refine h_nil ?_
      replace h_4 := some_inj h_4
      subst h_4
      exact cut_mk () trivial rfl rfl
    · refine h_movb rfl hc_7 (wt rfl) ?_
      refine h_far pl56_1 rfl 1 rfl (wg rfl rfl rfl) ?_
      refine h_ldr 0 0 (.inl rfl) (fun _ _ _ => trivial) sz9 ag9 rfl rfl (vS e_1.Item) rfl (wg rfl rfl rfl) ?_
      obtain ⟨r_8, hr_9, h_4⟩ := bind_some h_4
      refine h_call0 (kit_IsKey_ok hr_9) rfl hb77 rfl rfl rfl rfl (wg rfl rfl rfl) ?_
      refine h_op (vB (!r_8)) (wg rfl rfl rfl) rfl ?_
      refine h_op (vB (!r_8)) (wt rfl) rfl ?_
      refine h_nil ?_
      replace h_4 := some_inj h_4
      subst h_4
      exact cut_mk () trivial rfl rfl
  · rintro ⟨⟩ _ sl_ H_ hp_ hq_
    refine wH_at _ hp_ hq_ ?_
    rcases cond_some hF with ⟨hc_10, hF⟩ | ⟨hc_10, hF⟩
    · refine wH_ift rfl hc_10 ?_
      refine wH_seq ?_
      refine wH_region ?_
      refine h_op (vI 5) (wt rfl) rfl ?_
      refine h_nil ?_
      replace hF := some_inj hF
      subst hF
      refine wH_ret ?_
      exact fin0 (.inr rfl) [(vI 5)] ⟨rfl, trivial⟩ rfl rfl rfl
    · refine wH_iff rfl hc_10 ?_
      refine wH_skip ?_
      refine wH_seq ?_
      refine wH_seq ?_
      obtain ⟨v_11, h_12, hF⟩ := bind_some hF
      refine wH_join (β := Unit) (fun _ => ([(1, (.ref n_2 0 0)), (38, (vB v_11))] : List (Nat × V))) (fun _ => ([(n_2, some (.cells 13 [(vS e_1.Key), (vS e_1.Item), (vI e_1.Version), (vI e_1.First), (vI e_1.Last), (vI e_1.Every), (vI e_1.Days), (vL eI e_1.Except), (vI e_1.From), (vI e_1.To), (vI e_1.Prio), (vL eS e_1.Tags), (vB e_1.Gone)]))] : Hp)) (fun _ => True) ?_ ?_
      · refine wH_region ?_
        refine h_far pl56_2 rfl 2 rfl (wt rfl) ?_
        refine h_ldr 0 0 (.inl rfl) (fun _ _ _ => trivial) sz3 ag3 rfl rfl (vI e_1.Version) rfl (wt rfl) ?_
        obtain ⟨r_13, hr_14, h_12⟩ := bind_some h_12
        refine h_call0 (kit_Outside_ok hr_14) rfl hb82 rfl rfl rfl rfl (wt rfl) ?_
        rcases cond_some h_12 with ⟨hc_15, h_12⟩ | ⟨hc_15, h_12⟩
        · refine h_movb rfl hc_15 (wt rfl) ?_
          refine h_skip (wg rfl rfl rfl) ?_
          refine h_skip (wg rfl rfl rfl) ?_
          refine h_skip (wg rfl rfl rfl) ?_
          refine h_skip (wg rfl rfl rfl) ?_
          refine h_skip (wg rfl rfl rfl) ?_
          refine h_op (vB true) (wt rfl) rfl ?_
          refine h_op (vB true) (wt rfl) rfl ?_
          refine h_skip (wg rfl rfl rfl) ?_
          refine h_skip (wg rfl rfl rfl) ?_
          refine h_skip (wg rfl rfl rfl) ?_
          refine h_op (vB true) (wt rfl) rfl ?_
          refine h_op (vB true) (wt rfl) rfl ?_
          refine h_skip (wg rfl rfl rfl) ?_
          refine h_skip (wg rfl rfl rfl) ?_
          refine h_skip (wg rfl rfl rfl) ?_
          refine h_op (vB true) (wt rfl) rfl ?_
          refine h_op (vB true) (wt rfl) rfl ?_
          refine h_skip (wg rfl rfl rfl) ?_
          refine h_skip (wg rfl rfl rfl) ?_
          refine h_skip (wg rfl rfl rfl) ?_
          refine h_op (vB true) (wt rfl) rfl ?_
          refine h_nil ?_
          replace h_12 := some_inj h_12
          subst h_12
          exact cut_mk () trivial rfl rfl
        · refine h_movb rfl hc_15 (wt rfl) ?_
          refine h_far pl56_3 rfl 3 rfl (wg rfl rfl rfl) ?_
          refine h_ldr 0 0 (.inl rfl) (fun _ _ _ => trivial) sz3 ag3 rfl rfl (vI e_1.First) rfl (wg rfl rfl rfl) ?_
          refine h_far pl56_4 rfl 4 rfl (wg rfl rfl rfl) ?_
          refine h_ldr 0 0 (.inl rfl) (fun _ _ _ => trivial) sz3 ag3 rfl rfl (vI e_1.Last) rfl (wg rfl rfl rfl) ?_
          obtain ⟨r_16, hr_17, h_12⟩ := bind_some h_12
          refine h_call0 (kit_Outside_ok hr_17) rfl hb82 rfl rfl rfl rfl (wg rfl rfl rfl) ?_
          refine h_op (vB r_16) (wt rfl) rfl ?_
          rcases cond_some h_12 with ⟨hc_18, h_12⟩ | ⟨hc_18, h_12⟩
          · refine h_movb rfl hc_18 (wt rfl) ?_
            refine h_skip (wg rfl rfl rfl) ?_
            refine h_skip (wg rfl rfl rfl) ?_
            refine h_skip (wg rfl rfl rfl) ?_
            refine h_op (vB true) (wt rfl) rfl ?_
            refine h_op (vB true) (wt rfl) rfl ?_
            refine h_skip (wg rfl rfl rfl) ?_
            refine h_skip (wg rfl rfl rfl) ?_
            refine h_skip (wg rfl rfl rfl) ?_
            refine h_op (vB true) (wt rfl) rfl ?_
            refine h_op (vB true) (wt rfl) rfl ?_
            refine h_skip (wg rfl rfl rfl) ?_
            refine h_skip (wg rfl rfl rfl) ?_
            refine h_skip (wg rfl rfl rfl) ?_
            refine h_op (vB true) (wt rfl) rfl ?_
            refine h_nil ?_
            replace h_12 := some_inj h_12
            subst h_12
            exact cut_mk () trivial rfl rfl
          · refine h_movb rfl hc_18 (wt rfl) ?_
            refine h_far pl56_4 rfl 4 rfl (wg rfl rfl rfl) ?_
            refine h_ldr 0 0 (.inl rfl) (fun _ _ _ => trivial) sz3 ag3 rfl rfl (vI e_1.Last) rfl (wg rfl rfl rfl) ?_
            refine h_op (vB (decide (e_1.Last > 4000))) (wg rfl rfl rfl) rfl ?_
            refine h_op (vB (decide (e_1.Last > 4000))) (wt rfl) rfl ?_
            rcases cond_some h_12 with ⟨hc_19, h_12⟩ | ⟨hc_19, h_12⟩
            · refine h_movb rfl hc_19 (wt rfl) ?_
              refine h_skip (wg rfl rfl rfl) ?_
              refine h_skip (wg rfl rfl rfl) ?_
              refine h_skip (wg rfl rfl rfl) ?_
              refine h_op (vB true) (wt rfl) rfl ?_
              refine h_op (vB true) (wt rfl) rfl ?_
              refine h_skip (wg rfl rfl rfl) ?_
              refine h_skip (wg rfl rfl rfl) ?_
              refine h_skip (wg rfl rfl rfl) ?_
              refine h_op (vB true) (wt rfl) rfl ?_
              refine h_nil ?_
              replace h_12 := some_inj h_12
              subst h_12
              exact cut_mk () trivial rfl rfl
            · refine h_movb rfl hc_19 (wt rfl) ?_
              refine h_far pl56_5 rfl 5 rfl (wg rfl rfl rfl) ?_
              refine h_ldr 0 0 (.inl rfl) (fun _ _ _ => trivial) sz3 ag3 rfl rfl (vI e_1.Every) rfl (wg rfl rfl rfl) ?_
              obtain ⟨r_20, hr_21, h_12⟩ := bind_some h_12
              refine h_call0 (kit_Outside_ok hr_21) rfl hb82 rfl rfl rfl rfl (wg rfl rfl rfl) ?_
              refine h_op (vB r_20) (wt rfl) rfl ?_
              rcases cond_some h_12 with ⟨hc_22, h_12⟩ | ⟨hc_22, h_12⟩
              · refine h_movb rfl hc_22 (wt rfl) ?_
                refine h_skip (wg rfl rfl rfl) ?_
                refine h_skip (wg rfl rfl rfl) ?_
                refine h_skip (wg rfl rfl rfl) ?_
                refine h_op (vB true) (wt rfl) rfl ?_
                refine h_nil ?_
                replace h_12 := some_inj h_12
                subst h_12
                exact cut_mk () trivial rfl rfl
              · refine h_movb rfl hc_22 (wt rfl) ?_
                refine h_far pl56_6 rfl 6 rfl (wg rfl rfl rfl) ?_
                refine h_ldr 0 0 (.inl rfl) (fun _ _ _ => trivial) sz3 ag3 rfl rfl (vI e_1.Days) rfl (wg rfl rfl rfl) ?_
                obtain ⟨r_23, hr_24, h_12⟩ := bind_some h_12
                refine h_call0 (kit_Outside_ok hr_24) rfl hb82 rfl rfl rfl rfl (wg rfl rfl rfl) ?_
                refine h_op (vB r_23) (wt rfl) rfl ?_
                refine h_nil ?_
                replace h_12 := some_inj h_12
                subst h_12
                exact cut_mk () trivial rfl rfl
      · rintro ⟨⟩ _ sl_ H_ hp_ hq_
        refine wH_at _ hp_ hq_ ?_
        rcases cond_some hF with ⟨hc_25, hF⟩ | ⟨hc_25, hF⟩
        · refine wH_ift rfl hc_25 ?_
          refine wH_seq ?_
          refine wH_region ?_
          refine h_op (vI 1) (wt rfl) rfl ?_
          refine h_nil ?_
          replace hF := some_inj hF
          subst hF
          refine wH_ret ?_
          exact fin0 (.inr rfl) [(vI 1)] ⟨rfl, trivial⟩ rfl rfl rfl
        · refine wH_iff rfl hc_25 ?_
          refine wH_skip ?_
          refine wH_seq ?_
          refine wH_seq ?_
          refine wH_region ?_
          refine h_far pl56_7 rfl 7 rfl (wt rfl) ?_
          refine h_ldr 0 0 (.inl rfl) (fun _ _ _ => trivial) sz22 ag22 rfl rfl (vL eI e_1.Except) rfl (wt rfl) ?_
          obtain ⟨r_26, hr_27, hF⟩ := bind_some hF
          refine h_call0 (schedule_exceptFault_ok hr_27) rfl hb185 rfl rfl rfl rfl (wt rfl) ?_
          refine h_op (vI r_26) (wt rfl) rfl ?_
          refine h_nil ?_
          refine wH_seq ?_
          refine wH_region ?_
          refine h_op (vI r_26) (wt rfl) rfl ?_
          refine h_op (vB (r_26 != 0)) (wt rfl) rfl ?_
          refine h_nil ?_
          rcases cond_some hF with ⟨hc_28, hF⟩ | ⟨hc_28, hF⟩
          · refine wH_ift rfl hc_28 ?_
            refine wH_seq ?_
            refine wH_region ?_
            refine h_op (vI r_26) (wt rfl) rfl ?_
            refine h_op (vI r_26) (wt rfl) rfl ?_
            refine h_nil ?_
            replace hF := some_inj hF
            subst hF
            refine wH_ret ?_
            exact fin0 (.inr rfl) [(vI r_26)] ⟨rfl, trivial⟩ rfl rfl rfl
          · refine wH_iff rfl hc_28 ?_
            refine wH_skip ?_
            refine wH_seq ?_
            refine wH_seq ?_
            obtain ⟨v_29, h_30, hF⟩ := bind_some hF
            refine wH_join (β := Unit) (fun _ => ([(1, (.ref n_2 0 0)), (57, (vB v_29))] : List (Nat × V))) (fun _ => ([(n_2, some (.cells 13 [(vS e_1.Key), (vS e_1.Item), (vI e_1.Version), (vI e_1.First), (vI e_1.Last), (vI e_1.Every), (vI e_1.Days), (vL eI e_1.Except), (vI e_1.From), (vI e_1.To), (vI e_1.Prio), (vL eS e_1.Tags), (vB e_1.Gone)]))] : Hp)) (fun _ => True) ?_ ?_
            · refine wH_region ?_
              refine h_far pl56_8 rfl 8 rfl (wt rfl) ?_
              refine h_ldr 0 0 (.inl rfl) (fun _ _ _ => trivial) sz3 ag3 rfl rfl (vI e_1.From) rfl (wt rfl) ?_
              obtain ⟨r_31, hr_32, h_30⟩ := bind_some h_30
              refine h_call0 (kit_Outside_ok hr_32) rfl hb82 rfl rfl rfl rfl (wt rfl) ?_
              rcases cond_some h_30 with ⟨hc_33, h_30⟩ | ⟨hc_33, h_30⟩
              · refine h_movb rfl hc_33 (wt rfl) ?_
                refine h_skip (wg rfl rfl rfl) ?_
                refine h_skip (wg rfl rfl rfl) ?_
                refine h_skip (wg rfl rfl rfl) ?_
                refine h_op (vB true) (wt rfl) rfl ?_
                refine h_op (vB true) (wt rfl) rfl ?_
                refine h_skip (wg rfl rfl rfl) ?_
                refine h_skip (wg rfl rfl rfl) ?_
                refine h_skip (wg rfl rfl rfl) ?_
                refine h_op (vB true) (wt rfl) rfl ?_
                refine h_nil ?_
                replace h_30 := some_inj h_30
                subst h_30
                exact cut_mk () trivial rfl rfl
              · refine h_movb rfl hc_33 (wt rfl) ?_
                refine h_far pl56_9 rfl 9 rfl (wg rfl rfl rfl) ?_
                refine h_ldr 0 0 (.inl rfl) (fun _ _ _ => trivial) sz3 ag3 rfl rfl (vI e_1.To) rfl (wg rfl rfl rfl) ?_
                obtain ⟨r_34, hr_35, h_30⟩ := bind_some h_30
                refine h_call0 (kit_Outside_ok hr_35) rfl hb82 rfl rfl rfl rfl (wg rfl rfl rfl) ?_
                refine h_op (vB r_34) (wt rfl) rfl ?_
                rcases cond_some h_30 with ⟨hc_36, h_30⟩ | ⟨hc_36, h_30⟩
                · refine h_movb rfl hc_36 (wt rfl) ?_
                  refine h_skip (wg rfl rfl rfl) ?_
                  refine h_skip (wg rfl rfl rfl) ?_
                  refine h_skip (wg rfl rfl rfl) ?_
                  refine h_op (vB true) (wt rfl) rfl ?_
                  refine h_nil ?_
                  replace h_30 := some_inj h_30
                  subst h_30
                  exact cut_mk () trivial rfl rfl
                · refine h_movb rfl hc_36 (wt rfl) ?_
                  refine h_far pl56_10 rfl 10 rfl (wg rfl rfl rfl) ?_
                  refine h_ldr 0 0 (.inl rfl) (fun _ _ _ => trivial) sz3 ag3 rfl rfl (vI e_1.Prio) rfl (wg rfl rfl rfl) ?_
                  obtain ⟨r_37, hr_38, h_30⟩ := bind_some h_30
                  refine h_call0 (kit_Outside_ok hr_38) rfl hb82 rfl rfl rfl rfl (wg rfl rfl rfl) ?_
                  refine h_op (vB r_37) (wt rfl) rfl ?_
                  refine h_nil ?_
                  replace h_30 := some_inj h_30
                  subst h_30
                  exact cut_mk () trivial rfl rfl
            · rintro ⟨⟩ _ sl_ H_ hp_ hq_
              refine wH_at _ hp_ hq_ ?_
              rcases cond_some hF with ⟨hc_39, hF⟩ | ⟨hc_39, hF⟩
              · refine wH_ift rfl hc_39 ?_
                refine wH_seq ?_
                refine wH_region ?_
                refine h_op (vI 1) (wt rfl) rfl ?_
                refine h_nil ?_
                replace hF := some_inj hF
                subst hF
                refine wH_ret ?_
                exact fin0 (.inr rfl) [(vI 1)] ⟨rfl, trivial⟩ rfl rfl rfl
              · refine wH_iff rfl hc_39 ?_
                refine wH_skip ?_
                refine wH_seq ?_
                refine wH_region ?_
                refine h_far pl56_11 rfl 11 rfl (wt rfl) ?_
                refine h_ldr 0 0 (.inl rfl) (fun _ _ _ => trivial) sz46 ag46 rfl rfl (vL eS e_1.Tags) rfl (wt rfl) ?_
                obtain ⟨r_40, hr_41, hF⟩ := bind_some hF
                refine h_call0 (schedule_tagsFault_ok hr_41) rfl hb157 rfl rfl rfl rfl (wt rfl) ?_
                refine h_op (vI r_40) (wt rfl) rfl ?_
                refine h_nil ?_
                replace hF := some_inj hF
                subst hF
                refine wH_ret ?_
                exact fin0 (.inr rfl) [(vI r_40)] ⟨rfl, trivial⟩ rfl rfl rfl
theorem schedule_CheckEntries_ok {l_1 : (List Entry)} {r : Int} (hF : schedule_CheckEntries l_1 = some r) :
    FnM Try.prog 92 [(vL Entry.enc l_1)] [] (vI r) [] := by
  refine FnM.of_wH ⟨Try.prog, 35, [], []⟩ rfl Try.func92 rfl rfl (Nat.le_of_ble_eq_true rfl) (by kernel_rfl) ?_
  unfold schedule_CheckEntries at hF
  refine wH_seq ?_
  refine wH_region ?_
  refine h_op (vI 0) (wt rfl) rfl ?_
  refine h_nil ?_
  refine wH_seq ?_
  refine wH_seq ?_
  refine wH_region ?_
  refine h_op (vL Entry.enc l_1) (wt rfl) rfl ?_
  refine h_len un53 rfl (wt rfl) ?_
  refine h_op (vB (decide ((l_1.length : Int) > 200))) (wt rfl) rfl ?_
  refine h_nil ?_
  rcases cond_some hF with ⟨hc_2, hF⟩ | ⟨hc_2, hF⟩
  · refine wH_ift rfl hc_2 ?_
    refine wH_seq ?_
    refine wH_region ?_
    refine h_op (vI 2) (wt rfl) rfl ?_
    refine h_nil ?_
    replace hF := some_inj hF
    subst hF
    refine wH_ret ?_
    exact fin0 (.inr rfl) [(vI 2)] ⟨rfl, trivial⟩ rfl rfl rfl
  · refine wH_iff rfl hc_2 ?_
    refine wH_skip ?_
    refine wH_seq ?_
    refine wH_seq ?_
    refine wH_region ?_
    refine h_op (vL Entry.enc l_1) (wt rfl) rfl ?_
    refine h_len un53 rfl (wt rfl) ?_
    refine h_op (vI 0) (wt rfl) rfl ?_
    refine h_nil ?_
    obtain ⟨o_11, hj_12, hF⟩ := bind_some hF
    obtain ⟨hn_7, hj_12⟩ := forL_some hj_12
    refine wH_join (β := (Unit)) (fun (s_8 : Unit) => ([] : List (Nat × V))) (fun (s_8 : Unit) => ([] : Hp)) (fun p => o_11 = .go p) ?_ ?_
    · refine wH_block ?_
      refine wH_loop (β := Nat × (List Entry) × (Unit)) (fun p => (fun (k_3 : Nat) (l_4 : List Entry) (s_8 : Unit) => ([(0, (vL Entry.enc l_1)), (9, (vL Entry.enc l_1)), (10, (vI (l_1.length : Int))), (11, (vI (k_3 : Int)))] : List (Nat × V))) p.1 p.2.1 p.2.2) (fun p => (fun (k_3 : Nat) (l_4 : List Entry) (s_8 : Unit) => ([] : Hp)) p.1 p.2.1 p.2.2) (fun p => forR (fun k x s => schedule_CheckEntries_L1 l_1 k x s) p.2.1 p.1 p.2.2 = some o_11 ∧ (l_1).drop p.1 = p.2.1) (fun p => p.2.1.length) (0, l_1, ()) ⟨hj_12, rfl⟩ rfl rfl ?_
      rintro ⟨k_3, l_4, s_8⟩ ⟨hL_10, hD_6⟩
      dsimp only at hL_10 hD_6
      cases l_4 with
      | nil =>
        replace hL_10 := some_inj hL_10
        subst hL_10
        refine wH_seq (wH_region (h_op (vB (decide ((k_3 : Int) < (l_1.length : Int)))) (wt rfl) rfl (h_nil ?_)))
        refine wH_seq (wH_iff rfl (drop_nil hD_6) (wH_exit ?_))
        exact cut_mk (s_8) rfl rfl rfl
      | cons x_5 l_4 =>
        obtain ⟨c_, hc_9, hL_10⟩ := bind_some hL_10
        refine wH_seq (wH_region (h_op (vB (decide ((k_3 : Int) < (l_1.length : Int)))) (wt rfl) rfl (h_nil ?_)))
        refine wH_seq (wH_ift rfl (drop_cons hD_6) (wH_skip ?_))
        unfold schedule_CheckEntries_L1 at hc_9
        refine wH_seq ?_
        refine wH_block ?_
        refine wH_seq ?_
        refine wH_region ?_
        refine h_op (vI (k_3 : Int)) (wt rfl) rfl ?_
        refine h_ia es53 rfl rfl (drop_idx hD_6) rfl (wt rfl) ?_
        refine h_ldc sz56 ag56 rfl (.d (.agg (Entry.enc x_5))) rfl (wt rfl) ?_
        refine h_alloc 0 (.inl rfl) z56 rfl (wt rfl) (fun n_13 => ?_)
        refine h_op (vI (k_3 : Int)) (wt rfl) rfl ?_
        refine h_str 0 (.inl rfl) (fun _ _ _ => trivial) 0 sz56 rfl rfl [(vS x_5.Key), (vS x_5.Item), (vI x_5.Version), (vI x_5.First), (vI x_5.Last), (vI x_5.Every), (vI x_5.Days), (vL eI x_5.Except), (vI x_5.From), (vI x_5.To), (vI x_5.Prio), (vL eS x_5.Tags), (vB x_5.Gone)] rfl (wt rfl) ?_
        refine h_nil ?_
        refine wH_seq ?_
        refine wH_seq ?_
        refine wH_region ?_
        refine h_ldr 0 0 (.inl rfl) (fun _ _ _ => trivial) sz56 ag56 rfl rfl (.d (.agg (Entry.enc x_5))) rfl (wt rfl) ?_
        obtain ⟨r_14, hr_15, hc_9⟩ := bind_some hc_9
        refine h_call0 (schedule_entryFault_ok hr_15) rfl hb154 rfl rfl rfl rfl (wt rfl) ?_
        refine h_op (vI r_14) (wt rfl) rfl ?_
        refine h_nil ?_
        refine wH_seq ?_
        refine wH_region ?_
        refine h_op (vI r_14) (wt rfl) rfl ?_
        refine h_op (vB (r_14 != 0)) (wt rfl) rfl ?_
        refine h_nil ?_
        rcases cond_some hc_9 with ⟨hc_16, hc_9⟩ | ⟨hc_16, hc_9⟩
        · refine wH_ift rfl hc_16 ?_
          refine wH_seq ?_
          refine wH_region ?_
          refine h_op (vI r_14) (wt rfl) rfl ?_
          refine h_op (vI r_14) (wt rfl) rfl ?_
          refine h_nil ?_
          replace hc_9 := some_inj hc_9
          subst hc_9
          replace hL_10 := some_inj hL_10
          subst hL_10
          replace hF := some_inj hF
          subst hF
          refine wH_ret ?_
          exact fin0 (.inr rfl) [(vI r_14)] ⟨rfl, trivial⟩ rfl rfl rfl
        · refine wH_iff rfl hc_16 ?_
          refine wH_skip ?_
          refine wH_seq ?_
          obtain ⟨v_17, h_18, hc_9⟩ := bind_some hc_9
          refine wH_join (β := Unit) (fun _ => ([(0, (vL Entry.enc l_1)), (9, (vL Entry.enc l_1)), (10, (vI (l_1.length : Int))), (11, (vI (k_3 : Int))), (33, (vB v_17))] : List (Nat × V))) (fun _ => ([(n_13, some (.cells 13 [(vS x_5.Key), (vS x_5.Item), (vI x_5.Version), (vI x_5.First), (vI x_5.Last), (vI x_5.Every), (vI x_5.Days), (vL eI x_5.Except), (vI x_5.From), (vI x_5.To), (vI x_5.Prio), (vL eS x_5.Tags), (vB x_5.Gone)]))] : Hp)) (fun _ => True) ?_ ?_
          · refine wH_draws ?_
            refine h_op (vI (k_3 : Int)) (wt rfl) rfl ?_
            refine h_op (vB (decide ((k_3 : Int) > 0))) (wt rfl) rfl ?_
            rcases cond_some h_18 with ⟨hc_19, h_18⟩ | ⟨hc_19, h_18⟩
            · refine h_movb rfl hc_19 (wt rfl) ?_
              refine h_far pl56_0 rfl 0 rfl (wg rfl rfl rfl) ?_
              refine h_ldr 4 0 (.inr (by kernel_rfl)) (fun _ _ ag => trivial) sz9 ag9 rfl rfl (vS x_5.Key) rfl (wg rfl rfl rfl) ?_
              refine h_op (vL Entry.enc l_1) (wg rfl rfl rfl) rfl ?_
              refine h_op (vI (k_3 : Int)) (wg rfl rfl rfl) rfl ?_
              refine h_op (vI (w64 ((k_3 : Int) - 1))) (wg rfl rfl rfl) rfl ?_
              obtain ⟨y_20, hy_21, h_18⟩ := bind_some h_18
              refine h_ia es53 rfl rfl hy_21 rfl (wg rfl rfl rfl) ?_
              refine h_fac pl56_0 rfl [.str y_20.Key, .str y_20.Item, .int .i64 y_20.Version, .int .i64 y_20.First, .int .i64 y_20.Last, .int .i64 y_20.Every, .int .i64 y_20.Days, dl eI y_20.Except, .int .i64 y_20.From, .int .i64 y_20.To, .int .i64 y_20.Prio, dl eS y_20.Tags, .bool y_20.Gone] rfl rfl (wg rfl rfl rfl) ?_
              refine h_ldc sz9 ag9 rfl (vS y_20.Key) rfl (wg rfl rfl rfl) ?_
              refine h_op (vB (sLe x_5.Key y_20.Key)) (wg rfl rfl rfl) rfl ?_
              refine h_op (vB (sLe x_5.Key y_20.Key)) (wt rfl) rfl ?_
              refine h_nil ?_
              replace h_18 := some_inj h_18
              subst h_18
              exact cut_mk () trivial rfl rfl
            · refine h_movb rfl hc_19 (wt rfl) ?_
              refine h_skip (wg rfl rfl rfl) ?_
              refine h_skip (wg rfl rfl rfl) ?_
              refine h_skip (wg rfl rfl rfl) ?_
              refine h_skip (wg rfl rfl rfl) ?_
              refine h_skip (wg rfl rfl rfl) ?_
              refine h_skip (wg rfl rfl rfl) ?_
              refine h_skip (wg rfl rfl rfl) ?_
              refine h_skip (wg rfl rfl rfl) ?_
              refine h_skip (wg rfl rfl rfl) ?_
              refine h_op (vB false) (wt rfl) rfl ?_
              refine h_nil ?_
              replace h_18 := some_inj h_18
              subst h_18
              exact cut_mk () trivial rfl rfl
          · rintro ⟨⟩ _ sl_ H_ hp_ hq_
            refine wH_at _ hp_ hq_ ?_
            rcases cond_some hc_9 with ⟨hc_22, hc_9⟩ | ⟨hc_22, hc_9⟩
            · refine wH_ift rfl hc_22 ?_
              refine wH_seq ?_
              refine wH_region ?_
              refine h_op (vI 7) (wt rfl) rfl ?_
              refine h_nil ?_
              replace hc_9 := some_inj hc_9
              subst hc_9
              replace hL_10 := some_inj hL_10
              subst hL_10
              replace hF := some_inj hF
              subst hF
              refine wH_ret ?_
              exact fin0 (.inr rfl) [(vI 7)] ⟨rfl, trivial⟩ rfl rfl rfl
            · refine wH_iff rfl hc_22 ?_
              refine wH_skip ?_
              refine wH_region ?_
              refine h_opw (w64_next hD_6 hn_7) (wt rfl) rfl ?_
              refine h_op (vI ((k_3 + 1 : Nat) : Int)) (wt rfl) rfl ?_
              refine h_nil ?_
              replace hc_9 := some_inj hc_9
              subst hc_9
              exact loop_mk (k_3 + 1, l_4, ()) ⟨hL_10, drop_next hD_6⟩ (Nat.lt_succ_self _) rfl rfl
    · rintro s_8 ho_ sl_ H_ hp_ hq_
      subst ho_
      refine wH_at _ hp_ hq_ ?_
      refine wH_seq ?_
      refine wH_region ?_
      refine h_op (vI 0) (wt rfl) rfl ?_
      refine h_nil ?_
      replace hF := some_inj hF
      subst hF
      refine wH_ret ?_
      exact fin0 (.inr rfl) [(vI 0)] ⟨rfl, trivial⟩ rfl rfl rfl
theorem schedule_windowFault_ok {wv_1 : Window} {r : Int} (hF : schedule_windowFault wv_1 = some r) :
    FnM Try.prog 93 [(.d (.agg (Window.enc wv_1)))] [] (vI r) [] := by
  refine FnM.of_wH ⟨Try.prog, 19, [], []⟩ rfl Try.func93 rfl rfl (Nat.le_of_ble_eq_true rfl) (by kernel_rfl) ?_
  unfold schedule_windowFault at hF
  refine wH_seq ?_
  refine wH_region ?_
  refine h_box 0 (.inl rfl) [(vI wv_1.From), (vI wv_1.To)] rfl rfl (wt rfl) (fun n_2 => ?_)
  refine h_op (vI 0) (wt rfl) rfl ?_
  refine h_nil ?_
  refine wH_seq ?_
  refine wH_seq ?_
  obtain ⟨v_3, h_4, hF⟩ := bind_some hF
  refine wH_join (β := Unit) (fun _ => ([(1, (.ref n_2 0 0)), (12, (vB v_3))] : List (Nat × V))) (fun _ => ([(n_2, some (.cells 2 [(vI wv_1.From), (vI wv_1.To)]))] : Hp)) (fun _ => True) ?_ ?_
  · refine wH_region ?_
    refine h_far pl51_0 rfl 0 rfl (wt rfl) ?_
    refine h_ldr 0 0 (.inl rfl) (fun _ _ _ => trivial) sz3 ag3 rfl rfl (vI wv_1.From) rfl (wt rfl) ?_
    refine h_far pl51_1 rfl 1 rfl (wt rfl) ?_
    refine h_ldr 0 0 (.inl rfl) (fun _ _ _ => trivial) sz3 ag3 rfl rfl (vI wv_1.To) rfl (wt rfl) ?_
    obtain ⟨r_5, hr_6, h_4⟩ := bind_some h_4
    refine h_call0 (kit_Outside_ok hr_6) rfl hb82 rfl rfl rfl rfl (wt rfl) ?_
    rcases cond_some h_4 with ⟨hc_7, h_4⟩ | ⟨hc_7, h_4⟩
    · refine h_movb rfl hc_7 (wt rfl) ?_
      refine h_skip (wg rfl rfl rfl) ?_
      refine h_skip (wg rfl rfl rfl) ?_
      refine h_skip (wg rfl rfl rfl) ?_
      refine h_op (vB true) (wt rfl) rfl ?_
      refine h_nil ?_
      replace h_4 := some_inj h_4
      subst h_4
      exact cut_mk () trivial rfl rfl
    · refine h_movb rfl hc_7 (wt rfl) ?_
      refine h_far pl51_1 rfl 1 rfl (wg rfl rfl rfl) ?_
      refine h_ldr 0 0 (.inl rfl) (fun _ _ _ => trivial) sz3 ag3 rfl rfl (vI wv_1.To) rfl (wg rfl rfl rfl) ?_
      refine h_op (vB (decide (wv_1.To > 345686400000))) (wg rfl rfl rfl) rfl ?_
      refine h_op (vB (decide (wv_1.To > 345686400000))) (wt rfl) rfl ?_
      refine h_nil ?_
      replace h_4 := some_inj h_4
      subst h_4
      exact cut_mk () trivial rfl rfl
  · rintro ⟨⟩ _ sl_ H_ hp_ hq_
    refine wH_at _ hp_ hq_ ?_
    rcases cond_some hF with ⟨hc_8, hF⟩ | ⟨hc_8, hF⟩
    · refine wH_ift rfl hc_8 ?_
      refine wH_seq ?_
      refine wH_region ?_
      refine h_op (vI 1) (wt rfl) rfl ?_
      refine h_nil ?_
      replace hF := some_inj hF
      subst hF
      refine wH_ret ?_
      exact fin0 (.inr rfl) [(vI 1)] ⟨rfl, trivial⟩ rfl rfl rfl
    · refine wH_iff rfl hc_8 ?_
      refine wH_skip ?_
      refine wH_seq ?_
      refine wH_seq ?_
      refine wH_region ?_
      refine h_far pl51_1 rfl 1 rfl (wt rfl) ?_
      refine h_ldr 0 0 (.inl rfl) (fun _ _ _ => trivial) sz3 ag3 rfl rfl (vI wv_1.To) rfl (wt rfl) ?_
      refine h_far pl51_0 rfl 0 rfl (wt rfl) ?_
      refine h_ldr 0 0 (.inl rfl) (fun _ _ _ => trivial) sz3 ag3 rfl rfl (vI wv_1.From) rfl (wt rfl) ?_
      refine h_op (vI (w64 (wv_1.To - wv_1.From))) (wt rfl) rfl ?_
      refine h_op (vB (decide ((w64 (wv_1.To - wv_1.From)) > 34560000000))) (wt rfl) rfl ?_
      refine h_nil ?_
      rcases cond_some hF with ⟨hc_9, hF⟩ | ⟨hc_9, hF⟩
      · refine wH_ift rfl hc_9 ?_
        refine wH_seq ?_
        refine wH_region ?_
        refine h_op (vI 2) (wt rfl) rfl ?_
        refine h_nil ?_
        replace hF := some_inj hF
        subst hF
        refine wH_ret ?_
        exact fin0 (.inr rfl) [(vI 2)] ⟨rfl, trivial⟩ rfl rfl rfl
      · refine wH_iff rfl hc_9 ?_
        refine wH_skip ?_
        refine wH_seq ?_
        refine wH_region ?_
        refine h_op (vI 0) (wt rfl) rfl ?_
        refine h_nil ?_
        replace hF := some_inj hF
        subst hF
        refine wH_ret ?_
        exact fin0 (.inr rfl) [(vI 0)] ⟨rfl, trivial⟩ rfl rfl rfl
theorem cmp_Less_int_ok {x_1 : Int} {y_2 : Int} {r : Bool} (hF : cmp_Less_int x_1 y_2 = some r) :
    FnM Try.prog 208 [(vI x_1), (vI y_2)] [] (vB r) [] := by
  refine FnM.of_wH ⟨Try.prog, 17, [], []⟩ rfl Try.func208 rfl rfl (Nat.le_of_ble_eq_true rfl) (by kernel_rfl) ?_
  unfold cmp_Less_int at hF
  refine wH_seq ?_
  refine wH_region ?_
  refine h_op (vB false) (wt rfl) rfl ?_
  refine h_nil ?_
  refine wH_seq ?_
  obtain ⟨v_3, h_4, hF⟩ := bind_some hF
  refine wH_join (β := Unit) (fun _ => ([(4, (vB v_3))] : List (Nat × V))) (fun _ => ([] : Hp)) (fun _ => True) ?_ ?_
  · refine wH_region ?_
    refine h_op (vI x_1) (wt rfl) rfl ?_
    obtain ⟨r_5, hr_6, h_4⟩ := bind_some h_4
    refine h_call0 (cmp_isNaN_int_ok hr_6) rfl hb165 rfl rfl rfl rfl (wt rfl) ?_
    rcases cond_some h_4 with ⟨hc_7, h_4⟩ | ⟨hc_7, h_4⟩
    · refine h_movb rfl hc_7 (wt rfl) ?_
      refine h_op (vI y_2) (wg rfl rfl rfl) rfl ?_
      obtain ⟨r_8, hr_9, h_4⟩ := bind_some h_4
      refine h_call0 (cmp_isNaN_int_ok hr_9) rfl hb165 rfl rfl rfl rfl (wg rfl rfl rfl) ?_
      refine h_op (vB (!r_8)) (wg rfl rfl rfl) rfl ?_
      refine h_op (vB (!r_8)) (wt rfl) rfl ?_
      rcases cond_some h_4 with ⟨hc_10, h_4⟩ | ⟨hc_10, h_4⟩
      · refine h_movb rfl hc_10 (wt rfl) ?_
        refine h_skip (wg rfl rfl rfl) ?_
        refine h_skip (wg rfl rfl rfl) ?_
        refine h_skip (wg rfl rfl rfl) ?_
        refine h_op (vB true) (wt rfl) rfl ?_
        refine h_op (vB true) (wt rfl) rfl ?_
        refine h_nil ?_
        replace h_4 := some_inj h_4
        subst h_4
        exact cut_mk () trivial rfl rfl
      · refine h_movb rfl hc_10 (wt rfl) ?_
        refine h_op (vI x_1) (wg rfl rfl rfl) rfl ?_
        refine h_op (vI y_2) (wg rfl rfl rfl) rfl ?_
        refine h_op (vB (decide (x_1 < y_2))) (wg rfl rfl rfl) rfl ?_
        refine h_op (vB (decide (x_1 < y_2))) (wt rfl) rfl ?_
        refine h_op (vB (decide (x_1 < y_2))) (wt rfl) rfl ?_
        refine h_nil ?_
        replace h_4 := some_inj h_4
        subst h_4
        exact cut_mk () trivial rfl rfl
    · refine h_movb rfl hc_7 (wt rfl) ?_
      refine h_skip (wg rfl rfl rfl) ?_
      refine h_skip (wg rfl rfl rfl) ?_
      refine h_skip (wg rfl rfl rfl) ?_
      refine h_op (vB false) (wt rfl) rfl ?_
      refine h_op (vB false) (wt rfl) rfl ?_
      refine h_op (vI x_1) (wg rfl rfl rfl) rfl ?_
      refine h_op (vI y_2) (wg rfl rfl rfl) rfl ?_
      refine h_op (vB (decide (x_1 < y_2))) (wg rfl rfl rfl) rfl ?_
      refine h_op (vB (decide (x_1 < y_2))) (wt rfl) rfl ?_
      refine h_op (vB (decide (x_1 < y_2))) (wt rfl) rfl ?_
      refine h_nil ?_
      replace h_4 := some_inj h_4
      subst h_4
      exact cut_mk () trivial rfl rfl
  · rintro ⟨⟩ _ sl_ H_ hp_ hq_
    refine wH_at _ hp_ hq_ ?_
    replace hF := some_inj hF
    subst hF
    refine wH_ret ?_
    exact fin0 (.inr rfl) [(vB v_3)] ⟨rfl, trivial⟩ rfl rfl rfl
theorem slices_isNaN_int_ok {x_1 : Int} {r : Bool} (hF : slices_isNaN_int x_1 = some r) :
    FnM Try.prog 209 [(vI x_1)] [] (vB r) [] := by
  refine FnM.of_wH ⟨Try.prog, 6, [], []⟩ rfl Try.func209 rfl rfl (Nat.le_of_ble_eq_true rfl) (by kernel_rfl) ?_
  unfold slices_isNaN_int at hF
  refine wH_seq ?_
  refine wH_region ?_
  refine h_op (vB false) (wt rfl) rfl ?_
  refine h_nil ?_
  refine wH_seq ?_
  refine wH_region ?_
  refine h_op (vI x_1) (wt rfl) rfl ?_
  refine h_op (vI x_1) (wt rfl) rfl ?_
  refine h_op (vB (x_1 != x_1)) (wt rfl) rfl ?_
  refine h_op (vB (x_1 != x_1)) (wt rfl) rfl ?_
  refine h_nil ?_
  replace hF := some_inj hF
  subst hF
  refine wH_ret ?_
  exact fin0 (.inr rfl) [(vB (x_1 != x_1))] ⟨rfl, trivial⟩ rfl rfl rfl
theorem slices_BinarySearch_int_int_ok {x_1 : (List Int)} {target_2 : Int} {r : Int × Bool} (hF : slices_BinarySearch_int_int x_1 target_2 = some r) :
    FnM Try.prog 186 [(vL eI x_1), (vI target_2)] [] (.tup [(vI r.1), (vB r.2)]) [] := by
  refine FnM.of_wH ⟨Try.prog, 54, [], []⟩ rfl Try.func186 rfl rfl (Nat.le_of_ble_eq_true rfl) (by kernel_rfl) ?_
  unfold slices_BinarySearch_int_int at hF
  refine wH_seq ?_
  refine wH_region ?_
  refine h_op (vI 0) (wt rfl) rfl ?_
  refine h_op (vB false) (wt rfl) rfl ?_
  refine h_nil ?_
  refine wH_seq ?_
  refine wH_region ?_
  refine h_op (vL eI x_1) (wt rfl) rfl ?_
  refine h_len un22 rfl (wt rfl) ?_
  refine h_op (vI (x_1.length : Int)) (wt rfl) rfl ?_
  refine h_nil ?_
  refine wH_seq ?_
  refine wH_region ?_
  refine h_op (vI (x_1.length : Int)) (wt rfl) rfl ?_
  refine h_op (vI 0) (wt rfl) rfl ?_
  refine h_op (vI (x_1.length : Int)) (wt rfl) rfl ?_
  refine h_nil ?_
  refine wH_seq ?_
  obtain ⟨o_11, hj_12, hF⟩ := bind_some hF
  obtain ⟨nq_34, hj_12⟩ := loopO_iter hj_12
  refine wH_join (β := (Int × Int)) (fun (s_8 : Int × Int) => ([(0, (vL eI x_1)), (1, (vI target_2)), (6, (vI (x_1.length : Int))), (7, (vI s_8.1))] : List (Nat × V))) (fun (s_8 : Int × Int) => ([] : Hp)) (fun p => o_11 = .go p) ?_ ?_
  · refine wH_block ?_
    refine wH_loop (β := Nat × (Int × Int)) (fun p => (fun (k_3 : Nat) (s_8 : Int × Int) => ([(0, (vL eI x_1)), (1, (vI target_2)), (6, (vI (x_1.length : Int))), (7, (vI s_8.1)), (8, (vI s_8.2))] : List (Nat × V))) p.1 p.2) (fun p => (fun (k_3 : Nat) (s_8 : Int × Int) => ([] : Hp)) p.1 p.2) (fun p => iterN (fun s => slices_BinarySearch_int_int_L1 x_1 target_2 s) p.1 p.2 = some o_11) (fun p => p.1) (nq_34, (0, (x_1.length : Int))) hj_12 rfl rfl ?_
    rintro ⟨k_3, s_8⟩ hL_10
    dsimp only at hL_10
    cases k_3 with
    | zero => cases hL_10
    | succ k_3 =>
      obtain ⟨c_, hc_9, hL_10⟩ := bind_some hL_10
      unfold slices_BinarySearch_int_int_L1 at hc_9
      refine wH_seq ?_
      refine wH_seq ?_
      refine wH_region ?_
      refine h_op (vI s_8.1) (wt rfl) rfl ?_
      refine h_op (vI s_8.2) (wt rfl) rfl ?_
      refine h_op (vB (decide (s_8.1 < s_8.2))) (wt rfl) rfl ?_
      refine h_nil ?_
      rcases cond_some hc_9 with ⟨hc_13, hc_9⟩ | ⟨hc_13, hc_9⟩
      · refine wH_ift rfl hc_13 ?_
        refine wH_skip ?_
        refine wH_block ?_
        refine wH_seq ?_
        refine wH_region ?_
        refine h_op (vI s_8.1) (wt rfl) rfl ?_
        refine h_op (vI s_8.2) (wt rfl) rfl ?_
        refine h_op (vI (w64 (s_8.1 + s_8.2))) (wt rfl) rfl ?_
        refine h_conv un3 un180 rfl (wt rfl) ?_
        obtain ⟨q_14, hz_15, hc_9⟩ := bind_some hc_9
        refine h_shr rfl rfl hz_15 (wt rfl) ?_
        refine h_conv un180 un3 rfl (wt rfl) ?_
        refine h_op (vI (w64 q_14)) (wt rfl) rfl ?_
        refine h_nil ?_
        refine wH_seq ?_
        refine wH_region ?_
        refine h_op (vL eI x_1) (wt rfl) rfl ?_
        refine h_op (vI (w64 q_14)) (wt rfl) rfl ?_
        obtain ⟨y_16, hy_17, hc_9⟩ := bind_some hc_9
        refine h_ia es22 rfl rfl hy_17 rfl (wt rfl) ?_
        refine h_ldc sz3 ag3 rfl (vI y_16) rfl (wt rfl) ?_
        refine h_op (vI target_2) (wt rfl) rfl ?_
        obtain ⟨r_18, hr_19, hc_9⟩ := bind_some hc_9
        refine h_call0 (cmp_Less_int_ok hr_19) rfl hb208 rfl rfl rfl rfl (wt rfl) ?_
        refine h_nil ?_
        rcases cond_some hc_9 with ⟨hc_20, hc_9⟩ | ⟨hc_20, hc_9⟩
        · refine wH_ift rfl hc_20 ?_
          refine wH_region ?_
          refine h_op (vI (w64 q_14)) (wt rfl) rfl ?_
          refine h_op (vI (w64 ((w64 q_14) + 1))) (wt rfl) rfl ?_
          refine h_op (vI (w64 ((w64 q_14) + 1))) (wt rfl) rfl ?_
          refine h_nil ?_
          replace hc_9 := some_inj hc_9
          subst hc_9
          exact loop_mk (k_3, ((w64 ((w64 q_14) + 1)), s_8.2)) hL_10 (Nat.lt_succ_self _) rfl rfl
        · refine wH_iff rfl hc_20 ?_
          refine wH_region ?_
          refine h_op (vI (w64 q_14)) (wt rfl) rfl ?_
          refine h_op (vI (w64 q_14)) (wt rfl) rfl ?_
          refine h_nil ?_
          replace hc_9 := some_inj hc_9
          subst hc_9
          exact loop_mk (k_3, (s_8.1, (w64 q_14))) hL_10 (Nat.lt_succ_self _) rfl rfl
      · refine wH_iff rfl hc_13 ?_
        refine wH_exit ?_
        replace hc_9 := some_inj hc_9
        subst hc_9
        replace hL_10 := some_inj hL_10
        subst hL_10
        exact cut_mk ((s_8.1, s_8.2)) rfl rfl rfl
  · rintro s_8 ho_ sl_ H_ hp_ hq_
    subst ho_
    refine wH_at _ hp_ hq_ ?_
    refine wH_seq ?_
    obtain ⟨v_21, h_22, hF⟩ := bind_some hF
    refine wH_join (β := Unit) (fun _ => ([(4, (vI s_8.1)), (5, (vB v_21))] : List (Nat × V))) (fun _ => ([] : Hp)) (fun _ => True) ?_ ?_
    · refine wH_region ?_
      refine h_op (vI s_8.1) (wt rfl) rfl ?_
      refine h_op (vI s_8.1) (wt rfl) rfl ?_
      refine h_op (vI (x_1.length : Int)) (wt rfl) rfl ?_
      refine h_op (vB (decide (s_8.1 < (x_1.length : Int)))) (wt rfl) rfl ?_
      rcases cond_some h_22 with ⟨hc_23, h_22⟩ | ⟨hc_23, h_22⟩
      · refine h_movb rfl hc_23 (wt rfl) ?_
        refine h_op (vL eI x_1) (wg rfl rfl rfl) rfl ?_
        refine h_op (vI s_8.1) (wg rfl rfl rfl) rfl ?_
        obtain ⟨y_24, hy_25, h_22⟩ := bind_some h_22
        refine h_ia es22 rfl rfl hy_25 rfl (wg rfl rfl rfl) ?_
        refine h_ldc sz3 ag3 rfl (vI y_24) rfl (wg rfl rfl rfl) ?_
        refine h_op (vI target_2) (wg rfl rfl rfl) rfl ?_
        refine h_op (vB (y_24 == target_2)) (wg rfl rfl rfl) rfl ?_
        rcases cond_some h_22 with ⟨hc_26, h_22⟩ | ⟨hc_26, h_22⟩
        · refine h_movb rfl hc_26 (wg rfl rfl rfl) ?_
          refine h_skip (wg rfl rfl rfl) ?_
          refine h_skip (wg rfl rfl rfl) ?_
          refine h_skip (wg rfl rfl rfl) ?_
          refine h_skip (wg rfl rfl rfl) ?_
          refine h_skip (wg rfl rfl rfl) ?_
          refine h_skip (wg rfl rfl rfl) ?_
          refine h_skip (wn rfl rfl) ?_
          refine h_skip (wn rfl rfl) ?_
          refine h_skip (wg rfl rfl rfl) ?_
          refine h_op (vB true) (wg rfl rfl rfl) rfl ?_
          refine h_op (vB true) (wt rfl) rfl ?_
          refine h_op (vI s_8.1) (wt rfl) rfl ?_
          refine h_op (vB true) (wt rfl) rfl ?_
          refine h_nil ?_
          replace h_22 := some_inj h_22
          subst h_22
          exact cut_mk () trivial rfl rfl
        · refine h_movb rfl hc_26 (wg rfl rfl rfl) ?_
          refine h_op (vL eI x_1) (wg rfl rfl rfl) rfl ?_
          refine h_op (vI s_8.1) (wg rfl rfl rfl) rfl ?_
          obtain ⟨y_27, hy_28, h_22⟩ := bind_some h_22
          refine h_ia es22 rfl rfl hy_28 rfl (wg rfl rfl rfl) ?_
          refine h_ldc sz3 ag3 rfl (vI y_27) rfl (wg rfl rfl rfl) ?_
          obtain ⟨r_29, hr_30, h_22⟩ := bind_some h_22
          refine h_call0 (slices_isNaN_int_ok hr_30) rfl hb209 rfl rfl rfl rfl (wg rfl rfl rfl) ?_
          rcases cond_some h_22 with ⟨hc_31, h_22⟩ | ⟨hc_31, h_22⟩
          · refine h_movb rfl hc_31 (wg rfl rfl rfl) ?_
            refine h_op (vI target_2) (wg rfl rfl rfl) rfl ?_
            obtain ⟨r_32, hr_33, h_22⟩ := bind_some h_22
            refine h_call0 (slices_isNaN_int_ok hr_33) rfl hb209 rfl rfl rfl rfl (wg rfl rfl rfl) ?_
            refine h_op (vB r_32) (wg rfl rfl rfl) rfl ?_
            refine h_op (vB r_32) (wg rfl rfl rfl) rfl ?_
            refine h_op (vB r_32) (wt rfl) rfl ?_
            refine h_op (vI s_8.1) (wt rfl) rfl ?_
            refine h_op (vB r_32) (wt rfl) rfl ?_
            refine h_nil ?_
            replace h_22 := some_inj h_22
            subst h_22
            exact cut_mk () trivial rfl rfl
          · refine h_movb rfl hc_31 (wg rfl rfl rfl) ?_
            refine h_skip (wg rfl rfl rfl) ?_
            refine h_skip (wg rfl rfl rfl) ?_
            refine h_op (vB false) (wg rfl rfl rfl) rfl ?_
            refine h_op (vB false) (wg rfl rfl rfl) rfl ?_
            refine h_op (vB false) (wt rfl) rfl ?_
            refine h_op (vI s_8.1) (wt rfl) rfl ?_
            refine h_op (vB false) (wt rfl) rfl ?_
            refine h_nil ?_
            replace h_22 := some_inj h_22
            subst h_22
            exact cut_mk () trivial rfl rfl
      · refine h_movb rfl hc_23 (wt rfl) ?_
        refine h_skip (wg rfl rfl rfl) ?_
        refine h_skip (wg rfl rfl rfl) ?_
        refine h_skip (wg rfl rfl rfl) ?_
        refine h_skip (wg rfl rfl rfl) ?_
        refine h_skip (wg rfl rfl rfl) ?_
        refine h_skip (wg rfl rfl rfl) ?_
        refine h_skip (wg rfl rfl rfl) ?_
        refine h_skip (wn rfl rfl) ?_
        refine h_skip (wn rfl rfl) ?_
        refine h_skip (wn rfl rfl) ?_
        refine h_skip (wn rfl rfl) ?_
        refine h_skip (wn rfl rfl) ?_
        refine h_skip (wn rfl rfl) ?_
        refine h_skip (wn rfl rfl) ?_
        refine h_skip (wn rfl rfl) ?_
        refine h_skip (wn rfl rfl) ?_
        refine h_skip (wg rfl rfl rfl) ?_
        refine h_op (vB false) (wt rfl) rfl ?_
        refine h_op (vI s_8.1) (wt rfl) rfl ?_
        refine h_op (vB false) (wt rfl) rfl ?_
        refine h_nil ?_
        replace h_22 := some_inj h_22
        subst h_22
        exact cut_mk () trivial rfl rfl
    · rintro ⟨⟩ _ sl_ H_ hp_ hq_
      refine wH_at _ hp_ hq_ ?_
      replace hF := some_inj hF
      subst hF
      refine wH_ret ?_
      exact fin0 (.inr rfl) [(vI s_8.1), (vB v_21)] ⟨rfl, ⟨rfl, trivial⟩⟩ rfl rfl rfl
end Go.Proofs.Ytodfcleaapnklaa.Law
