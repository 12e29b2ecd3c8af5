/-
  The machine computes these plain functions (written by a program of ours).
-/
import Derived.Test.YtodfcleaapnklaaFacts
import Derived.Test.YtodfcleaapnklaaDefs
import Derived.Test.YtodfcleaapnklaaPf3
open Go Go.Eng Go.Proofs
namespace Go.Proofs.Ytodfcleaapnklaa.Law
set_option maxRecDepth 100000
set_option linter.unusedVariables false
set_option maxHeartbeats 1000000
theorem ref_PlayerFault_ok {p_1 : Player} {r : Int} (hF : ref_PlayerFault p_1 = some r) :
    FnM Try.prog 31 [(.d (.agg (Player.enc p_1)))] [] (vI r) [] := by
  refine FnM.of_wH ⟨Try.prog, 22, [], []⟩ rfl Try.func31 rfl rfl (Nat.le_of_ble_eq_true rfl) (by kernel_rfl) ?_
  unfold ref_PlayerFault at hF
  refine wH_seq ?_
  refine wH_region ?_
  refine h_box 0 (.inl rfl) [(vS p_1.Key), (vS p_1.Screen), (vI p_1.Zone), (vL eS p_1.Tags)] rfl rfl (wt rfl) (fun n_2 => ?_)
  refine h_op (vI 0) (wt rfl) rfl ?_
  refine h_nil ?_
  refine wH_seq ?_
  refine wH_block ?_
  refine wH_seq ?_
  obtain ⟨v_3, h_4, hF⟩ := bind_some hF
  refine wH_join (β := Unit) (fun _ => ([(1, (.ref n_2 0 0)), (3, (vB v_3))] : List (Nat × V))) (fun _ => ([(n_2, some (.cells 4 [(vS p_1.Key), (vS p_1.Screen), (vI p_1.Zone), (vL eS p_1.Tags)]))] : Hp)) (fun _ => True) ?_ ?_
  · refine wH_region ?_
    refine h_far pl48_0 rfl 0 rfl (wt rfl) ?_
    refine h_ldr 0 0 (.inl rfl) (fun _ _ _ => trivial) sz9 ag9 rfl rfl (vS p_1.Key) rfl (wt rfl) ?_
    obtain ⟨r_5, hr_6, h_4⟩ := bind_some h_4
    refine h_call0 (ref_Key_ok hr_6) rfl hb18 rfl rfl rfl rfl (wt rfl) ?_
    refine h_op (vB (!r_5)) (wt rfl) rfl ?_
    rcases cond_some h_4 with ⟨hc_7, h_4⟩ | ⟨hc_7, h_4⟩
    · refine h_movb rfl hc_7 (wt rfl) ?_
      refine h_skip (wg rfl rfl rfl) ?_
      refine h_skip (wg rfl rfl rfl) ?_
      refine h_skip (wg rfl rfl rfl) ?_
      refine h_skip (wg rfl rfl rfl) ?_
      refine h_op (vB true) (wt rfl) rfl ?_
      refine h_op (vB true) (wt rfl) rfl ?_
      refine h_nil ?_
      replace h_4 := some_inj h_4
      subst h_4
      exact cut_mk () trivial rfl rfl
    · refine h_movb rfl hc_7 (wt rfl) ?_
      refine h_far pl48_1 rfl 1 rfl (wg rfl rfl rfl) ?_
      refine h_ldr 0 0 (.inl rfl) (fun _ _ _ => trivial) sz9 ag9 rfl rfl (vS p_1.Screen) rfl (wg rfl rfl rfl) ?_
      obtain ⟨r_8, hr_9, h_4⟩ := bind_some h_4
      refine h_call0 (ref_Key_ok hr_9) rfl hb18 rfl rfl rfl rfl (wg rfl rfl rfl) ?_
      refine h_op (vB (!r_8)) (wg rfl rfl rfl) rfl ?_
      refine h_op (vB (!r_8)) (wt rfl) rfl ?_
      refine h_op (vB (!r_8)) (wt rfl) rfl ?_
      refine h_nil ?_
      replace h_4 := some_inj h_4
      subst h_4
      exact cut_mk () trivial rfl rfl
  · rintro ⟨⟩ _ sl_ H_ hp_ hq_
    refine wH_at _ hp_ hq_ ?_
    rcases cond_some hF with ⟨hc_10, hF⟩ | ⟨hc_10, hF⟩
    · refine wH_ift rfl hc_10 ?_
      refine wH_seq ?_
      refine wH_region ?_
      refine h_op (vI 5) (wt rfl) rfl ?_
      refine h_nil ?_
      replace hF := some_inj hF
      subst hF
      refine wH_ret ?_
      exact fin0 (.inr rfl) [(vI 5)] ⟨rfl, trivial⟩ rfl rfl rfl
    · refine wH_iff rfl hc_10 ?_
      refine wH_seq ?_
      refine wH_region ?_
      refine h_far pl48_2 rfl 2 rfl (wt rfl) ?_
      refine h_ldr 0 0 (.inl rfl) (fun _ _ _ => trivial) sz3 ag3 rfl rfl (vI p_1.Zone) rfl (wt rfl) ?_
      obtain ⟨r_11, hr_12, hF⟩ := bind_some hF
      refine h_call0 (ref_in_ok hr_12) rfl hb84 rfl rfl rfl rfl (wt rfl) ?_
      refine h_op (vB (!r_11)) (wt rfl) rfl ?_
      refine h_op (vB (!r_11)) (wt rfl) rfl ?_
      refine h_nil ?_
      rcases cond_some hF with ⟨hc_13, hF⟩ | ⟨hc_13, hF⟩
      · refine wH_ift rfl hc_13 ?_
        refine wH_seq ?_
        refine wH_region ?_
        refine h_op (vI 1) (wt rfl) rfl ?_
        refine h_nil ?_
        replace hF := some_inj hF
        subst hF
        refine wH_ret ?_
        exact fin0 (.inr rfl) [(vI 1)] ⟨rfl, trivial⟩ rfl rfl rfl
      · refine wH_iff rfl hc_13 ?_
        refine wH_skip ?_
        refine wH_seq ?_
        refine wH_region ?_
        refine h_far pl48_3 rfl 3 rfl (wt rfl) ?_
        refine h_ldr 0 0 (.inl rfl) (fun _ _ _ => trivial) sz46 ag46 rfl rfl (vL eS p_1.Tags) rfl (wt rfl) ?_
        obtain ⟨r_14, hr_15, hF⟩ := bind_some hF
        refine h_call0 (ref_TagsFault_ok hr_15) rfl hb99 rfl rfl rfl rfl (wt rfl) ?_
        refine h_op (vI r_14) (wt rfl) rfl ?_
        refine h_nil ?_
        replace hF := some_inj hF
        subst hF
        refine wH_ret ?_
        exact fin0 (.inr rfl) [(vI r_14)] ⟨rfl, trivial⟩ rfl rfl rfl
theorem ref_timeOf_ok {e_1 : Entry} {zone_2 : Int} {d_3 : Int} {r : Window} (hF : ref_timeOf e_1 zone_2 d_3 = some r) :
    FnM Try.prog 100 [(.d (.agg (Entry.enc e_1))), (vI zone_2), (vI d_3)] [] (.d (.agg (Window.enc r))) [] := by
  refine FnM.of_wH ⟨Try.prog, 32, [], []⟩ rfl Try.func100 rfl rfl (Nat.le_of_ble_eq_true rfl) (by kernel_rfl) ?_
  unfold ref_timeOf at hF
  refine wH_seq ?_
  refine wH_region ?_
  refine h_box 0 (.inl rfl) [(vS e_1.Key), (vS e_1.Item), (vI e_1.Version), (vI e_1.First), (vI e_1.Last), (vI e_1.Every), (vI e_1.Days), (vL eI e_1.Except), (vI e_1.From), (vI e_1.To), (vI e_1.Prio), (vL eS e_1.Tags), (vB e_1.Gone)] rfl rfl (wt rfl) (fun n_4 => ?_)
  refine h_alloc 0 (.inl rfl) z51 rfl (wt rfl) (fun n_5 => ?_)
  refine h_nil ?_
  refine wH_seq ?_
  refine wH_region ?_
  refine h_far pl56_9 rfl 9 rfl (wt rfl) ?_
  refine h_ldr 0 0 (.inl rfl) (fun _ _ _ => trivial) sz3 ag3 rfl rfl (vI e_1.To) rfl (wt rfl) ?_
  refine h_op (vI e_1.To) (wt rfl) rfl ?_
  refine h_nil ?_
  refine wH_seq ?_
  refine wH_seq ?_
  refine wH_region ?_
  refine h_op (vI e_1.To) (wt rfl) rfl ?_
  refine h_far pl56_8 rfl 8 rfl (wt rfl) ?_
  refine h_ldr 0 0 (.inl rfl) (fun _ _ _ => trivial) sz3 ag3 rfl rfl (vI e_1.From) rfl (wt rfl) ?_
  refine h_op (vB (decide (e_1.To ≤ e_1.From))) (wt rfl) rfl ?_
  refine h_nil ?_
  obtain ⟨v_6, h_7, hF⟩ := bind_some hF
  refine wH_join (β := Unit) (fun _ => ([(1, (vI zone_2)), (2, (vI d_3)), (3, (.ref n_4 0 0)), (6, (.ref n_5 0 0)), (7, (vI v_6))] : List (Nat × V))) (fun _ => ([(n_4, some (.cells 13 [(vS e_1.Key), (vS e_1.Item), (vI e_1.Version), (vI e_1.First), (vI e_1.Last), (vI e_1.Every), (vI e_1.Days), (vL eI e_1.Except), (vI e_1.From), (vI e_1.To), (vI e_1.Prio), (vL eS e_1.Tags), (vB e_1.Gone)])), (n_5, some (.cells 2 [(vI 0), (vI 0)]))] : Hp)) (fun _ => True) ?_ ?_
  · rcases cond_some h_7 with ⟨hc_8, h_7⟩ | ⟨hc_8, h_7⟩
    · refine wH_ift rfl hc_8 ?_
      refine wH_region ?_
      refine h_op (vI e_1.To) (wt rfl) rfl ?_
      refine h_op (vI (w64 (e_1.To + 1440))) (wt rfl) rfl ?_
      refine h_op (vI (w64 (e_1.To + 1440))) (wt rfl) rfl ?_
      refine h_nil ?_
      replace h_7 := some_inj h_7
      subst h_7
      exact cut_mk () trivial rfl rfl
    · refine wH_iff rfl hc_8 ?_
      refine wH_skip ?_
      replace h_7 := some_inj h_7
      subst h_7
      exact cut_mk () trivial rfl rfl
  · rintro ⟨⟩ _ sl_ H_ hp_ hq_
    refine wH_at _ hp_ hq_ ?_
    refine wH_seq ?_
    refine wH_region ?_
    refine h_op (vI d_3) (wt rfl) rfl ?_
    refine h_op (vI (w64 (d_3 * 86400000))) (wt rfl) rfl ?_
    refine h_op (vI zone_2) (wt rfl) rfl ?_
    refine h_op (vI (w64 (zone_2 * 60000))) (wt rfl) rfl ?_
    refine h_op (vI (w64 ((w64 (d_3 * 86400000)) - (w64 (zone_2 * 60000))))) (wt rfl) rfl ?_
    refine h_op (vI (w64 ((w64 (d_3 * 86400000)) - (w64 (zone_2 * 60000))))) (wt rfl) rfl ?_
    refine h_nil ?_
    refine wH_seq ?_
    refine wH_region ?_
    refine h_op (vI (w64 ((w64 (d_3 * 86400000)) - (w64 (zone_2 * 60000))))) (wt rfl) rfl ?_
    refine h_far pl56_8 rfl 8 rfl (wt rfl) ?_
    refine h_ldr 0 0 (.inl rfl) (fun _ _ _ => trivial) sz3 ag3 rfl rfl (vI e_1.From) rfl (wt rfl) ?_
    refine h_op (vI (w64 (e_1.From * 60000))) (wt rfl) rfl ?_
    refine h_op (vI (w64 ((w64 ((w64 (d_3 * 86400000)) - (w64 (zone_2 * 60000)))) + (w64 (e_1.From * 60000))))) (wt rfl) rfl ?_
    refine h_op (vI (w64 ((w64 (d_3 * 86400000)) - (w64 (zone_2 * 60000))))) (wt rfl) rfl ?_
    refine h_op (vI v_6) (wt rfl) rfl ?_
    refine h_op (vI (w64 (v_6 * 60000))) (wt rfl) rfl ?_
    refine h_op (vI (w64 ((w64 ((w64 (d_3 * 86400000)) - (w64 (zone_2 * 60000)))) + (w64 (v_6 * 60000))))) (wt rfl) rfl ?_
    refine h_op (.d (.agg (Window.enc (⟨(w64 ((w64 ((w64 (d_3 * 86400000)) - (w64 (zone_2 * 60000)))) + (w64 (e_1.From * 60000)))), (w64 ((w64 ((w64 (d_3 * 86400000)) - (w64 (zone_2 * 60000)))) + (w64 (v_6 * 60000))))⟩ : Window)))) (wt rfl) (by kernel_rfl) ?_
    refine h_str 0 (.inl rfl) (fun _ _ _ => trivial) 1 sz51 rfl rfl [(vI (w64 ((w64 ((w64 (d_3 * 86400000)) - (w64 (zone_2 * 60000)))) + (w64 (e_1.From * 60000))))), (vI (w64 ((w64 ((w64 (d_3 * 86400000)) - (w64 (zone_2 * 60000)))) + (w64 (v_6 * 60000)))))] rfl (wt rfl) ?_
    refine h_nil ?_
    replace hF := some_inj hF
    subst hF
    refine wH_ret ?_
    exact fin0 (.inr rfl) [(.d (.agg (Window.enc (⟨(w64 ((w64 ((w64 (d_3 * 86400000)) - (w64 (zone_2 * 60000)))) + (w64 (e_1.From * 60000)))), (w64 ((w64 ((w64 (d_3 * 86400000)) - (w64 (zone_2 * 60000)))) + (w64 (v_6 * 60000))))⟩ : Window))))] ⟨⟨1, _, _, _, _, _, _, _, rfl, rfl, sz51, ag51, rfl⟩, trivial⟩ rfl rfl rfl
theorem slices_Index_int_int_ok {s_1 : (List Int)} {v_2 : Int} {r : Int} (hF : slices_Index_int_int s_1 v_2 = some r) :
    FnM Try.prog 168 [(vL eI s_1), (vI v_2)] [] (vI r) [] := by
  refine FnM.of_wH ⟨Try.prog, 19, [], []⟩ rfl Try.func168 rfl rfl (Nat.le_of_ble_eq_true rfl) (by kernel_rfl) ?_
  unfold slices_Index_int_int at hF
  refine wH_seq ?_
  refine wH_region ?_
  refine h_op (vI 0) (wt rfl) rfl ?_
  refine h_nil ?_
  refine wH_seq ?_
  refine wH_seq ?_
  refine wH_region ?_
  refine h_op (vL eI s_1) (wt rfl) rfl ?_
  refine h_len un22 rfl (wt rfl) ?_
  refine h_op (vI 0) (wt rfl) rfl ?_
  refine h_nil ?_
  obtain ⟨o_11, hj_12, hF⟩ := bind_some hF
  obtain ⟨hn_7, hj_12⟩ := forL_some hj_12
  refine wH_join (β := (Unit)) (fun (s_8 : Unit) => ([] : List (Nat × V))) (fun (s_8 : Unit) => ([] : Hp)) (fun p => o_11 = .go p) ?_ ?_
  · refine wH_block ?_
    refine wH_loop (β := Nat × (List Int) × (Unit)) (fun p => (fun (k_3 : Nat) (l_4 : List Int) (s_8 : Unit) => ([(0, (vL eI s_1)), (1, (vI v_2)), (7, (vI (s_1.length : Int))), (8, (vI (k_3 : Int)))] : List (Nat × V))) p.1 p.2.1 p.2.2) (fun p => (fun (k_3 : Nat) (l_4 : List Int) (s_8 : Unit) => ([] : Hp)) p.1 p.2.1 p.2.2) (fun p => forR (fun k x s => slices_Index_int_int_L1 v_2 k x s) p.2.1 p.1 p.2.2 = some o_11 ∧ (s_1).drop p.1 = p.2.1) (fun p => p.2.1.length) (0, s_1, ()) ⟨hj_12, rfl⟩ rfl rfl ?_
    rintro ⟨k_3, l_4, s_8⟩ ⟨hL_10, hD_6⟩
    dsimp only at hL_10 hD_6
    cases l_4 with
    | nil =>
      replace hL_10 := some_inj hL_10
      subst hL_10
      refine wH_seq (wH_region (h_op (vB (decide ((k_3 : Int) < (s_1.length : Int)))) (wt rfl) rfl (h_nil ?_)))
      refine wH_seq (wH_iff rfl (drop_nil hD_6) (wH_exit ?_))
      exact cut_mk (s_8) rfl rfl rfl
    | cons x_5 l_4 =>
      obtain ⟨c_, hc_9, hL_10⟩ := bind_some hL_10
      refine wH_seq (wH_region (h_op (vB (decide ((k_3 : Int) < (s_1.length : Int)))) (wt rfl) rfl (h_nil ?_)))
      refine wH_seq (wH_ift rfl (drop_cons hD_6) (wH_skip ?_))
      unfold slices_Index_int_int_L1 at hc_9
      refine wH_seq ?_
      refine wH_block ?_
      refine wH_seq ?_
      refine wH_region ?_
      refine h_op (vI (k_3 : Int)) (wt rfl) rfl ?_
      refine h_op (vI (k_3 : Int)) (wt rfl) rfl ?_
      refine h_nil ?_
      refine wH_seq ?_
      refine wH_region ?_
      refine h_op (vI v_2) (wt rfl) rfl ?_
      refine h_op (vL eI s_1) (wt rfl) rfl ?_
      refine h_op (vI (k_3 : Int)) (wt rfl) rfl ?_
      refine h_ia es22 rfl rfl (drop_idx hD_6) rfl (wt rfl) ?_
      refine h_ldc sz3 ag3 rfl (vI x_5) rfl (wt rfl) ?_
      refine h_op (vB (v_2 == x_5)) (wt rfl) rfl ?_
      refine h_nil ?_
      rcases cond_some hc_9 with ⟨hc_13, hc_9⟩ | ⟨hc_13, hc_9⟩
      · refine wH_ift rfl hc_13 ?_
        refine wH_seq ?_
        refine wH_region ?_
        refine h_op (vI (k_3 : Int)) (wt rfl) rfl ?_
        refine h_op (vI (k_3 : Int)) (wt rfl) rfl ?_
        refine h_nil ?_
        replace hc_9 := some_inj hc_9
        subst hc_9
        replace hL_10 := some_inj hL_10
        subst hL_10
        replace hF := some_inj hF
        subst hF
        refine wH_ret ?_
        exact fin0 (.inr rfl) [(vI (k_3 : Int))] ⟨rfl, trivial⟩ rfl rfl rfl
      · refine wH_iff rfl hc_13 ?_
        refine wH_skip ?_
        refine wH_region ?_
        refine h_opw (w64_next hD_6 hn_7) (wt rfl) rfl ?_
        refine h_op (vI ((k_3 + 1 : Nat) : Int)) (wt rfl) rfl ?_
        refine h_nil ?_
        replace hc_9 := some_inj hc_9
        subst hc_9
        exact loop_mk (k_3 + 1, l_4, ()) ⟨hL_10, drop_next hD_6⟩ (Nat.lt_succ_self _) rfl rfl
  · rintro s_8 ho_ sl_ H_ hp_ hq_
    subst ho_
    refine wH_at _ hp_ hq_ ?_
    refine wH_seq ?_
    refine wH_region ?_
    refine h_op (vI (-1)) (wt rfl) rfl ?_
    refine h_nil ?_
    replace hF := some_inj hF
    subst hF
    refine wH_ret ?_
    exact fin0 (.inr rfl) [(vI (-1))] ⟨rfl, trivial⟩ rfl rfl rfl
theorem slices_Contains_int_int_ok {s_1 : (List Int)} {v_2 : Int} {r : Bool} (hF : slices_Contains_int_int s_1 v_2 = some r) :
    FnM Try.prog 126 [(vL eI s_1), (vI v_2)] [] (vB r) [] := by
  refine FnM.of_wH ⟨Try.prog, 9, [], []⟩ rfl Try.func126 rfl rfl (Nat.le_of_ble_eq_true rfl) (by kernel_rfl) ?_
  unfold slices_Contains_int_int at hF
  refine wH_seq ?_
  refine wH_region ?_
  refine h_op (vB false) (wt rfl) rfl ?_
  refine h_nil ?_
  refine wH_seq ?_
  refine wH_region ?_
  refine h_op (vL eI s_1) (wt rfl) rfl ?_
  refine h_op (vI v_2) (wt rfl) rfl ?_
  obtain ⟨r_3, hr_4, hF⟩ := bind_some hF
  refine h_call0 (slices_Index_int_int_ok hr_4) rfl hb168 rfl rfl rfl rfl (wt rfl) ?_
  refine h_op (vB (decide (r_3 ≥ 0))) (wt rfl) rfl ?_
  refine h_op (vB (decide (r_3 ≥ 0))) (wt rfl) rfl ?_
  refine h_nil ?_
  replace hF := some_inj hF
  subst hF
  refine wH_ret ?_
  exact fin0 (.inr rfl) [(vB (decide (r_3 ≥ 0)))] ⟨rfl, trivial⟩ rfl rfl rfl
theorem ref_dayOf_ok {e_1 : Entry} {d_2 : Int} {r : Bool} (hF : ref_dayOf e_1 d_2 = some r) :
    FnM Try.prog 101 [(.d (.agg (Entry.enc e_1))), (vI d_2)] [] (vB r) [] := by
  refine FnM.of_wH ⟨Try.prog, 37, [], []⟩ rfl Try.func101 rfl rfl (Nat.le_of_ble_eq_true rfl) (by kernel_rfl) ?_
  unfold ref_dayOf at hF
  refine wH_seq ?_
  refine wH_region ?_
  refine h_box 0 (.inl rfl) [(vS e_1.Key), (vS e_1.Item), (vI e_1.Version), (vI e_1.First), (vI e_1.Last), (vI e_1.Every), (vI e_1.Days), (vL eI e_1.Except), (vI e_1.From), (vI e_1.To), (vI e_1.Prio), (vL eS e_1.Tags), (vB e_1.Gone)] rfl rfl (wt rfl) (fun n_3 => ?_)
  refine h_op (vB false) (wt rfl) rfl ?_
  refine h_nil ?_
  refine wH_seq ?_
  obtain ⟨v_4, h_5, hF⟩ := bind_some hF
  refine wH_join (β := Unit) (fun _ => ([(4, (vB v_4))] : List (Nat × V))) (fun _ => ([(n_3, some (.cells 13 [(vS e_1.Key), (vS e_1.Item), (vI e_1.Version), (vI e_1.First), (vI e_1.Last), (vI e_1.Every), (vI e_1.Days), (vL eI e_1.Except), (vI e_1.From), (vI e_1.To), (vI e_1.Prio), (vL eS e_1.Tags), (vB e_1.Gone)]))] : Hp)) (fun _ => True) ?_ ?_
  · refine wH_region ?_
    refine h_op (vI d_2) (wt rfl) rfl ?_
    refine h_far pl56_3 rfl 3 rfl (wt rfl) ?_
    refine h_ldr 0 0 (.inl rfl) (fun _ _ _ => trivial) sz3 ag3 rfl rfl (vI e_1.First) rfl (wt rfl) ?_
    refine h_far pl56_4 rfl 4 rfl (wt rfl) ?_
    refine h_ldr 0 0 (.inl rfl) (fun _ _ _ => trivial) sz3 ag3 rfl rfl (vI e_1.Last) rfl (wt rfl) ?_
    obtain ⟨r_6, hr_7, h_5⟩ := bind_some h_5
    refine h_call0 (ref_in_ok hr_7) rfl hb84 rfl rfl rfl rfl (wt rfl) ?_
    rcases cond_some h_5 with ⟨hc_8, h_5⟩ | ⟨hc_8, h_5⟩
    · refine h_movb rfl hc_8 (wt rfl) ?_
      refine h_op (vI d_2) (wg rfl rfl rfl) rfl ?_
      refine h_far pl56_3 rfl 3 rfl (wg rfl rfl rfl) ?_
      refine h_ldr 0 0 (.inl rfl) (fun _ _ _ => trivial) sz3 ag3 rfl rfl (vI e_1.First) rfl (wg rfl rfl rfl) ?_
      refine h_op (vI (w64 (d_2 - e_1.First))) (wg rfl rfl rfl) rfl ?_
      refine h_far pl56_5 rfl 5 rfl (wg rfl rfl rfl) ?_
      refine h_ldr 0 0 (.inl rfl) (fun _ _ _ => trivial) sz3 ag3 rfl rfl (vI e_1.Every) rfl (wg rfl rfl rfl) ?_
      obtain ⟨q_9, hz_10, h_5⟩ := bind_some h_5
      refine h_rem rfl rfl hz_10 (wg rfl rfl rfl) ?_
      refine h_op (vB (q_9 == 0)) (wg rfl rfl rfl) rfl ?_
      refine h_op (vB (q_9 == 0)) (wt rfl) rfl ?_
      rcases cond_some h_5 with ⟨hc_11, h_5⟩ | ⟨hc_11, h_5⟩
      · refine h_movb rfl hc_11 (wt rfl) ?_
        refine h_far pl56_6 rfl 6 rfl (wg rfl rfl rfl) ?_
        refine h_ldr 0 0 (.inl rfl) (fun _ _ _ => trivial) sz3 ag3 rfl rfl (vI e_1.Days) rfl (wg rfl rfl rfl) ?_
        refine h_op (vI d_2) (wg rfl rfl rfl) rfl ?_
        refine h_op (vI (d_2.tmod 7)) (wg rfl rfl rfl) rfl ?_
        obtain ⟨q_12, hz_13, h_5⟩ := bind_some h_5
        refine h_shr rfl rfl hz_13 (wg rfl rfl rfl) ?_
        refine h_op (vI (andI .i64 q_12 1)) (wg rfl rfl rfl) rfl ?_
        refine h_op (vB ((andI .i64 q_12 1) == 1)) (wg rfl rfl rfl) rfl ?_
        refine h_op (vB ((andI .i64 q_12 1) == 1)) (wt rfl) rfl ?_
        rcases cond_some h_5 with ⟨hc_14, h_5⟩ | ⟨hc_14, h_5⟩
        · refine h_movb rfl hc_14 (wt rfl) ?_
          refine h_far pl56_7 rfl 7 rfl (wg rfl rfl rfl) ?_
          refine h_ldr 0 0 (.inl rfl) (fun _ _ _ => trivial) sz22 ag22 rfl rfl (vL eI e_1.Except) rfl (wg rfl rfl rfl) ?_
          refine h_op (vI d_2) (wg rfl rfl rfl) rfl ?_
          obtain ⟨r_15, hr_16, h_5⟩ := bind_some h_5
          refine h_call0 (slices_Contains_int_int_ok hr_16) rfl hb126 rfl rfl rfl rfl (wg rfl rfl rfl) ?_
          refine h_op (vB (!r_15)) (wg rfl rfl rfl) rfl ?_
          refine h_op (vB (!r_15)) (wt rfl) rfl ?_
          refine h_op (vB (!r_15)) (wt rfl) rfl ?_
          refine h_nil ?_
          replace h_5 := some_inj h_5
          subst h_5
          exact cut_mk () trivial rfl rfl
        · refine h_movb rfl hc_14 (wt rfl) ?_
          refine h_skip (wg rfl rfl rfl) ?_
          refine h_skip (wg rfl rfl rfl) ?_
          refine h_skip (wg rfl rfl rfl) ?_
          refine h_skip (wg rfl rfl rfl) ?_
          refine h_skip (wg rfl rfl rfl) ?_
          refine h_op (vB false) (wt rfl) rfl ?_
          refine h_op (vB false) (wt rfl) rfl ?_
          refine h_nil ?_
          replace h_5 := some_inj h_5
          subst h_5
          exact cut_mk () trivial rfl rfl
      · refine h_movb rfl hc_11 (wt rfl) ?_
        refine h_skip (wg rfl rfl rfl) ?_
        refine h_skip (wg rfl rfl rfl) ?_
        refine h_skip (wg rfl rfl rfl) ?_
        refine h_skip (wg rfl rfl rfl) ?_
        refine h_skip (wg rfl rfl rfl) ?_
        refine h_skip (wg rfl rfl rfl) ?_
        refine h_skip (wg rfl rfl rfl) ?_
        refine h_op (vB false) (wt rfl) rfl ?_
        refine h_op (vB false) (wt rfl) rfl ?_
        refine h_skip (wg rfl rfl rfl) ?_
        refine h_skip (wg rfl rfl rfl) ?_
        refine h_skip (wg rfl rfl rfl) ?_
        refine h_skip (wg rfl rfl rfl) ?_
        refine h_skip (wg rfl rfl rfl) ?_
        refine h_op (vB false) (wt rfl) rfl ?_
        refine h_op (vB false) (wt rfl) rfl ?_
        refine h_nil ?_
        replace h_5 := some_inj h_5
        subst h_5
        exact cut_mk () trivial rfl rfl
    · refine h_movb rfl hc_8 (wt rfl) ?_
      refine h_skip (wg rfl rfl rfl) ?_
      refine h_skip (wg rfl rfl rfl) ?_
      refine h_skip (wg rfl rfl rfl) ?_
      refine h_skip (wg rfl rfl rfl) ?_
      refine h_skip (wg rfl rfl rfl) ?_
      refine h_skip (wg rfl rfl rfl) ?_
      refine h_skip (wg rfl rfl rfl) ?_
      refine h_skip (wg rfl rfl rfl) ?_
      refine h_op (vB false) (wt rfl) rfl ?_
      refine h_op (vB false) (wt rfl) rfl ?_
      refine h_skip (wg rfl rfl rfl) ?_
      refine h_skip (wg rfl rfl rfl) ?_
      refine h_skip (wg rfl rfl rfl) ?_
      refine h_skip (wg rfl rfl rfl) ?_
      refine h_skip (wg rfl rfl rfl) ?_
      refine h_skip (wg rfl rfl rfl) ?_
      refine h_skip (wg rfl rfl rfl) ?_
      refine h_op (vB false) (wt rfl) rfl ?_
      refine h_op (vB false) (wt rfl) rfl ?_
      refine h_skip (wg rfl rfl rfl) ?_
      refine h_skip (wg rfl rfl rfl) ?_
      refine h_skip (wg rfl rfl rfl) ?_
      refine h_skip (wg rfl rfl rfl) ?_
      refine h_skip (wg rfl rfl rfl) ?_
      refine h_op (vB false) (wt rfl) rfl ?_
      refine h_op (vB false) (wt rfl) rfl ?_
      refine h_nil ?_
      replace h_5 := some_inj h_5
      subst h_5
      exact cut_mk () trivial rfl rfl
  · rintro ⟨⟩ _ sl_ H_ hp_ hq_
    refine wH_at _ hp_ hq_ ?_
    replace hF := some_inj hF
    subst hF
    refine wH_ret ?_
    exact fin0 (.inr rfl) [(vB v_4)] ⟨rfl, trivial⟩ rfl rfl rfl
theorem ref_TimesOf_ok {e_1 : Entry} {zone_2 : Int} {wv_3 : Window} {r : (List Window)} (hF : ref_TimesOf e_1 zone_2 wv_3 = some r) :
    FnM Try.prog 32 [(.d (.agg (Entry.enc e_1))), (vI zone_2), (.d (.agg (Window.enc wv_3)))] [] (vL Window.enc r) [] := by
  refine FnM.of_wH ⟨Try.prog, 54, [], []⟩ rfl Try.func32 rfl rfl (Nat.le_of_ble_eq_true rfl) (by kernel_rfl) ?_
  unfold ref_TimesOf at hF
  refine wH_seq ?_
  refine wH_region ?_
  refine h_box 0 (.inl rfl) [(vS e_1.Key), (vS e_1.Item), (vI e_1.Version), (vI e_1.First), (vI e_1.Last), (vI e_1.Every), (vI e_1.Days), (vL eI e_1.Except), (vI e_1.From), (vI e_1.To), (vI e_1.Prio), (vL eS e_1.Tags), (vB e_1.Gone)] rfl rfl (wt rfl) (fun n_4 => ?_)
  refine h_box 0 (.inl rfl) [(vI wv_3.From), (vI wv_3.To)] rfl rfl (wt rfl) (fun n_5 => ?_)
  refine h_op .nil (wt rfl) rfl ?_
  refine h_nil ?_
  refine wH_seq ?_
  refine wH_region ?_
  refine h_op .nil (wt rfl) rfl ?_
  refine h_nil ?_
  refine wH_seq ?_
  refine wH_seq ?_
  refine wH_region ?_
  refine h_far pl56_3 rfl 3 rfl (wt rfl) ?_
  refine h_ldr 0 0 (.inl rfl) (fun _ _ _ => trivial) sz3 ag3 rfl rfl (vI e_1.First) rfl (wt rfl) ?_
  refine h_op (vI e_1.First) (wt rfl) rfl ?_
  refine h_nil ?_
  refine wH_new (fun n_12 => ?_)
  obtain ⟨o_17, hj_18, hF⟩ := bind_some hF
  obtain ⟨nq_36, hj_18⟩ := loopO_iter hj_18
  refine wH_join (β := ((List Window) × Int) × Nm) (fun p => (fun (s_11 : (List Window) × Int) (n_14 : Nm) => ([(7, (gV n_14 2 s_11.1))] : List (Nat × V))) p.1 p.2) (fun p => (fun (s_11 : (List Window) × Int) (n_14 : Nm) => ([(n_4, some (.cells 13 [(vS e_1.Key), (vS e_1.Item), (vI e_1.Version), (vI e_1.First), (vI e_1.Last), (vI e_1.Every), (vI e_1.Days), (vL eI e_1.Except), (vI e_1.From), (vI e_1.To), (vI e_1.Prio), (vL eS e_1.Tags), (vB e_1.Gone)])), (n_5, some (.cells 2 [(vI wv_3.From), (vI wv_3.To)])), (n_14, gB 2 Window.enc s_11.1)] : Hp)) p.1 p.2) (fun p => o_17 = .go p.1) ?_ ?_
  · refine wH_block ?_
    refine wH_loop (β := Nat × ((List Window) × Int) × Nm) (fun p => (fun (k_6 : Nat) (s_11 : (List Window) × Int) (n_14 : Nm) => ([(1, (vI zone_2)), (3, (.ref n_4 0 0)), (5, (.ref n_5 0 0)), (7, (gV n_14 2 s_11.1)), (8, (vI s_11.2))] : List (Nat × V))) p.1 p.2.1 p.2.2) (fun p => (fun (k_6 : Nat) (s_11 : (List Window) × Int) (n_14 : Nm) => ([(n_4, some (.cells 13 [(vS e_1.Key), (vS e_1.Item), (vI e_1.Version), (vI e_1.First), (vI e_1.Last), (vI e_1.Every), (vI e_1.Days), (vL eI e_1.Except), (vI e_1.From), (vI e_1.To), (vI e_1.Prio), (vL eS e_1.Tags), (vB e_1.Gone)])), (n_5, some (.cells 2 [(vI wv_3.From), (vI wv_3.To)])), (n_14, gB 2 Window.enc s_11.1)] : Hp)) p.1 p.2.1 p.2.2) (fun p => iterN (fun s => ref_TimesOf_L1 e_1 zone_2 wv_3 s) p.1 p.2.1 = some o_17) (fun p => p.1) (nq_36, (([] : List Window), e_1.First), n_12) hj_18 rfl rfl ?_
    rintro ⟨k_6, s_11, n_14⟩ hL_16
    dsimp only at hL_16
    cases k_6 with
    | zero => cases hL_16
    | succ k_6 =>
      obtain ⟨c_, hc_15, hL_16⟩ := bind_some hL_16
      unfold ref_TimesOf_L1 at hc_15
      refine wH_seq ?_
      refine wH_seq ?_
      refine wH_region ?_
      refine h_op (vI s_11.2) (wt rfl) rfl ?_
      refine h_far pl56_4 rfl 4 rfl (wt rfl) ?_
      refine h_ldr 0 0 (.inl rfl) (fun _ _ _ => trivial) sz3 ag3 rfl rfl (vI e_1.Last) rfl (wt rfl) ?_
      refine h_op (vB (decide (s_11.2 ≤ e_1.Last))) (wt rfl) rfl ?_
      refine h_nil ?_
      rcases cond_some hc_15 with ⟨hc_19, hc_15⟩ | ⟨hc_19, hc_15⟩
      · refine wH_ift rfl hc_19 ?_
        refine wH_skip ?_
        refine wH_seq ?_
        refine wH_block ?_
        refine wH_seq ?_
        refine wH_region ?_
        refine h_ldr 0 0 (.inl rfl) (fun _ _ _ => trivial) sz56 ag56 rfl rfl (.d (.agg (Entry.enc e_1))) rfl (wt rfl) ?_
        refine h_op (vI zone_2) (wt rfl) rfl ?_
        refine h_op (vI s_11.2) (wt rfl) rfl ?_
        obtain ⟨r_20, hr_21, hc_15⟩ := bind_some hc_15
        refine h_call0 (ref_timeOf_ok hr_21) rfl hb100 rfl rfl rfl rfl (wt rfl) ?_
        refine h_alloc 0 (.inl rfl) z51 rfl (wt rfl) (fun n_22 => ?_)
        refine h_str 0 (.inl rfl) (fun _ _ _ => trivial) 3 sz51 rfl rfl [(vI r_20.From), (vI r_20.To)] rfl (wt rfl) ?_
        refine h_nil ?_
        refine wH_seq ?_
        refine wH_draws ?_
        refine h_far pl51_0 rfl 0 rfl (wt rfl) ?_
        refine h_ldr 1 3 (.inr (by kernel_rfl)) (fun _ _ ag => trivial) sz3 ag3 rfl rfl (vI r_20.From) rfl (wt rfl) ?_
        refine h_far pl51_0 rfl 0 rfl (wt rfl) ?_
        refine h_ldr 3 1 (.inr (by kernel_rfl)) (fun _ _ ag => ⟨.inl ⟨rfl, rfl⟩, trivial⟩) sz3 ag3 rfl rfl (vI wv_3.From) rfl (wt rfl) ?_
        refine h_minmax (vI (maxI r_20.From wv_3.From)) rfl (.inr rfl) (wt rfl) ?_
        refine h_far pl51_1 rfl 1 rfl (wt rfl) ?_
        refine h_ldr 6 3 (.inr (by kernel_rfl)) (fun _ _ ag => ⟨.inl ⟨rfl, rfl⟩, ⟨.inl ⟨rfl, rfl⟩, trivial⟩⟩) sz3 ag3 rfl rfl (vI r_20.To) rfl (wt rfl) ?_
        refine h_far pl51_1 rfl 1 rfl (wt rfl) ?_
        refine h_ldr 8 1 (.inr (by kernel_rfl)) (fun _ _ ag => ⟨.inl ⟨rfl, rfl⟩, ⟨.inl ⟨rfl, rfl⟩, ⟨.inl ⟨rfl, rfl⟩, trivial⟩⟩⟩) sz3 ag3 rfl rfl (vI wv_3.To) rfl (wt rfl) ?_
        refine h_minmax (vI (minI r_20.To wv_3.To)) rfl (.inl rfl) (wt rfl) ?_
        refine h_far pl51_0 rfl 0 rfl (wt rfl) ?_
        refine h_str 11 (.inr (by kernel_rfl)) (fun _ _ ag => ⟨.inr (.inr (by kernel_rfl)), ⟨.inr (.inr (by kernel_rfl)), ⟨.inr (.inr (by kernel_rfl)), ⟨.inr (.inl (dis1 (ag_ne ag (i := 3) (j := 1) rfl rfl (by decide)))), trivial⟩⟩⟩⟩) 3 sz3 rfl rfl [(vI (maxI r_20.From wv_3.From)), (vI r_20.To)] rfl (wt rfl) ?_
        refine h_far pl51_1 rfl 1 rfl (wt rfl) ?_
        refine h_str 13 (.inr (by kernel_rfl)) (fun _ _ ag => ⟨.inr (.inr (by kernel_rfl)), ⟨.inr (.inr (by kernel_rfl)), ⟨.inr (.inr (by kernel_rfl)), ⟨.inr (.inr (by kernel_rfl)), ⟨.inr (.inr (by kernel_rfl)), trivial⟩⟩⟩⟩⟩) 3 sz3 rfl rfl [(vI (maxI r_20.From wv_3.From)), (vI (minI r_20.To wv_3.To))] rfl (wt rfl) ?_
        refine h_nil ?_
        refine wH_seq ?_
        obtain ⟨v_23, h_24, hc_15⟩ := bind_some hc_15
        refine wH_join (β := Unit) (fun _ => ([(1, (vI zone_2)), (3, (.ref n_4 0 0)), (5, (.ref n_5 0 0)), (7, (gV n_14 2 s_11.1)), (8, (vI s_11.2)), (9, (.ref n_22 0 0)), (48, (vB v_23))] : List (Nat × V))) (fun _ => ([(n_4, some (.cells 13 [(vS e_1.Key), (vS e_1.Item), (vI e_1.Version), (vI e_1.First), (vI e_1.Last), (vI e_1.Every), (vI e_1.Days), (vL eI e_1.Except), (vI e_1.From), (vI e_1.To), (vI e_1.Prio), (vL eS e_1.Tags), (vB e_1.Gone)])), (n_5, some (.cells 2 [(vI wv_3.From), (vI wv_3.To)])), (n_14, gB 2 Window.enc s_11.1), (n_22, some (.cells 2 [(vI (maxI r_20.From wv_3.From)), (vI (minI r_20.To wv_3.To))]))] : Hp)) (fun _ => True) ?_ ?_
        · refine wH_region ?_
          refine h_far pl56_12 rfl 12 rfl (wt rfl) ?_
          refine h_ldr 0 0 (.inl rfl) (fun _ _ _ => trivial) sz4 ag4 rfl rfl (vB e_1.Gone) rfl (wt rfl) ?_
          refine h_op (vB (!e_1.Gone)) (wt rfl) rfl ?_
          rcases cond_some h_24 with ⟨hc_25, h_24⟩ | ⟨hc_25, h_24⟩
          · refine h_movb rfl hc_25 (wt rfl) ?_
            refine h_ldr 0 0 (.inl rfl) (fun _ _ _ => trivial) sz56 ag56 rfl rfl (.d (.agg (Entry.enc e_1))) rfl (wg rfl rfl rfl) ?_
            refine h_op (vI s_11.2) (wg rfl rfl rfl) rfl ?_
            obtain ⟨r_26, hr_27, h_24⟩ := bind_some h_24
            refine h_call0 (ref_dayOf_ok hr_27) rfl hb101 rfl rfl rfl rfl (wg rfl rfl rfl) ?_
            refine h_op (vB r_26) (wt rfl) rfl ?_
            rcases cond_some h_24 with ⟨hc_28, h_24⟩ | ⟨hc_28, h_24⟩
            · refine h_movb rfl hc_28 (wt rfl) ?_
              refine h_far pl51_0 rfl 0 rfl (wg rfl rfl rfl) ?_
              refine h_ldr 0 3 (.inl rfl) (fun _ _ _ => trivial) sz3 ag3 rfl rfl (vI (maxI r_20.From wv_3.From)) rfl (wg rfl rfl rfl) ?_
              refine h_far pl51_1 rfl 1 rfl (wg rfl rfl rfl) ?_
              refine h_ldr 0 3 (.inl rfl) (fun _ _ _ => trivial) sz3 ag3 rfl rfl (vI (minI r_20.To wv_3.To)) rfl (wg rfl rfl rfl) ?_
              refine h_op (vB (decide ((maxI r_20.From wv_3.From) < (minI r_20.To wv_3.To)))) (wg rfl rfl rfl) rfl ?_
              refine h_op (vB (decide ((maxI r_20.From wv_3.From) < (minI r_20.To wv_3.To)))) (wt rfl) rfl ?_
              refine h_nil ?_
              replace h_24 := some_inj h_24
              subst h_24
              exact cut_mk () trivial rfl rfl
            · refine h_movb rfl hc_28 (wt rfl) ?_
              refine h_skip (wg rfl rfl rfl) ?_
              refine h_skip (wg rfl rfl rfl) ?_
              refine h_skip (wg rfl rfl rfl) ?_
              refine h_skip (wg rfl rfl rfl) ?_
              refine h_skip (wg rfl rfl rfl) ?_
              refine h_op (vB false) (wt rfl) rfl ?_
              refine h_nil ?_
              replace h_24 := some_inj h_24
              subst h_24
              exact cut_mk () trivial rfl rfl
          · refine h_movb rfl hc_25 (wt rfl) ?_
            refine h_skip (wg rfl rfl rfl) ?_
            refine h_skip (wg rfl rfl rfl) ?_
            refine h_skip (wg rfl rfl rfl) ?_
            refine h_op (vB false) (wt rfl) rfl ?_
            refine h_op (vB false) (wt rfl) rfl ?_
            refine h_skip (wg rfl rfl rfl) ?_
            refine h_skip (wg rfl rfl rfl) ?_
            refine h_skip (wg rfl rfl rfl) ?_
            refine h_skip (wg rfl rfl rfl) ?_
            refine h_skip (wg rfl rfl rfl) ?_
            refine h_op (vB false) (wt rfl) rfl ?_
            refine h_nil ?_
            replace h_24 := some_inj h_24
            subst h_24
            exact cut_mk () trivial rfl rfl
        · rintro ⟨⟩ _ sl_ H_ hp_ hq_
          refine wH_at _ hp_ hq_ ?_
          obtain ⟨v_29, h_30, hc_15⟩ := bind_some hc_15
          refine wH_join (β := Nm) (fun (n_31 : Nm) => ([(1, (vI zone_2)), (3, (.ref n_4 0 0)), (5, (.ref n_5 0 0)), (7, (gV n_31 2 v_29)), (8, (vI s_11.2))] : List (Nat × V))) (fun (n_31 : Nm) => ([(n_4, some (.cells 13 [(vS e_1.Key), (vS e_1.Item), (vI e_1.Version), (vI e_1.First), (vI e_1.Last), (vI e_1.Every), (vI e_1.Days), (vL eI e_1.Except), (vI e_1.From), (vI e_1.To), (vI e_1.Prio), (vL eS e_1.Tags), (vB e_1.Gone)])), (n_5, some (.cells 2 [(vI wv_3.From), (vI wv_3.To)])), (n_31, gB 2 Window.enc v_29), (n_22, some (.cells 2 [(vI (maxI r_20.From wv_3.From)), (vI (minI r_20.To wv_3.To))]))] : Hp)) (fun _ => True) ?_ ?_
          · rcases cond_some h_30 with ⟨hc_32, h_30⟩ | ⟨hc_32, h_30⟩
            · refine wH_ift rfl hc_32 ?_
              refine wH_region ?_
              refine h_op (gV n_14 2 s_11.1) (wt rfl) rfl ?_
              refine h_ldr 0 3 (.inl rfl) (fun _ _ _ => trivial) sz51 ag51 rfl rfl (.d (.agg (Window.enc (⟨(maxI r_20.From wv_3.From), (minI r_20.To wv_3.To)⟩ : Window)))) rfl (wt rfl) ?_
              refine h_lit (([(⟨(maxI r_20.From wv_3.From), (minI r_20.To wv_3.To)⟩ : Window)] : List Window).map Window.enc) es57 ez57 rfl rfl rfl rfl rfl (wt rfl) ?_
              obtain ⟨a_33, hz_34, h_30⟩ := bind_some h_30
              refine h_appg 0 (.inl rfl) (fun _ _ _ => trivial) (i := 2) el57 el57 sz51 z51 rfl (by decide) by51 (by decide) (fun _ => rfl) rfl rfl rfl hz_34 (wt rfl) (fun n_35 => ?_)
              refine h_op (gV n_35 2 a_33) (wt rfl) rfl ?_
              refine h_nil ?_
              replace h_30 := some_inj h_30
              subst h_30
              exact cut_mk n_35 trivial rfl rfl
            · refine wH_iff rfl hc_32 ?_
              refine wH_skip ?_
              replace h_30 := some_inj h_30
              subst h_30
              exact cut_mk n_14 trivial rfl rfl
          · rintro n_31 _ sl_ H_ hp_ hq_
            refine wH_at _ hp_ hq_ ?_
            refine wH_region ?_
            refine h_op (vI s_11.2) (wt rfl) rfl ?_
            refine h_op (vI (w64 (s_11.2 + 1))) (wt rfl) rfl ?_
            refine h_op (vI (w64 (s_11.2 + 1))) (wt rfl) rfl ?_
            refine h_nil ?_
            replace hc_15 := some_inj hc_15
            subst hc_15
            exact loop_mk (k_6, (v_29, (w64 (s_11.2 + 1))), n_31) hL_16 (Nat.lt_succ_self _) rfl rfl
      · refine wH_iff rfl hc_19 ?_
        refine wH_exit ?_
        replace hc_15 := some_inj hc_15
        subst hc_15
        replace hL_16 := some_inj hL_16
        subst hL_16
        exact cut_mk ((s_11.1, s_11.2), n_14) rfl rfl rfl
  · rintro ⟨s_11, n_14⟩ ho_ sl_ H_ hp_ hq_
    subst ho_
    refine wH_at _ hp_ hq_ ?_
    refine wH_seq ?_
    refine wH_region ?_
    refine h_op (gV n_14 2 s_11.1) (wt rfl) rfl ?_
    refine h_op (gV n_14 2 s_11.1) (wt rfl) rfl ?_
    refine h_nil ?_
    refine wH_frozg 2 rfl ?_
    refine wH_cog 6 2 rfl rfl ?_
    refine wH_cog 7 2 rfl rfl ?_
    refine wH_cog 53 2 rfl rfl ?_
    replace hF := some_inj hF
    subst hF
    refine wH_ret ?_
    exact fin0 (.inr rfl) [(vL Window.enc s_11.1)] ⟨rfl, trivial⟩ rfl rfl rfl
theorem slices_Equal_api_Window_api_Window_ok {s1_1 : (List Window)} {s2_2 : (List Window)} {r : Bool} (hF : slices_Equal_api_Window_api_Window s1_1 s2_2 = some r) :
    FnM Try.prog 33 [(vL Window.enc s1_1), (vL Window.enc s2_2)] [] (vB r) [] := by
  refine FnM.of_wH ⟨Try.prog, 26, [], []⟩ rfl Try.func33 rfl rfl (Nat.le_of_ble_eq_true rfl) (by kernel_rfl) ?_
  unfold slices_Equal_api_Window_api_Window at hF
  refine wH_seq ?_
  refine wH_region ?_
  refine h_op (vB false) (wt rfl) rfl ?_
  refine h_nil ?_
  refine wH_seq ?_
  refine wH_seq ?_
  refine wH_region ?_
  refine h_op (vL Window.enc s1_1) (wt rfl) rfl ?_
  refine h_len un57 rfl (wt rfl) ?_
  refine h_op (vL Window.enc s2_2) (wt rfl) rfl ?_
  refine h_len un57 rfl (wt rfl) ?_
  refine h_op (vB ((s1_1.length : Int) != (s2_2.length : Int))) (wt rfl) rfl ?_
  refine h_nil ?_
  rcases cond_some hF with ⟨hc_3, hF⟩ | ⟨hc_3, hF⟩
  · refine wH_ift rfl hc_3 ?_
    refine wH_seq ?_
    refine wH_region ?_
    refine h_op (vB false) (wt rfl) rfl ?_
    refine h_nil ?_
    replace hF := some_inj hF
    subst hF
    refine wH_ret ?_
    exact fin0 (.inr rfl) [(vB false)] ⟨rfl, trivial⟩ rfl rfl rfl
  · refine wH_iff rfl hc_3 ?_
    refine wH_skip ?_
    refine wH_seq ?_
    refine wH_seq ?_
    refine wH_region ?_
    refine h_op (vL Window.enc s1_1) (wt rfl) rfl ?_
    refine h_len un57 rfl (wt rfl) ?_
    refine h_op (vI 0) (wt rfl) rfl ?_
    refine h_nil ?_
    obtain ⟨o_12, hj_13, hF⟩ := bind_some hF
    obtain ⟨hn_8, hj_13⟩ := forL_some hj_13
    refine wH_join (β := (Unit)) (fun (s_9 : Unit) => ([] : List (Nat × V))) (fun (s_9 : Unit) => ([] : Hp)) (fun p => o_12 = .go p) ?_ ?_
    · refine wH_block ?_
      refine wH_loop (β := Nat × (List Window) × (Unit)) (fun p => (fun (k_4 : Nat) (l_5 : List Window) (s_9 : Unit) => ([(0, (vL Window.enc s1_1)), (1, (vL Window.enc s2_2)), (12, (vI (s1_1.length : Int))), (13, (vI (k_4 : Int)))] : List (Nat × V))) p.1 p.2.1 p.2.2) (fun p => (fun (k_4 : Nat) (l_5 : List Window) (s_9 : Unit) => ([] : Hp)) p.1 p.2.1 p.2.2) (fun p => forR (fun k x s => slices_Equal_api_Window_api_Window_L1 s2_2 k x s) p.2.1 p.1 p.2.2 = some o_12 ∧ (s1_1).drop p.1 = p.2.1) (fun p => p.2.1.length) (0, s1_1, ()) ⟨hj_13, rfl⟩ rfl rfl ?_
      rintro ⟨k_4, l_5, s_9⟩ ⟨hL_11, hD_7⟩
      dsimp only at hL_11 hD_7
      cases l_5 with
      | nil =>
        replace hL_11 := some_inj hL_11
        subst hL_11
        refine wH_seq (wH_region (h_op (vB (decide ((k_4 : Int) < (s1_1.length : Int)))) (wt rfl) rfl (h_nil ?_)))
        refine wH_seq (wH_iff rfl (drop_nil hD_7) (wH_exit ?_))
        exact cut_mk (s_9) rfl rfl rfl
      | cons x_6 l_5 =>
        obtain ⟨c_, hc_10, hL_11⟩ := bind_some hL_11
        refine wH_seq (wH_region (h_op (vB (decide ((k_4 : Int) < (s1_1.length : Int)))) (wt rfl) rfl (h_nil ?_)))
        refine wH_seq (wH_ift rfl (drop_cons hD_7) (wH_skip ?_))
        unfold slices_Equal_api_Window_api_Window_L1 at hc_10
        refine wH_seq ?_
        refine wH_block ?_
        refine wH_seq ?_
        refine wH_region ?_
        refine h_op (vI (k_4 : Int)) (wt rfl) rfl ?_
        refine h_op (vI (k_4 : Int)) (wt rfl) rfl ?_
        refine h_nil ?_
        refine wH_seq ?_
        refine wH_draws ?_
        refine h_op (vL Window.enc s1_1) (wt rfl) rfl ?_
        refine h_op (vI (k_4 : Int)) (wt rfl) rfl ?_
        refine h_ia es57 rfl rfl (drop_idx hD_7) rfl (wt rfl) ?_
        refine h_ldc sz51 ag51 rfl (.d (.agg (Window.enc x_6))) rfl (wt rfl) ?_
        refine h_op (vL Window.enc s2_2) (wt rfl) rfl ?_
        refine h_op (vI (k_4 : Int)) (wt rfl) rfl ?_
        obtain ⟨y_14, hy_15, hc_10⟩ := bind_some hc_10
        refine h_ia es57 rfl rfl hy_15 rfl (wt rfl) ?_
        refine h_ldc sz51 ag51 rfl (.d (.agg (Window.enc y_14))) rfl (wt rfl) ?_
        refine h_op (vB (!((x_6.From == y_14.From) && ((x_6.To == y_14.To) && true)))) (wt rfl) (by kernel_rfl) ?_
        refine h_nil ?_
        rcases cond_some hc_10 with ⟨hc_16, hc_10⟩ | ⟨hc_16, hc_10⟩
        · refine wH_ift rfl hc_16 ?_
          refine wH_seq ?_
          refine wH_region ?_
          refine h_op (vB false) (wt rfl) rfl ?_
          refine h_nil ?_
          replace hc_10 := some_inj hc_10
          subst hc_10
          replace hL_11 := some_inj hL_11
          subst hL_11
          replace hF := some_inj hF
          subst hF
          refine wH_ret ?_
          exact fin0 (.inr rfl) [(vB false)] ⟨rfl, trivial⟩ rfl rfl rfl
        · refine wH_iff rfl hc_16 ?_
          refine wH_skip ?_
          refine wH_region ?_
          refine h_opw (w64_next hD_7 hn_8) (wt rfl) rfl ?_
          refine h_op (vI ((k_4 + 1 : Nat) : Int)) (wt rfl) rfl ?_
          refine h_nil ?_
          replace hc_10 := some_inj hc_10
          subst hc_10
          exact loop_mk (k_4 + 1, l_5, ()) ⟨hL_11, drop_next hD_7⟩ (Nat.lt_succ_self _) rfl rfl
    · rintro s_9 ho_ sl_ H_ hp_ hq_
      subst ho_
      refine wH_at _ hp_ hq_ ?_
      refine wH_seq ?_
      refine wH_region ?_
      refine h_op (vB true) (wt rfl) rfl ?_
      refine h_nil ?_
      replace hF := some_inj hF
      subst hF
      refine wH_ret ?_
      exact fin0 (.inr rfl) [(vB true)] ⟨rfl, trivial⟩ rfl rfl rfl
theorem slices_Index_string_string_ok {s_1 : (List ByteArray)} {v_2 : ByteArray} {r : Int} (hF : slices_Index_string_string s_1 v_2 = some r) :
    FnM Try.prog 161 [(vL eS s_1), (vS v_2)] [] (vI r) [] := by
  refine FnM.of_wH ⟨Try.prog, 19, [], []⟩ rfl Try.func161 rfl rfl (Nat.le_of_ble_eq_true rfl) (by kernel_rfl) ?_
  unfold slices_Index_string_string at hF
  refine wH_seq ?_
  refine wH_region ?_
  refine h_op (vI 0) (wt rfl) rfl ?_
  refine h_nil ?_
  refine wH_seq ?_
  refine wH_seq ?_
  refine wH_region ?_
  refine h_op (vL eS s_1) (wt rfl) rfl ?_
  refine h_len un46 rfl (wt rfl) ?_
  refine h_op (vI 0) (wt rfl) rfl ?_
  refine h_nil ?_
  obtain ⟨o_11, hj_12, hF⟩ := bind_some hF
  obtain ⟨hn_7, hj_12⟩ := forL_some hj_12
  refine wH_join (β := (Unit)) (fun (s_8 : Unit) => ([] : List (Nat × V))) (fun (s_8 : Unit) => ([] : Hp)) (fun p => o_11 = .go p) ?_ ?_
  · refine wH_block ?_
    refine wH_loop (β := Nat × (List ByteArray) × (Unit)) (fun p => (fun (k_3 : Nat) (l_4 : List ByteArray) (s_8 : Unit) => ([(0, (vL eS s_1)), (1, (vS v_2)), (7, (vI (s_1.length : Int))), (8, (vI (k_3 : Int)))] : List (Nat × V))) p.1 p.2.1 p.2.2) (fun p => (fun (k_3 : Nat) (l_4 : List ByteArray) (s_8 : Unit) => ([] : Hp)) p.1 p.2.1 p.2.2) (fun p => forR (fun k x s => slices_Index_string_string_L1 v_2 k x s) p.2.1 p.1 p.2.2 = some o_11 ∧ (s_1).drop p.1 = p.2.1) (fun p => p.2.1.length) (0, s_1, ()) ⟨hj_12, rfl⟩ rfl rfl ?_
    rintro ⟨k_3, l_4, s_8⟩ ⟨hL_10, hD_6⟩
    dsimp only at hL_10 hD_6
    cases l_4 with
    | nil =>
      replace hL_10 := some_inj hL_10
      subst hL_10
      refine wH_seq (wH_region (h_op (vB (decide ((k_3 : Int) < (s_1.length : Int)))) (wt rfl) rfl (h_nil ?_)))
      refine wH_seq (wH_iff rfl (drop_nil hD_6) (wH_exit ?_))
      exact cut_mk (s_8) rfl rfl rfl
    | cons x_5 l_4 =>
      obtain ⟨c_, hc_9, hL_10⟩ := bind_some hL_10
      refine wH_seq (wH_region (h_op (vB (decide ((k_3 : Int) < (s_1.length : Int)))) (wt rfl) rfl (h_nil ?_)))
      refine wH_seq (wH_ift rfl (drop_cons hD_6) (wH_skip ?_))
      unfold slices_Index_string_string_L1 at hc_9
      refine wH_seq ?_
      refine wH_block ?_
      refine wH_seq ?_
      refine wH_region ?_
      refine h_op (vI (k_3 : Int)) (wt rfl) rfl ?_
      refine h_op (vI (k_3 : Int)) (wt rfl) rfl ?_
      refine h_nil ?_
      refine wH_seq ?_
      refine wH_region ?_
      refine h_op (vS v_2) (wt rfl) rfl ?_
      refine h_op (vL eS s_1) (wt rfl) rfl ?_
      refine h_op (vI (k_3 : Int)) (wt rfl) rfl ?_
      refine h_ia es46 rfl rfl (drop_idx hD_6) rfl (wt rfl) ?_
      refine h_ldc sz9 ag9 rfl (vS x_5) rfl (wt rfl) ?_
      refine h_op (vB (sEq v_2 x_5)) (wt rfl) rfl ?_
      refine h_nil ?_
      rcases cond_some hc_9 with ⟨hc_13, hc_9⟩ | ⟨hc_13, hc_9⟩
      · refine wH_ift rfl hc_13 ?_
        refine wH_seq ?_
        refine wH_region ?_
        refine h_op (vI (k_3 : Int)) (wt rfl) rfl ?_
        refine h_op (vI (k_3 : Int)) (wt rfl) rfl ?_
        refine h_nil ?_
        replace hc_9 := some_inj hc_9
        subst hc_9
        replace hL_10 := some_inj hL_10
        subst hL_10
        replace hF := some_inj hF
        subst hF
        refine wH_ret ?_
        exact fin0 (.inr rfl) [(vI (k_3 : Int))] ⟨rfl, trivial⟩ rfl rfl rfl
      · refine wH_iff rfl hc_13 ?_
        refine wH_skip ?_
        refine wH_region ?_
        refine h_opw (w64_next hD_6 hn_7) (wt rfl) rfl ?_
        refine h_op (vI ((k_3 + 1 : Nat) : Int)) (wt rfl) rfl ?_
        refine h_nil ?_
        replace hc_9 := some_inj hc_9
        subst hc_9
        exact loop_mk (k_3 + 1, l_4, ()) ⟨hL_10, drop_next hD_6⟩ (Nat.lt_succ_self _) rfl rfl
  · rintro s_8 ho_ sl_ H_ hp_ hq_
    subst ho_
    refine wH_at _ hp_ hq_ ?_
    refine wH_seq ?_
    refine wH_region ?_
    refine h_op (vI (-1)) (wt rfl) rfl ?_
    refine h_nil ?_
    replace hF := some_inj hF
    subst hF
    refine wH_ret ?_
    exact fin0 (.inr rfl) [(vI (-1))] ⟨rfl, trivial⟩ rfl rfl rfl
theorem slices_Contains_string_string_ok {s_1 : (List ByteArray)} {v_2 : ByteArray} {r : Bool} (hF : slices_Contains_string_string s_1 v_2 = some r) :
    FnM Try.prog 104 [(vL eS s_1), (vS v_2)] [] (vB r) [] := by
  refine FnM.of_wH ⟨Try.prog, 9, [], []⟩ rfl Try.func104 rfl rfl (Nat.le_of_ble_eq_true rfl) (by kernel_rfl) ?_
  unfold slices_Contains_string_string at hF
  refine wH_seq ?_
  refine wH_region ?_
  refine h_op (vB false) (wt rfl) rfl ?_
  refine h_nil ?_
  refine wH_seq ?_
  refine wH_region ?_
  refine h_op (vL eS s_1) (wt rfl) rfl ?_
  refine h_op (vS v_2) (wt rfl) rfl ?_
  obtain ⟨r_3, hr_4, hF⟩ := bind_some hF
  refine h_call0 (slices_Index_string_string_ok hr_4) rfl hb161 rfl rfl rfl rfl (wt rfl) ?_
  refine h_op (vB (decide (r_3 ≥ 0))) (wt rfl) rfl ?_
  refine h_op (vB (decide (r_3 ≥ 0))) (wt rfl) rfl ?_
  refine h_nil ?_
  replace hF := some_inj hF
  subst hF
  refine wH_ret ?_
  exact fin0 (.inr rfl) [(vB (decide (r_3 ≥ 0)))] ⟨rfl, trivial⟩ rfl rfl rfl
theorem ref_FitsOf_1_ok {t_1 : ByteArray} {p_2 : Player} {r : Bool} (hF : ref_FitsOf_1 t_1 p_2 = some r) :
    FnM Try.prog 103 [(vS t_1), (.ref (extN 0) 0 0)] [(.cells 4 [(vS p_2.Key), (vS p_2.Screen), (vI p_2.Zone), (vL eS p_2.Tags)])] (vB r) [some (.cells 4 [(vS p_2.Key), (vS p_2.Screen), (vI p_2.Zone), (vL eS p_2.Tags)])] := by
  refine FnM.of_wH ⟨Try.prog, 9, [], []⟩ rfl Try.func103 rfl rfl (Nat.le_of_ble_eq_true rfl) (by kernel_rfl) ?_
  unfold ref_FitsOf_1 at hF
  refine wH_seq ?_
  refine wH_region ?_
  refine h_op (vB false) (wt rfl) rfl ?_
  refine h_nil ?_
  refine wH_seq ?_
  refine wH_region ?_
  refine h_far pl48_3 rfl 3 rfl (wt rfl) ?_
  refine h_ldr 0 0 (.inl rfl) (fun _ _ _ => trivial) sz46 ag46 rfl rfl (vL eS p_2.Tags) rfl (wt rfl) ?_
  refine h_op (vS t_1) (wt rfl) rfl ?_
  obtain ⟨r_3, hr_4, hF⟩ := bind_some hF
  refine h_call0 (slices_Contains_string_string_ok hr_4) rfl hb104 rfl rfl rfl rfl (wt rfl) ?_
  refine h_op (vB (!r_3)) (wt rfl) rfl ?_
  refine h_op (vB (!r_3)) (wt rfl) rfl ?_
  refine h_nil ?_
  replace hF := some_inj hF
  subst hF
  refine wH_ret ?_
  exact finB (.inr rfl) [(vB (!r_3))] _ [0] [extN 0] ⟨rfl, trivial⟩ (.cons (co_data rfl rfl) (.nil)) (by kernel_rfl) ⟨(by kernel_rfl), trivial⟩ (by decide) (by kernel_rfl)
theorem slices_IndexFunc_string_string_ok {s_1 : (List ByteArray)} {f_2 : ByteArray → Option Bool} {r : Int} {gid : FuncId} {caps : List V} {Sin : List Box} (hfn : ∀ x0 r, f_2 x0 = some r → FnM Try.prog gid ([(vS x0)] ++ caps) Sin (vB r) (Sin.map some)) (hbF : hasBody Try.prog gid = true) (hcapF : caps.flatMap frz = [] ∧ caps.map co0 = caps) (hokF : okL Sin.length caps = true) (hsF : ∀ b ∈ Sin, b.ok Sin.length = true) (hmF : ∀ b ∈ Sin, b.mut = true) (hF : slices_IndexFunc_string_string s_1 f_2 = some r) :
    FnM Try.prog 160 [(vL eS s_1), (.fn gid caps)] Sin (vI r) (Sin.map some) := by
  refine FnM.of_wH ⟨Try.prog, 19, [], []⟩ rfl Try.func160 rfl rfl (Nat.le_of_ble_eq_true rfl) (by kernel_rfl) ?_
  unfold slices_IndexFunc_string_string at hF
  refine wH_seq ?_
  refine wH_region ?_
  refine h_op (vI 0) (wt rfl) rfl ?_
  refine h_nil ?_
  refine wH_seq ?_
  refine wH_seq ?_
  refine wH_region ?_
  refine h_op (vL eS s_1) (wt rfl) rfl ?_
  refine h_len un46 rfl (wt rfl) ?_
  refine h_op (vI 0) (wt rfl) rfl ?_
  refine h_nil ?_
  obtain ⟨o_11, hj_12, hF⟩ := bind_some hF
  obtain ⟨hn_7, hj_12⟩ := forL_some hj_12
  refine wH_join (β := (Unit)) (fun (s_8 : Unit) => ([] : List (Nat × V))) (fun (s_8 : Unit) => (initH 0 Sin)) (fun p => o_11 = .go p) ?_ ?_
  · refine wH_block ?_
    refine wH_loop (β := Nat × (List ByteArray) × (Unit)) (fun p => (fun (k_3 : Nat) (l_4 : List ByteArray) (s_8 : Unit) => ([(0, (vL eS s_1)), (1, (.fn gid caps)), (7, (vI (s_1.length : Int))), (8, (vI (k_3 : Int)))] : List (Nat × V))) p.1 p.2.1 p.2.2) (fun p => (fun (k_3 : Nat) (l_4 : List ByteArray) (s_8 : Unit) => (initH 0 Sin)) p.1 p.2.1 p.2.2) (fun p => forR (fun k x s => slices_IndexFunc_string_string_L1 f_2 k x s) p.2.1 p.1 p.2.2 = some o_11 ∧ (s_1).drop p.1 = p.2.1) (fun p => p.2.1.length) (0, s_1, ()) ⟨hj_12, rfl⟩ rfl (pre_self _) ?_
    rintro ⟨k_3, l_4, s_8⟩ ⟨hL_10, hD_6⟩
    dsimp only at hL_10 hD_6
    cases l_4 with
    | nil =>
      replace hL_10 := some_inj hL_10
      subst hL_10
      refine wH_seq (wH_region (h_op (vB (decide ((k_3 : Int) < (s_1.length : Int)))) (wt rfl) rfl (h_nil ?_)))
      refine wH_seq (wH_iff rfl (drop_nil hD_6) (wH_exit ?_))
      exact cut_mk (s_8) rfl rfl (pre_self _)
    | cons x_5 l_4 =>
      obtain ⟨c_, hc_9, hL_10⟩ := bind_some hL_10
      refine wH_seq (wH_region (h_op (vB (decide ((k_3 : Int) < (s_1.length : Int)))) (wt rfl) rfl (h_nil ?_)))
      refine wH_seq (wH_ift rfl (drop_cons hD_6) (wH_skip ?_))
      unfold slices_IndexFunc_string_string_L1 at hc_9
      refine wH_seq ?_
      refine wH_block ?_
      refine wH_seq ?_
      refine wH_region ?_
      refine h_op (vI (k_3 : Int)) (wt rfl) rfl ?_
      refine h_op (vI (k_3 : Int)) (wt rfl) rfl ?_
      refine h_nil ?_
      refine wH_seq ?_
      refine wH_region ?_
      refine h_op (.fn gid caps) (wt rfl) rfl ?_
      refine h_op (vL eS s_1) (wt rfl) rfl ?_
      refine h_op (vI (k_3 : Int)) (wt rfl) rfl ?_
      refine h_ia es46 rfl rfl (drop_idx hD_6) rfl (wt rfl) ?_
      refine h_ldc sz9 ag9 rfl (vS x_5) rfl (wt rfl) ?_
      obtain ⟨r_13, hr_14, hc_9⟩ := bind_some hc_9
      refine h_callS (hfn _ _ hr_14) rfl hbF rfl rfl hcapF hokF hsF hmF rfl (wt rfl) rfl ?_
      refine h_nil ?_
      rcases cond_some hc_9 with ⟨hc_15, hc_9⟩ | ⟨hc_15, hc_9⟩
      · refine wH_ift rfl hc_15 ?_
        refine wH_seq ?_
        refine wH_region ?_
        refine h_op (vI (k_3 : Int)) (wt rfl) rfl ?_
        refine h_op (vI (k_3 : Int)) (wt rfl) rfl ?_
        refine h_nil ?_
        replace hc_9 := some_inj hc_9
        subst hc_9
        replace hL_10 := some_inj hL_10
        subst hL_10
        replace hF := some_inj hF
        subst hF
        refine wH_ret ?_
        exact finS hsF (.inr rfl) [(vI (k_3 : Int))] ⟨rfl, trivial⟩ rfl rfl rfl
      · refine wH_iff rfl hc_15 ?_
        refine wH_skip ?_
        refine wH_region ?_
        refine h_opw (w64_next hD_6 hn_7) (wt rfl) rfl ?_
        refine h_op (vI ((k_3 + 1 : Nat) : Int)) (wt rfl) rfl ?_
        refine h_nil ?_
        replace hc_9 := some_inj hc_9
        subst hc_9
        exact loop_mk (k_3 + 1, l_4, ()) ⟨hL_10, drop_next hD_6⟩ (Nat.lt_succ_self _) rfl (pre_self _)
  · rintro s_8 ho_ sl_ H_ hp_ hq_
    subst ho_
    refine wH_at _ hp_ hq_ ?_
    refine wH_seq ?_
    refine wH_region ?_
    refine h_op (vI (-1)) (wt rfl) rfl ?_
    refine h_nil ?_
    replace hF := some_inj hF
    subst hF
    refine wH_ret ?_
    exact finS hsF (.inr rfl) [(vI (-1))] ⟨rfl, trivial⟩ rfl rfl rfl
theorem slices_ContainsFunc_string_string_ok {s_1 : (List ByteArray)} {f_2 : ByteArray → Option Bool} {r : Bool} {gid : FuncId} {caps : List V} {Sin : List Box} (hfn : ∀ x0 r, f_2 x0 = some r → FnM Try.prog gid ([(vS x0)] ++ caps) Sin (vB r) (Sin.map some)) (hbF : hasBody Try.prog gid = true) (hcapF : caps.flatMap frz = [] ∧ caps.map co0 = caps) (hokF : okL Sin.length caps = true) (hsF : ∀ b ∈ Sin, b.ok Sin.length = true) (hmF : ∀ b ∈ Sin, b.mut = true) (hF : slices_ContainsFunc_string_string s_1 f_2 = some r) :
    FnM Try.prog 102 [(vL eS s_1), (.fn gid caps)] Sin (vB r) (Sin.map some) := by
  refine FnM.of_wH ⟨Try.prog, 9, [], []⟩ rfl Try.func102 rfl rfl (Nat.le_of_ble_eq_true rfl) (by kernel_rfl) ?_
  unfold slices_ContainsFunc_string_string at hF
  refine wH_seq ?_
  refine wH_region ?_
  refine h_op (vB false) (wt rfl) rfl ?_
  refine h_nil ?_
  refine wH_seq ?_
  refine wH_region ?_
  refine h_op (vL eS s_1) (wt rfl) rfl ?_
  refine h_op (.fn gid caps) (wt rfl) rfl ?_
  obtain ⟨r_3, hr_4, hF⟩ := bind_some hF
  refine h_callS (slices_IndexFunc_string_string_ok (gid := gid) (caps := caps) (Sin := Sin) hfn hbF hcapF hokF hsF hmF hr_4) rfl hb160 rfl rfl ⟨rfl, rfl⟩ (by simp [okL, okV, hokF]) hsF hmF rfl (wt rfl) rfl ?_
  refine h_op (vB (decide (r_3 ≥ 0))) (wt rfl) rfl ?_
  refine h_op (vB (decide (r_3 ≥ 0))) (wt rfl) rfl ?_
  refine h_nil ?_
  replace hF := some_inj hF
  subst hF
  refine wH_ret ?_
  exact finS hsF (.inr rfl) [(vB (decide (r_3 ≥ 0)))] ⟨rfl, trivial⟩ rfl rfl rfl
theorem ref_FitsOf_ok {e_1 : Entry} {p_2 : Player} {r : Bool} (hF : ref_FitsOf e_1 p_2 = some r) :
    FnM Try.prog 34 [(.d (.agg (Entry.enc e_1))), (.d (.agg (Player.enc p_2)))] [] (vB r) [] := by
  refine FnM.of_wH ⟨Try.prog, 10, [], []⟩ rfl Try.func34 rfl rfl (Nat.le_of_ble_eq_true rfl) (by kernel_rfl) ?_
  unfold ref_FitsOf at hF
  refine wH_seq ?_
  refine wH_region ?_
  refine h_box 0 (.inl rfl) [(vS e_1.Key), (vS e_1.Item), (vI e_1.Version), (vI e_1.First), (vI e_1.Last), (vI e_1.Every), (vI e_1.Days), (vL eI e_1.Except), (vI e_1.From), (vI e_1.To), (vI e_1.Prio), (vL eS e_1.Tags), (vB e_1.Gone)] rfl rfl (wt rfl) (fun n_3 => ?_)
  refine h_box 0 (.inl rfl) [(vS p_2.Key), (vS p_2.Screen), (vI p_2.Zone), (vL eS p_2.Tags)] rfl rfl (wt rfl) (fun n_4 => ?_)
  refine h_op (vB false) (wt rfl) rfl ?_
  refine h_nil ?_
  refine wH_seq ?_
  refine wH_region ?_
  refine h_far pl56_11 rfl 11 rfl (wt rfl) ?_
  refine h_ldr 0 0 (.inl rfl) (fun _ _ _ => trivial) sz46 ag46 rfl rfl (vL eS e_1.Tags) rfl (wt rfl) ?_
  refine h_op (.fn 103 [(.ref n_4 0 0)]) (wt rfl) rfl ?_
  obtain ⟨r_5, hr_6, hF⟩ := bind_some hF
  refine h_callq 0 [1] (.inl rfl) (fun _ _ _ => trivial) (slices_ContainsFunc_string_string_ok (gid := 103) (caps := [.ref (extN 0) 0 0]) (Sin := [(.cells 4 [(vS p_2.Key), (vS p_2.Screen), (vI p_2.Zone), (vL eS p_2.Tags)])]) (fun _ _ h_ => ref_FitsOf_1_ok h_) hb103 ⟨rfl, rfl⟩ (by kernel_rfl) (all_ok (by kernel_rfl)) (all_mut (by kernel_rfl)) hr_6) rfl hb102 rfl (by kernel_rfl) (by kernel_rfl) (by kernel_rfl) (by kernel_rfl) (by kernel_rfl) (by kernel_rfl) (by kernel_rfl) (by decide) (by kernel_rfl) (wt rfl) (vB r_5) (by kernel_rfl) ([(n_3, some (.cells 13 [(vS e_1.Key), (vS e_1.Item), (vI e_1.Version), (vI e_1.First), (vI e_1.Last), (vI e_1.Every), (vI e_1.Days), (vL eI e_1.Except), (vI e_1.From), (vI e_1.To), (vI e_1.Prio), (vL eS e_1.Tags), (vB e_1.Gone)])), (n_4, some (.cells 4 [(vS p_2.Key), (vS p_2.Screen), (vI p_2.Zone), (vL eS p_2.Tags)]))] : Hp) (by kernel_rfl) ?_
  refine h_op (vB (!r_5)) (wt rfl) rfl ?_
  refine h_op (vB (!r_5)) (wt rfl) rfl ?_
  refine h_nil ?_
  replace hF := some_inj hF
  subst hF
  refine wH_ret ?_
  exact fin0 (.inr rfl) [(vB (!r_5))] ⟨rfl, trivial⟩ rfl rfl rfl
theorem law_timed_ok {r : Bool} (hF : law_timed  = some r) :
    FnM Try.prog 35 [] [] (vB r) [] := by
  refine FnM.of_wH ⟨Try.prog, 23, [], []⟩ rfl Try.func35 rfl rfl (Nat.le_of_ble_eq_true rfl) (by kernel_rfl) ?_
  unfold law_timed at hF
  refine wH_seq ?_
  refine wH_region ?_
  refine h_op (vB false) (wt rfl) rfl ?_
  refine h_nil ?_
  refine wH_seq ?_
  refine wH_region ?_
  refine h_op (.agg [(vS (⟨#[97]⟩ : ByteArray)), (vS (⟨#[98]⟩ : ByteArray)), (vI 0), (vI 0), (vI 0), (vI 1), (vI 127), .nil, (vI 1), (vI 2), (vI 0), .nil, (vB false)]) (wt rfl) (by kernel_rfl) ?_
  refine h_op (.d (.agg (Window.enc (⟨0, 86400000⟩ : Window)))) (wt rfl) (by kernel_rfl) ?_
  obtain ⟨r_1, hr_2, hF⟩ := bind_some hF
  refine h_call0 (schedule_Times_ok hr_2) rfl hb27 rfl rfl rfl rfl (wt rfl) ?_
  refine h_op (.tup [(vL Window.enc r_1.1), (vI r_1.2)]) (wt rfl) rfl ?_
  refine h_op (vL Window.enc r_1.1) (wt rfl) rfl ?_
  refine h_op (vI r_1.2) (wt rfl) rfl ?_
  refine h_op (vL Window.enc r_1.1) (wt rfl) rfl ?_
  refine h_op (vI r_1.2) (wt rfl) rfl ?_
  refine h_nil ?_
  refine wH_seq ?_
  obtain ⟨v_3, h_4, hF⟩ := bind_some hF
  refine wH_join (β := Unit) (fun _ => ([(0, (vB v_3))] : List (Nat × V))) (fun _ => ([] : Hp)) (fun _ => True) ?_ ?_
  · refine wH_region ?_
    refine h_op (vI r_1.2) (wt rfl) rfl ?_
    refine h_op (vB (r_1.2 == 0)) (wt rfl) rfl ?_
    rcases cond_some h_4 with ⟨hc_5, h_4⟩ | ⟨hc_5, h_4⟩
    · refine h_movb rfl hc_5 (wt rfl) ?_
      refine h_op (vL Window.enc r_1.1) (wg rfl rfl rfl) rfl ?_
      refine h_len un57 rfl (wg rfl rfl rfl) ?_
      refine h_op (vB ((r_1.1.length : Int) == 1)) (wg rfl rfl rfl) rfl ?_
      refine h_op (vB ((r_1.1.length : Int) == 1)) (wt rfl) rfl ?_
      rcases cond_some h_4 with ⟨hc_6, h_4⟩ | ⟨hc_6, h_4⟩
      · refine h_movb rfl hc_6 (wt rfl) ?_
        refine h_op (vL Window.enc r_1.1) (wg rfl rfl rfl) rfl ?_
        obtain ⟨y_7, hy_8, h_4⟩ := bind_some h_4
        refine h_ia es57 rfl rfl hy_8 rfl (wg rfl rfl rfl) ?_
        refine h_fac pl51_0 rfl [.int .i64 y_7.From, .int .i64 y_7.To] rfl rfl (wg rfl rfl rfl) ?_
        refine h_ldc sz3 ag3 rfl (vI y_7.From) rfl (wg rfl rfl rfl) ?_
        refine h_op (vB (y_7.From == 60000)) (wg rfl rfl rfl) rfl ?_
        refine h_op (vB (y_7.From == 60000)) (wt rfl) rfl ?_
        refine h_op (vB (y_7.From == 60000)) (wt rfl) rfl ?_
        refine h_nil ?_
        replace h_4 := some_inj h_4
        subst h_4
        exact cut_mk () trivial rfl rfl
      · refine h_movb rfl hc_6 (wt rfl) ?_
        refine h_skip (wg rfl rfl rfl) ?_
        refine h_skip (wg rfl rfl rfl) ?_
        refine h_skip (wg rfl rfl rfl) ?_
        refine h_skip (wg rfl rfl rfl) ?_
        refine h_skip (wg rfl rfl rfl) ?_
        refine h_op (vB false) (wt rfl) rfl ?_
        refine h_op (vB false) (wt rfl) rfl ?_
        refine h_nil ?_
        replace h_4 := some_inj h_4
        subst h_4
        exact cut_mk () trivial rfl rfl
    · refine h_movb rfl hc_5 (wt rfl) ?_
      refine h_skip (wg rfl rfl rfl) ?_
      refine h_skip (wg rfl rfl rfl) ?_
      refine h_skip (wg rfl rfl rfl) ?_
      refine h_op (vB false) (wt rfl) rfl ?_
      refine h_op (vB false) (wt rfl) rfl ?_
      refine h_skip (wg rfl rfl rfl) ?_
      refine h_skip (wg rfl rfl rfl) ?_
      refine h_skip (wg rfl rfl rfl) ?_
      refine h_skip (wg rfl rfl rfl) ?_
      refine h_skip (wg rfl rfl rfl) ?_
      refine h_op (vB false) (wt rfl) rfl ?_
      refine h_op (vB false) (wt rfl) rfl ?_
      refine h_nil ?_
      replace h_4 := some_inj h_4
      subst h_4
      exact cut_mk () trivial rfl rfl
  · rintro ⟨⟩ _ sl_ H_ hp_ hq_
    refine wH_at _ hp_ hq_ ?_
    replace hF := some_inj hF
    subst hF
    refine wH_ret ?_
    exact fin0 (.inr rfl) [(vB v_3)] ⟨rfl, trivial⟩ rfl rfl rfl
theorem law_EntriesTimed_ok {l_1 : (List Int)} {r : Bool} (hF : law_EntriesTimed l_1 = some r) :
    FnM Try.prog 4 [(vL eI l_1)] [] (vB r) [] := by
  refine FnM.of_wH ⟨Try.prog, 100, [], []⟩ rfl Try.func4 rfl rfl (Nat.le_of_ble_eq_true rfl) (by kernel_rfl) ?_
  unfold law_EntriesTimed at hF
  refine wH_seq ?_
  refine wH_region ?_
  refine h_op (vB false) (wt rfl) rfl ?_
  refine h_nil ?_
  refine wH_seq ?_
  refine wH_region ?_
  refine h_op (vL eI l_1) (wt rfl) rfl ?_
  refine h_op (.d (.agg (Stream.enc (⟨l_1, 0⟩ : Stream)))) (wt rfl) (by kernel_rfl) ?_
  refine h_box 0 (.inl rfl) [(vL eI l_1), (vI 0)] rfl rfl (wt rfl) (fun n_2 => ?_)
  refine h_op (.ref n_2 0 0) (wt rfl) rfl ?_
  refine h_nil ?_
  refine wH_seq ?_
  refine wH_region ?_
  refine h_op (.ref n_2 0 0) (wt rfl) rfl ?_
  obtain ⟨r_3, hr_4, hF⟩ := bind_some hF
  refine h_callq 0 [0] (.inl rfl) (fun _ _ _ => trivial) (mk_Stream_Player_ok hr_4) rfl hb24 rfl (by kernel_rfl) (by kernel_rfl) (by kernel_rfl) (by kernel_rfl) (by kernel_rfl) (by kernel_rfl) (by kernel_rfl) (by decide) (by kernel_rfl) (wt rfl) (.d (.agg (Player.enc r_3.1))) (by kernel_rfl) ([(n_2, some (.cells 2 [(vL eI r_3.2.L), (vI r_3.2.f_at)]))] : Hp) (by kernel_rfl) ?_
  refine h_op (.ref n_2 0 0) (wt rfl) rfl ?_
  obtain ⟨r_6, hr_7, hF⟩ := bind_some hF
  refine h_callq 0 [0] (.inl rfl) (fun _ _ _ => trivial) (mk_Stream_Days_ok hr_7) rfl hb25 rfl (by kernel_rfl) (by kernel_rfl) (by kernel_rfl) (by kernel_rfl) (by kernel_rfl) (by kernel_rfl) (by kernel_rfl) (by decide) (by kernel_rfl) (wt rfl) (.d (.agg (Window.enc r_6.1))) (by kernel_rfl) ([(n_2, some (.cells 2 [(vL eI r_6.2.L), (vI r_6.2.f_at)]))] : Hp) (by kernel_rfl) ?_
  refine h_op (.ref n_2 0 0) (wt rfl) rfl ?_
  refine h_lit (([0, 0, 60, (-90), 1440, (-1440), 1441] : List Int).map eI) es22 ez22 rfl rfl rfl rfl rfl (wt rfl) ?_
  obtain ⟨r_9, hr_10, hF⟩ := bind_some hF
  refine h_callq 0 [0] (.inl rfl) (fun _ _ _ => trivial) (mk_Stream_Pick_ok hr_10) rfl hb10 rfl (by kernel_rfl) (by kernel_rfl) (by kernel_rfl) (by kernel_rfl) (by kernel_rfl) (by kernel_rfl) (by kernel_rfl) (by decide) (by kernel_rfl) (wt rfl) (vI r_9.1) (by kernel_rfl) ([(n_2, some (.cells 2 [(vL eI r_9.2.L), (vI r_9.2.f_at)]))] : Hp) (by kernel_rfl) ?_
  refine h_alloc 0 (.inl rfl) z48 rfl (wt rfl) (fun n_12 => ?_)
  refine h_alloc 0 (.inl rfl) z51 rfl (wt rfl) (fun n_13 => ?_)
  refine h_str 0 (.inl rfl) (fun _ _ _ => trivial) 1 sz48 rfl rfl [(vS r_3.1.Key), (vS r_3.1.Screen), (vI r_3.1.Zone), (vL eS r_3.1.Tags)] rfl (wt rfl) ?_
  refine h_str 0 (.inl rfl) (fun _ _ _ => trivial) 2 sz51 rfl rfl [(vI r_6.1.From), (vI r_6.1.To)] rfl (wt rfl) ?_
  refine h_op (vI r_9.1) (wt rfl) rfl ?_
  refine h_nil ?_
  refine wH_seq ?_
  refine wH_seq ?_
  refine wH_region ?_
  refine h_op (.ref n_2 0 0) (wt rfl) rfl ?_
  obtain ⟨r_14, hr_15, hF⟩ := bind_some hF
  refine h_callq 0 [0] (.inl rfl) (fun _ _ _ => trivial) (mk_Stream_Entries_ok hr_15) rfl hb26 rfl (by kernel_rfl) (by kernel_rfl) (by kernel_rfl) (by kernel_rfl) (by kernel_rfl) (by kernel_rfl) (by kernel_rfl) (by decide) (by kernel_rfl) (wt rfl) (vL Entry.enc r_14.1) (by kernel_rfl) ([(n_2, some (.cells 2 [(vL eI r_14.2.L), (vI r_14.2.f_at)])), (n_12, some (.cells 4 [(vS r_3.1.Key), (vS r_3.1.Screen), (vI r_3.1.Zone), (vL eS r_3.1.Tags)])), (n_13, some (.cells 2 [(vI r_6.1.From), (vI r_6.1.To)]))] : Hp) (by kernel_rfl) ?_
  refine h_len un53 rfl (wt rfl) ?_
  refine h_op (vI 0) (wt rfl) rfl ?_
  refine h_nil ?_
  obtain ⟨o_25, hj_26, hF⟩ := bind_some hF
  obtain ⟨hn_21, hj_26⟩ := forL_some hj_26
  refine wH_join (β := (Unit)) (fun (s_22 : Unit) => ([] : List (Nat × V))) (fun (s_22 : Unit) => ([(n_2, some (.cells 2 [(vL eI r_14.2.L), (vI r_14.2.f_at)])), (n_12, some (.cells 4 [(vS r_3.1.Key), (vS r_3.1.Screen), (vI r_3.1.Zone), (vL eS r_3.1.Tags)])), (n_13, some (.cells 2 [(vI r_6.1.From), (vI r_6.1.To)]))] : Hp)) (fun p => o_25 = .go p) ?_ ?_
  · refine wH_block ?_
    refine wH_loop (β := Nat × (List Entry) × (Unit)) (fun p => (fun (k_17 : Nat) (l_18 : List Entry) (s_22 : Unit) => ([(4, (.ref n_12 0 0)), (5, (.ref n_13 0 0)), (6, (vI r_9.1)), (28, (vL Entry.enc r_14.1)), (29, (vI (r_14.1.length : Int))), (30, (vI (k_17 : Int)))] : List (Nat × V))) p.1 p.2.1 p.2.2) (fun p => (fun (k_17 : Nat) (l_18 : List Entry) (s_22 : Unit) => ([(n_2, some (.cells 2 [(vL eI r_14.2.L), (vI r_14.2.f_at)])), (n_12, some (.cells 4 [(vS r_3.1.Key), (vS r_3.1.Screen), (vI r_3.1.Zone), (vL eS r_3.1.Tags)])), (n_13, some (.cells 2 [(vI r_6.1.From), (vI r_6.1.To)]))] : Hp)) p.1 p.2.1 p.2.2) (fun p => forR (fun k x s => law_EntriesTimed_L1 r_9 r_6 r_3 k x s) p.2.1 p.1 p.2.2 = some o_25 ∧ (r_14.1).drop p.1 = p.2.1) (fun p => p.2.1.length) (0, r_14.1, ()) ⟨hj_26, rfl⟩ rfl rfl ?_
    rintro ⟨k_17, l_18, s_22⟩ ⟨hL_24, hD_20⟩
    dsimp only at hL_24 hD_20
    cases l_18 with
    | nil =>
      replace hL_24 := some_inj hL_24
      subst hL_24
      refine wH_seq (wH_region (h_op (vB (decide ((k_17 : Int) < (r_14.1.length : Int)))) (wt rfl) rfl (h_nil ?_)))
      refine wH_seq (wH_iff rfl (drop_nil hD_20) (wH_exit ?_))
      exact cut_mk (s_22) rfl rfl rfl
    | cons x_19 l_18 =>
      obtain ⟨c_, hc_23, hL_24⟩ := bind_some hL_24
      refine wH_seq (wH_region (h_op (vB (decide ((k_17 : Int) < (r_14.1.length : Int)))) (wt rfl) rfl (h_nil ?_)))
      refine wH_seq (wH_ift rfl (drop_cons hD_20) (wH_skip ?_))
      unfold law_EntriesTimed_L1 at hc_23
      refine wH_seq ?_
      refine wH_block ?_
      refine wH_seq ?_
      refine wH_region ?_
      refine h_ia es53 rfl rfl (drop_idx hD_20) rfl (wt rfl) ?_
      refine h_ldc sz56 ag56 rfl (.d (.agg (Entry.enc x_19))) rfl (wt rfl) ?_
      refine h_alloc 0 (.inl rfl) z56 rfl (wt rfl) (fun n_27 => ?_)
      refine h_str 0 (.inl rfl) (fun _ _ _ => trivial) 3 sz56 rfl rfl [(vS x_19.Key), (vS x_19.Item), (vI x_19.Version), (vI x_19.First), (vI x_19.Last), (vI x_19.Every), (vI x_19.Days), (vL eI x_19.Except), (vI x_19.From), (vI x_19.To), (vI x_19.Prio), (vL eS x_19.Tags), (vB x_19.Gone)] rfl (wt rfl) ?_
      refine h_nil ?_
      refine wH_seq ?_
      refine wH_region ?_
      refine h_ldr 0 3 (.inl rfl) (fun _ _ _ => trivial) sz56 ag56 rfl rfl (.d (.agg (Entry.enc x_19))) rfl (wt rfl) ?_
      refine h_op (vI r_9.1) (wt rfl) rfl ?_
      refine h_ldr 0 2 (.inl rfl) (fun _ _ _ => trivial) sz51 ag51 rfl rfl (.d (.agg (Window.enc r_6.1))) rfl (wt rfl) ?_
      obtain ⟨r_28, hr_29, hc_23⟩ := bind_some hc_23
      refine h_call0 (schedule_Times_ok hr_29) rfl hb27 rfl rfl rfl rfl (wt rfl) ?_
      refine h_op (.tup [(vL Window.enc r_28.1), (vI r_28.2)]) (wt rfl) rfl ?_
      refine h_op (vL Window.enc r_28.1) (wt rfl) rfl ?_
      refine h_op (vI r_28.2) (wt rfl) rfl ?_
      refine h_op (vL Window.enc r_28.1) (wt rfl) rfl ?_
      refine h_op (vI r_28.2) (wt rfl) rfl ?_
      refine h_nil ?_
      refine wH_seq ?_
      refine wH_region ?_
      refine h_ldr 0 3 (.inl rfl) (fun _ _ _ => trivial) sz56 ag56 rfl rfl (.d (.agg (Entry.enc x_19))) rfl (wt rfl) ?_
      refine h_ldr 0 1 (.inl rfl) (fun _ _ _ => trivial) sz48 ag48 rfl rfl (.d (.agg (Player.enc r_3.1))) rfl (wt rfl) ?_
      obtain ⟨r_30, hr_31, hc_23⟩ := bind_some hc_23
      refine h_call0 (schedule_Fits_ok hr_31) rfl hb28 rfl rfl rfl rfl (wt rfl) ?_
      refine h_op (.tup [(vB r_30.1), (vI r_30.2)]) (wt rfl) rfl ?_
      refine h_op (vB r_30.1) (wt rfl) rfl ?_
      refine h_op (vI r_30.2) (wt rfl) rfl ?_
      refine h_op (vB r_30.1) (wt rfl) rfl ?_
      refine h_op (vI r_30.2) (wt rfl) rfl ?_
      refine h_nil ?_
      refine wH_seq ?_
      refine wH_region ?_
      refine h_ldr 0 3 (.inl rfl) (fun _ _ _ => trivial) sz56 ag56 rfl rfl (.d (.agg (Entry.enc x_19))) rfl (wt rfl) ?_
      refine h_lit (([x_19] : List Entry).map Entry.enc) es53 ez53 rfl rfl rfl rfl rfl (wt rfl) ?_
      obtain ⟨r_32, hr_33, hc_23⟩ := bind_some hc_23
      refine h_call0 (ref_EntriesFault_ok hr_33) rfl hb29 rfl rfl rfl rfl (wt rfl) ?_
      refine h_op (vI r_32) (wt rfl) rfl ?_
      refine h_nil ?_
      refine wH_seq ?_
      obtain ⟨v_34, h_35, hc_23⟩ := bind_some hc_23
      refine wH_join (β := Unit) (fun _ => ([(4, (.ref n_12 0 0)), (5, (.ref n_13 0 0)), (6, (vI r_9.1)), (8, (.ref n_27 0 0)), (9, (vL Window.enc r_28.1)), (10, (vI r_28.2)), (11, (vB r_30.1)), (12, (vI r_30.2)), (14, (vI v_34.1)), (15, (vI v_34.2)), (28, (vL Entry.enc r_14.1)), (29, (vI (r_14.1.length : Int))), (30, (vI (k_17 : Int)))] : List (Nat × V))) (fun _ => ([(n_2, some (.cells 2 [(vL eI r_14.2.L), (vI r_14.2.f_at)])), (n_12, some (.cells 4 [(vS r_3.1.Key), (vS r_3.1.Screen), (vI r_3.1.Zone), (vL eS r_3.1.Tags)])), (n_13, some (.cells 2 [(vI r_6.1.From), (vI r_6.1.To)])), (n_27, some (.cells 13 [(vS x_19.Key), (vS x_19.Item), (vI x_19.Version), (vI x_19.First), (vI x_19.Last), (vI x_19.Every), (vI x_19.Days), (vL eI x_19.Except), (vI x_19.From), (vI x_19.To), (vI x_19.Prio), (vL eS x_19.Tags), (vB x_19.Gone)]))] : Hp)) (fun _ => True) ?_ ?_
      · refine wH_draws ?_
        refine h_op (vI r_32) (wt rfl) rfl ?_
        refine h_op (vI r_9.1) (wt rfl) rfl ?_
        refine h_op (vB (decide (r_9.1 < (-1440)))) (wt rfl) rfl ?_
        rcases cond_some h_35 with ⟨hc_36, h_35⟩ | ⟨hc_36, h_35⟩
        · refine h_movb rfl hc_36 (wt rfl) ?_
          refine h_skip (wg rfl rfl rfl) ?_
          refine h_skip (wg rfl rfl rfl) ?_
          refine h_op (vB true) (wt rfl) rfl ?_
          obtain ⟨r_37, hr_38, h_35⟩ := bind_some h_35
          refine h_call0 (law_when_ok hr_38) rfl hb17 rfl rfl rfl rfl (wt rfl) ?_
          refine h_ldr 8 2 (.inr (by kernel_rfl)) (fun _ _ ag => trivial) sz51 ag51 rfl rfl (.d (.agg (Window.enc r_6.1))) rfl (wt rfl) ?_
          obtain ⟨r_39, hr_40, h_35⟩ := bind_some h_35
          refine h_call0 (ref_SpanFault_ok hr_40) rfl hb30 rfl rfl rfl rfl (wt rfl) ?_
          refine h_lit (([r_32, r_37, r_39] : List Int).map eI) es129 ez129 rfl rfl rfl rfl rfl (wt rfl) ?_
          obtain ⟨r_41, hr_42, h_35⟩ := bind_some h_35
          refine h_call0 (law_errs_ok hr_42) rfl hb16 rfl rfl rfl rfl (wt rfl) ?_
          refine h_op (vI r_32) (wt rfl) rfl ?_
          refine h_ldr 13 1 (.inr (by kernel_rfl)) (fun _ _ ag => ⟨.inl ⟨rfl, rfl⟩, trivial⟩) sz48 ag48 rfl rfl (.d (.agg (Player.enc r_3.1))) rfl (wt rfl) ?_
          obtain ⟨r_43, hr_44, h_35⟩ := bind_some h_35
          refine h_call0 (ref_PlayerFault_ok hr_44) rfl hb31 rfl rfl rfl rfl (wt rfl) ?_
          refine h_lit (([r_32, r_43] : List Int).map eI) es129 ez129 rfl rfl rfl rfl rfl (wt rfl) ?_
          obtain ⟨r_45, hr_46, h_35⟩ := bind_some h_35
          refine h_call0 (law_errs_ok hr_46) rfl hb16 rfl rfl rfl rfl (wt rfl) ?_
          refine h_op (vI r_41) (wt rfl) rfl ?_
          refine h_op (vI r_45) (wt rfl) rfl ?_
          refine h_nil ?_
          replace h_35 := some_inj h_35
          subst h_35
          exact cut_mk () trivial rfl rfl
        · refine h_movb rfl hc_36 (wt rfl) ?_
          refine h_op (vI r_9.1) (wg rfl rfl rfl) rfl ?_
          refine h_op (vB (decide (r_9.1 > 1440))) (wg rfl rfl rfl) rfl ?_
          refine h_op (vB (decide (r_9.1 > 1440))) (wt rfl) rfl ?_
          obtain ⟨r_47, hr_48, h_35⟩ := bind_some h_35
          refine h_call0 (law_when_ok hr_48) rfl hb17 rfl rfl rfl rfl (wt rfl) ?_
          refine h_ldr 8 2 (.inr (by kernel_rfl)) (fun _ _ ag => trivial) sz51 ag51 rfl rfl (.d (.agg (Window.enc r_6.1))) rfl (wt rfl) ?_
          obtain ⟨r_49, hr_50, h_35⟩ := bind_some h_35
          refine h_call0 (ref_SpanFault_ok hr_50) rfl hb30 rfl rfl rfl rfl (wt rfl) ?_
          refine h_lit (([r_32, r_47, r_49] : List Int).map eI) es129 ez129 rfl rfl rfl rfl rfl (wt rfl) ?_
          obtain ⟨r_51, hr_52, h_35⟩ := bind_some h_35
          refine h_call0 (law_errs_ok hr_52) rfl hb16 rfl rfl rfl rfl (wt rfl) ?_
          refine h_op (vI r_32) (wt rfl) rfl ?_
          refine h_ldr 13 1 (.inr (by kernel_rfl)) (fun _ _ ag => ⟨.inl ⟨rfl, rfl⟩, trivial⟩) sz48 ag48 rfl rfl (.d (.agg (Player.enc r_3.1))) rfl (wt rfl) ?_
          obtain ⟨r_53, hr_54, h_35⟩ := bind_some h_35
          refine h_call0 (ref_PlayerFault_ok hr_54) rfl hb31 rfl rfl rfl rfl (wt rfl) ?_
          refine h_lit (([r_32, r_53] : List Int).map eI) es129 ez129 rfl rfl rfl rfl rfl (wt rfl) ?_
          obtain ⟨r_55, hr_56, h_35⟩ := bind_some h_35
          refine h_call0 (law_errs_ok hr_56) rfl hb16 rfl rfl rfl rfl (wt rfl) ?_
          refine h_op (vI r_51) (wt rfl) rfl ?_
          refine h_op (vI r_55) (wt rfl) rfl ?_
          refine h_nil ?_
          replace h_35 := some_inj h_35
          subst h_35
          exact cut_mk () trivial rfl rfl
      · rintro ⟨⟩ _ sl_ H_ hp_ hq_
        refine wH_at _ hp_ hq_ ?_
        refine wH_seq ?_
        refine wH_region ?_
        refine h_op .nil (wt rfl) rfl ?_
        refine h_nil ?_
        refine wH_seq ?_
        refine wH_seq ?_
        refine wH_region ?_
        refine h_op (vI v_34.1) (wt rfl) rfl ?_
        refine h_op (vB (v_34.1 == 0)) (wt rfl) rfl ?_
        refine h_nil ?_
        refine wH_nilL Window.enc 16 rfl ?_
        obtain ⟨v_59, h_60, hc_23⟩ := bind_some hc_23
        refine wH_join (β := Unit) (fun _ => ([(4, (.ref n_12 0 0)), (5, (.ref n_13 0 0)), (6, (vI r_9.1)), (8, (.ref n_27 0 0)), (9, (vL Window.enc r_28.1)), (10, (vI r_28.2)), (11, (vB r_30.1)), (12, (vI r_30.2)), (14, (vI v_34.1)), (15, (vI v_34.2)), (16, (vL Window.enc v_59)), (28, (vL Entry.enc r_14.1)), (29, (vI (r_14.1.length : Int))), (30, (vI (k_17 : Int)))] : List (Nat × V))) (fun _ => ([(n_2, some (.cells 2 [(vL eI r_14.2.L), (vI r_14.2.f_at)])), (n_12, some (.cells 4 [(vS r_3.1.Key), (vS r_3.1.Screen), (vI r_3.1.Zone), (vL eS r_3.1.Tags)])), (n_13, some (.cells 2 [(vI r_6.1.From), (vI r_6.1.To)])), (n_27, some (.cells 13 [(vS x_19.Key), (vS x_19.Item), (vI x_19.Version), (vI x_19.First), (vI x_19.Last), (vI x_19.Every), (vI x_19.Days), (vL eI x_19.Except), (vI x_19.From), (vI x_19.To), (vI x_19.Prio), (vL eS x_19.Tags), (vB x_19.Gone)]))] : Hp)) (fun _ => True) ?_ ?_
        · rcases cond_some h_60 with ⟨hc_61, h_60⟩ | ⟨hc_61, h_60⟩
          · refine wH_ift rfl hc_61 ?_
            refine wH_region ?_
            refine h_ldr 0 3 (.inl rfl) (fun _ _ _ => trivial) sz56 ag56 rfl rfl (.d (.agg (Entry.enc x_19))) rfl (wt rfl) ?_
            refine h_op (vI r_9.1) (wt rfl) rfl ?_
            refine h_ldr 0 2 (.inl rfl) (fun _ _ _ => trivial) sz51 ag51 rfl rfl (.d (.agg (Window.enc r_6.1))) rfl (wt rfl) ?_
            obtain ⟨r_62, hr_63, h_60⟩ := bind_some h_60
            refine h_call0 (ref_TimesOf_ok hr_63) rfl hb32 rfl rfl rfl rfl (wt rfl) ?_
            refine h_op (vL Window.enc r_62) (wt rfl) rfl ?_
            refine h_nil ?_
            replace h_60 := some_inj h_60
            subst h_60
            exact cut_mk () trivial rfl rfl
          · refine wH_iff rfl hc_61 ?_
            refine wH_skip ?_
            replace h_60 := some_inj h_60
            subst h_60
            exact cut_mk () trivial rfl rfl
        · rintro ⟨⟩ _ sl_ H_ hp_ hq_
          refine wH_at _ hp_ hq_ ?_
          refine wH_seq ?_
          obtain ⟨v_64, h_65, hc_23⟩ := bind_some hc_23
          refine wH_join (β := Unit) (fun _ => ([(4, (.ref n_12 0 0)), (5, (.ref n_13 0 0)), (6, (vI r_9.1)), (28, (vL Entry.enc r_14.1)), (29, (vI (r_14.1.length : Int))), (30, (vI (k_17 : Int))), (97, (vB v_64))] : List (Nat × V))) (fun _ => ([(n_2, some (.cells 2 [(vL eI r_14.2.L), (vI r_14.2.f_at)])), (n_12, some (.cells 4 [(vS r_3.1.Key), (vS r_3.1.Screen), (vI r_3.1.Zone), (vL eS r_3.1.Tags)])), (n_13, some (.cells 2 [(vI r_6.1.From), (vI r_6.1.To)])), (n_27, some (.cells 13 [(vS x_19.Key), (vS x_19.Item), (vI x_19.Version), (vI x_19.First), (vI x_19.Last), (vI x_19.Every), (vI x_19.Days), (vL eI x_19.Except), (vI x_19.From), (vI x_19.To), (vI x_19.Prio), (vL eS x_19.Tags), (vB x_19.Gone)]))] : Hp)) (fun _ => True) ?_ ?_
          · refine wH_region ?_
            refine h_op (vI r_28.2) (wt rfl) rfl ?_
            refine h_op (vI v_34.1) (wt rfl) rfl ?_
            refine h_op (vB (r_28.2 != v_34.1)) (wt rfl) rfl ?_
            rcases cond_some h_65 with ⟨hc_66, h_65⟩ | ⟨hc_66, h_65⟩
            · refine h_movb rfl hc_66 (wt rfl) ?_
              refine h_skip (wg rfl rfl rfl) ?_
              refine h_skip (wg rfl rfl rfl) ?_
              refine h_skip (wg rfl rfl rfl) ?_
              refine h_skip (wg rfl rfl rfl) ?_
              refine h_op (vB true) (wt rfl) rfl ?_
              refine h_op (vB true) (wt rfl) rfl ?_
              refine h_skip (wg rfl rfl rfl) ?_
              refine h_skip (wg rfl rfl rfl) ?_
              refine h_skip (wg rfl rfl rfl) ?_
              refine h_op (vB true) (wt rfl) rfl ?_
              refine h_op (vB true) (wt rfl) rfl ?_
              refine h_skip (wg rfl rfl rfl) ?_
              refine h_skip (wg rfl rfl rfl) ?_
              refine h_skip (wg rfl rfl rfl) ?_
              refine h_skip (wg rfl rfl rfl) ?_
              refine h_skip (wn rfl rfl) ?_
              refine h_skip (wn rfl rfl) ?_
              refine h_skip (wn rfl rfl) ?_
              refine h_skip (wg rfl rfl rfl) ?_
              refine h_skip (wg rfl rfl rfl) ?_
              refine h_op (vB true) (wt rfl) rfl ?_
              refine h_nil ?_
              replace h_65 := some_inj h_65
              subst h_65
              exact cut_mk () trivial rfl rfl
            · refine h_movb rfl hc_66 (wt rfl) ?_
              refine h_op (vL Window.enc r_28.1) (wg rfl rfl rfl) rfl ?_
              refine h_op (vL Window.enc v_59) (wg rfl rfl rfl) rfl ?_
              obtain ⟨r_67, hr_68, h_65⟩ := bind_some h_65
              refine h_call0 (slices_Equal_api_Window_api_Window_ok hr_68) rfl hb33 rfl rfl rfl rfl (wg rfl rfl rfl) ?_
              refine h_op (vB (!r_67)) (wg rfl rfl rfl) rfl ?_
              refine h_op (vB (!r_67)) (wt rfl) rfl ?_
              rcases cond_some h_65 with ⟨hc_69, h_65⟩ | ⟨hc_69, h_65⟩
              · refine h_movb rfl hc_69 (wt rfl) ?_
                refine h_skip (wg rfl rfl rfl) ?_
                refine h_skip (wg rfl rfl rfl) ?_
                refine h_skip (wg rfl rfl rfl) ?_
                refine h_op (vB true) (wt rfl) rfl ?_
                refine h_op (vB true) (wt rfl) rfl ?_
                refine h_skip (wg rfl rfl rfl) ?_
                refine h_skip (wg rfl rfl rfl) ?_
                refine h_skip (wg rfl rfl rfl) ?_
                refine h_skip (wg rfl rfl rfl) ?_
                refine h_skip (wn rfl rfl) ?_
                refine h_skip (wn rfl rfl) ?_
                refine h_skip (wn rfl rfl) ?_
                refine h_skip (wg rfl rfl rfl) ?_
                refine h_skip (wg rfl rfl rfl) ?_
                refine h_op (vB true) (wt rfl) rfl ?_
                refine h_nil ?_
                replace h_65 := some_inj h_65
                subst h_65
                exact cut_mk () trivial rfl rfl
              · refine h_movb rfl hc_69 (wt rfl) ?_
                refine h_op (vI r_30.2) (wg rfl rfl rfl) rfl ?_
                refine h_op (vI v_34.2) (wg rfl rfl rfl) rfl ?_
                refine h_op (vB (r_30.2 != v_34.2)) (wg rfl rfl rfl) rfl ?_
                refine h_op (vB (r_30.2 != v_34.2)) (wt rfl) rfl ?_
                rcases cond_some h_65 with ⟨hc_70, h_65⟩ | ⟨hc_70, h_65⟩
                · refine h_movb rfl hc_70 (wt rfl) ?_
                  refine h_skip (wg rfl rfl rfl) ?_
                  refine h_skip (wg rfl rfl rfl) ?_
                  refine h_skip (wg rfl rfl rfl) ?_
                  refine h_skip (wg rfl rfl rfl) ?_
                  refine h_skip (wn rfl rfl) ?_
                  refine h_skip (wn rfl rfl) ?_
                  refine h_skip (wn rfl rfl) ?_
                  refine h_skip (wg rfl rfl rfl) ?_
                  refine h_skip (wg rfl rfl rfl) ?_
                  refine h_op (vB true) (wt rfl) rfl ?_
                  refine h_nil ?_
                  replace h_65 := some_inj h_65
                  subst h_65
                  exact cut_mk () trivial rfl rfl
                · refine h_movb rfl hc_70 (wt rfl) ?_
                  refine h_op (vB r_30.1) (wg rfl rfl rfl) rfl ?_
                  refine h_op (vI v_34.2) (wg rfl rfl rfl) rfl ?_
                  refine h_op (vB (v_34.2 == 0)) (wg rfl rfl rfl) rfl ?_
                  rcases cond_some h_65 with ⟨hc_71, h_65⟩ | ⟨hc_71, h_65⟩
                  · refine h_movb rfl hc_71 (wg rfl rfl rfl) ?_
                    refine h_ldr 0 3 (.inl rfl) (fun _ _ _ => trivial) sz56 ag56 rfl rfl (.d (.agg (Entry.enc x_19))) rfl (wg rfl rfl rfl) ?_
                    refine h_ldr 0 1 (.inl rfl) (fun _ _ _ => trivial) sz48 ag48 rfl rfl (.d (.agg (Player.enc r_3.1))) rfl (wg rfl rfl rfl) ?_
                    obtain ⟨r_72, hr_73, h_65⟩ := bind_some h_65
                    refine h_call0 (ref_FitsOf_ok hr_73) rfl hb34 rfl rfl rfl rfl (wg rfl rfl rfl) ?_
                    refine h_op (vB r_72) (wg rfl rfl rfl) rfl ?_
                    refine h_bneq un4 rfl rfl (wg rfl rfl rfl) ?_
                    refine h_op (vB (!(r_30.1 == r_72))) (wt rfl) rfl ?_
                    refine h_nil ?_
                    replace h_65 := some_inj h_65
                    subst h_65
                    exact cut_mk () trivial rfl rfl
                  · refine h_movb rfl hc_71 (wg rfl rfl rfl) ?_
                    refine h_skip (wg rfl rfl rfl) ?_
                    refine h_skip (wg rfl rfl rfl) ?_
                    refine h_skip (wg rfl rfl rfl) ?_
                    refine h_op (vB false) (wg rfl rfl rfl) rfl ?_
                    refine h_bneq un4 rfl rfl (wg rfl rfl rfl) ?_
                    refine h_op (vB (!(r_30.1 == false))) (wt rfl) rfl ?_
                    refine h_nil ?_
                    replace h_65 := some_inj h_65
                    subst h_65
                    exact cut_mk () trivial rfl rfl
          · rintro ⟨⟩ _ sl_ H_ hp_ hq_
            refine wH_at _ hp_ hq_ ?_
            rcases cond_some hc_23 with ⟨hc_74, hc_23⟩ | ⟨hc_74, hc_23⟩
            · refine wH_ift rfl hc_74 ?_
              refine wH_seq ?_
              refine wH_region ?_
              refine h_op (vB false) (wt rfl) rfl ?_
              refine h_nil ?_
              replace hc_23 := some_inj hc_23
              subst hc_23
              replace hL_24 := some_inj hL_24
              subst hL_24
              replace hF := some_inj hF
              subst hF
              refine wH_ret ?_
              exact fin0 (.inr rfl) [(vB false)] ⟨rfl, trivial⟩ rfl rfl rfl
            · refine wH_iff rfl hc_74 ?_
              refine wH_skip ?_
              refine wH_region ?_
              refine h_opw (w64_next hD_20 hn_21) (wt rfl) rfl ?_
              refine h_op (vI ((k_17 + 1 : Nat) : Int)) (wt rfl) rfl ?_
              refine h_nil ?_
              replace hc_23 := some_inj hc_23
              subst hc_23
              exact loop_mk (k_17 + 1, l_18, ()) ⟨hL_24, drop_next hD_20⟩ (Nat.lt_succ_self _) rfl rfl
  · rintro s_22 ho_ sl_ H_ hp_ hq_
    subst ho_
    refine wH_at _ hp_ hq_ ?_
    refine wH_seq ?_
    refine wH_region ?_
    obtain ⟨r_75, hr_76, hF⟩ := bind_some hF
    refine h_call0 (law_timed_ok hr_76) rfl hb35 rfl rfl rfl rfl (wt rfl) ?_
    refine h_op (vB r_75) (wt rfl) rfl ?_
    refine h_nil ?_
    replace hF := some_inj hF
    subst hF
    refine wH_ret ?_
    exact fin0 (.inr rfl) [(vB r_75)] ⟨rfl, trivial⟩ rfl rfl rfl
end Go.Proofs.Ytodfcleaapnklaa.Law
