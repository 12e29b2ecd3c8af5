import Derived.Test.YtiekkaelpgahoaaGreatDefs
import Derived.Test.YtiekkaelpgahoaaGreatRmSortF
/-
  Copies of functions whose loops go round so many times at most (written by a program of ours).
-/
open Go Go.Eng
namespace Go.Proofs.YtiekkaelpgahoaaGreat.Law
set_option linter.unusedVariables false
set_option linter.unusedSimpArgs false
set_option maxRecDepth 100000

def slices_Compact_int_int_v1_L2F (s_1 : (List Int)) (s_8 : Int) : Option (Ctl (Int) ((List Int))) :=
 bif (decide (s_8 < (s_1.length : Int))) then (inR s_8 s_1).bind fun _ => (s_1[(0 + (s_8).toNat)]?).bind fun e_15 => (inR (w64 (s_8 - 1)) s_1).bind fun _ => (s_1[(0 + ((w64 (s_8 - 1))).toNat)]?).bind fun e_18 => bif (e_15 == e_18) then (neL s_1).bind fun _ => (subR s_1 s_8 (s_1.length : Int)).bind fun _ => (loopF (s_1, s_8, 1) (fun s => slices_Compact_int_int_v1_L1 s_1 s_8 s)).bind fun o_31 => thenC o_31 (fun s_28 => (subR s_28.1 s_28.2.1 (s_28.1.length : Int)).bind fun _ => (subR (s_28.1.take ((s_28.2.1).toNat) ++ List.replicate (((s_28.1.length : Int)).toNat - (s_28.2.1).toNat) 0 ++ s_28.1.drop (((s_28.2.1).toNat) + (((s_28.1.length : Int)).toNat - (s_28.2.1).toNat))) 0 s_28.2.1).bind fun _ => some (.ret (cutL (s_28.1.take ((s_28.2.1).toNat) ++ List.replicate (((s_28.1.length : Int)).toNat - (s_28.2.1).toNat) 0 ++ s_28.1.drop (((s_28.2.1).toNat) + (((s_28.1.length : Int)).toNat - (s_28.2.1).toNat))) 0 ((s_28.2.1).toNat)))) (fun _ => none) else some (.go (w64 (s_8 + 1))) else some (.brk s_8)

theorem slices_Compact_int_int_v1_L2_le (s_1 : (List Int)) (s_8 : Int) : Le (slices_Compact_int_int_v1_L2F s_1 s_8) (slices_Compact_int_int_v1_L2 s_1 s_8) := by
 unfold slices_Compact_int_int_v1_L2F slices_Compact_int_int_v1_L2
 repeat' (first | exact Le.refl _ | refine Le.loop (fun _ => ?_) | refine Le.forL (fun _ _ _ => ?_) | refine Le.thenC (fun _ => ?_) (fun _ => ?_) | refine Le.cond ?_ ?_ | refine Le.bind ?_ (fun _ => ?_))

def slices_Compact_int_int_v1F (s_1 : (List Int)) : Option ((List Int)) :=
 bif (decide ((s_1.length : Int) < 2)) then some s_1 else (loopF 1 (fun s => slices_Compact_int_int_v1_L2F s_1 s)).bind fun o_11 => thenC o_11 (fun s_8 => some s_1) (fun r => some r)

theorem slices_Compact_int_int_v1_le (s_1 : (List Int)) : Le (slices_Compact_int_int_v1F s_1) (slices_Compact_int_int_v1 s_1) := by
 unfold slices_Compact_int_int_v1F slices_Compact_int_int_v1
 repeat' (first | exact Le.refl _ | exact slices_Compact_int_int_v1_L2_le _ _ | refine Le.loop (fun _ => ?_) | refine Le.forL (fun _ _ _ => ?_) | refine Le.thenC (fun _ => ?_) (fun _ => ?_) | refine Le.cond ?_ ?_ | refine Le.bind ?_ (fun _ => ?_))

def slices_insertionSortCmpFunc_screen_run_v1_L2F (b_3 : Int) (a_2 : Int) (s_10 : (List Run) × Int) : Option (Ctl ((List Run) × Int) (Unit)) :=
 bif (decide (s_10.2 < b_3)) then (loopF (s_10.1, s_10.2) (fun s => slices_insertionSortCmpFunc_screen_run_v1_L1 a_2 s)).bind fun o_24 => thenC o_24 (fun s_21 => some (.go (s_21.1, (w64 (s_10.2 + 1))))) (fun _ => none) else some (.brk (s_10.1, s_10.2))

theorem slices_insertionSortCmpFunc_screen_run_v1_L2_le (b_3 : Int) (a_2 : Int) (s_10 : (List Run) × Int) : Le (slices_insertionSortCmpFunc_screen_run_v1_L2F b_3 a_2 s_10) (slices_insertionSortCmpFunc_screen_run_v1_L2 b_3 a_2 s_10) := by
 unfold slices_insertionSortCmpFunc_screen_run_v1_L2F slices_insertionSortCmpFunc_screen_run_v1_L2
 repeat' (first | exact Le.refl _ | refine Le.loop (fun _ => ?_) | refine Le.forL (fun _ _ _ => ?_) | refine Le.thenC (fun _ => ?_) (fun _ => ?_) | refine Le.cond ?_ ?_ | refine Le.bind ?_ (fun _ => ?_))

def slices_insertionSortCmpFunc_screen_run_v1F (data_1 : (List Run)) (a_2 : Int) (b_3 : Int) : Option ((List Run)) :=
 (loopF (data_1, (w64 (a_2 + 1))) (fun s => slices_insertionSortCmpFunc_screen_run_v1_L2F b_3 a_2 s)).bind fun o_13 => thenC o_13 (fun s_10 => some s_10.1) (fun _ => none)

theorem slices_insertionSortCmpFunc_screen_run_v1_le (data_1 : (List Run)) (a_2 : Int) (b_3 : Int) : Le (slices_insertionSortCmpFunc_screen_run_v1F data_1 a_2 b_3) (slices_insertionSortCmpFunc_screen_run_v1 data_1 a_2 b_3) := by
 unfold slices_insertionSortCmpFunc_screen_run_v1F slices_insertionSortCmpFunc_screen_run_v1
 repeat' (first | exact Le.refl _ | exact slices_insertionSortCmpFunc_screen_run_v1_L2_le _ _ _ | refine Le.loop (fun _ => ?_) | refine Le.forL (fun _ _ _ => ?_) | refine Le.thenC (fun _ => ?_) (fun _ => ?_) | refine Le.cond ?_ ?_ | refine Le.bind ?_ (fun _ => ?_))

def slices_pdqsortCmpFunc_screen_run_v1_L1F (b_3 : Int) (a_2 : Int) (data_1 : (List Run)) (limit_4 : Int) (s_11 : Unit) : Option (Ctl (Unit) ((List Run))) :=
 bif (decide ((w64 (b_3 - a_2)) ≤ 12)) then (slices_insertionSortCmpFunc_screen_run_v1F data_1 a_2 b_3).bind fun r_17 => (sameL r_17 data_1).bind fun _ => some (.ret r_17) else bif (limit_4 == 0) then none else none

theorem slices_pdqsortCmpFunc_screen_run_v1_L1_le (b_3 : Int) (a_2 : Int) (data_1 : (List Run)) (limit_4 : Int) (s_11 : Unit) : Le (slices_pdqsortCmpFunc_screen_run_v1_L1F b_3 a_2 data_1 limit_4 s_11) (slices_pdqsortCmpFunc_screen_run_v1_L1 b_3 a_2 data_1 limit_4 s_11) := by
 unfold slices_pdqsortCmpFunc_screen_run_v1_L1F slices_pdqsortCmpFunc_screen_run_v1_L1
 repeat' (first | exact Le.refl _ | exact slices_insertionSortCmpFunc_screen_run_v1_le _ _ _ | refine Le.loop (fun _ => ?_) | refine Le.forL (fun _ _ _ => ?_) | refine Le.thenC (fun _ => ?_) (fun _ => ?_) | refine Le.cond ?_ ?_ | refine Le.bind ?_ (fun _ => ?_))

def slices_pdqsortCmpFunc_screen_run_v1F (data_1 : (List Run)) (a_2 : Int) (b_3 : Int) (limit_4 : Int) : Option ((List Run)) :=
 (loopF () (fun s => slices_pdqsortCmpFunc_screen_run_v1_L1F b_3 a_2 data_1 limit_4 s)).bind fun o_14 => thenC o_14 (fun s_11 => some data_1) (fun r => some r)

theorem slices_pdqsortCmpFunc_screen_run_v1_le (data_1 : (List Run)) (a_2 : Int) (b_3 : Int) (limit_4 : Int) : Le (slices_pdqsortCmpFunc_screen_run_v1F data_1 a_2 b_3 limit_4) (slices_pdqsortCmpFunc_screen_run_v1 data_1 a_2 b_3 limit_4) := by
 unfold slices_pdqsortCmpFunc_screen_run_v1F slices_pdqsortCmpFunc_screen_run_v1
 repeat' (first | exact Le.refl _ | exact slices_pdqsortCmpFunc_screen_run_v1_L1_le _ _ _ _ _ | refine Le.loop (fun _ => ?_) | refine Le.forL (fun _ _ _ => ?_) | refine Le.thenC (fun _ => ?_) (fun _ => ?_) | refine Le.cond ?_ ?_ | refine Le.bind ?_ (fun _ => ?_))

def slices_SortFunc_screen_run_screen_run_v1F (x_1 : (List Run)) : Option ((List Run)) :=
 (math_bits_Len (IntKind.u64.wrap (x_1.length : Int))).bind fun r_3 => (slices_pdqsortCmpFunc_screen_run_v1F x_1 0 (x_1.length : Int) r_3).bind fun r_5 => (sameL r_5 x_1).bind fun _ => some r_5

theorem slices_SortFunc_screen_run_screen_run_v1_le (x_1 : (List Run)) : Le (slices_SortFunc_screen_run_screen_run_v1F x_1) (slices_SortFunc_screen_run_screen_run_v1 x_1) := by
 unfold slices_SortFunc_screen_run_screen_run_v1F slices_SortFunc_screen_run_screen_run_v1
 repeat' (first | exact Le.refl _ | exact slices_pdqsortCmpFunc_screen_run_v1_le _ _ _ _ | refine Le.loop (fun _ => ?_) | refine Le.forL (fun _ _ _ => ?_) | refine Le.thenC (fun _ => ?_) (fun _ => ?_) | refine Le.cond ?_ ?_ | refine Le.bind ?_ (fun _ => ?_))

def screen_runsF (l_1 : (List Rect)) (y_2 : Int) : Option ((List Run)) :=
 (forL l_1 ([] : List Run) (fun k x s => screen_runs_L1 y_2 k x s)).bind fun o_14 => thenC o_14 (fun s_8 => (slices_SortFunc_screen_run_screen_run_v1F s_8).bind fun r_27 => (sameL r_27 s_8).bind fun _ => (forL r_27 ([] : List Run) (fun k x s => screen_runs_L2 k x s)).bind fun o_41 => thenC o_41 (fun s_35 => some s_35) (fun _ => none)) (fun _ => none)

theorem screen_runs_le (l_1 : (List Rect)) (y_2 : Int) : Le (screen_runsF l_1 y_2) (screen_runs l_1 y_2) := by
 unfold screen_runsF screen_runs
 repeat' (first | exact Le.refl _ | exact slices_SortFunc_screen_run_screen_run_v1_le _ | refine Le.loop (fun _ => ?_) | refine Le.forL (fun _ _ _ => ?_) | refine Le.thenC (fun _ => ?_) (fun _ => ?_) | refine Le.cond ?_ ?_ | refine Le.bind ?_ (fun _ => ?_))

def screen_less_L3F (m_2 : (List Run)) (k_3 : Nat) (x_5 : Run) (s_8 : (List Run) × Int) : Option (Ctl ((List Run) × Int) (Unit)) :=
 (loopF s_8.2 (fun s => screen_less_L1 m_2 x_5 s)).bind fun o_25 => thenC o_25 (fun s_22 => (loopF (s_8.1, s_22, x_5.f_from) (fun s => screen_less_L2 m_2 x_5 s)).bind fun o_43 => thenC o_43 (fun s_38 => (bif (decide (s_38.2.2 < x_5.f_to)) then (appL s_38.1 ([(⟨s_38.2.2, x_5.f_to⟩ : Run)] : List Run)).bind fun a_68 => some a_68 else some s_38.1).bind fun v_64 => some (.go (v_64, s_22))) (fun _ => none)) (fun _ => none)

theorem screen_less_L3_le (m_2 : (List Run)) (k_3 : Nat) (x_5 : Run) (s_8 : (List Run) × Int) : Le (screen_less_L3F m_2 k_3 x_5 s_8) (screen_less_L3 m_2 k_3 x_5 s_8) := by
 unfold screen_less_L3F screen_less_L3
 repeat' (first | exact Le.refl _ | refine Le.loop (fun _ => ?_) | refine Le.forL (fun _ _ _ => ?_) | refine Le.thenC (fun _ => ?_) (fun _ => ?_) | refine Le.cond ?_ ?_ | refine Le.bind ?_ (fun _ => ?_))

def screen_lessF (l_1 : (List Run)) (m_2 : (List Run)) : Option ((List Run)) :=
 (forL l_1 (([] : List Run), 0) (fun k x s => screen_less_L3F m_2 k x s)).bind fun o_14 => thenC o_14 (fun s_8 => some s_8.1) (fun _ => none)

theorem screen_less_le (l_1 : (List Run)) (m_2 : (List Run)) : Le (screen_lessF l_1 m_2) (screen_less l_1 m_2) := by
 unfold screen_lessF screen_less
 repeat' (first | exact Le.refl _ | exact screen_less_L3_le _ _ _ _ | refine Le.loop (fun _ => ?_) | refine Le.forL (fun _ _ _ => ?_) | refine Le.thenC (fun _ => ?_) (fun _ => ?_) | refine Le.cond ?_ ?_ | refine Le.bind ?_ (fun _ => ?_))

def screen_region_L3F (r_25 : (List Int)) (l_1 : (List Rect)) (m_2 : (List Rect)) (k_27 : Nat) (x_29 : Int) (s_32 : (List Rect) × (List Run) × Int) : Option (Ctl ((List Rect) × (List Run) × Int) (Unit)) :=
 (bif (decide ((w64 ((k_27 : Int) + 1)) < (r_25.length : Int))) then (screen_runsF l_1 x_29).bind fun r_45 => (screen_runsF m_2 x_29).bind fun r_47 => (screen_lessF r_45 r_47).bind fun r_49 => some r_49 else some ([] : List Run)).bind fun v_42 => (slices_Equal_screen_run_screen_run s_32.2.1 v_42).bind fun r_51 => bif r_51 then some (.go (s_32.1, s_32.2.1, s_32.2.2)) else (forL s_32.2.1 s_32.1 (fun k x s => screen_region_L2 s_32 x_29 k x s)).bind fun o_64 => thenC o_64 (fun s_59 => some (.go (s_59, v_42, x_29))) (fun _ => none)

theorem screen_region_L3_le (r_25 : (List Int)) (l_1 : (List Rect)) (m_2 : (List Rect)) (k_27 : Nat) (x_29 : Int) (s_32 : (List Rect) × (List Run) × Int) : Le (screen_region_L3F r_25 l_1 m_2 k_27 x_29 s_32) (screen_region_L3 r_25 l_1 m_2 k_27 x_29 s_32) := by
 unfold screen_region_L3F screen_region_L3
 repeat' (first | exact Le.refl _ | exact screen_runs_le _ _ | exact screen_less_le _ _ | refine Le.loop (fun _ => ?_) | refine Le.forL (fun _ _ _ => ?_) | refine Le.thenC (fun _ => ?_) (fun _ => ?_) | refine Le.cond ?_ ?_ | refine Le.bind ?_ (fun _ => ?_))

def screen_regionF (l_1 : (List Rect)) (m_2 : (List Rect)) : Option ((List Rect)) :=
 (slices_Concat_api_Rect_api_Rect ([l_1, m_2] : List (List Rect))).bind fun r_3 => (forL r_3 ([] : List Int) (fun k x s => screen_region_L1 k x s)).bind fun o_16 => thenC o_16 (fun s_10 => (sortF s_10).bind fun r_22 => (sameL r_22 s_10).bind fun _ => (slices_Compact_int_int_v1F r_22).bind fun r_25 => (forL r_25 (([] : List Rect), ([] : List Run), 0) (fun k x s => screen_region_L3F r_25 l_1 m_2 k x s)).bind fun o_38 => thenC o_38 (fun s_32 => some s_32.1) (fun _ => none)) (fun _ => none)

theorem screen_region_le (l_1 : (List Rect)) (m_2 : (List Rect)) : Le (screen_regionF l_1 m_2) (screen_region l_1 m_2) := by
 unfold screen_regionF screen_region
 repeat' (first | exact Le.refl _ | exact slices_Compact_int_int_v1_le _ | exact screen_region_L3_le _ _ _ _ _ _ | exact sortF_le _ | refine Le.loop (fun _ => ?_) | refine Le.forL (fun _ _ _ => ?_) | refine Le.thenC (fun _ => ?_) (fun _ => ?_) | refine Le.cond ?_ ?_ | refine Le.bind ?_ (fun _ => ?_))

def screen_AreaF (l_1 : (List Rect)) : Option (Int × Int) :=
 (screen_rectsFault l_1).bind fun r_2 => bif (r_2 != 0) then some (0, r_2) else (screen_regionF l_1 ([] : List Rect)).bind fun r_5 => (screen_area r_5).bind fun r_7 => some (r_7, 0)

theorem screen_Area_le (l_1 : (List Rect)) : Le (screen_AreaF l_1) (screen_Area l_1) := by
 unfold screen_AreaF screen_Area
 repeat' (first | exact Le.refl _ | exact screen_region_le _ _ | refine Le.loop (fun _ => ?_) | refine Le.forL (fun _ _ _ => ?_) | refine Le.thenC (fun _ => ?_) (fun _ => ?_) | refine Le.cond ?_ ?_ | refine Le.bind ?_ (fun _ => ?_))

def law_litF  : Option (Bool) :=
 (screen_AreaF ([(⟨0, 0, 2, 2⟩ : Rect), (⟨1, 1, 2, 2⟩ : Rect)] : List Rect)).bind fun r_1 => (bif (r_1.2 == 0) then some (r_1.1 == 7) else some false).bind fun v_3 => some v_3

theorem law_lit_le  : Le (law_litF) (law_lit) := by
 unfold law_litF law_lit
 repeat' (first | exact Le.refl _ | exact screen_Area_le _ | refine Le.loop (fun _ => ?_) | refine Le.forL (fun _ _ _ => ?_) | refine Le.thenC (fun _ => ?_) (fun _ => ?_) | refine Le.cond ?_ ?_ | refine Le.bind ?_ (fun _ => ?_))

end Go.Proofs.YtiekkaelpgahoaaGreat.Law

