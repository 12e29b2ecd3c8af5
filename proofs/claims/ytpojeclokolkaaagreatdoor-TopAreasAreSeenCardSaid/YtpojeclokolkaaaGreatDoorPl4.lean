/-
  THE PLAIN LAW (part 4).
-/
import Derived.Test.YtpojeclokolkaaaGreatDoorPl3
import Derived.Test.YtpojeclokolkaaaGreatDoorDefs
open Go Go.Eng
namespace Go.Proofs.YtpojeclokolkaaaGreatDoor.Law
set_option linter.unusedVariables false
set_option linter.unusedSimpArgs false
set_option maxRecDepth 100000
def kit_IsKeyF (s_1 : ByteArray) : Option (Bool) :=
 (loopF 0 (fun s => kit_IsKey_L1 s_1 s)).bind fun o_10 => thenC o_10 (fun s_7 => (bif (sNe s_1 (⟨#[]⟩ : ByteArray)) then some (decide ((s_1.size : Int) ≤ 40)) else some false).bind fun v_30 => some v_30) (fun r => some r)
theorem kit_IsKey_le (s_1 : ByteArray) : Le (kit_IsKeyF s_1) (kit_IsKey s_1) := by
 unfold kit_IsKeyF kit_IsKey
 repeat' (with_reducible first | exact Le.refl _ | refine Le.loop (fun _ => ?_) | refine Le.forL (fun _ _ _ => ?_) | refine Le.thenC (fun _ => ?_) (fun _ => ?_) | refine Le.cond ?_ ?_ | refine Le.bind ?_ (fun _ => ?_))
def slices_Compact_int_int_v1_L2F (s_1 : (List Int)) (s_8 : Int) : Option (Ctl (Int) ((List Int))) :=
 bif (decide (s_8 < (s_1.length : Int))) then (inR s_8 s_1).bind fun _ => (s_1[(0 + (s_8).toNat)]?).bind fun e_15 => (inR (w64 (s_8 - 1)) s_1).bind fun _ => (s_1[(0 + ((w64 (s_8 - 1))).toNat)]?).bind fun e_18 => bif (e_15 == e_18) then (neL s_1).bind fun _ => (subR s_1 s_8 (s_1.length : Int)).bind fun _ => (loopF (s_1, s_8, 1) (fun s => slices_Compact_int_int_v1_L1 s_1 s_8 s)).bind fun o_31 => thenC o_31 (fun s_28 => (subR s_28.1 s_28.2.1 (s_28.1.length : Int)).bind fun _ => (subR (s_28.1.take ((s_28.2.1).toNat) ++ List.replicate (((s_28.1.length : Int)).toNat - (s_28.2.1).toNat) 0 ++ s_28.1.drop (((s_28.2.1).toNat) + (((s_28.1.length : Int)).toNat - (s_28.2.1).toNat))) 0 s_28.2.1).bind fun _ => some (.ret (cutL (s_28.1.take ((s_28.2.1).toNat) ++ List.replicate (((s_28.1.length : Int)).toNat - (s_28.2.1).toNat) 0 ++ s_28.1.drop (((s_28.2.1).toNat) + (((s_28.1.length : Int)).toNat - (s_28.2.1).toNat))) 0 ((s_28.2.1).toNat)))) (fun _ => none) else some (.go (w64 (s_8 + 1))) else some (.brk s_8)
theorem slices_Compact_int_int_v1_L2_le (s_1 : (List Int)) (s_8 : Int) : Le (slices_Compact_int_int_v1_L2F s_1 s_8) (slices_Compact_int_int_v1_L2 s_1 s_8) := by
 unfold slices_Compact_int_int_v1_L2F slices_Compact_int_int_v1_L2
 repeat' (with_reducible first | exact Le.refl _ | refine Le.loop (fun _ => ?_) | refine Le.forL (fun _ _ _ => ?_) | refine Le.thenC (fun _ => ?_) (fun _ => ?_) | refine Le.cond ?_ ?_ | refine Le.bind ?_ (fun _ => ?_))
def slices_Compact_int_int_v1F (s_1 : (List Int)) : Option ((List Int)) :=
 bif (decide ((s_1.length : Int) < 2)) then some s_1 else (loopF 1 (fun s => slices_Compact_int_int_v1_L2F s_1 s)).bind fun o_11 => thenC o_11 (fun s_8 => some s_1) (fun r => some r)
theorem slices_Compact_int_int_v1_le (s_1 : (List Int)) : Le (slices_Compact_int_int_v1F s_1) (slices_Compact_int_int_v1 s_1) := by
 unfold slices_Compact_int_int_v1F slices_Compact_int_int_v1
 repeat' (with_reducible first | exact Le.refl _ | exact slices_Compact_int_int_v1_L2_le _ _ | refine Le.loop (fun _ => ?_) | refine Le.forL (fun _ _ _ => ?_) | refine Le.thenC (fun _ => ?_) (fun _ => ?_) | refine Le.cond ?_ ?_ | refine Le.bind ?_ (fun _ => ?_))
def slices_insertionSortCmpFunc_screen_run_v1_L2F (b_3 : Int) (a_2 : Int) (s_10 : (List Run) × Int) : Option (Ctl ((List Run) × Int) (Unit)) :=
 bif (decide (s_10.2 < b_3)) then (loopF (s_10.1, s_10.2) (fun s => slices_insertionSortCmpFunc_screen_run_v1_L1 a_2 s)).bind fun o_24 => thenC o_24 (fun s_21 => some (.go (s_21.1, (w64 (s_10.2 + 1))))) (fun _ => none) else some (.brk (s_10.1, s_10.2))
theorem slices_insertionSortCmpFunc_screen_run_v1_L2_le (b_3 : Int) (a_2 : Int) (s_10 : (List Run) × Int) : Le (slices_insertionSortCmpFunc_screen_run_v1_L2F b_3 a_2 s_10) (slices_insertionSortCmpFunc_screen_run_v1_L2 b_3 a_2 s_10) := by
 unfold slices_insertionSortCmpFunc_screen_run_v1_L2F slices_insertionSortCmpFunc_screen_run_v1_L2
 repeat' (with_reducible first | exact Le.refl _ | refine Le.loop (fun _ => ?_) | refine Le.forL (fun _ _ _ => ?_) | refine Le.thenC (fun _ => ?_) (fun _ => ?_) | refine Le.cond ?_ ?_ | refine Le.bind ?_ (fun _ => ?_))
def slices_insertionSortCmpFunc_screen_run_v1F (data_1 : (List Run)) (a_2 : Int) (b_3 : Int) : Option ((List Run)) :=
 (loopF (data_1, (w64 (a_2 + 1))) (fun s => slices_insertionSortCmpFunc_screen_run_v1_L2F b_3 a_2 s)).bind fun o_13 => thenC o_13 (fun s_10 => some s_10.1) (fun _ => none)
theorem slices_insertionSortCmpFunc_screen_run_v1_le (data_1 : (List Run)) (a_2 : Int) (b_3 : Int) : Le (slices_insertionSortCmpFunc_screen_run_v1F data_1 a_2 b_3) (slices_insertionSortCmpFunc_screen_run_v1 data_1 a_2 b_3) := by
 unfold slices_insertionSortCmpFunc_screen_run_v1F slices_insertionSortCmpFunc_screen_run_v1
 repeat' (with_reducible first | exact Le.refl _ | exact slices_insertionSortCmpFunc_screen_run_v1_L2_le _ _ _ | refine Le.loop (fun _ => ?_) | refine Le.forL (fun _ _ _ => ?_) | refine Le.thenC (fun _ => ?_) (fun _ => ?_) | refine Le.cond ?_ ?_ | refine Le.bind ?_ (fun _ => ?_))
def slices_pdqsortCmpFunc_screen_run_v1_L1F (b_3 : Int) (a_2 : Int) (data_1 : (List Run)) (limit_4 : Int) (s_11 : Unit) : Option (Ctl (Unit) ((List Run))) :=
 bif (decide ((w64 (b_3 - a_2)) ≤ 12)) then (slices_insertionSortCmpFunc_screen_run_v1F data_1 a_2 b_3).bind fun r_17 => (sameL r_17 data_1).bind fun _ => some (.ret r_17) else bif (limit_4 == 0) then none else none
theorem slices_pdqsortCmpFunc_screen_run_v1_L1_le (b_3 : Int) (a_2 : Int) (data_1 : (List Run)) (limit_4 : Int) (s_11 : Unit) : Le (slices_pdqsortCmpFunc_screen_run_v1_L1F b_3 a_2 data_1 limit_4 s_11) (slices_pdqsortCmpFunc_screen_run_v1_L1 b_3 a_2 data_1 limit_4 s_11) := by
 unfold slices_pdqsortCmpFunc_screen_run_v1_L1F slices_pdqsortCmpFunc_screen_run_v1_L1
 repeat' (with_reducible first | exact Le.refl _ | exact slices_insertionSortCmpFunc_screen_run_v1_le _ _ _ | refine Le.loop (fun _ => ?_) | refine Le.forL (fun _ _ _ => ?_) | refine Le.thenC (fun _ => ?_) (fun _ => ?_) | refine Le.cond ?_ ?_ | refine Le.bind ?_ (fun _ => ?_))
def slices_pdqsortCmpFunc_screen_run_v1F (data_1 : (List Run)) (a_2 : Int) (b_3 : Int) (limit_4 : Int) : Option ((List Run)) :=
 (loopF () (fun s => slices_pdqsortCmpFunc_screen_run_v1_L1F b_3 a_2 data_1 limit_4 s)).bind fun o_14 => thenC o_14 (fun s_11 => some data_1) (fun r => some r)
theorem slices_pdqsortCmpFunc_screen_run_v1_le (data_1 : (List Run)) (a_2 : Int) (b_3 : Int) (limit_4 : Int) : Le (slices_pdqsortCmpFunc_screen_run_v1F data_1 a_2 b_3 limit_4) (slices_pdqsortCmpFunc_screen_run_v1 data_1 a_2 b_3 limit_4) := by
 unfold slices_pdqsortCmpFunc_screen_run_v1F slices_pdqsortCmpFunc_screen_run_v1
 repeat' (with_reducible first | exact Le.refl _ | exact slices_pdqsortCmpFunc_screen_run_v1_L1_le _ _ _ _ _ | refine Le.loop (fun _ => ?_) | refine Le.forL (fun _ _ _ => ?_) | refine Le.thenC (fun _ => ?_) (fun _ => ?_) | refine Le.cond ?_ ?_ | refine Le.bind ?_ (fun _ => ?_))
def slices_SortFunc_screen_run_screen_run_v1F (x_1 : (List Run)) : Option ((List Run)) :=
 (math_bits_Len (IntKind.u64.wrap (x_1.length : Int))).bind fun r_3 => (slices_pdqsortCmpFunc_screen_run_v1F x_1 0 (x_1.length : Int) r_3).bind fun r_5 => (sameL r_5 x_1).bind fun _ => some r_5
theorem slices_SortFunc_screen_run_screen_run_v1_le (x_1 : (List Run)) : Le (slices_SortFunc_screen_run_screen_run_v1F x_1) (slices_SortFunc_screen_run_screen_run_v1 x_1) := by
 unfold slices_SortFunc_screen_run_screen_run_v1F slices_SortFunc_screen_run_screen_run_v1
 repeat' (with_reducible first | exact Le.refl _ | exact slices_pdqsortCmpFunc_screen_run_v1_le _ _ _ _ | refine Le.loop (fun _ => ?_) | refine Le.forL (fun _ _ _ => ?_) | refine Le.thenC (fun _ => ?_) (fun _ => ?_) | refine Le.cond ?_ ?_ | refine Le.bind ?_ (fun _ => ?_))
def screen_runsF (l_1 : (List Rect)) (y_2 : Int) : Option ((List Run)) :=
 (forL l_1 ([] : List Run) (fun k x s => screen_runs_L1 y_2 k x s)).bind fun o_14 => thenC o_14 (fun s_8 => (slices_SortFunc_screen_run_screen_run_v1F s_8).bind fun r_27 => (sameL r_27 s_8).bind fun _ => (forL r_27 ([] : List Run) (fun k x s => screen_runs_L2 k x s)).bind fun o_41 => thenC o_41 (fun s_35 => some s_35) (fun _ => none)) (fun _ => none)
theorem screen_runs_le (l_1 : (List Rect)) (y_2 : Int) : Le (screen_runsF l_1 y_2) (screen_runs l_1 y_2) := by
 unfold screen_runsF screen_runs
 repeat' (with_reducible first | exact Le.refl _ | exact slices_SortFunc_screen_run_screen_run_v1_le _ | refine Le.loop (fun _ => ?_) | refine Le.forL (fun _ _ _ => ?_) | refine Le.thenC (fun _ => ?_) (fun _ => ?_) | refine Le.cond ?_ ?_ | refine Le.bind ?_ (fun _ => ?_))
def screen_less_L3F (m_2 : (List Run)) (k_3 : Nat) (x_5 : Run) (s_8 : (List Run) × Int) : Option (Ctl ((List Run) × Int) (Unit)) :=
 (loopF s_8.2 (fun s => screen_less_L1 m_2 x_5 s)).bind fun o_25 => thenC o_25 (fun s_22 => (loopF (s_8.1, s_22, x_5.f_from) (fun s => screen_less_L2 m_2 x_5 s)).bind fun o_43 => thenC o_43 (fun s_38 => (bif (decide (s_38.2.2 < x_5.f_to)) then (appL s_38.1 ([(⟨s_38.2.2, x_5.f_to⟩ : Run)] : List Run)).bind fun a_68 => some a_68 else some s_38.1).bind fun v_64 => some (.go (v_64, s_22))) (fun _ => none)) (fun _ => none)
theorem screen_less_L3_le (m_2 : (List Run)) (k_3 : Nat) (x_5 : Run) (s_8 : (List Run) × Int) : Le (screen_less_L3F m_2 k_3 x_5 s_8) (screen_less_L3 m_2 k_3 x_5 s_8) := by
 unfold screen_less_L3F screen_less_L3
 repeat' (with_reducible first | exact Le.refl _ | refine Le.loop (fun _ => ?_) | refine Le.forL (fun _ _ _ => ?_) | refine Le.thenC (fun _ => ?_) (fun _ => ?_) | refine Le.cond ?_ ?_ | refine Le.bind ?_ (fun _ => ?_))
def screen_lessF (l_1 : (List Run)) (m_2 : (List Run)) : Option ((List Run)) :=
 (forL l_1 (([] : List Run), 0) (fun k x s => screen_less_L3F m_2 k x s)).bind fun o_14 => thenC o_14 (fun s_8 => some s_8.1) (fun _ => none)
theorem screen_less_le (l_1 : (List Run)) (m_2 : (List Run)) : Le (screen_lessF l_1 m_2) (screen_less l_1 m_2) := by
 unfold screen_lessF screen_less
 repeat' (with_reducible first | exact Le.refl _ | exact screen_less_L3_le _ _ _ _ | refine Le.loop (fun _ => ?_) | refine Le.forL (fun _ _ _ => ?_) | refine Le.thenC (fun _ => ?_) (fun _ => ?_) | refine Le.cond ?_ ?_ | refine Le.bind ?_ (fun _ => ?_))
def screen_region_L3F (r_25 : (List Int)) (l_1 : (List Rect)) (m_2 : (List Rect)) (k_27 : Nat) (x_29 : Int) (s_32 : (List Rect) × (List Run) × Int) : Option (Ctl ((List Rect) × (List Run) × Int) (Unit)) :=
 (bif (decide ((w64 ((k_27 : Int) + 1)) < (r_25.length : Int))) then (screen_runsF l_1 x_29).bind fun r_45 => (screen_runsF m_2 x_29).bind fun r_47 => (screen_lessF r_45 r_47).bind fun r_49 => some r_49 else some ([] : List Run)).bind fun v_42 => (slices_Equal_screen_run_screen_run s_32.2.1 v_42).bind fun r_51 => bif r_51 then some (.go (s_32.1, s_32.2.1, s_32.2.2)) else (forL s_32.2.1 s_32.1 (fun k x s => screen_region_L2 s_32 x_29 k x s)).bind fun o_64 => thenC o_64 (fun s_59 => some (.go (s_59, v_42, x_29))) (fun _ => none)
theorem screen_region_L3_le (r_25 : (List Int)) (l_1 : (List Rect)) (m_2 : (List Rect)) (k_27 : Nat) (x_29 : Int) (s_32 : (List Rect) × (List Run) × Int) : Le (screen_region_L3F r_25 l_1 m_2 k_27 x_29 s_32) (screen_region_L3 r_25 l_1 m_2 k_27 x_29 s_32) := by
 unfold screen_region_L3F screen_region_L3
 repeat' (with_reducible first | exact Le.refl _ | exact screen_runs_le _ _ | exact screen_less_le _ _ | refine Le.loop (fun _ => ?_) | refine Le.forL (fun _ _ _ => ?_) | refine Le.thenC (fun _ => ?_) (fun _ => ?_) | refine Le.cond ?_ ?_ | refine Le.bind ?_ (fun _ => ?_))
def screen_regionF (l_1 : (List Rect)) (m_2 : (List Rect)) : Option ((List Rect)) :=
 (slices_Concat_api_Rect_api_Rect ([l_1, m_2] : List (List Rect))).bind fun r_3 => (forL r_3 ([] : List Int) (fun k x s => screen_region_L1 k x s)).bind fun o_16 => thenC o_16 (fun s_10 => (sortF s_10).bind fun r_22 => (sameL r_22 s_10).bind fun _ => (slices_Compact_int_int_v1F r_22).bind fun r_25 => (forL r_25 (([] : List Rect), ([] : List Run), 0) (fun k x s => screen_region_L3F r_25 l_1 m_2 k x s)).bind fun o_38 => thenC o_38 (fun s_32 => some s_32.1) (fun _ => none)) (fun _ => none)
theorem screen_region_le (l_1 : (List Rect)) (m_2 : (List Rect)) : Le (screen_regionF l_1 m_2) (screen_region l_1 m_2) := by
 unfold screen_regionF screen_region
 repeat' (with_reducible first | exact Le.refl _ | exact slices_Compact_int_int_v1_le _ | exact screen_region_L3_le _ _ _ _ _ _ | exact sortF_le _ | refine Le.loop (fun _ => ?_) | refine Le.forL (fun _ _ _ => ?_) | refine Le.thenC (fun _ => ?_) (fun _ => ?_) | refine Le.cond ?_ ?_ | refine Le.bind ?_ (fun _ => ?_))
def screen_AreaF (l_1 : (List Rect)) : Option (Int × Int) :=
 (screen_rectsFault l_1).bind fun r_2 => bif (r_2 != 0) then some (0, r_2) else (screen_regionF l_1 ([] : List Rect)).bind fun r_5 => (screen_area r_5).bind fun r_7 => some (r_7, 0)
theorem screen_Area_le (l_1 : (List Rect)) : Le (screen_AreaF l_1) (screen_Area l_1) := by
 unfold screen_AreaF screen_Area
 repeat' (with_reducible first | exact Le.refl _ | exact screen_region_le _ _ | refine Le.loop (fun _ => ?_) | refine Le.forL (fun _ _ _ => ?_) | refine Le.thenC (fun _ => ?_) (fun _ => ?_) | refine Le.cond ?_ ?_ | refine Le.bind ?_ (fun _ => ?_))
def kit_RisingFault_L1F (l_1 : (List ByteArray)) (k_2 : Nat) (x_4 : ByteArray) (s_7 : Unit) : Option (Ctl (Unit) (Int)) :=
 (kit_IsKeyF x_4).bind fun r_12 => bif (!r_12) then some (.ret 5) else (bif (decide ((k_2 : Int) > 0)) then (idx l_1 (w64 ((k_2 : Int) - 1))).bind fun y_18 => some (sLe x_4 y_18) else some false).bind fun v_15 => bif v_15 then some (.ret 7) else some (.go ())
theorem kit_RisingFault_L1_le (l_1 : (List ByteArray)) (k_2 : Nat) (x_4 : ByteArray) (s_7 : Unit) : Le (kit_RisingFault_L1F l_1 k_2 x_4 s_7) (kit_RisingFault_L1 l_1 k_2 x_4 s_7) := by
 unfold kit_RisingFault_L1F kit_RisingFault_L1
 repeat' (with_reducible first | exact Le.refl _ | exact kit_IsKey_le _ | refine Le.loop (fun _ => ?_) | refine Le.forL (fun _ _ _ => ?_) | refine Le.thenC (fun _ => ?_) (fun _ => ?_) | refine Le.cond ?_ ?_ | refine Le.bind ?_ (fun _ => ?_))
def kit_RisingFaultF (l_1 : (List ByteArray)) : Option (Int) :=
 (forL l_1 () (fun k x s => kit_RisingFault_L1F l_1 k x s)).bind fun o_10 => thenC o_10 (fun s_7 => some 0) (fun r => some r)
theorem kit_RisingFault_le (l_1 : (List ByteArray)) : Le (kit_RisingFaultF l_1) (kit_RisingFault l_1) := by
 unfold kit_RisingFaultF kit_RisingFault
 repeat' (with_reducible first | exact Le.refl _ | exact kit_RisingFault_L1_le _ _ _ _ | refine Le.loop (fun _ => ?_) | refine Le.forL (fun _ _ _ => ?_) | refine Le.thenC (fun _ => ?_) (fun _ => ?_) | refine Le.cond ?_ ?_ | refine Le.bind ?_ (fun _ => ?_))
def schedule_tagsFaultF (l_1 : (List ByteArray)) : Option (Int) :=
 bif (decide ((l_1.length : Int) > 20)) then some 2 else (kit_RisingFaultF l_1).bind fun r_3 => some r_3
theorem schedule_tagsFault_le (l_1 : (List ByteArray)) : Le (schedule_tagsFaultF l_1) (schedule_tagsFault l_1) := by
 unfold schedule_tagsFaultF schedule_tagsFault
 repeat' (with_reducible first | exact Le.refl _ | exact kit_RisingFault_le _ | refine Le.loop (fun _ => ?_) | refine Le.forL (fun _ _ _ => ?_) | refine Le.thenC (fun _ => ?_) (fun _ => ?_) | refine Le.cond ?_ ?_ | refine Le.bind ?_ (fun _ => ?_))
def schedule_entryFaultF (e_1 : Entry) : Option (Int) :=
 ((kit_IsKeyF e_1.Key).bind fun r_5 => bif (!r_5) then some true else (kit_IsKeyF e_1.Item).bind fun r_8 => some (!r_8)).bind fun v_3 => bif v_3 then some 5 else ((kit_Outside e_1.Version 0 1000000).bind fun r_13 => bif r_13 then some true else (kit_Outside e_1.First 0 e_1.Last).bind fun r_16 => bif r_16 then some true else bif (decide (e_1.Last > 4000)) then some true else (kit_Outside e_1.Every 1 400).bind fun r_20 => bif r_20 then some true else (kit_Outside e_1.Days 1 127).bind fun r_23 => some r_23).bind fun v_11 => bif v_11 then some 1 else (schedule_exceptFault e_1.Except).bind fun r_26 => bif (r_26 != 0) then some r_26 else ((kit_Outside e_1.From 0 1439).bind fun r_31 => bif r_31 then some true else (kit_Outside e_1.To 0 1439).bind fun r_34 => bif r_34 then some true else (kit_Outside e_1.Prio 0 9).bind fun r_37 => some r_37).bind fun v_29 => bif v_29 then some 1 else (schedule_tagsFaultF e_1.Tags).bind fun r_40 => some r_40
theorem schedule_entryFault_le (e_1 : Entry) : Le (schedule_entryFaultF e_1) (schedule_entryFault e_1) := by
 unfold schedule_entryFaultF schedule_entryFault
 repeat' (with_reducible first | exact Le.refl _ | exact kit_IsKey_le _ | exact schedule_tagsFault_le _ | refine Le.loop (fun _ => ?_) | refine Le.forL (fun _ _ _ => ?_) | refine Le.thenC (fun _ => ?_) (fun _ => ?_) | refine Le.cond ?_ ?_ | refine Le.bind ?_ (fun _ => ?_))
def schedule_CheckEntries_L1F (l_1 : (List Entry)) (k_3 : Nat) (x_5 : Entry) (s_8 : Unit) : Option (Ctl (Unit) (Int)) :=
 (schedule_entryFaultF x_5).bind fun r_14 => bif (r_14 != 0) then some (.ret r_14) else (bif (decide ((k_3 : Int) > 0)) then (idx l_1 (w64 ((k_3 : Int) - 1))).bind fun y_20 => some (sLe x_5.Key y_20.Key) else some false).bind fun v_17 => bif v_17 then some (.ret 7) else some (.go ())
theorem schedule_CheckEntries_L1_le (l_1 : (List Entry)) (k_3 : Nat) (x_5 : Entry) (s_8 : Unit) : Le (schedule_CheckEntries_L1F l_1 k_3 x_5 s_8) (schedule_CheckEntries_L1 l_1 k_3 x_5 s_8) := by
 unfold schedule_CheckEntries_L1F schedule_CheckEntries_L1
 repeat' (with_reducible first | exact Le.refl _ | exact schedule_entryFault_le _ | refine Le.loop (fun _ => ?_) | refine Le.forL (fun _ _ _ => ?_) | refine Le.thenC (fun _ => ?_) (fun _ => ?_) | refine Le.cond ?_ ?_ | refine Le.bind ?_ (fun _ => ?_))
def schedule_CheckEntriesF (l_1 : (List Entry)) : Option (Int) :=
 bif (decide ((l_1.length : Int) > 200)) then some 2 else (forL l_1 () (fun k x s => schedule_CheckEntries_L1F l_1 k x s)).bind fun o_11 => thenC o_11 (fun s_8 => some 0) (fun r => some r)
theorem schedule_CheckEntries_le (l_1 : (List Entry)) : Le (schedule_CheckEntriesF l_1) (schedule_CheckEntries l_1) := by
 unfold schedule_CheckEntriesF schedule_CheckEntries
 repeat' (with_reducible first | exact Le.refl _ | exact schedule_CheckEntries_L1_le _ _ _ _ | refine Le.loop (fun _ => ?_) | refine Le.forL (fun _ _ _ => ?_) | refine Le.thenC (fun _ => ?_) (fun _ => ?_) | refine Le.cond ?_ ?_ | refine Le.bind ?_ (fun _ => ?_))
def slices_BinarySearch_int_intF (x_1 : (List Int)) (target_2 : Int) : Option (Int × Bool) :=
 (loopF (0, (x_1.length : Int)) (fun s => slices_BinarySearch_int_int_L1 x_1 target_2 s)).bind fun o_11 => thenC o_11 (fun s_8 => (bif (decide (s_8.1 < (x_1.length : Int))) then (idx x_1 s_8.1).bind fun y_24 => bif (y_24 == target_2) then some true else (idx x_1 s_8.1).bind fun y_27 => (slices_isNaN_int y_27).bind fun r_29 => bif r_29 then (slices_isNaN_int target_2).bind fun r_32 => some r_32 else some false else some false).bind fun v_21 => some (s_8.1, v_21)) (fun _ => none)
theorem slices_BinarySearch_int_int_le (x_1 : (List Int)) (target_2 : Int) : Le (slices_BinarySearch_int_intF x_1 target_2) (slices_BinarySearch_int_int x_1 target_2) := by
 unfold slices_BinarySearch_int_intF slices_BinarySearch_int_int
 repeat' (with_reducible first | exact Le.refl _ | refine Le.loop (fun _ => ?_) | refine Le.forL (fun _ _ _ => ?_) | refine Le.thenC (fun _ => ?_) (fun _ => ?_) | refine Le.cond ?_ ?_ | refine Le.bind ?_ (fun _ => ?_))
def schedule_isDayF (e_1 : Entry) (d_2 : Int) : Option (Bool) :=
 ((kit_Outside d_2 e_1.First e_1.Last).bind fun r_6 => bif r_6 then some true else (remO .i64 (w64 (d_2 - e_1.First)) e_1.Every).bind fun q_9 => bif (q_9 != 0) then some true else (shlO .i64 1 (d_2.tmod 7)).bind fun q_12 => some ((andI .i64 e_1.Days q_12) == 0)).bind fun v_4 => bif v_4 then some false else (slices_BinarySearch_int_intF e_1.Except d_2).bind fun r_15 => some (!r_15.2)
theorem schedule_isDay_le (e_1 : Entry) (d_2 : Int) : Le (schedule_isDayF e_1 d_2) (schedule_isDay e_1 d_2) := by
 unfold schedule_isDayF schedule_isDay
 repeat' (with_reducible first | exact Le.refl _ | exact slices_BinarySearch_int_int_le _ _ | refine Le.loop (fun _ => ?_) | refine Le.forL (fun _ _ _ => ?_) | refine Le.thenC (fun _ => ?_) (fun _ => ?_) | refine Le.cond ?_ ?_ | refine Le.bind ?_ (fun _ => ?_))
def schedule_times_L1F (wv_3 : Window) (zone_2 : Int) (e_1 : Entry) (s_15 : (List Window) × Int) : Option (Ctl ((List Window) × Int) (Unit)) :=
 bif (decide (s_15.2 ≤ (minI (w64 ((w64 ((w64 (wv_3.To + (w64 (zone_2 * 60000)))).tdiv 86400000)) + 1)) e_1.Last))) then (schedule_isDayF e_1 s_15.2).bind fun r_24 => bif (!r_24) then some (.go (s_15.1, (w64 (s_15.2 + 1)))) else (schedule_timeOf e_1 zone_2 s_15.2).bind fun r_27 => (bif (decide (r_27.From < wv_3.To)) then some (decide (r_27.To > wv_3.From)) else some false).bind fun v_30 => (bif v_30 then (appL s_15.1 ([r_27] : List Window)).bind fun a_37 => some a_37 else some s_15.1).bind fun v_33 => some (.go (v_33, (w64 (s_15.2 + 1)))) else some (.brk (s_15.1, s_15.2))
theorem schedule_times_L1_le (wv_3 : Window) (zone_2 : Int) (e_1 : Entry) (s_15 : (List Window) × Int) : Le (schedule_times_L1F wv_3 zone_2 e_1 s_15) (schedule_times_L1 wv_3 zone_2 e_1 s_15) := by
 unfold schedule_times_L1F schedule_times_L1
 repeat' (with_reducible first | exact Le.refl _ | exact schedule_isDay_le _ _ | refine Le.loop (fun _ => ?_) | refine Le.forL (fun _ _ _ => ?_) | refine Le.thenC (fun _ => ?_) (fun _ => ?_) | refine Le.cond ?_ ?_ | refine Le.bind ?_ (fun _ => ?_))
def schedule_timesF (e_1 : Entry) (zone_2 : Int) (wv_3 : Window) : Option ((List Window)) :=
 (bif e_1.Gone then some true else some (decide (wv_3.From ≥ wv_3.To))).bind fun v_6 => bif v_6 then some ([] : (List Window)) else (loopF (([] : List Window), (maxI (w64 ((w64 ((w64 (wv_3.From + (w64 (zone_2 * 60000)))).tdiv 86400000)) - 2)) e_1.First)) (fun s => schedule_times_L1F wv_3 zone_2 e_1 s)).bind fun o_21 => thenC o_21 (fun s_15 => some s_15.1) (fun _ => none)
theorem schedule_times_le (e_1 : Entry) (zone_2 : Int) (wv_3 : Window) : Le (schedule_timesF e_1 zone_2 wv_3) (schedule_times e_1 zone_2 wv_3) := by
 unfold schedule_timesF schedule_times
 repeat' (with_reducible first | exact Le.refl _ | exact schedule_times_L1_le _ _ _ _ | refine Le.loop (fun _ => ?_) | refine Le.forL (fun _ _ _ => ?_) | refine Le.thenC (fun _ => ?_) (fun _ => ?_) | refine Le.cond ?_ ?_ | refine Le.bind ?_ (fun _ => ?_))
def schedule_TimesF (e_1 : Entry) (zone_2 : Int) (wv_3 : Window) : Option ((List Window) × Int) :=
 (schedule_CheckEntriesF ([e_1] : List Entry)).bind fun r_6 => bif (r_6 != 0) then some (([] : (List Window)), r_6) else (kit_Outside zone_2 (-1440) 1440).bind fun r_9 => bif r_9 then some (([] : (List Window)), 1) else (schedule_windowFault wv_3).bind fun r_12 => bif (r_12 != 0) then some (([] : (List Window)), r_12) else (schedule_timesF e_1 zone_2 wv_3).bind fun r_15 => (forL (List.range ((r_15.length : Int)).toNat) r_15 (fun k x s => schedule_Times_L1 wv_3 k x s)).bind fun o_27 => thenC o_27 (fun s_24 => some (s_24, 0)) (fun _ => none)
theorem schedule_Times_le (e_1 : Entry) (zone_2 : Int) (wv_3 : Window) : Le (schedule_TimesF e_1 zone_2 wv_3) (schedule_Times e_1 zone_2 wv_3) := by
 unfold schedule_TimesF schedule_Times
 repeat' (with_reducible first | exact Le.refl _ | exact schedule_CheckEntries_le _ | exact schedule_times_le _ _ _ | refine Le.loop (fun _ => ?_) | refine Le.forL (fun _ _ _ => ?_) | refine Le.thenC (fun _ => ?_) (fun _ => ?_) | refine Le.cond ?_ ?_ | refine Le.bind ?_ (fun _ => ?_))
def booking_tagsFaultF (l_1 : (List ByteArray)) : Option (Int) :=
 bif (decide ((l_1.length : Int) > 20)) then some 2 else (kit_RisingFaultF l_1).bind fun r_3 => some r_3
theorem booking_tagsFault_le (l_1 : (List ByteArray)) : Le (booking_tagsFaultF l_1) (booking_tagsFault l_1) := by
 unfold booking_tagsFaultF booking_tagsFault
 repeat' (with_reducible first | exact Le.refl _ | exact kit_RisingFault_le _ | refine Le.loop (fun _ => ?_) | refine Le.forL (fun _ _ _ => ?_) | refine Le.thenC (fun _ => ?_) (fun _ => ?_) | refine Le.cond ?_ ?_ | refine Le.bind ?_ (fun _ => ?_))
def booking_CheckCampaigns_L1F (l_1 : (List Campaign)) (k_3 : Nat) (x_5 : Campaign) (s_8 : Unit) : Option (Ctl (Unit) (Int)) :=
 ((kit_IsKeyF x_5.Key).bind fun r_16 => bif (!r_16) then some true else bif (sNe x_5.Class (⟨#[]⟩ : ByteArray)) then (kit_IsKeyF x_5.Class).bind fun r_20 => some (!r_20) else some false).bind fun v_14 => bif v_14 then some (.ret 5) else (bif (decide ((k_3 : Int) > 0)) then (idx l_1 (w64 ((k_3 : Int) - 1))).bind fun y_26 => some (sLe x_5.Key y_26.Key) else some false).bind fun v_23 => bif v_23 then some (.ret 7) else ((booking_isTime x_5.Time).bind fun r_31 => bif (!r_31) then some true else (kit_Outside x_5.Goal 0 1000000).bind fun r_34 => bif r_34 then some true else (kit_Outside x_5.Most 0 1000000).bind fun r_37 => bif r_37 then some true else (kit_Outside x_5.Cents 0 1000000000).bind fun r_40 => some r_40).bind fun v_29 => bif v_29 then some (.ret 1) else (booking_tagsFaultF x_5.Tags).bind fun r_43 => bif (r_43 != 0) then some (.ret r_43) else some (.go ())
theorem booking_CheckCampaigns_L1_le (l_1 : (List Campaign)) (k_3 : Nat) (x_5 : Campaign) (s_8 : Unit) : Le (booking_CheckCampaigns_L1F l_1 k_3 x_5 s_8) (booking_CheckCampaigns_L1 l_1 k_3 x_5 s_8) := by
 unfold booking_CheckCampaigns_L1F booking_CheckCampaigns_L1
 repeat' (with_reducible first | exact Le.refl _ | exact kit_IsKey_le _ | exact booking_tagsFault_le _ | refine Le.loop (fun _ => ?_) | refine Le.forL (fun _ _ _ => ?_) | refine Le.thenC (fun _ => ?_) (fun _ => ?_) | refine Le.cond ?_ ?_ | refine Le.bind ?_ (fun _ => ?_))
def booking_CheckCampaignsF (l_1 : (List Campaign)) : Option (Int) :=
 bif (decide ((l_1.length : Int) > 30)) then some 2 else (forL l_1 () (fun k x s => booking_CheckCampaigns_L1F l_1 k x s)).bind fun o_11 => thenC o_11 (fun s_8 => some 0) (fun r => some r)
theorem booking_CheckCampaigns_le (l_1 : (List Campaign)) : Le (booking_CheckCampaignsF l_1) (booking_CheckCampaigns l_1) := by
 unfold booking_CheckCampaignsF booking_CheckCampaigns
 repeat' (with_reducible first | exact Le.refl _ | exact booking_CheckCampaigns_L1_le _ _ _ _ | refine Le.loop (fun _ => ?_) | refine Le.forL (fun _ _ _ => ?_) | refine Le.thenC (fun _ => ?_) (fun _ => ?_) | refine Le.cond ?_ ?_ | refine Le.bind ?_ (fun _ => ?_))
def booking_DueF (c_1 : Campaign) (atv_2 : Int) : Option (Int × Int) :=
 (booking_CheckCampaignsF ([c_1] : List Campaign)).bind fun r_4 => bif (r_4 != 0) then some (0, r_4) else (kit_IsMoment atv_2).bind fun r_7 => bif (!r_7) then some (0, 1) else (booking_due c_1 atv_2).bind fun r_10 => some (r_10, 0)
theorem booking_Due_le (c_1 : Campaign) (atv_2 : Int) : Le (booking_DueF c_1 atv_2) (booking_Due c_1 atv_2) := by
 unfold booking_DueF booking_Due
 repeat' (with_reducible first | exact Le.refl _ | exact booking_CheckCampaigns_le _ | refine Le.loop (fun _ => ?_) | refine Le.forL (fun _ _ _ => ?_) | refine Le.thenC (fun _ => ?_) (fun _ => ?_) | refine Le.cond ?_ ?_ | refine Le.bind ?_ (fun _ => ?_))
def proof_CheckBeats_L1F (l_1 : (List Beat)) (k_3 : Nat) (x_5 : Beat) (s_8 : Unit) : Option (Ctl (Unit) (Int)) :=
 (kit_IsKeyF x_5.Player).bind fun r_14 => bif (!r_14) then some (.ret 5) else ((kit_IsMoment x_5.At).bind fun r_19 => bif (!r_19) then some true else (kit_Outside x_5.Clock 0 345686399999).bind fun r_22 => some r_22).bind fun v_17 => bif v_17 then some (.ret 1) else (bif (decide ((k_3 : Int) > 0)) then (idx l_1 (w64 ((k_3 : Int) - 1))).bind fun y_28 => (proof_compareBeats y_28 x_5).bind fun r_30 => some (decide (r_30 ≥ 0)) else some false).bind fun v_25 => bif v_25 then some (.ret 7) else (bif (decide ((k_3 : Int) > 0)) then (idx l_1 (w64 ((k_3 : Int) - 1))).bind fun y_36 => bif (sEq x_5.Player y_36.Player) then (idx l_1 (w64 ((k_3 : Int) - 1))).bind fun y_39 => some (decide (x_5.Clock ≤ y_39.Clock)) else some false else some false).bind fun v_33 => bif v_33 then some (.ret 16) else some (.go ())
theorem proof_CheckBeats_L1_le (l_1 : (List Beat)) (k_3 : Nat) (x_5 : Beat) (s_8 : Unit) : Le (proof_CheckBeats_L1F l_1 k_3 x_5 s_8) (proof_CheckBeats_L1 l_1 k_3 x_5 s_8) := by
 unfold proof_CheckBeats_L1F proof_CheckBeats_L1
 repeat' (with_reducible first | exact Le.refl _ | exact kit_IsKey_le _ | refine Le.loop (fun _ => ?_) | refine Le.forL (fun _ _ _ => ?_) | refine Le.thenC (fun _ => ?_) (fun _ => ?_) | refine Le.cond ?_ ?_ | refine Le.bind ?_ (fun _ => ?_))
def proof_CheckBeatsF (l_1 : (List Beat)) : Option (Int) :=
 bif (decide ((l_1.length : Int) > 500)) then some 2 else (forL l_1 () (fun k x s => proof_CheckBeats_L1F l_1 k x s)).bind fun o_11 => thenC o_11 (fun s_8 => some 0) (fun r => some r)
theorem proof_CheckBeats_le (l_1 : (List Beat)) : Le (proof_CheckBeatsF l_1) (proof_CheckBeats l_1) := by
 unfold proof_CheckBeatsF proof_CheckBeats
 repeat' (with_reducible first | exact Le.refl _ | exact proof_CheckBeats_L1_le _ _ _ _ | refine Le.loop (fun _ => ?_) | refine Le.forL (fun _ _ _ => ?_) | refine Le.thenC (fun _ => ?_) (fun _ => ?_) | refine Le.cond ?_ ?_ | refine Le.bind ?_ (fun _ => ?_))
def proof_mappedF (l_1 : (List Beat_)) (n_2 : Int) : Option (Int × Int) :=
 bif ((l_1.length : Int) == 0) then some (0, 8) else (loopF 0 (fun s => proof_mapped_L1 l_1 n_2 s)).bind fun o_12 => thenC o_12 (fun s_9 => bif (s_9 == 0) then (idx l_1 0).bind fun y_21 => (idx l_1 0).bind fun y_23 => (kit_IsMoment (w64 (y_21.f_to - (w64 (y_23.f_from - n_2))))).bind fun r_25 => bif (!r_25) then some (0, 11) else some ((w64 (y_21.f_to - (w64 (y_23.f_from - n_2)))), 0) else bif (s_9 == (l_1.length : Int)) then (idx l_1 (w64 (s_9 - 1))).bind fun y_29 => (idx l_1 (w64 (s_9 - 1))).bind fun y_31 => (kit_IsMoment (w64 ((w64 (y_29.f_to + n_2)) - y_31.f_from))).bind fun r_33 => bif (!r_33) then some (0, 11) else some ((w64 ((w64 (y_29.f_to + n_2)) - y_31.f_from)), 0) else (idx l_1 (w64 (s_9 - 1))).bind fun y_36 => (idx l_1 s_9).bind fun y_38 => (bif (decide ((w64 (y_38.f_from - y_36.f_from)) > 2592000000)) then some true else some (decide ((w64 (y_38.f_to - y_36.f_to)) > 2592000000))).bind fun v_42 => bif v_42 then some (0, 2) else (quoO .i64 (w64 ((w64 (n_2 - y_36.f_from)) * (w64 (y_38.f_to - y_36.f_to)))) (w64 (y_38.f_from - y_36.f_from))).bind fun q_46 => (kit_IsMoment (w64 (y_36.f_to + q_46))).bind fun r_48 => bif (!r_48) then some (0, 11) else some ((w64 (y_36.f_to + q_46)), 0)) (fun _ => none)
theorem proof_mapped_le (l_1 : (List Beat_)) (n_2 : Int) : Le (proof_mappedF l_1 n_2) (proof_mapped l_1 n_2) := by
 unfold proof_mappedF proof_mapped
 repeat' (with_reducible first | exact Le.refl _ | refine Le.loop (fun _ => ?_) | refine Le.forL (fun _ _ _ => ?_) | refine Le.thenC (fun _ => ?_) (fun _ => ?_) | refine Le.cond ?_ ?_ | refine Le.bind ?_ (fun _ => ?_))
def proof_askedF (l_1 : (List Beat)) (player_2 : ByteArray) (n_3 : Int) (back_4 : Bool) : Option (Int × Int) :=
 (proof_CheckBeatsF l_1).bind fun r_5 => bif (r_5 != 0) then some (0, r_5) else (kit_IsKeyF player_2).bind fun r_8 => bif (!r_8) then some (0, 5) else (kit_IsMoment n_3).bind fun r_11 => bif (!r_11) then some (0, 1) else (proof_beatsOf l_1 player_2 back_4).bind fun r_14 => (proof_mappedF r_14 n_3).bind fun r_16 => some (r_16.1, r_16.2)
theorem proof_asked_le (l_1 : (List Beat)) (player_2 : ByteArray) (n_3 : Int) (back_4 : Bool) : Le (proof_askedF l_1 player_2 n_3 back_4) (proof_asked l_1 player_2 n_3 back_4) := by
 unfold proof_askedF proof_asked
 repeat' (with_reducible first | exact Le.refl _ | exact kit_IsKey_le _ | exact proof_CheckBeats_le _ | exact proof_mapped_le _ _ | refine Le.loop (fun _ => ?_) | refine Le.forL (fun _ _ _ => ?_) | refine Le.thenC (fun _ => ?_) (fun _ => ?_) | refine Le.cond ?_ ?_ | refine Le.bind ?_ (fun _ => ?_))
def proof_RightF (l_1 : (List Beat)) (player_2 : ByteArray) (clock_3 : Int) : Option (Int × Int) :=
 (proof_askedF l_1 player_2 clock_3 false).bind fun r_4 => some (r_4.1, r_4.2)
theorem proof_Right_le (l_1 : (List Beat)) (player_2 : ByteArray) (clock_3 : Int) : Le (proof_RightF l_1 player_2 clock_3) (proof_Right l_1 player_2 clock_3) := by
 unfold proof_RightF proof_Right
 repeat' (with_reducible first | exact Le.refl _ | exact proof_asked_le _ _ _ _ | refine Le.loop (fun _ => ?_) | refine Le.forL (fun _ _ _ => ?_) | refine Le.thenC (fun _ => ?_) (fun _ => ?_) | refine Le.cond ?_ ?_ | refine Le.bind ?_ (fun _ => ?_))
def signtop_h10factsF  : Option (Bool) :=
 (screen_AreaF ([(⟨0, 0, 2, 2⟩ : Rect), (⟨1, 1, 2, 2⟩ : Rect)] : List Rect)).bind fun r_1 => (booking_DueF (⟨(⟨#[97]⟩ : ByteArray), (⟨#[]⟩ : ByteArray), (⟨0, 100⟩ : Window), ([] : List ByteArray), 10, 0, 0⟩ : Campaign) 50).bind fun r_3 => (proof_RightF ([(⟨(⟨#[112]⟩ : ByteArray), 0, 100⟩ : Beat), (⟨(⟨#[112]⟩ : ByteArray), 1000, 1300⟩ : Beat)] : List Beat) (⟨#[112]⟩ : ByteArray) 700).bind fun r_5 => (schedule_TimesF (⟨(⟨#[97]⟩ : ByteArray), (⟨#[98]⟩ : ByteArray), 0, 0, 0, 1, 127, ([] : List Int), 1, 2, 0, ([] : List ByteArray), false⟩ : Entry) 0 (⟨0, 86400000⟩ : Window)).bind fun r_7 => (bif (r_1.2 == 0) then bif (r_3.2 == 0) then bif (r_5.2 == 0) then bif (r_7.2 == 0) then bif (r_1.1 == 7) then bif (r_3.1 == 5) then bif (r_5.1 == 500) then some ((r_7.1.length : Int) == 1) else some false else some false else some false else some false else some false else some false else some false).bind fun v_9 => some v_9
theorem signtop_h10facts_le  : Le (signtop_h10factsF) (signtop_h10facts) := by
 unfold signtop_h10factsF signtop_h10facts
 repeat' (with_reducible first | exact Le.refl _ | exact screen_Area_le _ | exact schedule_Times_le _ _ _ | exact booking_Due_le _ _ | exact proof_Right_le _ _ _ | refine Le.loop (fun _ => ?_) | refine Le.forL (fun _ _ _ => ?_) | refine Le.thenC (fun _ => ?_) (fun _ => ?_) | refine Le.cond ?_ ?_ | refine Le.bind ?_ (fun _ => ?_))
end Go.Proofs.YtpojeclokolkaaaGreatDoor.Law

open Go Go.Eng
namespace Go.Proofs.YtpojeclokolkaaaGreatDoor.Law
set_option linter.unusedVariables false
set_option maxRecDepth 100000
theorem facts_F : signtop_h10factsF = some true := by kernel_rfl
theorem facts_ok : signtop_h10facts = some true := signtop_h10facts_le _ facts_F
end Go.Proofs.YtpojeclokolkaaaGreatDoor.Law

open Go Go.Eng
namespace Go.Proofs.YtpojeclokolkaaaGreatDoor.Law
set_option linter.unusedVariables false
set_option linter.unusedSimpArgs false
theorem meet_spot {y : Rect} {px py : Int} (h : Fine y) : (meetR y ⟨px, py, 1, 1⟩).2 = has1 px py y := by
 unfold Fine at h
 rw [Bool.eq_iff_iff]
 unfold meetR has1
 simp only []
 by_cases h1 : y.X ≤ px ∧ px < y.X + y.W ∧ y.Y ≤ py ∧ py < y.Y + y.H
 ·rw [decide_eq_false (by omega), decide_eq_false (by omega)]
  simp [h1]
 ·have h2 : (decide (min (y.X + y.W) (px + 1) - max y.X px ≤ 0) || decide (min (y.Y + y.H) (py + 1) - max y.Y py ≤ 0)) = true := by
   rw [Bool.or_eq_true, decide_eq_true_eq, decide_eq_true_eq]; omega
  rw [h2]
  simp only [cond_true, Bool.and_eq_true, decide_eq_true_eq, false_iff, Bool.false_eq_true]
  omega
theorem meets_loop {R : List Rect} (hR : ∀ r ∈ R, Fine r) (hl : R.length ≤ 100000) {r3 r6 : Int × Stream} (h3 : -1000 ≤ r3.1 ∧ r3.1 ≤ 1000) (h6 : -1000 ≤ r6.1 ∧ r6.1 ≤ 1000) :
  forL R (false, (0 : Int)) (fun k x s => signtop_TopAreasAreSeen_L1 r3 r6 k x s) = some (.go (hasB R r3.1 r6.1, 0)) := by
 have hf : Fine ⟨r3.1, r6.1, 1, 1⟩ := by unfold Fine; simp only []; omega
 obtain ⟨t, e, ht⟩ := forL_at (body := fun k x s => signtop_TopAreasAreSeen_L1 r3 r6 k x s) (fun k s => s = (hasB (R.take k) r3.1 r6.1, 0)) (xs := R) (s := (false, (0 : Int))) (by omega) (fun k x s hx hs => by
  have et : R.take (k + 1) = R.take k ++ [x] := by rw [List.take_add_one, hx]; rfl
  have hfx := hR x (List.mem_of_getElem? hx)
  unfold signtop_TopAreasAreSeen_L1
  rw [Meet_fine hfx hf, Option.bind_some]
  simp only [bne_self_eq_false, cond_false, meet_spot hfx]
  rw [hs]
  have eh : hasB (R.take (k + 1)) r3.1 r6.1 = (hasB (R.take k) r3.1 r6.1 || has1 r3.1 r6.1 x) := by
   rw [et]; unfold hasB; rw [List.any_append]; simp
  cases h1 : has1 r3.1 r6.1 x with
  | true => exact ⟨_, rfl, by rw [eh, h1, Bool.or_true]⟩
  | false => exact ⟨_, rfl, by rw [eh, h1, Bool.or_false]⟩) rfl
 rw [e, ht, List.take_length]
theorem topAreasAreSeen (l : List Int) : signtop_TopAreasAreSeen l = some true := by
 unfold signtop_TopAreasAreSeen
 have h0 : Ok (⟨l, 0⟩ : Stream) 0 := ⟨Int.le_refl _, Int.le_refl _⟩
 obtain ⟨px, s1, a1, a2, a3, a4⟩ := range_ok _ (-3) 12 h0 (by decide) (by decide) (by decide) (by decide)
 obtain ⟨py, s2, b1, b2, b3, b4⟩ := range_ok s1 (-3) 12 a4 (by decide) (by decide) (by decide) (by decide)
 obtain ⟨al, s3, c1, c2, c3⟩ := rightAlerts 5 (by decide) s2 b4 (by decide)
 have hal := c2.len
 simp only [a1, b1, c1, Option.bind_some]
 obtain ⟨u, e, _⟩ := forL_at (body := fun k x s => signtop_TopAreasAreSeen_L2 (px, s1) (py, s2) k x s) (fun _ _ => True) (xs := al) (s := ()) (by omega) (fun k x s hx _ => by
  refine ⟨(), ?_, trivial⟩
  have hR := c2.right x (List.mem_of_getElem? hx)
  have hfa : ∀ r ∈ x.Areas, Fine r := fun r hr => (hR.areas r hr).1
  have hla := hR.alen
  obtain ⟨R, r1, r2, r3⟩ := Region_reg x.Areas 2 (by decide) hfa (fun y => Nat.le_trans (rowB_le _ _) hla) (by omega) (by omega)
  obtain ⟨rf, _, _⟩ := r3.facts hfa
  have hp : RightPo ⟨⟨#[112, 97]⟩, px, py⟩ := paP_right (by omega) (by omega)
  unfold signtop_TopAreasAreSeen_L2
  rw [r1, Option.bind_some, Reaches_ok hR hp, Option.bind_some]
  simp only []
  rw [meets_loop rf (by omega) (r3 := (px, s1)) (r6 := (py, s2)) (by simp only []; omega) (by simp only []; omega)]
  simp only [Option.bind_some, thenC, bne_self_eq_false, cond_false]
  have : hasB R px py = hasB x.Areas px py := by
   rw [Bool.eq_iff_iff, hasB_iff, hasB_iff, r3.has hfa]
   exact ⟨fun h => h.1, fun h => ⟨h, not_nil⟩⟩
  rw [this]
  simp) trivial
 rw [e]
 simp only [Option.bind_some, thenC, facts_ok]
end Go.Proofs.YtpojeclokolkaaaGreatDoor.Law

