/-
  The functions of the program, as plain functions over data (written by a program of ours).
-/
import Derived.Test.YtodfcleaapnklaaEng4
open Go Go.Eng
namespace Go.Proofs.Ytodfcleaapnklaa.Law
set_option maxRecDepth 100000
set_option linter.unusedVariables false
set_option maxHeartbeats 1000000
structure Stream where
  L : (List Int)
  f_at : Int
def Stream.enc (s : Stream) : List D := [dl eI s.L, .int .i64 s.f_at]

structure Rect where
  X : Int
  Y : Int
  W : Int
  H : Int
def Rect.enc (s : Rect) : List D := [.int .i64 s.X, .int .i64 s.Y, .int .i64 s.W, .int .i64 s.H]

structure Run where
  f_from : Int
  f_to : Int
def Run.enc (s : Run) : List D := [.int .i64 s.f_from, .int .i64 s.f_to]

def mk_Below (x_1 : Int) (n_2 : Int) : Option (Int) :=
  bif (decide (n_2 < 1)) then some 0 else (remO .i64 x_1 n_2).bind fun q_4 => (bif (decide (q_4 < 0)) then some (w64 (q_4 + n_2)) else some q_4).bind fun v_6 => some v_6
def mk_Stream_Next (s_1 : Stream) (n_2 : Int) : Option (Int × Stream) :=
  bif ((s_1.L.length : Int) == 0) then (mk_Below (w64 ((w64 (s_1.f_at + 1)) * 7919)) n_2).bind fun r_4 => some (r_4, (⟨s_1.L, (w64 (s_1.f_at + 1))⟩ : Stream)) else (remO .i64 (w64 ((w64 (s_1.f_at + 1)) - 1)) (s_1.L.length : Int)).bind fun q_6 => (quoO .i64 (w64 ((w64 (s_1.f_at + 1)) - 1)) (s_1.L.length : Int)).bind fun q_8 => (idx s_1.L q_6).bind fun y_10 => (mk_Below y_10 1073741824).bind fun r_12 => (mk_Below (w64 (r_12 + (w64 (q_8 * (w64 (7919 + q_6)))))) n_2).bind fun r_14 => some (r_14, (⟨s_1.L, (w64 (s_1.f_at + 1))⟩ : Stream))
def mk_Stream_Range (s_1 : Stream) (low_2 : Int) (high_3 : Int) : Option (Int × Stream) :=
  bif (decide (high_3 < low_2)) then some (low_2, s_1) else (mk_Stream_Next s_1 (w64 ((w64 (high_3 - low_2)) + 1))).bind fun r_5 => some ((w64 (low_2 + r_5.1)), r_5.2)
def mk_Stream_RightRect (s_1 : Stream) : Option (Rect × Stream) :=
  (mk_Stream_Range s_1 (-2) 8).bind fun r_3 => (mk_Stream_Range r_3.2 (-2) 8).bind fun r_6 => (mk_Stream_Range r_6.2 1 5).bind fun r_9 => (mk_Stream_Range r_9.2 1 5).bind fun r_12 => some ((⟨r_3.1, r_6.1, r_9.1, r_12.1⟩ : Rect), r_12.2)
def mk_Stream_Flip (s_1 : Stream) (n_2 : Int) : Option (Bool × Stream) :=
  (mk_Stream_Next s_1 n_2).bind fun r_3 => some ((r_3.1 == 0), r_3.2)
def mk_Stream_Pick (s_1 : Stream) (l_2 : (List Int)) : Option (Int × Stream) :=
  (mk_Stream_Next s_1 (l_2.length : Int)).bind fun r_3 => (idx l_2 r_3.1).bind fun y_6 => some (y_6, r_3.2)
def mk_Stream_Odd (s_1 : Stream) (low_2 : Int) (high_3 : Int) : Option (Int × Stream) :=
  (mk_Stream_Flip s_1 12).bind fun r_4 => bif r_4.1 then (mk_Stream_Pick r_4.2 ([(w64 (low_2 - 1)), (w64 (high_3 + 1)), low_2, high_3, (-1099511627776), 1099511627776] : List Int)).bind fun r_8 => some (r_8.1, r_8.2) else (mk_Stream_Range r_4.2 low_2 high_3).bind fun r_11 => some (r_11.1, r_11.2)
def mk_Stream_Rect (s_1 : Stream) : Option (Rect × Stream) :=
  (mk_Stream_RightRect s_1).bind fun r_3 => (mk_Stream_Flip r_3.2 20).bind fun r_7 => (bif r_7.1 then (mk_Stream_Next r_7.2 3).bind fun r_13 => bif (r_13.1 == 0) then (mk_Stream_Odd r_13.2 (-100000) 99999).bind fun r_17 => some (r_17.2.L, r_17.2.f_at, r_17.1, r_3.1.Y, r_3.1.W, r_3.1.H) else bif (r_13.1 == 1) then (mk_Stream_Odd r_13.2 1 200000).bind fun r_21 => (mk_Stream_Odd r_21.2 1 5).bind fun r_24 => some (r_24.2.L, r_24.2.f_at, r_3.1.X, r_3.1.Y, r_21.1, r_24.1) else (mk_Stream_Pick r_13.2 ([(-100000), 99999] : List Int)).bind fun r_27 => (mk_Stream_Pick r_27.2 ([1, 2, 200000] : List Int)).bind fun r_30 => some (r_30.2.L, r_30.2.f_at, r_3.1.X, r_27.1, r_3.1.W, r_30.1) else some (r_7.2.L, r_7.2.f_at, r_3.1.X, r_3.1.Y, r_3.1.W, r_3.1.H)).bind fun v_10 => some ((⟨v_10.2.2.1, v_10.2.2.2.1, v_10.2.2.2.2.1, v_10.2.2.2.2.2⟩ : Rect), (⟨v_10.1, v_10.2.1⟩ : Stream))
def mk_Stream_Rects_L1 (k_6 : Nat) (x_8 : Nat) (s_11 : (List Rect) × (List Int) × Int) : Option (Ctl ((List Rect) × (List Int) × Int) (Unit)) :=
  (mk_Stream_RightRect (⟨s_11.2.1, s_11.2.2⟩ : Stream)).bind fun r_19 => (mk_Stream_Flip r_19.2 60).bind fun r_23 => (bif r_23.1 then (mk_Stream_Rect r_23.2).bind fun r_29 => some (r_29.2.L, r_29.2.f_at, r_29.1.X, r_29.1.Y, r_29.1.W, r_29.1.H) else some (r_23.2.L, r_23.2.f_at, r_19.1.X, r_19.1.Y, r_19.1.W, r_19.1.H)).bind fun v_26 => (appL s_11.1 ([(⟨v_26.2.2.1, v_26.2.2.2.1, v_26.2.2.2.2.1, v_26.2.2.2.2.2⟩ : Rect)] : List Rect)).bind fun a_32 => some (.go (a_32, v_26.1, v_26.2.1))
def mk_Stream_Rects (s_1 : Stream) (most_2 : Int) : Option ((List Rect) × Stream) :=
  (mk_Stream_Range s_1 0 most_2).bind fun r_3 => (forL (List.range (r_3.1).toNat) (([] : List Rect), r_3.2.L, r_3.2.f_at) (fun k x s => mk_Stream_Rects_L1 k x s)).bind fun o_17 => thenC o_17 (fun s_11 => some (s_11.1, (⟨s_11.2.1, s_11.2.2⟩ : Stream))) (fun _ => none)
def kit_Outside (n_1 : Int) (low_2 : Int) (high_3 : Int) : Option (Bool) :=
  (bif (decide (n_1 < low_2)) then some true else some (decide (n_1 > high_3))).bind fun v_4 => some v_4
def screen_CheckRect (r_1 : Rect) : Option (Int) :=
  ((kit_Outside r_1.X (-100000) 100000).bind fun r_5 => bif r_5 then some true else (kit_Outside r_1.Y (-100000) 100000).bind fun r_8 => some r_8).bind fun v_3 => bif v_3 then some 1 else ((kit_Outside r_1.W 1 (w64 (100000 - r_1.X))).bind fun r_13 => bif r_13 then some true else (kit_Outside r_1.H 1 (w64 (100000 - r_1.Y))).bind fun r_16 => some r_16).bind fun v_11 => bif v_11 then some 1 else some 0
def screen_meet (a_1 : Rect) (b_2 : Rect) : Option (Rect × Bool) :=
  (bif (decide ((w64 ((minI (w64 (a_1.X + a_1.W)) (w64 (b_2.X + b_2.W))) - (maxI a_1.X b_2.X))) ≤ 0)) then some true else some (decide ((w64 ((minI (w64 (a_1.Y + a_1.H)) (w64 (b_2.Y + b_2.H))) - (maxI a_1.Y b_2.Y))) ≤ 0))).bind fun v_6 => bif v_6 then some ((⟨0, 0, 0, 0⟩ : Rect), false) else some ((⟨(maxI a_1.X b_2.X), (maxI a_1.Y b_2.Y), (w64 ((minI (w64 (a_1.X + a_1.W)) (w64 (b_2.X + b_2.W))) - (maxI a_1.X b_2.X))), (w64 ((minI (w64 (a_1.Y + a_1.H)) (w64 (b_2.Y + b_2.H))) - (maxI a_1.Y b_2.Y)))⟩ : Rect), true)
def screen_Meet_L1 (a_1 : Rect) (b_2 : Rect) (k_6 : Nat) (x_8 : Nat) (s_11 : Unit) : Option (Ctl (Unit) (Rect × Bool × Int)) :=
  (idx ([a_1, b_2] : List Rect) (k_6 : Int)).bind fun y_16 => (screen_CheckRect y_16).bind fun r_19 => bif (r_19 != 0) then some (.ret ((⟨0, 0, 0, 0⟩ : Rect), false, r_19)) else some (.go ())
def screen_Meet (a_1 : Rect) (b_2 : Rect) : Option (Rect × Bool × Int) :=
  (forL (List.range (2 : Int).toNat) () (fun k x s => screen_Meet_L1 a_1 b_2 k x s)).bind fun o_14 => thenC o_14 (fun s_11 => (screen_meet a_1 b_2).bind fun r_22 => some (r_22.1, r_22.2, 0)) (fun r => some r)
def screen_rectsFault_L1 (k_3 : Nat) (x_5 : Rect) (s_8 : Unit) : Option (Ctl (Unit) (Int)) :=
  (screen_CheckRect x_5).bind fun r_14 => bif (r_14 != 0) then some (.ret r_14) else some (.go ())
def screen_rectsFault (l_1 : (List Rect)) : Option (Int) :=
  bif (decide ((l_1.length : Int) > 2000)) then some 2 else (forL l_1 () (fun k x s => screen_rectsFault_L1 k x s)).bind fun o_11 => thenC o_11 (fun s_8 => some 0) (fun r => some r)
def slices_Grow_api_Rect_api_Rect_k (n_1 : Int) : Option Bool :=
  bif (decide (n_1 < 0)) then none else bif (decide ((w64 (n_1 - (w64 (0 - 0)))) > 0)) then (zN (w64 (n_1 - (w64 (0 - 0)))) 32).bind fun _ => some true else some false
def slices_Concat_api_Rect_api_Rect_L1 (k_2 : Nat) (x_4 : (List Rect)) (s_7 : Int) : Option (Ctl (Int) (Unit)) :=
  (bif (decide ((w64 (s_7 + (x_4.length : Int))) < 0)) then none else some ()).bind fun v_12 => some (.go (w64 (s_7 + (x_4.length : Int))))
def slices_Concat_api_Rect_api_Rect_L2 (k_18 : Nat) (x_20 : (List Rect)) (s_23 : (List Rect)) : Option (Ctl ((List Rect)) (Unit)) :=
  (appL s_23 x_20).bind fun a_30 => some (.go a_30)
def slices_Concat_api_Rect_api_Rect (slices_1 : (List (List Rect))) : Option ((List Rect)) :=
  (forL slices_1 0 (fun k x s => slices_Concat_api_Rect_api_Rect_L1 k x s)).bind fun o_10 => thenC o_10 (fun s_7 => (slices_Grow_api_Rect_api_Rect_k s_7).bind fun b_15 => (forL slices_1 ([] : List Rect) (fun k x s => slices_Concat_api_Rect_api_Rect_L2 k x s)).bind fun o_28 => thenC o_28 (fun s_23 => some s_23) (fun _ => none)) (fun _ => none)
def slices_Sort_int_int_v1 (x : (List Int)) : Option ((List Int)) :=
  sortI x
def slices_Compact_int_int_v1_L1 (s_1 : (List Int)) (s_8 : Int) (s_28 : (List Int) × Int × Int) : Option (Ctl ((List Int) × Int × Int) (Unit)) :=
  bif (decide (s_28.2.2 < (((((s_1.length : Int)).toNat - (s_8).toNat) : Nat) : Int))) then (inN s_28.2.2 (((s_1.length : Int)).toNat - (s_8).toNat)).bind fun _ => (s_28.1[(((s_8).toNat) + (s_28.2.2).toNat)]?).bind fun e_35 => (inN (w64 (s_28.2.2 - 1)) (((s_1.length : Int)).toNat - (s_8).toNat)).bind fun _ => (s_28.1[(((s_8).toNat) + ((w64 (s_28.2.2 - 1))).toNat)]?).bind fun e_38 => (bif (e_35 != e_38) then (inN s_28.2.2 (((s_1.length : Int)).toNat - (s_8).toNat)).bind fun _ => (s_28.1[(((s_8).toNat) + (s_28.2.2).toNat)]?).bind fun e_44 => (inR s_28.2.1 s_28.1).bind fun _ => (s_28.1[(0 + (s_28.2.1).toNat)]?).bind fun e_47 => some ((s_28.1.set (0 + (s_28.2.1).toNat) e_44), (w64 (s_28.2.1 + 1))) else some (s_28.1, s_28.2.1)).bind fun v_40 => some (.go (v_40.1, v_40.2, (w64 (s_28.2.2 + 1)))) else some (.brk (s_28.1, s_28.2.1, s_28.2.2))
noncomputable def slices_Compact_int_int_v1_L2 (s_1 : (List Int)) (s_8 : Int) : Option (Ctl (Int) ((List Int))) :=
  bif (decide (s_8 < (s_1.length : Int))) then (inR s_8 s_1).bind fun _ => (s_1[(0 + (s_8).toNat)]?).bind fun e_15 => (inR (w64 (s_8 - 1)) s_1).bind fun _ => (s_1[(0 + ((w64 (s_8 - 1))).toNat)]?).bind fun e_18 => bif (e_15 == e_18) then (neL s_1).bind fun _ => (subR s_1 s_8 (s_1.length : Int)).bind fun _ => (loopO (s_1, s_8, 1) (fun s => slices_Compact_int_int_v1_L1 s_1 s_8 s)).bind fun o_31 => thenC o_31 (fun s_28 => (subR s_28.1 s_28.2.1 (s_28.1.length : Int)).bind fun _ => (subR (s_28.1.take ((s_28.2.1).toNat) ++ List.replicate (((s_28.1.length : Int)).toNat - (s_28.2.1).toNat) 0 ++ s_28.1.drop (((s_28.2.1).toNat) + (((s_28.1.length : Int)).toNat - (s_28.2.1).toNat))) 0 s_28.2.1).bind fun _ => some (.ret (cutL (s_28.1.take ((s_28.2.1).toNat) ++ List.replicate (((s_28.1.length : Int)).toNat - (s_28.2.1).toNat) 0 ++ s_28.1.drop (((s_28.2.1).toNat) + (((s_28.1.length : Int)).toNat - (s_28.2.1).toNat))) 0 ((s_28.2.1).toNat)))) (fun _ => none) else some (.go (w64 (s_8 + 1))) else some (.brk s_8)
noncomputable def slices_Compact_int_int_v1 (s_1 : (List Int)) : Option ((List Int)) :=
  bif (decide ((s_1.length : Int) < 2)) then some s_1 else (loopO 1 (fun s => slices_Compact_int_int_v1_L2 s_1 s)).bind fun o_11 => thenC o_11 (fun s_8 => some s_1) (fun r => some r)
def screen_runs_1 (a_1 : Run) (b_2 : Run) : Option (Int) :=
  some (w64 (a_1.f_from - b_2.f_from))
def math_bits_Len64 (x_1 : Int) : Option (Int) :=
  (bif (decide (x_1 ≥ 4294967296)) then (shrO .u64 x_1 32).bind fun q_5 => some (q_5, 32) else some (x_1, 0)).bind fun v_2 => (bif (decide (v_2.1 ≥ 65536)) then (shrO .u64 v_2.1 16).bind fun q_10 => some (q_10, (w64 (v_2.2 + 16))) else some (v_2.1, v_2.2)).bind fun v_7 => (bif (decide (v_7.1 ≥ 256)) then (shrO .u64 v_7.1 8).bind fun q_15 => some (q_15, (w64 (v_7.2 + 8))) else some (v_7.1, v_7.2)).bind fun v_12 => (idxS (⟨#[0, 1, 2, 2, 3, 3, 3, 3, 4, 4, 4, 4, 4, 4, 4, 4, 5, 5, 5, 5, 5, 5, 5, 5, 5, 5, 5, 5, 5, 5, 5, 5, 6, 6, 6, 6, 6, 6, 6, 6, 6, 6, 6, 6, 6, 6, 6, 6, 6, 6, 6, 6, 6, 6, 6, 6, 6, 6, 6, 6, 6, 6, 6, 6, 7, 7, 7, 7, 7, 7, 7, 7, 7, 7, 7, 7, 7, 7, 7, 7, 7, 7, 7, 7, 7, 7, 7, 7, 7, 7, 7, 7, 7, 7, 7, 7, 7, 7, 7, 7, 7, 7, 7, 7, 7, 7, 7, 7, 7, 7, 7, 7, 7, 7, 7, 7, 7, 7, 7, 7, 7, 7, 7, 7, 7, 7, 7, 7, 8, 8, 8, 8, 8, 8, 8, 8, 8, 8, 8, 8, 8, 8, 8, 8, 8, 8, 8, 8, 8, 8, 8, 8, 8, 8, 8, 8, 8, 8, 8, 8, 8, 8, 8, 8, 8, 8, 8, 8, 8, 8, 8, 8, 8, 8, 8, 8, 8, 8, 8, 8, 8, 8, 8, 8, 8, 8, 8, 8, 8, 8, 8, 8, 8, 8, 8, 8, 8, 8, 8, 8, 8, 8, 8, 8, 8, 8, 8, 8, 8, 8, 8, 8, 8, 8, 8, 8, 8, 8, 8, 8, 8, 8, 8, 8, 8, 8, 8, 8, 8, 8, 8, 8, 8, 8, 8, 8, 8, 8, 8, 8, 8, 8, 8, 8, 8, 8, 8, 8, 8, 8, 8, 8, 8, 8, 8, 8]⟩ : ByteArray) (IntKind.u8.wrap v_12.1)).bind fun b_17 => some (w64 (v_12.2 + (w64 (b_17.toNat : Int))))
def math_bits_Len (x_1 : Int) : Option (Int) :=
  (math_bits_Len64 x_1).bind fun r_2 => some r_2
def slices_insertionSortCmpFunc_screen_run_v1_L1 (a_2 : Int) (s_21 : (List Run) × Int) : Option (Ctl ((List Run) × Int) (Unit)) :=
  (bif (decide (s_21.2 > a_2)) then (inR s_21.2 s_21.1).bind fun _ => (s_21.1[(0 + (s_21.2).toNat)]?).bind fun e_30 => (inR (w64 (s_21.2 - 1)) s_21.1).bind fun _ => (s_21.1[(0 + ((w64 (s_21.2 - 1))).toNat)]?).bind fun e_33 => (screen_runs_1 e_30 e_33).bind fun r_35 => some (decide (r_35 < 0)) else some false).bind fun v_26 => bif v_26 then (inR (w64 (s_21.2 - 1)) s_21.1).bind fun _ => (s_21.1[(0 + ((w64 (s_21.2 - 1))).toNat)]?).bind fun e_39 => (inR s_21.2 s_21.1).bind fun _ => (s_21.1[(0 + (s_21.2).toNat)]?).bind fun e_42 => (inR s_21.2 s_21.1).bind fun _ => (s_21.1[(0 + (s_21.2).toNat)]?).bind fun e_45 => (inR (w64 (s_21.2 - 1)) (s_21.1.set (0 + (s_21.2).toNat) e_39)).bind fun _ => ((s_21.1.set (0 + (s_21.2).toNat) e_39)[(0 + ((w64 (s_21.2 - 1))).toNat)]?).bind fun e_48 => some (.go (((s_21.1.set (0 + (s_21.2).toNat) e_39).set (0 + ((w64 (s_21.2 - 1))).toNat) e_42), (w64 (s_21.2 - 1)))) else some (.brk (s_21.1, s_21.2))
noncomputable def slices_insertionSortCmpFunc_screen_run_v1_L2 (b_3 : Int) (a_2 : Int) (s_10 : (List Run) × Int) : Option (Ctl ((List Run) × Int) (Unit)) :=
  bif (decide (s_10.2 < b_3)) then (loopO (s_10.1, s_10.2) (fun s => slices_insertionSortCmpFunc_screen_run_v1_L1 a_2 s)).bind fun o_24 => thenC o_24 (fun s_21 => some (.go (s_21.1, (w64 (s_10.2 + 1))))) (fun _ => none) else some (.brk (s_10.1, s_10.2))
noncomputable def slices_insertionSortCmpFunc_screen_run_v1 (data_1 : (List Run)) (a_2 : Int) (b_3 : Int) : Option ((List Run)) :=
  (loopO (data_1, (w64 (a_2 + 1))) (fun s => slices_insertionSortCmpFunc_screen_run_v1_L2 b_3 a_2 s)).bind fun o_13 => thenC o_13 (fun s_10 => some s_10.1) (fun _ => none)
noncomputable def slices_pdqsortCmpFunc_screen_run_v1_L1 (b_3 : Int) (a_2 : Int) (data_1 : (List Run)) (limit_4 : Int) (s_11 : Unit) : Option (Ctl (Unit) ((List Run))) :=
  bif (decide ((w64 (b_3 - a_2)) ≤ 12)) then (slices_insertionSortCmpFunc_screen_run_v1 data_1 a_2 b_3).bind fun r_17 => (sameL r_17 data_1).bind fun _ => some (.ret r_17) else bif (limit_4 == 0) then none else none
noncomputable def slices_pdqsortCmpFunc_screen_run_v1 (data_1 : (List Run)) (a_2 : Int) (b_3 : Int) (limit_4 : Int) : Option ((List Run)) :=
  (loopO () (fun s => slices_pdqsortCmpFunc_screen_run_v1_L1 b_3 a_2 data_1 limit_4 s)).bind fun o_14 => thenC o_14 (fun s_11 => some data_1) (fun r => some r)
noncomputable def slices_SortFunc_screen_run_screen_run_v1 (x_1 : (List Run)) : Option ((List Run)) :=
  (math_bits_Len (IntKind.u64.wrap (x_1.length : Int))).bind fun r_3 => (slices_pdqsortCmpFunc_screen_run_v1 x_1 0 (x_1.length : Int) r_3).bind fun r_5 => (sameL r_5 x_1).bind fun _ => some r_5
def screen_runs_L1 (y_2 : Int) (k_3 : Nat) (x_5 : Rect) (s_8 : (List Run)) : Option (Ctl ((List Run)) (Unit)) :=
  (bif (decide (x_5.Y ≤ y_2)) then some (decide (y_2 < (w64 (x_5.Y + x_5.H)))) else some false).bind fun v_17 => (bif v_17 then (appL s_8 ([(⟨x_5.X, (w64 (x_5.X + x_5.W))⟩ : Run)] : List Run)).bind fun a_24 => some a_24 else some s_8).bind fun v_20 => some (.go v_20)
def screen_runs_L2 (k_30 : Nat) (x_32 : Run) (s_35 : (List Run)) : Option (Ctl ((List Run)) (Unit)) :=
  (bif (decide ((w64 ((s_35.length : Int) - 1)) ≥ 0)) then (inR (w64 ((s_35.length : Int) - 1)) s_35).bind fun _ => (s_35[(0 + ((w64 ((s_35.length : Int) - 1))).toNat)]?).bind fun e_48 => some (decide (x_32.f_from ≤ e_48.f_to)) else some false).bind fun v_44 => (bif v_44 then (inR (w64 ((s_35.length : Int) - 1)) s_35).bind fun _ => (s_35[(0 + ((w64 ((s_35.length : Int) - 1))).toNat)]?).bind fun e_55 => (inR (w64 ((s_35.length : Int) - 1)) s_35).bind fun _ => (s_35[(0 + ((w64 ((s_35.length : Int) - 1))).toNat)]?).bind fun e_58 => some (s_35.set (0 + ((w64 ((s_35.length : Int) - 1))).toNat) (⟨e_58.f_from, (maxI e_55.f_to x_32.f_to)⟩ : Run)) else (appL s_35 ([x_32] : List Run)).bind fun a_60 => some a_60).bind fun v_50 => some (.go v_50)
noncomputable def screen_runs (l_1 : (List Rect)) (y_2 : Int) : Option ((List Run)) :=
  (forL l_1 ([] : List Run) (fun k x s => screen_runs_L1 y_2 k x s)).bind fun o_14 => thenC o_14 (fun s_8 => (slices_SortFunc_screen_run_screen_run_v1 s_8).bind fun r_27 => (sameL r_27 s_8).bind fun _ => (forL r_27 ([] : List Run) (fun k x s => screen_runs_L2 k x s)).bind fun o_41 => thenC o_41 (fun s_35 => some s_35) (fun _ => none)) (fun _ => none)
def screen_less_L1 (m_2 : (List Run)) (x_5 : Run) (s_22 : Int) : Option (Ctl (Int) (Unit)) :=
  (bif (decide (s_22 < (m_2.length : Int))) then (idx m_2 s_22).bind fun y_30 => some (decide (y_30.f_to ≤ x_5.f_from)) else some false).bind fun v_27 => bif v_27 then some (.go (w64 (s_22 + 1))) else some (.brk s_22)
def screen_less_L2 (m_2 : (List Run)) (x_5 : Run) (s_38 : (List Run) × Int × Int) : Option (Ctl ((List Run) × Int × Int) (Unit)) :=
  (bif (decide (s_38.2.1 < (m_2.length : Int))) then (idx m_2 s_38.2.1).bind fun y_48 => some (decide (y_48.f_from < x_5.f_to)) else some false).bind fun v_45 => bif v_45 then (idx m_2 s_38.2.1).bind fun y_51 => (bif (decide (y_51.f_from > s_38.2.2)) then (idx m_2 s_38.2.1).bind fun y_57 => (appL s_38.1 ([(⟨s_38.2.2, y_57.f_from⟩ : Run)] : List Run)).bind fun a_59 => some a_59 else some s_38.1).bind fun v_53 => (idx m_2 s_38.2.1).bind fun y_62 => some (.go (v_53, (w64 (s_38.2.1 + 1)), (maxI s_38.2.2 y_62.f_to))) else some (.brk (s_38.1, s_38.2.1, s_38.2.2))
noncomputable def screen_less_L3 (m_2 : (List Run)) (k_3 : Nat) (x_5 : Run) (s_8 : (List Run) × Int) : Option (Ctl ((List Run) × Int) (Unit)) :=
  (loopO s_8.2 (fun s => screen_less_L1 m_2 x_5 s)).bind fun o_25 => thenC o_25 (fun s_22 => (loopO (s_8.1, s_22, x_5.f_from) (fun s => screen_less_L2 m_2 x_5 s)).bind fun o_43 => thenC o_43 (fun s_38 => (bif (decide (s_38.2.2 < x_5.f_to)) then (appL s_38.1 ([(⟨s_38.2.2, x_5.f_to⟩ : Run)] : List Run)).bind fun a_68 => some a_68 else some s_38.1).bind fun v_64 => some (.go (v_64, s_22))) (fun _ => none)) (fun _ => none)
noncomputable def screen_less (l_1 : (List Run)) (m_2 : (List Run)) : Option ((List Run)) :=
  (forL l_1 (([] : List Run), 0) (fun k x s => screen_less_L3 m_2 k x s)).bind fun o_14 => thenC o_14 (fun s_8 => some s_8.1) (fun _ => none)
def slices_Equal_screen_run_screen_run_L1 (s2_2 : (List Run)) (k_4 : Nat) (x_6 : Run) (s_9 : Unit) : Option (Ctl (Unit) (Bool)) :=
  (idx s2_2 (k_4 : Int)).bind fun y_14 => bif (!((x_6.f_from == y_14.f_from) && ((x_6.f_to == y_14.f_to) && true))) then some (.ret false) else some (.go ())
def slices_Equal_screen_run_screen_run (s1_1 : (List Run)) (s2_2 : (List Run)) : Option (Bool) :=
  bif ((s1_1.length : Int) != (s2_2.length : Int)) then some false else (forL s1_1 () (fun k x s => slices_Equal_screen_run_screen_run_L1 s2_2 k x s)).bind fun o_12 => thenC o_12 (fun s_9 => some true) (fun r => some r)
def screen_region_L1 (k_5 : Nat) (x_7 : Rect) (s_10 : (List Int)) : Option (Ctl ((List Int)) (Unit)) :=
  (appL s_10 ([x_7.Y, (w64 (x_7.Y + x_7.H))] : List Int)).bind fun a_19 => some (.go a_19)
def screen_region_L2 (s_32 : (List Rect) × (List Run) × Int) (x_29 : Int) (k_54 : Nat) (x_56 : Run) (s_59 : (List Rect)) : Option (Ctl ((List Rect)) (Unit)) :=
  (appL s_59 ([(⟨x_56.f_from, s_32.2.2, (w64 (x_56.f_to - x_56.f_from)), (w64 (x_29 - s_32.2.2))⟩ : Rect)] : List Rect)).bind fun a_67 => some (.go a_67)
noncomputable def screen_region_L3 (r_25 : (List Int)) (l_1 : (List Rect)) (m_2 : (List Rect)) (k_27 : Nat) (x_29 : Int) (s_32 : (List Rect) × (List Run) × Int) : Option (Ctl ((List Rect) × (List Run) × Int) (Unit)) :=
  (bif (decide ((w64 ((k_27 : Int) + 1)) < (r_25.length : Int))) then (screen_runs l_1 x_29).bind fun r_45 => (screen_runs m_2 x_29).bind fun r_47 => (screen_less r_45 r_47).bind fun r_49 => some r_49 else some ([] : List Run)).bind fun v_42 => (slices_Equal_screen_run_screen_run s_32.2.1 v_42).bind fun r_51 => bif r_51 then some (.go (s_32.1, s_32.2.1, s_32.2.2)) else (forL s_32.2.1 s_32.1 (fun k x s => screen_region_L2 s_32 x_29 k x s)).bind fun o_64 => thenC o_64 (fun s_59 => some (.go (s_59, v_42, x_29))) (fun _ => none)
noncomputable def screen_region (l_1 : (List Rect)) (m_2 : (List Rect)) : Option ((List Rect)) :=
  (slices_Concat_api_Rect_api_Rect ([l_1, m_2] : List (List Rect))).bind fun r_3 => (forL r_3 ([] : List Int) (fun k x s => screen_region_L1 k x s)).bind fun o_16 => thenC o_16 (fun s_10 => (slices_Sort_int_int_v1 s_10).bind fun r_22 => (sameL r_22 s_10).bind fun _ => (slices_Compact_int_int_v1 r_22).bind fun r_25 => (forL r_25 (([] : List Rect), ([] : List Run), 0) (fun k x s => screen_region_L3 r_25 l_1 m_2 k x s)).bind fun o_38 => thenC o_38 (fun s_32 => some s_32.1) (fun _ => none)) (fun _ => none)
def screen_bounded (l_1 : (List Rect)) : Option ((List Rect) × Int) :=
  bif (decide ((l_1.length : Int) > 2000)) then some (([] : (List Rect)), 2) else some (l_1, 0)
noncomputable def screen_Region (l_1 : (List Rect)) : Option ((List Rect) × Int) :=
  (screen_rectsFault l_1).bind fun r_2 => bif (r_2 != 0) then some (([] : (List Rect)), r_2) else (screen_region l_1 ([] : List Rect)).bind fun r_5 => (screen_bounded r_5).bind fun r_7 => some (r_7.1, r_7.2)
def screen_Without_L1 (l_1 : (List Rect)) (m_2 : (List Rect)) (k_3 : Nat) (x_5 : Nat) (s_8 : Unit) : Option (Ctl (Unit) ((List Rect) × Int)) :=
  (idx ([l_1, m_2] : List (List Rect)) (k_3 : Int)).bind fun y_13 => (screen_rectsFault y_13).bind fun r_15 => bif (r_15 != 0) then some (.ret (([] : (List Rect)), r_15)) else some (.go ())
noncomputable def screen_Without (l_1 : (List Rect)) (m_2 : (List Rect)) : Option ((List Rect) × Int) :=
  (forL (List.range (2 : Int).toNat) () (fun k x s => screen_Without_L1 l_1 m_2 k x s)).bind fun o_11 => thenC o_11 (fun s_8 => (screen_region l_1 m_2).bind fun r_18 => (screen_bounded r_18).bind fun r_20 => some (r_20.1, r_20.2)) (fun r => some r)
def screen_area_L1 (k_2 : Nat) (x_4 : Rect) (s_7 : Int) : Option (Ctl (Int) (Unit)) :=
  some (.go (w64 (s_7 + (w64 (x_4.W * x_4.H)))))
def screen_area (l_1 : (List Rect)) : Option (Int) :=
  (forL l_1 0 (fun k x s => screen_area_L1 k x s)).bind fun o_10 => thenC o_10 (fun s_7 => some s_7) (fun _ => none)
noncomputable def screen_Area (l_1 : (List Rect)) : Option (Int × Int) :=
  (screen_rectsFault l_1).bind fun r_2 => bif (r_2 != 0) then some (0, r_2) else (screen_region l_1 ([] : List Rect)).bind fun r_5 => (screen_area r_5).bind fun r_7 => some (r_7, 0)
def ref_in (n_1 : Int) (low_2 : Int) (high_3 : Int) : Option (Bool) :=
  (bif (decide (low_2 ≤ n_1)) then some (decide (n_1 ≤ high_3)) else some false).bind fun v_4 => some v_4
def ref_RectFault (r_1 : Rect) : Option (Int) :=
  ((ref_in r_1.X (-100000) 100000).bind fun r_5 => bif (!r_5) then some true else (ref_in r_1.Y (-100000) 100000).bind fun r_8 => bif (!r_8) then some true else (ref_in r_1.W 1 (w64 (100000 - r_1.X))).bind fun r_11 => bif (!r_11) then some true else (ref_in r_1.H 1 (w64 (100000 - r_1.Y))).bind fun r_14 => some (!r_14)).bind fun v_3 => bif v_3 then some 1 else some 0
def law_errs_L1 (k_2 : Nat) (x_4 : Int) (s_7 : Unit) : Option (Ctl (Unit) (Int)) :=
  bif (x_4 != 0) then some (.ret x_4) else some (.go ())
def law_errs (l_1 : (List Int)) : Option (Int) :=
  (forL l_1 () (fun k x s => law_errs_L1 k x s)).bind fun o_10 => thenC o_10 (fun s_7 => some 0) (fun r => some r)
def ref_RectsFault_L1 (k_3 : Nat) (x_5 : Rect) (s_8 : Unit) : Option (Ctl (Unit) (Int)) :=
  (ref_RectFault x_5).bind fun r_14 => bif (r_14 != 0) then some (.ret r_14) else some (.go ())
def ref_RectsFault (l_1 : (List Rect)) : Option (Int) :=
  bif (decide ((l_1.length : Int) > 2000)) then some 2 else (forL l_1 () (fun k x s => ref_RectsFault_L1 k x s)).bind fun o_11 => thenC o_11 (fun s_8 => some 0) (fun r => some r)
def ref_MeetOf (a_1 : Rect) (b_2 : Rect) : Option (Rect × Bool) :=
  (bif (decide ((w64 ((minI (w64 (a_1.X + a_1.W)) (w64 (b_2.X + b_2.W))) - (maxI a_1.X b_2.X))) ≤ 0)) then some true else some (decide ((w64 ((minI (w64 (a_1.Y + a_1.H)) (w64 (b_2.Y + b_2.H))) - (maxI a_1.Y b_2.Y))) ≤ 0))).bind fun v_6 => bif v_6 then some ((⟨0, 0, 0, 0⟩ : Rect), false) else some ((⟨(maxI a_1.X b_2.X), (maxI a_1.Y b_2.Y), (w64 ((minI (w64 (a_1.X + a_1.W)) (w64 (b_2.X + b_2.W))) - (maxI a_1.X b_2.X))), (w64 ((minI (w64 (a_1.Y + a_1.H)) (w64 (b_2.Y + b_2.H))) - (maxI a_1.Y b_2.Y)))⟩ : Rect), true)
def ref_has (r_1 : Rect) (x_2 : Int) (y_3 : Int) : Option (Bool) :=
  ((ref_in x_2 r_1.X (w64 ((w64 (r_1.X + r_1.W)) - 1))).bind fun r_7 => bif r_7 then (ref_in y_3 r_1.Y (w64 ((w64 (r_1.Y + r_1.H)) - 1))).bind fun r_10 => some r_10 else some false).bind fun v_5 => some v_5
def ref_some_1 (r_1 : Rect) (p_2 : Int) (p_3 : Int) : Option (Bool) :=
  (ref_has r_1 p_2 p_3).bind fun r_5 => some r_5
def slices_IndexFunc_api_Rect_api_Rect_L1 (f_2 : Rect → Option Bool) (k_3 : Nat) (x_5 : Rect) (s_8 : Unit) : Option (Ctl (Unit) (Int)) :=
  (f_2 x_5).bind fun r_13 => bif r_13 then some (.ret (k_3 : Int)) else some (.go ())
def slices_IndexFunc_api_Rect_api_Rect (s_1 : (List Rect)) (f_2 : Rect → Option Bool) : Option (Int) :=
  (forL s_1 () (fun k x s => slices_IndexFunc_api_Rect_api_Rect_L1 f_2 k x s)).bind fun o_11 => thenC o_11 (fun s_8 => some (-1)) (fun r => some r)
def slices_ContainsFunc_api_Rect_api_Rect (s_1 : (List Rect)) (f_2 : Rect → Option Bool) : Option (Bool) :=
  (slices_IndexFunc_api_Rect_api_Rect s_1 f_2).bind fun r_3 => some (decide (r_3 ≥ 0))
def ref_some (l_1 : (List Rect)) (x_2 : Int) (y_3 : Int) : Option (Bool) :=
  (slices_ContainsFunc_api_Rect_api_Rect l_1 (fun x0 => ref_some_1 x0 x_2 y_3)).bind fun r_6 => some r_6
def ref_RegionOf_1 (x_1 : Int) (y_2 : Int) (p_3 : (List Rect)) : Option (Bool) :=
  (ref_some p_3 x_1 y_2).bind fun r_4 => some r_4
def ref_regionOf_1 (r_1 : Rect) : Option (Int × Int) :=
  some (r_1.X, (w64 (r_1.X + r_1.W)))
def ref_cuts_v1_L1 (k_3 : Nat) (x_5 : Rect) (s_8 : (List Int)) : Option (Ctl ((List Int)) (Unit)) :=
  (ref_regionOf_1 x_5).bind fun r_17 => (appL s_8 ([r_17.1, r_17.2] : List Int)).bind fun a_19 => some (.go a_19)
noncomputable def ref_cuts_v1 (l_1 : (List Rect)) : Option ((List Int)) :=
  (forL l_1 ([] : List Int) (fun k x s => ref_cuts_v1_L1 k x s)).bind fun o_14 => thenC o_14 (fun s_8 => (slices_Sort_int_int_v1 s_8).bind fun r_22 => (sameL r_22 s_8).bind fun _ => (slices_Compact_int_int_v1 r_22).bind fun r_25 => some r_25) (fun _ => none)
def ref_regionOf_2 (r_1 : Rect) : Option (Int × Int) :=
  some (r_1.Y, (w64 (r_1.Y + r_1.H)))
def ref_cuts_v2_L1 (k_3 : Nat) (x_5 : Rect) (s_8 : (List Int)) : Option (Ctl ((List Int)) (Unit)) :=
  (ref_regionOf_2 x_5).bind fun r_17 => (appL s_8 ([r_17.1, r_17.2] : List Int)).bind fun a_19 => some (.go a_19)
noncomputable def ref_cuts_v2 (l_1 : (List Rect)) : Option ((List Int)) :=
  (forL l_1 ([] : List Int) (fun k x s => ref_cuts_v2_L1 k x s)).bind fun o_14 => thenC o_14 (fun s_8 => (slices_Sort_int_int_v1 s_8).bind fun r_22 => (sameL r_22 s_8).bind fun _ => (slices_Compact_int_int_v1 r_22).bind fun r_25 => some r_25) (fun _ => none)
def ref_regionOf_3 (a_1 : Rect) (b_2 : Rect) : Option (Bool) :=
  (bif (a_1.X == b_2.X) then bif (a_1.W == b_2.W) then some (a_1.Y == (w64 (b_2.Y + b_2.H))) else some false else some false).bind fun v_5 => some v_5
def slices_EqualFunc_api_Rect_api_Rect_api_Rect_api_Rect_v3_L1 (s1_1 : (List Rect)) (s2_2 : (List Rect)) (k_5 : Nat) (x_7 : Nat) (s_10 : Unit) : Option (Ctl (Unit) (Bool)) :=
  (inR (k_5 : Int) s1_1).bind fun _ => (s1_1[(0 + ((k_5 : Int)).toNat)]?).bind fun e_16 => (inR (k_5 : Int) s2_2).bind fun _ => (s2_2[(0 + ((k_5 : Int)).toNat)]?).bind fun e_20 => (ref_regionOf_3 e_16 e_20).bind fun r_23 => bif (!r_23) then some (.ret false) else some (.go ())
def slices_EqualFunc_api_Rect_api_Rect_api_Rect_api_Rect_v3 (s1_1 : (List Rect)) (s2_2 : (List Rect)) : Option (Bool) :=
  bif ((s1_1.length : Int) != (s2_2.length : Int)) then some false else (forL (List.range ((s1_1.length : Int)).toNat) () (fun k x s => slices_EqualFunc_api_Rect_api_Rect_api_Rect_api_Rect_v3_L1 s1_1 s2_2 k x s)).bind fun o_13 => thenC o_13 (fun s_10 => some true) (fun r => some r)
def ref_regionOf_v1_L1 (r_4 : (List Int)) (r_6 : (List Int)) (s_13 : (List Rect) × (List Rect) × Int) (is2_3 : (List Rect)) (s_30 : (List Rect) × Int) : Option (Ctl ((List Rect) × Int) (Unit)) :=
  bif (decide ((w64 (s_30.2 + 1)) < (r_4.length : Int))) then (idx r_4 s_30.2).bind fun y_39 => (idx r_6 s_13.2.2).bind fun y_41 => (ref_RegionOf_1 y_39 y_41 is2_3).bind fun r_43 => bif (!r_43) then some (.go (s_30.1, (w64 (s_30.2 + 1)))) else (bif (decide ((w64 ((s_30.1.length : Int) - 1)) ≥ 0)) then (inR (w64 ((s_30.1.length : Int) - 1)) s_30.1).bind fun _ => (s_30.1[(0 + ((w64 ((s_30.1.length : Int) - 1))).toNat)]?).bind fun e_51 => (inR (w64 ((s_30.1.length : Int) - 1)) s_30.1).bind fun _ => (s_30.1[(0 + ((w64 ((s_30.1.length : Int) - 1))).toNat)]?).bind fun e_54 => (idx r_4 s_30.2).bind fun y_56 => some ((w64 (e_51.X + e_54.W)) == y_56) else some false).bind fun v_47 => (bif v_47 then (idx r_4 (w64 (s_30.2 + 1))).bind fun y_62 => (inR (w64 ((s_30.1.length : Int) - 1)) s_30.1).bind fun _ => (s_30.1[(0 + ((w64 ((s_30.1.length : Int) - 1))).toNat)]?).bind fun e_65 => (inR (w64 ((s_30.1.length : Int) - 1)) s_30.1).bind fun _ => (s_30.1[(0 + ((w64 ((s_30.1.length : Int) - 1))).toNat)]?).bind fun e_68 => some (s_30.1.set (0 + ((w64 ((s_30.1.length : Int) - 1))).toNat) (⟨e_68.X, e_68.Y, (w64 (y_62 - e_65.X)), e_68.H⟩ : Rect)) else (idx r_4 s_30.2).bind fun y_70 => (idx r_6 s_13.2.2).bind fun y_72 => (idx r_4 (w64 (s_30.2 + 1))).bind fun y_74 => (idx r_4 s_30.2).bind fun y_76 => (idx r_6 (w64 (s_13.2.2 + 1))).bind fun y_78 => (idx r_6 s_13.2.2).bind fun y_80 => (appL s_30.1 ([(⟨y_70, y_72, (w64 (y_74 - y_76)), (w64 (y_78 - y_80))⟩ : Rect)] : List Rect)).bind fun a_82 => some a_82).bind fun v_58 => some (.go (v_58, (w64 (s_30.2 + 1)))) else some (.brk (s_30.1, s_30.2))
def ref_regionOf_v1_L2 (s_30 : (List Rect) × Int) (k_91 : Nat) (x_93 : Nat) (s_96 : (List Rect)) : Option (Ctl ((List Rect)) (Unit)) :=
  (inR (k_91 : Int) s_96).bind fun _ => (s_96[(0 + ((k_91 : Int)).toNat)]?).bind fun e_102 => (inR (k_91 : Int) s_30.1).bind fun _ => (s_30.1[(0 + ((k_91 : Int)).toNat)]?).bind fun e_105 => (inR (k_91 : Int) s_96).bind fun _ => (s_96[(0 + ((k_91 : Int)).toNat)]?).bind fun e_108 => some (.go (s_96.set (0 + ((k_91 : Int)).toNat) (⟨e_108.X, e_108.Y, e_108.W, (w64 (e_102.H + e_105.H))⟩ : Rect)))
noncomputable def ref_regionOf_v1_L3 (r_6 : (List Int)) (r_4 : (List Int)) (is2_3 : (List Rect)) (s_13 : (List Rect) × (List Rect) × Int) : Option (Ctl ((List Rect) × (List Rect) × Int) (Unit)) :=
  bif (decide ((w64 (s_13.2.2 + 1)) < (r_6.length : Int))) then (loopO (([] : List Rect), 0) (fun s => ref_regionOf_v1_L1 r_4 r_6 s_13 is2_3 s)).bind fun o_36 => thenC o_36 (fun s_30 => (slices_EqualFunc_api_Rect_api_Rect_api_Rect_api_Rect_v3 s_30.1 s_13.2.1).bind fun r_85 => (bif r_85 then some (decide ((s_30.1.length : Int) > 0)) else some false).bind fun v_87 => bif v_87 then (forL (List.range ((s_13.2.1.length : Int)).toNat) s_13.2.1 (fun k x s => ref_regionOf_v1_L2 s_30 k x s)).bind fun o_99 => thenC o_99 (fun s_96 => some (.go (s_13.1, s_96, (w64 (s_13.2.2 + 1))))) (fun _ => none) else (appL s_13.1 s_13.2.1).bind fun a_110 => some (.go (a_110, s_30.1, (w64 (s_13.2.2 + 1))))) (fun _ => none) else some (.brk (s_13.1, s_13.2.1, s_13.2.2))
noncomputable def ref_regionOf_v1 (l_1 : (List Rect)) (is2_3 : (List Rect)) : Option ((List Rect)) :=
  (ref_cuts_v1 l_1).bind fun r_4 => (ref_cuts_v2 l_1).bind fun r_6 => (loopO (([] : List Rect), ([] : List Rect), 0) (fun s => ref_regionOf_v1_L3 r_6 r_4 is2_3 s)).bind fun o_22 => thenC o_22 (fun s_13 => (appL s_13.1 s_13.2.1).bind fun a_114 => some a_114) (fun _ => none)
noncomputable def ref_RegionOf (l_1 : (List Rect)) : Option ((List Rect)) :=
  (ref_regionOf_v1 l_1 l_1).bind fun r_3 => some r_3
def ref_AreaOf_L1 (k_4 : Nat) (x_6 : Rect) (s_9 : Int) : Option (Ctl (Int) (Unit)) :=
  some (.go (w64 (s_9 + (w64 (x_6.W * x_6.H)))))
noncomputable def ref_AreaOf (l_1 : (List Rect)) : Option (Int) :=
  (ref_RegionOf l_1).bind fun r_2 => (forL r_2 0 (fun k x s => ref_AreaOf_L1 k x s)).bind fun o_12 => thenC o_12 (fun s_9 => some s_9) (fun _ => none)
def ref_WithoutOf_1 (x_1 : Int) (y_2 : Int) (p_3 : (List Rect)) (p_4 : (List Rect)) : Option (Bool) :=
  ((ref_some p_3 x_1 y_2).bind fun r_7 => bif r_7 then (ref_some p_4 x_1 y_2).bind fun r_10 => some (!r_10) else some false).bind fun v_5 => some v_5
def ref_regionOf_v2_L1 (r_5 : (List Int)) (r_7 : (List Int)) (s_14 : (List Rect) × (List Rect) × Int) (is2_3 : (List Rect)) (is2_4 : (List Rect)) (s_31 : (List Rect) × Int) : Option (Ctl ((List Rect) × Int) (Unit)) :=
  bif (decide ((w64 (s_31.2 + 1)) < (r_5.length : Int))) then (idx r_5 s_31.2).bind fun y_40 => (idx r_7 s_14.2.2).bind fun y_42 => (ref_WithoutOf_1 y_40 y_42 is2_3 is2_4).bind fun r_44 => bif (!r_44) then some (.go (s_31.1, (w64 (s_31.2 + 1)))) else (bif (decide ((w64 ((s_31.1.length : Int) - 1)) ≥ 0)) then (inR (w64 ((s_31.1.length : Int) - 1)) s_31.1).bind fun _ => (s_31.1[(0 + ((w64 ((s_31.1.length : Int) - 1))).toNat)]?).bind fun e_52 => (inR (w64 ((s_31.1.length : Int) - 1)) s_31.1).bind fun _ => (s_31.1[(0 + ((w64 ((s_31.1.length : Int) - 1))).toNat)]?).bind fun e_55 => (idx r_5 s_31.2).bind fun y_57 => some ((w64 (e_52.X + e_55.W)) == y_57) else some false).bind fun v_48 => (bif v_48 then (idx r_5 (w64 (s_31.2 + 1))).bind fun y_63 => (inR (w64 ((s_31.1.length : Int) - 1)) s_31.1).bind fun _ => (s_31.1[(0 + ((w64 ((s_31.1.length : Int) - 1))).toNat)]?).bind fun e_66 => (inR (w64 ((s_31.1.length : Int) - 1)) s_31.1).bind fun _ => (s_31.1[(0 + ((w64 ((s_31.1.length : Int) - 1))).toNat)]?).bind fun e_69 => some (s_31.1.set (0 + ((w64 ((s_31.1.length : Int) - 1))).toNat) (⟨e_69.X, e_69.Y, (w64 (y_63 - e_66.X)), e_69.H⟩ : Rect)) else (idx r_5 s_31.2).bind fun y_71 => (idx r_7 s_14.2.2).bind fun y_73 => (idx r_5 (w64 (s_31.2 + 1))).bind fun y_75 => (idx r_5 s_31.2).bind fun y_77 => (idx r_7 (w64 (s_14.2.2 + 1))).bind fun y_79 => (idx r_7 s_14.2.2).bind fun y_81 => (appL s_31.1 ([(⟨y_71, y_73, (w64 (y_75 - y_77)), (w64 (y_79 - y_81))⟩ : Rect)] : List Rect)).bind fun a_83 => some a_83).bind fun v_59 => some (.go (v_59, (w64 (s_31.2 + 1)))) else some (.brk (s_31.1, s_31.2))
def ref_regionOf_v2_L2 (s_31 : (List Rect) × Int) (k_92 : Nat) (x_94 : Nat) (s_97 : (List Rect)) : Option (Ctl ((List Rect)) (Unit)) :=
  (inR (k_92 : Int) s_97).bind fun _ => (s_97[(0 + ((k_92 : Int)).toNat)]?).bind fun e_103 => (inR (k_92 : Int) s_31.1).bind fun _ => (s_31.1[(0 + ((k_92 : Int)).toNat)]?).bind fun e_106 => (inR (k_92 : Int) s_97).bind fun _ => (s_97[(0 + ((k_92 : Int)).toNat)]?).bind fun e_109 => some (.go (s_97.set (0 + ((k_92 : Int)).toNat) (⟨e_109.X, e_109.Y, e_109.W, (w64 (e_103.H + e_106.H))⟩ : Rect)))
noncomputable def ref_regionOf_v2_L3 (r_7 : (List Int)) (r_5 : (List Int)) (is2_3 : (List Rect)) (is2_4 : (List Rect)) (s_14 : (List Rect) × (List Rect) × Int) : Option (Ctl ((List Rect) × (List Rect) × Int) (Unit)) :=
  bif (decide ((w64 (s_14.2.2 + 1)) < (r_7.length : Int))) then (loopO (([] : List Rect), 0) (fun s => ref_regionOf_v2_L1 r_5 r_7 s_14 is2_3 is2_4 s)).bind fun o_37 => thenC o_37 (fun s_31 => (slices_EqualFunc_api_Rect_api_Rect_api_Rect_api_Rect_v3 s_31.1 s_14.2.1).bind fun r_86 => (bif r_86 then some (decide ((s_31.1.length : Int) > 0)) else some false).bind fun v_88 => bif v_88 then (forL (List.range ((s_14.2.1.length : Int)).toNat) s_14.2.1 (fun k x s => ref_regionOf_v2_L2 s_31 k x s)).bind fun o_100 => thenC o_100 (fun s_97 => some (.go (s_14.1, s_97, (w64 (s_14.2.2 + 1))))) (fun _ => none) else (appL s_14.1 s_14.2.1).bind fun a_111 => some (.go (a_111, s_31.1, (w64 (s_14.2.2 + 1))))) (fun _ => none) else some (.brk (s_14.1, s_14.2.1, s_14.2.2))
noncomputable def ref_regionOf_v2 (l_1 : (List Rect)) (is2_3 : (List Rect)) (is2_4 : (List Rect)) : Option ((List Rect)) :=
  (ref_cuts_v1 l_1).bind fun r_5 => (ref_cuts_v2 l_1).bind fun r_7 => (loopO (([] : List Rect), ([] : List Rect), 0) (fun s => ref_regionOf_v2_L3 r_7 r_5 is2_3 is2_4 s)).bind fun o_23 => thenC o_23 (fun s_14 => (appL s_14.1 s_14.2.1).bind fun a_115 => some a_115) (fun _ => none)
noncomputable def ref_WithoutOf (l_1 : (List Rect)) (m_2 : (List Rect)) : Option ((List Rect)) :=
  (slices_Concat_api_Rect_api_Rect ([l_1, m_2] : List (List Rect))).bind fun r_5 => (ref_regionOf_v2 r_5 l_1 m_2).bind fun r_7 => some r_7
def slices_Equal_api_Rect_api_Rect_L1 (s2_2 : (List Rect)) (k_4 : Nat) (x_6 : Rect) (s_9 : Unit) : Option (Ctl (Unit) (Bool)) :=
  (idx s2_2 (k_4 : Int)).bind fun y_14 => bif (!((x_6.X == y_14.X) && ((x_6.Y == y_14.Y) && ((x_6.W == y_14.W) && ((x_6.H == y_14.H) && true))))) then some (.ret false) else some (.go ())
def slices_Equal_api_Rect_api_Rect (s1_1 : (List Rect)) (s2_2 : (List Rect)) : Option (Bool) :=
  bif ((s1_1.length : Int) != (s2_2.length : Int)) then some false else (forL s1_1 () (fun k x s => slices_Equal_api_Rect_api_Rect_L1 s2_2 k x s)).bind fun o_12 => thenC o_12 (fun s_9 => some true) (fun r => some r)
noncomputable def law_lit  : Option (Bool) :=
  (screen_Area ([(⟨0, 0, 2, 2⟩ : Rect), (⟨1, 1, 2, 2⟩ : Rect)] : List Rect)).bind fun r_1 => (bif (r_1.2 == 0) then some (r_1.1 == 7) else some false).bind fun v_3 => some v_3
noncomputable def law_RectsMeet (l_1 : (List Int)) : Option (Bool) :=
  (mk_Stream_Rect (⟨l_1, 0⟩ : Stream)).bind fun r_3 => (mk_Stream_Rect r_3.2).bind fun r_6 => (mk_Stream_Rects r_6.2 5).bind fun r_9 => (mk_Stream_Rects r_9.2 3).bind fun r_12 => (screen_Meet r_3.1 r_6.1).bind fun r_17 => (screen_Region r_9.1).bind fun r_20 => (screen_Without r_9.1 r_12.1).bind fun r_22 => (screen_Area r_9.1).bind fun r_24 => (screen_CheckRect r_3.1).bind fun r_26 => (ref_RectFault r_3.1).bind fun r_28 => bif (r_26 != r_28) then some false else (ref_RectFault r_3.1).bind fun r_31 => (ref_RectFault r_6.1).bind fun r_33 => (law_errs ([r_31, r_33] : List Int)).bind fun r_35 => (ref_RectsFault r_9.1).bind fun r_37 => (ref_RectsFault r_9.1).bind fun r_39 => (ref_RectsFault r_12.1).bind fun r_41 => (law_errs ([r_39, r_41] : List Int)).bind fun r_43 => (bif (r_35 == 0) then (ref_MeetOf r_3.1 r_6.1).bind fun r_49 => some (r_49.2, r_49.1.X, r_49.1.Y, r_49.1.W, r_49.1.H) else some (false, 0, 0, 0, 0)).bind fun v_46 => (bif (r_37 == 0) then (ref_RegionOf r_9.1).bind fun r_56 => (ref_AreaOf r_9.1).bind fun r_58 => some (r_58, r_56) else some (0, ([] : List Rect))).bind fun v_53 => (bif (r_43 == 0) then (ref_WithoutOf r_9.1 r_12.1).bind fun r_65 => some r_65 else some ([] : List Rect)).bind fun v_62 => (bif (r_17.2.2 == r_35) then bif ((r_17.1.X == v_46.2.1) && ((r_17.1.Y == v_46.2.2.1) && ((r_17.1.W == v_46.2.2.2.1) && ((r_17.1.H == v_46.2.2.2.2) && true)))) then bif (r_17.2.1 == v_46.1) then bif (r_20.2 == r_37) then (slices_Equal_api_Rect_api_Rect r_20.1 v_53.2).bind fun r_73 => bif r_73 then bif (r_24.2 == r_37) then bif (r_24.1 == v_53.1) then bif (r_22.2 == r_43) then (slices_Equal_api_Rect_api_Rect r_22.1 v_62).bind fun r_79 => bif r_79 then (law_lit).bind fun r_82 => some r_82 else some false else some false else some false else some false else some false else some false else some false else some false else some false).bind fun v_67 => some v_67
end Go.Proofs.Ytodfcleaapnklaa.Law
