/-
  The functions of the program, as plain functions over data (written by a program of ours).
-/
import Derived.Test.YtodfcleaapnklaaEng4
open Go Go.Eng
namespace Go.Proofs.Ytodfcleaapnklaa.Law
set_option maxRecDepth 100000
set_option linter.unusedVariables false
set_option maxHeartbeats 1000000
structure Stream where
  L : (List Int)
  f_at : Int
def Stream.enc (s : Stream) : List D := [dl eI s.L, .int .i64 s.f_at]

structure Rect where
  X : Int
  Y : Int
  W : Int
  H : Int
def Rect.enc (s : Rect) : List D := [.int .i64 s.X, .int .i64 s.Y, .int .i64 s.W, .int .i64 s.H]

structure Run where
  f_from : Int
  f_to : Int
def Run.enc (s : Run) : List D := [.int .i64 s.f_from, .int .i64 s.f_to]

def mk_Below (x_1 : Int) (n_2 : Int) : Option (Int) :=
  bif (decide (n_2 < 1)) then some 0 else (remO .i64 x_1 n_2).bind fun q_4 => (bif (decide (q_4 < 0)) then some (w64 (q_4 + n_2)) else some q_4).bind fun v_6 => some v_6
def mk_Stream_Next (s_1 : Stream) (n_2 : Int) : Option (Int × Stream) :=
  bif ((s_1.L.length : Int) == 0) then (mk_Below (w64 ((w64 (s_1.f_at + 1)) * 7919)) n_2).bind fun r_4 => some (r_4, (⟨s_1.L, (w64 (s_1.f_at + 1))⟩ : Stream)) else (remO .i64 (w64 ((w64 (s_1.f_at + 1)) - 1)) (s_1.L.length : Int)).bind fun q_6 => (quoO .i64 (w64 ((w64 (s_1.f_at + 1)) - 1)) (s_1.L.length : Int)).bind fun q_8 => (idx s_1.L q_6).bind fun y_10 => (mk_Below y_10 1073741824).bind fun r_12 => (mk_Below (w64 (r_12 + (w64 (q_8 * (w64 (7919 + q_6)))))) n_2).bind fun r_14 => some (r_14, (⟨s_1.L, (w64 (s_1.f_at + 1))⟩ : Stream))
def mk_Stream_Flip (s_1 : Stream) (n_2 : Int) : Option (Bool × Stream) :=
  (mk_Stream_Next s_1 n_2).bind fun r_3 => some ((r_3.1 == 0), r_3.2)
def mk_Stream_Pick (s_1 : Stream) (l_2 : (List Int)) : Option (Int × Stream) :=
  (mk_Stream_Next s_1 (l_2.length : Int)).bind fun r_3 => (idx l_2 r_3.1).bind fun y_6 => some (y_6, r_3.2)
def mk_Stream_Side (s_1 : Stream) : Option (Int × Stream) :=
  (mk_Stream_Flip s_1 20).bind fun r_2 => bif r_2.1 then (mk_Stream_Pick r_2.2 ([0, (-1), 20000, 20001] : List Int)).bind fun r_6 => some (r_6.1, r_6.2) else (mk_Stream_Pick r_2.2 ([1, 2, 3, 5, 7, 10, 12, 16, 100, 1000] : List Int)).bind fun r_9 => some (r_9.1, r_9.2)
def mk_Stream_Range (s_1 : Stream) (low_2 : Int) (high_3 : Int) : Option (Int × Stream) :=
  bif (decide (high_3 < low_2)) then some (low_2, s_1) else (mk_Stream_Next s_1 (w64 ((w64 (high_3 - low_2)) + 1))).bind fun r_5 => some ((w64 (low_2 + r_5.1)), r_5.2)
def mk_Stream_Inner (s_1 : Stream) (wv_2 : Int) (h_3 : Int) : Option (Rect × Stream) :=
  (mk_Stream_Range s_1 0 (w64 ((minI (maxI wv_2 1) 20000) - 1))).bind fun r_5 => (mk_Stream_Range r_5.2 0 (w64 ((minI (maxI h_3 1) 20000) - 1))).bind fun r_8 => (mk_Stream_Range r_8.2 1 (w64 ((minI (maxI wv_2 1) 20000) - r_5.1))).bind fun r_12 => (mk_Stream_Range r_12.2 1 (w64 ((minI (maxI h_3 1) 20000) - r_8.1))).bind fun r_15 => (mk_Stream_Flip r_15.2 3).bind fun r_18 => (bif r_18.1 then some (0, (minI (maxI wv_2 1) 20000)) else some (r_5.1, r_12.1)).bind fun v_21 => (mk_Stream_Flip r_18.2 15).bind fun r_24 => (bif r_24.1 then (mk_Stream_Pick r_24.2 ([1, 2] : List Int)).bind fun r_30 => (mk_Stream_Pick r_30.2 ([0, 1] : List Int)).bind fun r_33 => some (r_33.2.L, r_33.2.f_at, (w64 (v_21.1 - r_33.1)), (w64 (v_21.2 + r_30.1))) else some (r_24.2.L, r_24.2.f_at, v_21.1, v_21.2)).bind fun v_27 => some ((⟨v_27.2.2.1, r_8.1, v_27.2.2.2, r_15.1⟩ : Rect), (⟨v_27.1, v_27.2.1⟩ : Stream))
def kit_Outside (n_1 : Int) (low_2 : Int) (high_3 : Int) : Option (Bool) :=
  (bif (decide (n_1 < low_2)) then some true else some (decide (n_1 > high_3))).bind fun v_4 => some v_4
def screen_CheckRect (r_1 : Rect) : Option (Int) :=
  ((kit_Outside r_1.X (-100000) 100000).bind fun r_5 => bif r_5 then some true else (kit_Outside r_1.Y (-100000) 100000).bind fun r_8 => some r_8).bind fun v_3 => bif v_3 then some 1 else ((kit_Outside r_1.W 1 (w64 (100000 - r_1.X))).bind fun r_13 => bif r_13 then some true else (kit_Outside r_1.H 1 (w64 (100000 - r_1.Y))).bind fun r_16 => some r_16).bind fun v_11 => bif v_11 then some 1 else some 0
def screen_isSide (n_1 : Int) : Option (Bool) :=
  (kit_Outside n_1 1 20000).bind fun r_2 => some (!r_2)
def screen_inside (r_1 : Rect) (wv_2 : Int) (h_3 : Int) : Option (Bool) :=
  (bif (decide (r_1.X ≥ 0)) then bif (decide (r_1.Y ≥ 0)) then bif (decide ((w64 (r_1.X + r_1.W)) ≤ wv_2)) then some (decide ((w64 (r_1.Y + r_1.H)) ≤ h_3)) else some false else some false else some false).bind fun v_5 => some v_5
def screen_Turned_L1 (k_24 : Nat) (x_26 : Nat) (s_29 : Int × Int × Int × Int × Int × Int) : Option (Ctl (Int × Int × Int × Int × Int × Int) (Unit)) :=
  some (.go (s_29.2.1, s_29.1, (w64 ((w64 (s_29.2.1 - s_29.2.2.2.1)) - s_29.2.2.2.2.2)), s_29.2.2.1, s_29.2.2.2.2.2, s_29.2.2.2.2.1))
def screen_Turned (r_1 : Rect) (wv_2 : Int) (h_3 : Int) (quarters_4 : Int) : Option (Rect × Int) :=
  (screen_CheckRect r_1).bind fun r_7 => bif (r_7 != 0) then some ((⟨0, 0, 0, 0⟩ : Rect), r_7) else ((screen_isSide wv_2).bind fun r_12 => bif (!r_12) then some true else (screen_isSide h_3).bind fun r_15 => bif (!r_15) then some true else (kit_Outside quarters_4 0 3).bind fun r_18 => some r_18).bind fun v_10 => bif v_10 then some ((⟨0, 0, 0, 0⟩ : Rect), 1) else (screen_inside r_1 wv_2 h_3).bind fun r_21 => bif (!r_21) then some ((⟨0, 0, 0, 0⟩ : Rect), 3) else (forL (List.range (quarters_4).toNat) (wv_2, h_3, r_1.X, r_1.Y, r_1.W, r_1.H) (fun k x s => screen_Turned_L1 k x s)).bind fun o_32 => thenC o_32 (fun s_29 => some ((⟨s_29.2.2.1, s_29.2.2.2.1, s_29.2.2.2.2.1, s_29.2.2.2.2.2⟩ : Rect), 0)) (fun _ => none)
def screen_sidesFault_L1 (k_2 : Nat) (x_4 : Int) (s_7 : Unit) : Option (Ctl (Unit) (Int)) :=
  (screen_isSide x_4).bind fun r_12 => bif (!r_12) then some (.ret 1) else some (.go ())
def screen_sidesFault (l_1 : (List Int)) : Option (Int) :=
  (forL l_1 () (fun k x s => screen_sidesFault_L1 k x s)).bind fun o_10 => thenC o_10 (fun s_7 => some 0) (fun r => some r)
def screen_scale (r_1 : Rect) (wv_2 : Int) (h_3 : Int) (toW_4 : Int) (toH_5 : Int) : Option (Rect) :=
  (quoO .i64 (w64 (r_1.X * toW_4)) wv_2).bind fun q_8 => (quoO .i64 (w64 (r_1.Y * toH_5)) h_3).bind fun q_10 => (quoO .i64 (w64 ((w64 (r_1.X + r_1.W)) * toW_4)) wv_2).bind fun q_12 => (quoO .i64 (w64 ((w64 (r_1.Y + r_1.H)) * toH_5)) h_3).bind fun q_14 => (bif ((w64 (q_12 - q_8)) == 0) then some true else some ((w64 (q_14 - q_10)) == 0)).bind fun v_17 => bif v_17 then some (⟨0, 0, 0, 0⟩ : Rect) else some (⟨q_8, q_10, (w64 (q_12 - q_8)), (w64 (q_14 - q_10))⟩ : Rect)
def screen_Scale (r_1 : Rect) (wv_2 : Int) (h_3 : Int) (toW_4 : Int) (toH_5 : Int) : Option (Rect × Int) :=
  (screen_CheckRect r_1).bind fun r_8 => bif (r_8 != 0) then some ((⟨0, 0, 0, 0⟩ : Rect), r_8) else (screen_sidesFault ([wv_2, h_3, toW_4, toH_5] : List Int)).bind fun r_11 => bif (r_11 != 0) then some ((⟨0, 0, 0, 0⟩ : Rect), r_11) else (screen_inside r_1 wv_2 h_3).bind fun r_14 => bif (!r_14) then some ((⟨0, 0, 0, 0⟩ : Rect), 3) else (screen_scale r_1 wv_2 h_3 toW_4 toH_5).bind fun r_17 => some (r_17, 0)
def screen_middle (wv_1 : Int) (h_2 : Int) (inW_3 : Int) (inH_4 : Int) : Option (Rect) :=
  some (⟨(w64 ((w64 (inW_3 - wv_1)).tdiv 2)), (w64 ((w64 (inH_4 - h_2)).tdiv 2)), wv_1, h_2⟩ : Rect)
def screen_Fit (wv_1 : Int) (h_2 : Int) (toW_3 : Int) (toH_4 : Int) (how_5 : Int) : Option (Rect × Rect × Int) :=
  (screen_sidesFault ([wv_1, h_2, toW_3, toH_4] : List Int)).bind fun r_8 => bif (r_8 != 0) then some ((⟨0, 0, 0, 0⟩ : Rect), (⟨0, 0, 0, 0⟩ : Rect), r_8) else bif (how_5 == 1) then some ((⟨0, 0, wv_1, h_2⟩ : Rect), (⟨0, 0, toW_3, toH_4⟩ : Rect), 0) else (bif (how_5 == 2) then some (decide ((w64 (wv_1 * toH_4)) ≥ (w64 (h_2 * toW_3)))) else some false).bind fun v_12 => bif v_12 then (quoO .i64 (w64 (h_2 * toW_3)) wv_1).bind fun q_16 => (screen_middle toW_3 (maxI 1 q_16) toW_3 toH_4).bind fun r_18 => some ((⟨0, 0, wv_1, h_2⟩ : Rect), r_18, 0) else bif (how_5 == 2) then (quoO .i64 (w64 (wv_1 * toH_4)) h_2).bind fun q_21 => (screen_middle (maxI 1 q_21) toH_4 toW_3 toH_4).bind fun r_23 => some ((⟨0, 0, wv_1, h_2⟩ : Rect), r_23, 0) else (bif (how_5 == 3) then some (decide ((w64 (wv_1 * toH_4)) ≥ (w64 (h_2 * toW_3)))) else some false).bind fun v_25 => bif v_25 then (quoO .i64 (w64 (h_2 * toW_3)) toH_4).bind fun q_29 => (screen_middle (maxI 1 q_29) h_2 wv_1 h_2).bind fun r_31 => some (r_31, (⟨0, 0, toW_3, toH_4⟩ : Rect), 0) else bif (how_5 == 3) then (quoO .i64 (w64 (wv_1 * toH_4)) toW_3).bind fun q_34 => (screen_middle wv_1 (maxI 1 q_34) wv_1 h_2).bind fun r_36 => some (r_36, (⟨0, 0, toW_3, toH_4⟩ : Rect), 0) else some ((⟨0, 0, 0, 0⟩ : Rect), (⟨0, 0, 0, 0⟩ : Rect), 4)
def ref_in (n_1 : Int) (low_2 : Int) (high_3 : Int) : Option (Bool) :=
  (bif (decide (low_2 ≤ n_1)) then some (decide (n_1 ≤ high_3)) else some false).bind fun v_4 => some v_4
def ref_RectFault (r_1 : Rect) : Option (Int) :=
  ((ref_in r_1.X (-100000) 100000).bind fun r_5 => bif (!r_5) then some true else (ref_in r_1.Y (-100000) 100000).bind fun r_8 => bif (!r_8) then some true else (ref_in r_1.W 1 (w64 (100000 - r_1.X))).bind fun r_11 => bif (!r_11) then some true else (ref_in r_1.H 1 (w64 (100000 - r_1.Y))).bind fun r_14 => some (!r_14)).bind fun v_3 => bif v_3 then some 1 else some 0
def ref_side (n_1 : Int) : Option (Bool) :=
  (ref_in n_1 1 20000).bind fun r_2 => some r_2
def ref_within (r_1 : Rect) (wv_2 : Int) (h_3 : Int) : Option (Bool) :=
  (bif (decide (r_1.X ≥ 0)) then bif (decide (r_1.Y ≥ 0)) then bif (decide ((w64 (r_1.X + r_1.W)) ≤ wv_2)) then some (decide ((w64 (r_1.Y + r_1.H)) ≤ h_3)) else some false else some false else some false).bind fun v_5 => some v_5
def ref_TurnedOf_L1 (k_24 : Nat) (x_26 : Nat) (s_29 : Int × Int × Int × Int × Int × Int) : Option (Ctl (Int × Int × Int × Int × Int × Int) (Unit)) :=
  some (.go (s_29.2.1, s_29.1, (w64 ((w64 (s_29.2.1 - 1)) - (w64 ((w64 (s_29.2.2.2.1 + s_29.2.2.2.2.2)) - 1)))), s_29.2.2.1, s_29.2.2.2.2.2, s_29.2.2.2.2.1))
def ref_TurnedOf (r_1 : Rect) (wv_2 : Int) (h_3 : Int) (quarters_4 : Int) : Option (Rect × Int) :=
  ((ref_RectFault r_1).bind fun r_9 => bif (r_9 != 0) then some true else (ref_side wv_2).bind fun r_12 => bif (!r_12) then some true else (ref_side h_3).bind fun r_15 => bif (!r_15) then some true else (ref_in quarters_4 0 3).bind fun r_18 => some (!r_18)).bind fun v_7 => bif v_7 then some ((⟨0, 0, 0, 0⟩ : Rect), 1) else (ref_within r_1 wv_2 h_3).bind fun r_21 => bif (!r_21) then some ((⟨0, 0, 0, 0⟩ : Rect), 3) else (forL (List.range (quarters_4).toNat) (wv_2, h_3, r_1.X, r_1.Y, r_1.W, r_1.H) (fun k x s => ref_TurnedOf_L1 k x s)).bind fun o_32 => thenC o_32 (fun s_29 => some ((⟨s_29.2.2.1, s_29.2.2.2.1, s_29.2.2.2.2.1, s_29.2.2.2.2.2⟩ : Rect), 0)) (fun _ => none)
def ref_scaled (r_1 : Rect) (wv_2 : Int) (h_3 : Int) (toW_4 : Int) (toH_5 : Int) : Option (Rect) :=
  (quoO .i64 (w64 (r_1.X * toW_4)) wv_2).bind fun q_8 => (quoO .i64 (w64 (r_1.Y * toH_5)) h_3).bind fun q_10 => (quoO .i64 (w64 ((w64 (r_1.X + r_1.W)) * toW_4)) wv_2).bind fun q_12 => (quoO .i64 (w64 ((w64 (r_1.Y + r_1.H)) * toH_5)) h_3).bind fun q_14 => (bif ((w64 (q_12 - q_8)) == 0) then some true else some ((w64 (q_14 - q_10)) == 0)).bind fun v_17 => bif v_17 then some (⟨0, 0, 0, 0⟩ : Rect) else some (⟨q_8, q_10, (w64 (q_12 - q_8)), (w64 (q_14 - q_10))⟩ : Rect)
def ref_ScaleOf (r_1 : Rect) (wv_2 : Int) (h_3 : Int) (toW_4 : Int) (toH_5 : Int) : Option (Rect × Int) :=
  ((ref_RectFault r_1).bind fun r_10 => bif (r_10 != 0) then some true else (ref_side wv_2).bind fun r_13 => bif (!r_13) then some true else (ref_side h_3).bind fun r_16 => bif (!r_16) then some true else (ref_side toW_4).bind fun r_19 => bif (!r_19) then some true else (ref_side toH_5).bind fun r_22 => some (!r_22)).bind fun v_8 => bif v_8 then some ((⟨0, 0, 0, 0⟩ : Rect), 1) else (ref_within r_1 wv_2 h_3).bind fun r_25 => bif (!r_25) then some ((⟨0, 0, 0, 0⟩ : Rect), 3) else (ref_scaled r_1 wv_2 h_3 toW_4 toH_5).bind fun r_28 => some (r_28, 0)
def ref_middle (wv_1 : Int) (h_2 : Int) (toW_3 : Int) (toH_4 : Int) : Option (Rect) :=
  some (⟨(w64 ((w64 (toW_3 - wv_1)).tdiv 2)), (w64 ((w64 (toH_4 - h_2)).tdiv 2)), wv_1, h_2⟩ : Rect)
def ref_FitOf (wv_1 : Int) (h_2 : Int) (toW_3 : Int) (toH_4 : Int) (how_5 : Int) : Option (Rect × Rect × Int) :=
  ((ref_side wv_1).bind fun r_10 => bif (!r_10) then some true else (ref_side h_2).bind fun r_13 => bif (!r_13) then some true else (ref_side toW_3).bind fun r_16 => bif (!r_16) then some true else (ref_side toH_4).bind fun r_19 => some (!r_19)).bind fun v_8 => bif v_8 then some ((⟨0, 0, 0, 0⟩ : Rect), (⟨0, 0, 0, 0⟩ : Rect), 1) else (ref_middle wv_1 h_2 wv_1 h_2).bind fun r_22 => (ref_middle toW_3 toH_4 toW_3 toH_4).bind fun r_24 => (bif (how_5 == 2) then some (decide ((w64 (wv_1 * toH_4)) ≥ (w64 (h_2 * toW_3)))) else some false).bind fun v_28 => bif v_28 then (quoO .i64 (w64 (h_2 * toW_3)) wv_1).bind fun q_32 => (ref_middle toW_3 (maxI 1 q_32) toW_3 toH_4).bind fun r_34 => some (r_22, r_34, 0) else bif (how_5 == 2) then (quoO .i64 (w64 (wv_1 * toH_4)) h_2).bind fun q_37 => (ref_middle (maxI 1 q_37) toH_4 toW_3 toH_4).bind fun r_39 => some (r_22, r_39, 0) else (bif (how_5 == 3) then some (decide ((w64 (wv_1 * toH_4)) ≥ (w64 (h_2 * toW_3)))) else some false).bind fun v_41 => bif v_41 then (quoO .i64 (w64 (h_2 * toW_3)) toH_4).bind fun q_45 => (ref_middle (maxI 1 q_45) h_2 wv_1 h_2).bind fun r_47 => some (r_47, r_24, 0) else bif (how_5 == 3) then (quoO .i64 (w64 (wv_1 * toH_4)) toW_3).bind fun q_50 => (ref_middle wv_1 (maxI 1 q_50) wv_1 h_2).bind fun r_52 => some (r_52, r_24, 0) else bif (how_5 != 1) then some ((⟨0, 0, 0, 0⟩ : Rect), (⟨0, 0, 0, 0⟩ : Rect), 4) else some (r_22, r_24, 0)
def screen_rectsFault_L1 (k_3 : Nat) (x_5 : Rect) (s_8 : Unit) : Option (Ctl (Unit) (Int)) :=
  (screen_CheckRect x_5).bind fun r_14 => bif (r_14 != 0) then some (.ret r_14) else some (.go ())
def screen_rectsFault (l_1 : (List Rect)) : Option (Int) :=
  bif (decide ((l_1.length : Int) > 2000)) then some 2 else (forL l_1 () (fun k x s => screen_rectsFault_L1 k x s)).bind fun o_11 => thenC o_11 (fun s_8 => some 0) (fun r => some r)
def slices_Grow_api_Rect_api_Rect_k (n_1 : Int) : Option Bool :=
  bif (decide (n_1 < 0)) then none else bif (decide ((w64 (n_1 - (w64 (0 - 0)))) > 0)) then (zN (w64 (n_1 - (w64 (0 - 0)))) 32).bind fun _ => some true else some false
def slices_Concat_api_Rect_api_Rect_L1 (k_2 : Nat) (x_4 : (List Rect)) (s_7 : Int) : Option (Ctl (Int) (Unit)) :=
  (bif (decide ((w64 (s_7 + (x_4.length : Int))) < 0)) then none else some ()).bind fun v_12 => some (.go (w64 (s_7 + (x_4.length : Int))))
def slices_Concat_api_Rect_api_Rect_L2 (k_18 : Nat) (x_20 : (List Rect)) (s_23 : (List Rect)) : Option (Ctl ((List Rect)) (Unit)) :=
  (appL s_23 x_20).bind fun a_30 => some (.go a_30)
def slices_Concat_api_Rect_api_Rect (slices_1 : (List (List Rect))) : Option ((List Rect)) :=
  (forL slices_1 0 (fun k x s => slices_Concat_api_Rect_api_Rect_L1 k x s)).bind fun o_10 => thenC o_10 (fun s_7 => (slices_Grow_api_Rect_api_Rect_k s_7).bind fun b_15 => (forL slices_1 ([] : List Rect) (fun k x s => slices_Concat_api_Rect_api_Rect_L2 k x s)).bind fun o_28 => thenC o_28 (fun s_23 => some s_23) (fun _ => none)) (fun _ => none)
def math_bits_Len64 (x_1 : Int) : Option (Int) :=
  (bif (decide (x_1 ≥ 4294967296)) then (shrO .u64 x_1 32).bind fun q_5 => some (q_5, 32) else some (x_1, 0)).bind fun v_2 => (bif (decide (v_2.1 ≥ 65536)) then (shrO .u64 v_2.1 16).bind fun q_10 => some (q_10, (w64 (v_2.2 + 16))) else some (v_2.1, v_2.2)).bind fun v_7 => (bif (decide (v_7.1 ≥ 256)) then (shrO .u64 v_7.1 8).bind fun q_15 => some (q_15, (w64 (v_7.2 + 8))) else some (v_7.1, v_7.2)).bind fun v_12 => (idxS (⟨#[0, 1, 2, 2, 3, 3, 3, 3, 4, 4, 4, 4, 4, 4, 4, 4, 5, 5, 5, 5, 5, 5, 5, 5, 5, 5, 5, 5, 5, 5, 5, 5, 6, 6, 6, 6, 6, 6, 6, 6, 6, 6, 6, 6, 6, 6, 6, 6, 6, 6, 6, 6, 6, 6, 6, 6, 6, 6, 6, 6, 6, 6, 6, 6, 7, 7, 7, 7, 7, 7, 7, 7, 7, 7, 7, 7, 7, 7, 7, 7, 7, 7, 7, 7, 7, 7, 7, 7, 7, 7, 7, 7, 7, 7, 7, 7, 7, 7, 7, 7, 7, 7, 7, 7, 7, 7, 7, 7, 7, 7, 7, 7, 7, 7, 7, 7, 7, 7, 7, 7, 7, 7, 7, 7, 7, 7, 7, 7, 8, 8, 8, 8, 8, 8, 8, 8, 8, 8, 8, 8, 8, 8, 8, 8, 8, 8, 8, 8, 8, 8, 8, 8, 8, 8, 8, 8, 8, 8, 8, 8, 8, 8, 8, 8, 8, 8, 8, 8, 8, 8, 8, 8, 8, 8, 8, 8, 8, 8, 8, 8, 8, 8, 8, 8, 8, 8, 8, 8, 8, 8, 8, 8, 8, 8, 8, 8, 8, 8, 8, 8, 8, 8, 8, 8, 8, 8, 8, 8, 8, 8, 8, 8, 8, 8, 8, 8, 8, 8, 8, 8, 8, 8, 8, 8, 8, 8, 8, 8, 8, 8, 8, 8, 8, 8, 8, 8, 8, 8, 8, 8, 8, 8, 8, 8, 8, 8, 8, 8, 8, 8, 8, 8, 8, 8, 8, 8]⟩ : ByteArray) (IntKind.u8.wrap v_12.1)).bind fun b_17 => some (w64 (v_12.2 + (w64 (b_17.toNat : Int))))
def math_bits_Len (x_1 : Int) : Option (Int) :=
  (math_bits_Len64 x_1).bind fun r_2 => some r_2
def cmp_isNaN_int (x_1 : Int) : Option (Bool) :=
  some (x_1 != x_1)
def cmp_Less_int (x_1 : Int) (y_2 : Int) : Option (Bool) :=
  ((cmp_isNaN_int x_1).bind fun r_5 => bif r_5 then (cmp_isNaN_int y_2).bind fun r_8 => bif (!r_8) then some true else some (decide (x_1 < y_2)) else some (decide (x_1 < y_2))).bind fun v_3 => some v_3
def slices_insertionSortOrdered_int_v1_L1 (a_2 : Int) (s_20 : (List Int) × Int) : Option (Ctl ((List Int) × Int) (Unit)) :=
  (bif (decide (s_20.2 > a_2)) then (inR s_20.2 s_20.1).bind fun _ => (s_20.1[(0 + (s_20.2).toNat)]?).bind fun e_29 => (inR (w64 (s_20.2 - 1)) s_20.1).bind fun _ => (s_20.1[(0 + ((w64 (s_20.2 - 1))).toNat)]?).bind fun e_32 => (cmp_Less_int e_29 e_32).bind fun r_34 => some r_34 else some false).bind fun v_25 => bif v_25 then (inR (w64 (s_20.2 - 1)) s_20.1).bind fun _ => (s_20.1[(0 + ((w64 (s_20.2 - 1))).toNat)]?).bind fun e_38 => (inR s_20.2 s_20.1).bind fun _ => (s_20.1[(0 + (s_20.2).toNat)]?).bind fun e_41 => (inR s_20.2 s_20.1).bind fun _ => (s_20.1[(0 + (s_20.2).toNat)]?).bind fun e_44 => (inR (w64 (s_20.2 - 1)) (s_20.1.set (0 + (s_20.2).toNat) e_38)).bind fun _ => ((s_20.1.set (0 + (s_20.2).toNat) e_38)[(0 + ((w64 (s_20.2 - 1))).toNat)]?).bind fun e_47 => some (.go (((s_20.1.set (0 + (s_20.2).toNat) e_38).set (0 + ((w64 (s_20.2 - 1))).toNat) e_41), (w64 (s_20.2 - 1)))) else some (.brk (s_20.1, s_20.2))
noncomputable def slices_insertionSortOrdered_int_v1_L2 (b_3 : Int) (a_2 : Int) (s_9 : (List Int) × Int) : Option (Ctl ((List Int) × Int) (Unit)) :=
  bif (decide (s_9.2 < b_3)) then (loopO (s_9.1, s_9.2) (fun s => slices_insertionSortOrdered_int_v1_L1 a_2 s)).bind fun o_23 => thenC o_23 (fun s_20 => some (.go (s_20.1, (w64 (s_9.2 + 1))))) (fun _ => none) else some (.brk (s_9.1, s_9.2))
noncomputable def slices_insertionSortOrdered_int_v1 (data_1 : (List Int)) (a_2 : Int) (b_3 : Int) : Option ((List Int)) :=
  (loopO (data_1, (w64 (a_2 + 1))) (fun s => slices_insertionSortOrdered_int_v1_L2 b_3 a_2 s)).bind fun o_12 => thenC o_12 (fun s_9 => some s_9.1) (fun _ => none)
noncomputable def slices_pdqsortOrdered_int_v1_L1 (b_3 : Int) (a_2 : Int) (data_1 : (List Int)) (limit_4 : Int) (s_10 : Unit) : Option (Ctl (Unit) ((List Int))) :=
  bif (decide ((w64 (b_3 - a_2)) ≤ 12)) then (slices_insertionSortOrdered_int_v1 data_1 a_2 b_3).bind fun r_16 => (sameL r_16 data_1).bind fun _ => some (.ret r_16) else bif (limit_4 == 0) then none else none
noncomputable def slices_pdqsortOrdered_int_v1 (data_1 : (List Int)) (a_2 : Int) (b_3 : Int) (limit_4 : Int) : Option ((List Int)) :=
  (loopO () (fun s => slices_pdqsortOrdered_int_v1_L1 b_3 a_2 data_1 limit_4 s)).bind fun o_13 => thenC o_13 (fun s_10 => some data_1) (fun r => some r)
noncomputable def slices_Sort_int_int_v1 (x_1 : (List Int)) : Option ((List Int)) :=
  (math_bits_Len (IntKind.u64.wrap (x_1.length : Int))).bind fun r_2 => (slices_pdqsortOrdered_int_v1 x_1 0 (x_1.length : Int) r_2).bind fun r_4 => (sameL r_4 x_1).bind fun _ => some r_4
def slices_Compact_int_int_v1_L1 (s_1 : (List Int)) (s_8 : Int) (s_28 : (List Int) × Int × Int) : Option (Ctl ((List Int) × Int × Int) (Unit)) :=
  bif (decide (s_28.2.2 < (((((s_1.length : Int)).toNat - (s_8).toNat) : Nat) : Int))) then (inN s_28.2.2 (((s_1.length : Int)).toNat - (s_8).toNat)).bind fun _ => (s_28.1[(((s_8).toNat) + (s_28.2.2).toNat)]?).bind fun e_35 => (inN (w64 (s_28.2.2 - 1)) (((s_1.length : Int)).toNat - (s_8).toNat)).bind fun _ => (s_28.1[(((s_8).toNat) + ((w64 (s_28.2.2 - 1))).toNat)]?).bind fun e_38 => (bif (e_35 != e_38) then (inN s_28.2.2 (((s_1.length : Int)).toNat - (s_8).toNat)).bind fun _ => (s_28.1[(((s_8).toNat) + (s_28.2.2).toNat)]?).bind fun e_44 => (inR s_28.2.1 s_28.1).bind fun _ => (s_28.1[(0 + (s_28.2.1).toNat)]?).bind fun e_47 => some ((s_28.1.set (0 + (s_28.2.1).toNat) e_44), (w64 (s_28.2.1 + 1))) else some (s_28.1, s_28.2.1)).bind fun v_40 => some (.go (v_40.1, v_40.2, (w64 (s_28.2.2 + 1)))) else some (.brk (s_28.1, s_28.2.1, s_28.2.2))
noncomputable def slices_Compact_int_int_v1_L2 (s_1 : (List Int)) (s_8 : Int) : Option (Ctl (Int) ((List Int))) :=
  bif (decide (s_8 < (s_1.length : Int))) then (inR s_8 s_1).bind fun _ => (s_1[(0 + (s_8).toNat)]?).bind fun e_15 => (inR (w64 (s_8 - 1)) s_1).bind fun _ => (s_1[(0 + ((w64 (s_8 - 1))).toNat)]?).bind fun e_18 => bif (e_15 == e_18) then (neL s_1).bind fun _ => (subR s_1 s_8 (s_1.length : Int)).bind fun _ => (loopO (s_1, s_8, 1) (fun s => slices_Compact_int_int_v1_L1 s_1 s_8 s)).bind fun o_31 => thenC o_31 (fun s_28 => (subR s_28.1 s_28.2.1 (s_28.1.length : Int)).bind fun _ => (subR (s_28.1.take ((s_28.2.1).toNat) ++ List.replicate (((s_28.1.length : Int)).toNat - (s_28.2.1).toNat) 0 ++ s_28.1.drop (((s_28.2.1).toNat) + (((s_28.1.length : Int)).toNat - (s_28.2.1).toNat))) 0 s_28.2.1).bind fun _ => some (.ret (cutL (s_28.1.take ((s_28.2.1).toNat) ++ List.replicate (((s_28.1.length : Int)).toNat - (s_28.2.1).toNat) 0 ++ s_28.1.drop (((s_28.2.1).toNat) + (((s_28.1.length : Int)).toNat - (s_28.2.1).toNat))) 0 ((s_28.2.1).toNat)))) (fun _ => none) else some (.go (w64 (s_8 + 1))) else some (.brk s_8)
noncomputable def slices_Compact_int_int_v1 (s_1 : (List Int)) : Option ((List Int)) :=
  bif (decide ((s_1.length : Int) < 2)) then some s_1 else (loopO 1 (fun s => slices_Compact_int_int_v1_L2 s_1 s)).bind fun o_11 => thenC o_11 (fun s_8 => some s_1) (fun r => some r)
def screen_runs_1 (a_1 : Run) (b_2 : Run) : Option (Int) :=
  some (w64 (a_1.f_from - b_2.f_from))
def slices_insertionSortCmpFunc_screen_run_v1_L1 (a_2 : Int) (s_21 : (List Run) × Int) : Option (Ctl ((List Run) × Int) (Unit)) :=
  (bif (decide (s_21.2 > a_2)) then (inR s_21.2 s_21.1).bind fun _ => (s_21.1[(0 + (s_21.2).toNat)]?).bind fun e_30 => (inR (w64 (s_21.2 - 1)) s_21.1).bind fun _ => (s_21.1[(0 + ((w64 (s_21.2 - 1))).toNat)]?).bind fun e_33 => (screen_runs_1 e_30 e_33).bind fun r_35 => some (decide (r_35 < 0)) else some false).bind fun v_26 => bif v_26 then (inR (w64 (s_21.2 - 1)) s_21.1).bind fun _ => (s_21.1[(0 + ((w64 (s_21.2 - 1))).toNat)]?).bind fun e_39 => (inR s_21.2 s_21.1).bind fun _ => (s_21.1[(0 + (s_21.2).toNat)]?).bind fun e_42 => (inR s_21.2 s_21.1).bind fun _ => (s_21.1[(0 + (s_21.2).toNat)]?).bind fun e_45 => (inR (w64 (s_21.2 - 1)) (s_21.1.set (0 + (s_21.2).toNat) e_39)).bind fun _ => ((s_21.1.set (0 + (s_21.2).toNat) e_39)[(0 + ((w64 (s_21.2 - 1))).toNat)]?).bind fun e_48 => some (.go (((s_21.1.set (0 + (s_21.2).toNat) e_39).set (0 + ((w64 (s_21.2 - 1))).toNat) e_42), (w64 (s_21.2 - 1)))) else some (.brk (s_21.1, s_21.2))
noncomputable def slices_insertionSortCmpFunc_screen_run_v1_L2 (b_3 : Int) (a_2 : Int) (s_10 : (List Run) × Int) : Option (Ctl ((List Run) × Int) (Unit)) :=
  bif (decide (s_10.2 < b_3)) then (loopO (s_10.1, s_10.2) (fun s => slices_insertionSortCmpFunc_screen_run_v1_L1 a_2 s)).bind fun o_24 => thenC o_24 (fun s_21 => some (.go (s_21.1, (w64 (s_10.2 + 1))))) (fun _ => none) else some (.brk (s_10.1, s_10.2))
noncomputable def slices_insertionSortCmpFunc_screen_run_v1 (data_1 : (List Run)) (a_2 : Int) (b_3 : Int) : Option ((List Run)) :=
  (loopO (data_1, (w64 (a_2 + 1))) (fun s => slices_insertionSortCmpFunc_screen_run_v1_L2 b_3 a_2 s)).bind fun o_13 => thenC o_13 (fun s_10 => some s_10.1) (fun _ => none)
noncomputable def slices_pdqsortCmpFunc_screen_run_v1_L1 (b_3 : Int) (a_2 : Int) (data_1 : (List Run)) (limit_4 : Int) (s_11 : Unit) : Option (Ctl (Unit) ((List Run))) :=
  bif (decide ((w64 (b_3 - a_2)) ≤ 12)) then (slices_insertionSortCmpFunc_screen_run_v1 data_1 a_2 b_3).bind fun r_17 => (sameL r_17 data_1).bind fun _ => some (.ret r_17) else bif (limit_4 == 0) then none else none
noncomputable def slices_pdqsortCmpFunc_screen_run_v1 (data_1 : (List Run)) (a_2 : Int) (b_3 : Int) (limit_4 : Int) : Option ((List Run)) :=
  (loopO () (fun s => slices_pdqsortCmpFunc_screen_run_v1_L1 b_3 a_2 data_1 limit_4 s)).bind fun o_14 => thenC o_14 (fun s_11 => some data_1) (fun r => some r)
noncomputable def slices_SortFunc_screen_run_screen_run_v1 (x_1 : (List Run)) : Option ((List Run)) :=
  (math_bits_Len (IntKind.u64.wrap (x_1.length : Int))).bind fun r_3 => (slices_pdqsortCmpFunc_screen_run_v1 x_1 0 (x_1.length : Int) r_3).bind fun r_5 => (sameL r_5 x_1).bind fun _ => some r_5
def screen_runs_L1 (y_2 : Int) (k_3 : Nat) (x_5 : Rect) (s_8 : (List Run)) : Option (Ctl ((List Run)) (Unit)) :=
  (bif (decide (x_5.Y ≤ y_2)) then some (decide (y_2 < (w64 (x_5.Y + x_5.H)))) else some false).bind fun v_17 => (bif v_17 then (appL s_8 ([(⟨x_5.X, (w64 (x_5.X + x_5.W))⟩ : Run)] : List Run)).bind fun a_24 => some a_24 else some s_8).bind fun v_20 => some (.go v_20)
def screen_runs_L2 (k_30 : Nat) (x_32 : Run) (s_35 : (List Run)) : Option (Ctl ((List Run)) (Unit)) :=
  (bif (decide ((w64 ((s_35.length : Int) - 1)) ≥ 0)) then (inR (w64 ((s_35.length : Int) - 1)) s_35).bind fun _ => (s_35[(0 + ((w64 ((s_35.length : Int) - 1))).toNat)]?).bind fun e_48 => some (decide (x_32.f_from ≤ e_48.f_to)) else some false).bind fun v_44 => (bif v_44 then (inR (w64 ((s_35.length : Int) - 1)) s_35).bind fun _ => (s_35[(0 + ((w64 ((s_35.length : Int) - 1))).toNat)]?).bind fun e_55 => (inR (w64 ((s_35.length : Int) - 1)) s_35).bind fun _ => (s_35[(0 + ((w64 ((s_35.length : Int) - 1))).toNat)]?).bind fun e_58 => some (s_35.set (0 + ((w64 ((s_35.length : Int) - 1))).toNat) (⟨e_58.f_from, (maxI e_55.f_to x_32.f_to)⟩ : Run)) else (appL s_35 ([x_32] : List Run)).bind fun a_60 => some a_60).bind fun v_50 => some (.go v_50)
noncomputable def screen_runs (l_1 : (List Rect)) (y_2 : Int) : Option ((List Run)) :=
  (forL l_1 ([] : List Run) (fun k x s => screen_runs_L1 y_2 k x s)).bind fun o_14 => thenC o_14 (fun s_8 => (slices_SortFunc_screen_run_screen_run_v1 s_8).bind fun r_27 => (sameL r_27 s_8).bind fun _ => (forL r_27 ([] : List Run) (fun k x s => screen_runs_L2 k x s)).bind fun o_41 => thenC o_41 (fun s_35 => some s_35) (fun _ => none)) (fun _ => none)
def screen_less_L1 (m_2 : (List Run)) (x_5 : Run) (s_22 : Int) : Option (Ctl (Int) (Unit)) :=
  (bif (decide (s_22 < (m_2.length : Int))) then (idx m_2 s_22).bind fun y_30 => some (decide (y_30.f_to ≤ x_5.f_from)) else some false).bind fun v_27 => bif v_27 then some (.go (w64 (s_22 + 1))) else some (.brk s_22)
def screen_less_L2 (m_2 : (List Run)) (x_5 : Run) (s_38 : (List Run) × Int × Int) : Option (Ctl ((List Run) × Int × Int) (Unit)) :=
  (bif (decide (s_38.2.1 < (m_2.length : Int))) then (idx m_2 s_38.2.1).bind fun y_48 => some (decide (y_48.f_from < x_5.f_to)) else some false).bind fun v_45 => bif v_45 then (idx m_2 s_38.2.1).bind fun y_51 => (bif (decide (y_51.f_from > s_38.2.2)) then (idx m_2 s_38.2.1).bind fun y_57 => (appL s_38.1 ([(⟨s_38.2.2, y_57.f_from⟩ : Run)] : List Run)).bind fun a_59 => some a_59 else some s_38.1).bind fun v_53 => (idx m_2 s_38.2.1).bind fun y_62 => some (.go (v_53, (w64 (s_38.2.1 + 1)), (maxI s_38.2.2 y_62.f_to))) else some (.brk (s_38.1, s_38.2.1, s_38.2.2))
noncomputable def screen_less_L3 (m_2 : (List Run)) (k_3 : Nat) (x_5 : Run) (s_8 : (List Run) × Int) : Option (Ctl ((List Run) × Int) (Unit)) :=
  (loopO s_8.2 (fun s => screen_less_L1 m_2 x_5 s)).bind fun o_25 => thenC o_25 (fun s_22 => (loopO (s_8.1, s_22, x_5.f_from) (fun s => screen_less_L2 m_2 x_5 s)).bind fun o_43 => thenC o_43 (fun s_38 => (bif (decide (s_38.2.2 < x_5.f_to)) then (appL s_38.1 ([(⟨s_38.2.2, x_5.f_to⟩ : Run)] : List Run)).bind fun a_68 => some a_68 else some s_38.1).bind fun v_64 => some (.go (v_64, s_22))) (fun _ => none)) (fun _ => none)
noncomputable def screen_less (l_1 : (List Run)) (m_2 : (List Run)) : Option ((List Run)) :=
  (forL l_1 (([] : List Run), 0) (fun k x s => screen_less_L3 m_2 k x s)).bind fun o_14 => thenC o_14 (fun s_8 => some s_8.1) (fun _ => none)
def slices_Equal_screen_run_screen_run_L1 (s2_2 : (List Run)) (k_4 : Nat) (x_6 : Run) (s_9 : Unit) : Option (Ctl (Unit) (Bool)) :=
  (idx s2_2 (k_4 : Int)).bind fun y_14 => bif (!((x_6.f_from == y_14.f_from) && ((x_6.f_to == y_14.f_to) && true))) then some (.ret false) else some (.go ())
def slices_Equal_screen_run_screen_run (s1_1 : (List Run)) (s2_2 : (List Run)) : Option (Bool) :=
  bif ((s1_1.length : Int) != (s2_2.length : Int)) then some false else (forL s1_1 () (fun k x s => slices_Equal_screen_run_screen_run_L1 s2_2 k x s)).bind fun o_12 => thenC o_12 (fun s_9 => some true) (fun r => some r)
def screen_region_L1 (k_5 : Nat) (x_7 : Rect) (s_10 : (List Int)) : Option (Ctl ((List Int)) (Unit)) :=
  (appL s_10 ([x_7.Y, (w64 (x_7.Y + x_7.H))] : List Int)).bind fun a_19 => some (.go a_19)
def screen_region_L2 (s_32 : (List Rect) × (List Run) × Int) (x_29 : Int) (k_54 : Nat) (x_56 : Run) (s_59 : (List Rect)) : Option (Ctl ((List Rect)) (Unit)) :=
  (appL s_59 ([(⟨x_56.f_from, s_32.2.2, (w64 (x_56.f_to - x_56.f_from)), (w64 (x_29 - s_32.2.2))⟩ : Rect)] : List Rect)).bind fun a_67 => some (.go a_67)
noncomputable def screen_region_L3 (r_25 : (List Int)) (l_1 : (List Rect)) (m_2 : (List Rect)) (k_27 : Nat) (x_29 : Int) (s_32 : (List Rect) × (List Run) × Int) : Option (Ctl ((List Rect) × (List Run) × Int) (Unit)) :=
  (bif (decide ((w64 ((k_27 : Int) + 1)) < (r_25.length : Int))) then (screen_runs l_1 x_29).bind fun r_45 => (screen_runs m_2 x_29).bind fun r_47 => (screen_less r_45 r_47).bind fun r_49 => some r_49 else some ([] : List Run)).bind fun v_42 => (slices_Equal_screen_run_screen_run s_32.2.1 v_42).bind fun r_51 => bif r_51 then some (.go (s_32.1, s_32.2.1, s_32.2.2)) else (forL s_32.2.1 s_32.1 (fun k x s => screen_region_L2 s_32 x_29 k x s)).bind fun o_64 => thenC o_64 (fun s_59 => some (.go (s_59, v_42, x_29))) (fun _ => none)
noncomputable def screen_region (l_1 : (List Rect)) (m_2 : (List Rect)) : Option ((List Rect)) :=
  (slices_Concat_api_Rect_api_Rect ([l_1, m_2] : List (List Rect))).bind fun r_3 => (forL r_3 ([] : List Int) (fun k x s => screen_region_L1 k x s)).bind fun o_16 => thenC o_16 (fun s_10 => (slices_Sort_int_int_v1 s_10).bind fun r_22 => (sameL r_22 s_10).bind fun _ => (slices_Compact_int_int_v1 r_22).bind fun r_25 => (forL r_25 (([] : List Rect), ([] : List Run), 0) (fun k x s => screen_region_L3 r_25 l_1 m_2 k x s)).bind fun o_38 => thenC o_38 (fun s_32 => some s_32.1) (fun _ => none)) (fun _ => none)
def screen_area_L1 (k_2 : Nat) (x_4 : Rect) (s_7 : Int) : Option (Ctl (Int) (Unit)) :=
  some (.go (w64 (s_7 + (w64 (x_4.W * x_4.H)))))
def screen_area (l_1 : (List Rect)) : Option (Int) :=
  (forL l_1 0 (fun k x s => screen_area_L1 k x s)).bind fun o_10 => thenC o_10 (fun s_7 => some s_7) (fun _ => none)
noncomputable def screen_Area (l_1 : (List Rect)) : Option (Int × Int) :=
  (screen_rectsFault l_1).bind fun r_2 => bif (r_2 != 0) then some (0, r_2) else (screen_region l_1 ([] : List Rect)).bind fun r_5 => (screen_area r_5).bind fun r_7 => some (r_7, 0)
noncomputable def law_lit  : Option (Bool) :=
  (screen_Area ([(⟨0, 0, 2, 2⟩ : Rect), (⟨1, 1, 2, 2⟩ : Rect)] : List Rect)).bind fun r_1 => (bif (r_1.2 == 0) then some (r_1.1 == 7) else some false).bind fun v_3 => some v_3
noncomputable def law_PicturesScale (l_1 : (List Int)) : Option (Bool) :=
  (mk_Stream_Side (⟨l_1, 0⟩ : Stream)).bind fun r_3 => (mk_Stream_Side r_3.2).bind fun r_6 => (mk_Stream_Side r_6.2).bind fun r_9 => (mk_Stream_Side r_9.2).bind fun r_12 => (mk_Stream_Pick r_12.2 ([0, 1, 2, 3, (-1), 4] : List Int)).bind fun r_15 => (mk_Stream_Pick r_15.2 ([1, 2, 3, 2, 3, 0, 4] : List Int)).bind fun r_18 => (mk_Stream_Inner r_18.2 r_3.1 r_6.1).bind fun r_21 => (screen_Turned r_21.1 r_3.1 r_6.1 r_15.1).bind fun r_25 => (screen_Scale r_21.1 r_3.1 r_6.1 r_9.1 r_12.1).bind fun r_28 => (screen_Fit r_3.1 r_6.1 r_9.1 r_12.1 r_18.1).bind fun r_31 => (ref_TurnedOf r_21.1 r_3.1 r_6.1 r_15.1).bind fun r_35 => (ref_ScaleOf r_21.1 r_3.1 r_6.1 r_9.1 r_12.1).bind fun r_38 => (ref_FitOf r_3.1 r_6.1 r_9.1 r_12.1 r_18.1).bind fun r_41 => (bif ((r_25.1.X == r_35.1.X) && ((r_25.1.Y == r_35.1.Y) && ((r_25.1.W == r_35.1.W) && ((r_25.1.H == r_35.1.H) && true)))) then bif (r_25.2 == r_35.2) then bif ((r_28.1.X == r_38.1.X) && ((r_28.1.Y == r_38.1.Y) && ((r_28.1.W == r_38.1.W) && ((r_28.1.H == r_38.1.H) && true)))) then bif (r_28.2 == r_38.2) then bif ((r_31.1.X == r_41.1.X) && ((r_31.1.Y == r_41.1.Y) && ((r_31.1.W == r_41.1.W) && ((r_31.1.H == r_41.1.H) && true)))) then bif ((r_31.2.1.X == r_41.2.1.X) && ((r_31.2.1.Y == r_41.2.1.Y) && ((r_31.2.1.W == r_41.2.1.W) && ((r_31.2.1.H == r_41.2.1.H) && true)))) then bif (r_31.2.2 == r_41.2.2) then (law_lit).bind fun r_54 => some r_54 else some false else some false else some false else some false else some false else some false else some false).bind fun v_45 => some v_45
end Go.Proofs.Ytodfcleaapnklaa.Law
