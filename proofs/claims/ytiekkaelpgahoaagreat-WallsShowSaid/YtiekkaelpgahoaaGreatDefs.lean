/-
  The functions of the program, as plain functions over data (written by a program of ours).
-/
import Derived.Test.YtiekkaelpgahoaaGreatEng4
open Go Go.Eng
namespace Go.Proofs.YtiekkaelpgahoaaGreat.Law
set_option maxRecDepth 100000
set_option linter.unusedVariables false
set_option maxHeartbeats 1000000
structure Stream where
  L : (List Int)
  f_at : Int
def Stream.enc (s : Stream) : List D := [dl eI s.L, .int .i64 s.f_at]

structure Rect where
  X : Int
  Y : Int
  W : Int
  H : Int
def Rect.enc (s : Rect) : List D := [.int .i64 s.X, .int .i64 s.Y, .int .i64 s.W, .int .i64 s.H]

structure Zone where
  Key : ByteArray
  On : Rect
  Order : Int
def Zone.enc (s : Zone) : List D := [.str s.Key, .int .i64 s.On.X, .int .i64 s.On.Y, .int .i64 s.On.W, .int .i64 s.On.H, .int .i64 s.Order]

structure Layout where
  Key : ByteArray
  W : Int
  H : Int
  Zones : (List Zone)
def Layout.enc (s : Layout) : List D := [.str s.Key, .int .i64 s.W, .int .i64 s.H, dl Zone.enc s.Zones]

structure Piece where
  Zone : ByteArray
  On : Rect
def Piece.enc (s : Piece) : List D := [.str s.Zone, .int .i64 s.On.X, .int .i64 s.On.Y, .int .i64 s.On.W, .int .i64 s.On.H]

structure Run where
  f_from : Int
  f_to : Int
def Run.enc (s : Run) : List D := [.int .i64 s.f_from, .int .i64 s.f_to]

structure Screen where
  Key : ByteArray
  On : Rect
def Screen.enc (s : Screen) : List D := [.str s.Key, .int .i64 s.On.X, .int .i64 s.On.Y, .int .i64 s.On.W, .int .i64 s.On.H]

structure Wall where
  Key : ByteArray
  W : Int
  H : Int
  Screens : (List Screen)
def Wall.enc (s : Wall) : List D := [.str s.Key, .int .i64 s.W, .int .i64 s.H, dl Screen.enc s.Screens]

structure View where
  Screen : ByteArray
  Zone : ByteArray
  On : Rect
def View.enc (s : View) : List D := [.str s.Screen, .str s.Zone, .int .i64 s.On.X, .int .i64 s.On.Y, .int .i64 s.On.W, .int .i64 s.On.H]

def mk_Below (x_1 : Int) (n_2 : Int) : Option (Int) :=
  bif (decide (n_2 < 1)) then some 0 else (remO .i64 x_1 n_2).bind fun q_4 => (bif (decide (q_4 < 0)) then some (w64 (q_4 + n_2)) else some q_4).bind fun v_6 => some v_6
def mk_Stream_Next (s_1 : Stream) (n_2 : Int) : Option (Int × Stream) :=
  bif ((s_1.L.length : Int) == 0) then (mk_Below (w64 ((w64 (s_1.f_at + 1)) * 7919)) n_2).bind fun r_4 => some (r_4, (⟨s_1.L, (w64 (s_1.f_at + 1))⟩ : Stream)) else (remO .i64 (w64 ((w64 (s_1.f_at + 1)) - 1)) (s_1.L.length : Int)).bind fun q_6 => (quoO .i64 (w64 ((w64 (s_1.f_at + 1)) - 1)) (s_1.L.length : Int)).bind fun q_8 => (idx s_1.L q_6).bind fun y_10 => (mk_Below y_10 1073741824).bind fun r_12 => (mk_Below (w64 (r_12 + (w64 (q_8 * (w64 (7919 + q_6)))))) n_2).bind fun r_14 => some (r_14, (⟨s_1.L, (w64 (s_1.f_at + 1))⟩ : Stream))
def mk_Stream_Pick (s_1 : Stream) (l_2 : (List Int)) : Option (Int × Stream) :=
  (mk_Stream_Next s_1 (l_2.length : Int)).bind fun r_3 => (idx l_2 r_3.1).bind fun y_6 => some (y_6, r_3.2)
def mk_Stream_Flip (s_1 : Stream) (n_2 : Int) : Option (Bool × Stream) :=
  (mk_Stream_Next s_1 n_2).bind fun r_3 => some ((r_3.1 == 0), r_3.2)
def mk_Stream_Range (s_1 : Stream) (low_2 : Int) (high_3 : Int) : Option (Int × Stream) :=
  bif (decide (high_3 < low_2)) then some (low_2, s_1) else (mk_Stream_Next s_1 (w64 ((w64 (high_3 - low_2)) + 1))).bind fun r_5 => some ((w64 (low_2 + r_5.1)), r_5.2)
def mk_Stream_RightLayout_L1 (r_3 : Int × Stream) (r_6 : Int × Stream) (k_10 : Nat) (x_12 : ByteArray) (s_15 : (List Zone) × (List Int) × Int) : Option (Ctl ((List Zone) × (List Int) × Int) (Unit)) :=
  (mk_Stream_Flip (⟨s_15.2.1, s_15.2.2⟩ : Stream) 5).bind fun r_23 => bif r_23.1 then some (.go (s_15.1, r_23.2.L, r_23.2.f_at)) else (mk_Stream_Range r_23.2 0 (w64 (r_3.1 - 1))).bind fun r_27 => (mk_Stream_Range r_27.2 0 (w64 (r_6.1 - 1))).bind fun r_30 => (mk_Stream_Pick r_30.2 ([0, 0, 1, 2] : List Int)).bind fun r_33 => (mk_Stream_Range r_33.2 1 (w64 (r_3.1 - r_27.1))).bind fun r_37 => (mk_Stream_Range r_37.2 1 (w64 (r_6.1 - r_30.1))).bind fun r_40 => (appL s_15.1 ([(⟨x_12, (⟨r_27.1, r_30.1, r_37.1, r_40.1⟩ : Rect), r_33.1⟩ : Zone)] : List Zone)).bind fun a_43 => some (.go (a_43, r_40.2.L, r_40.2.f_at))
def mk_Stream_RightLayout (s_1 : Stream) : Option (Layout × Stream) :=
  (mk_Stream_Pick s_1 ([5, 8, 10, 16] : List Int)).bind fun r_3 => (mk_Stream_Pick r_3.2 ([4, 6, 9] : List Int)).bind fun r_6 => (forL ([(⟨#[122, 97]⟩ : ByteArray), (⟨#[122, 98]⟩ : ByteArray), (⟨#[122, 99]⟩ : ByteArray), (⟨#[122, 100]⟩ : ByteArray)] : List ByteArray) (([] : List Zone), r_6.2.L, r_6.2.f_at) (fun k x s => mk_Stream_RightLayout_L1 r_3 r_6 k x s)).bind fun o_21 => thenC o_21 (fun s_15 => some ((⟨(⟨#[108]⟩ : ByteArray), r_3.1, r_6.1, s_15.1⟩ : Layout), (⟨s_15.2.1, s_15.2.2⟩ : Stream))) (fun _ => none)
def mk_Stream_Some (s_1 : Stream) (l_2 : (List ByteArray)) : Option (ByteArray × Stream) :=
  (mk_Stream_Next s_1 (l_2.length : Int)).bind fun r_3 => (idx l_2 r_3.1).bind fun y_6 => some (y_6, r_3.2)
def mk_Stream_Odd (s_1 : Stream) (low_2 : Int) (high_3 : Int) : Option (Int × Stream) :=
  (mk_Stream_Flip s_1 12).bind fun r_4 => bif r_4.1 then (mk_Stream_Pick r_4.2 ([(w64 (low_2 - 1)), (w64 (high_3 + 1)), low_2, high_3, (-1099511627776), 1099511627776] : List Int)).bind fun r_8 => some (r_8.1, r_8.2) else (mk_Stream_Range r_4.2 low_2 high_3).bind fun r_11 => some (r_11.1, r_11.2)
def slices_Clone_api_Zone_api_Zone (s_1 : (List Zone)) : Option ((List Zone)) :=
  (appL [] s_1).bind fun a_4 => some a_4
def mk_Stream_RightRect (s_1 : Stream) : Option (Rect × Stream) :=
  (mk_Stream_Range s_1 (-2) 8).bind fun r_3 => (mk_Stream_Range r_3.2 (-2) 8).bind fun r_6 => (mk_Stream_Range r_6.2 1 5).bind fun r_9 => (mk_Stream_Range r_9.2 1 5).bind fun r_12 => some ((⟨r_3.1, r_6.1, r_9.1, r_12.1⟩ : Rect), r_12.2)
def mk_Stream_Rect (s_1 : Stream) : Option (Rect × Stream) :=
  (mk_Stream_RightRect s_1).bind fun r_3 => (mk_Stream_Flip r_3.2 20).bind fun r_7 => (bif r_7.1 then (mk_Stream_Next r_7.2 3).bind fun r_13 => bif (r_13.1 == 0) then (mk_Stream_Odd r_13.2 (-100000) 99999).bind fun r_17 => some (r_17.2.L, r_17.2.f_at, r_17.1, r_3.1.Y, r_3.1.W, r_3.1.H) else bif (r_13.1 == 1) then (mk_Stream_Odd r_13.2 1 200000).bind fun r_21 => (mk_Stream_Odd r_21.2 1 5).bind fun r_24 => some (r_24.2.L, r_24.2.f_at, r_3.1.X, r_3.1.Y, r_21.1, r_24.1) else (mk_Stream_Pick r_13.2 ([(-100000), 99999] : List Int)).bind fun r_27 => (mk_Stream_Pick r_27.2 ([1, 2, 200000] : List Int)).bind fun r_30 => some (r_30.2.L, r_30.2.f_at, r_3.1.X, r_27.1, r_3.1.W, r_30.1) else some (r_7.2.L, r_7.2.f_at, r_3.1.X, r_3.1.Y, r_3.1.W, r_3.1.H)).bind fun v_10 => some ((⟨v_10.2.2.1, v_10.2.2.2.1, v_10.2.2.2.2.1, v_10.2.2.2.2.2⟩ : Rect), (⟨v_10.1, v_10.2.1⟩ : Stream))
def mk_Stream_Layout (s_1 : Stream) : Option (Layout × Stream) :=
  (mk_Stream_RightLayout s_1).bind fun r_3 => (mk_Stream_Flip r_3.2 10).bind fun r_7 => (bif r_7.1 then (mk_Stream_Next r_7.2 3).bind fun r_15 => bif (r_15.1 == 0) then (mk_Stream_Some r_15.2 ([(⟨#[]⟩ : ByteArray), (⟨#[65]⟩ : ByteArray)] : List ByteArray)).bind fun r_19 => some (r_19.2.L, r_19.2.f_at, r_19.1, r_3.1.H, r_3.1.Zones) else bif (r_15.1 == 1) then (mk_Stream_Odd r_15.2 1 10).bind fun r_23 => some (r_23.2.L, r_23.2.f_at, r_3.1.Key, r_23.1, r_3.1.Zones) else (slices_Clone_api_Zone_api_Zone r_3.1.Zones).bind fun r_26 => (mk_Stream_Some r_15.2 ([(⟨#[]⟩ : ByteArray), (⟨#[122, 97]⟩ : ByteArray), (⟨#[122, 122]⟩ : ByteArray)] : List ByteArray)).bind fun r_30 => (mk_Stream_Rect r_30.2).bind fun r_33 => (mk_Stream_Odd r_33.2 0 1000).bind fun r_36 => (appL r_26 ([(⟨r_30.1, r_33.1, r_36.1⟩ : Zone)] : List Zone)).bind fun a_39 => some (r_36.2.L, r_36.2.f_at, r_3.1.Key, r_3.1.H, a_39) else some (r_7.2.L, r_7.2.f_at, r_3.1.Key, r_3.1.H, r_3.1.Zones)).bind fun v_12 => some ((⟨v_12.2.2.1, r_3.1.W, v_12.2.2.2.1, v_12.2.2.2.2⟩ : Layout), (⟨v_12.1, v_12.2.1⟩ : Stream))
def kit_IsKey_L1 (s_1 : ByteArray) (s_7 : Int) : Option (Ctl (Int) (Bool)) :=
  bif (decide (s_7 < (s_1.size : Int))) then (idxS s_1 s_7).bind fun b_13 => (bif (decide ((b_13.toNat : Int) ≥ 97)) then bif (decide ((b_13.toNat : Int) ≤ 122)) then some false else bif (decide (s_7 > 0)) then bif (decide ((b_13.toNat : Int) ≥ 48)) then bif (decide ((b_13.toNat : Int) ≤ 57)) then some false else bif ((b_13.toNat : Int) == 45) then some false else some (!((b_13.toNat : Int) == 95)) else bif ((b_13.toNat : Int) == 45) then some false else some (!((b_13.toNat : Int) == 95)) else some true else bif (decide (s_7 > 0)) then bif (decide ((b_13.toNat : Int) ≥ 48)) then bif (decide ((b_13.toNat : Int) ≤ 57)) then some false else bif ((b_13.toNat : Int) == 45) then some false else some (!((b_13.toNat : Int) == 95)) else bif ((b_13.toNat : Int) == 45) then some false else some (!((b_13.toNat : Int) == 95)) else some true).bind fun v_15 => bif v_15 then some (.ret false) else some (.go (w64 (s_7 + 1))) else some (.brk s_7)
noncomputable def kit_IsKey (s_1 : ByteArray) : Option (Bool) :=
  (loopO 0 (fun s => kit_IsKey_L1 s_1 s)).bind fun o_10 => thenC o_10 (fun s_7 => (bif (sNe s_1 (⟨#[]⟩ : ByteArray)) then some (decide ((s_1.size : Int) ≤ 40)) else some false).bind fun v_30 => some v_30) (fun r => some r)
def kit_Outside (n_1 : Int) (low_2 : Int) (high_3 : Int) : Option (Bool) :=
  (bif (decide (n_1 < low_2)) then some true else some (decide (n_1 > high_3))).bind fun v_4 => some v_4
def screen_isSide (n_1 : Int) : Option (Bool) :=
  (kit_Outside n_1 1 20000).bind fun r_2 => some (!r_2)
def screen_sidesFault_L1 (k_2 : Nat) (x_4 : Int) (s_7 : Unit) : Option (Ctl (Unit) (Int)) :=
  (screen_isSide x_4).bind fun r_12 => bif (!r_12) then some (.ret 1) else some (.go ())
def screen_sidesFault (l_1 : (List Int)) : Option (Int) :=
  (forL l_1 () (fun k x s => screen_sidesFault_L1 k x s)).bind fun o_10 => thenC o_10 (fun s_7 => some 0) (fun r => some r)
def screen_CheckRect (r_1 : Rect) : Option (Int) :=
  ((kit_Outside r_1.X (-100000) 100000).bind fun r_5 => bif r_5 then some true else (kit_Outside r_1.Y (-100000) 100000).bind fun r_8 => some r_8).bind fun v_3 => bif v_3 then some 1 else ((kit_Outside r_1.W 1 (w64 (100000 - r_1.X))).bind fun r_13 => bif r_13 then some true else (kit_Outside r_1.H 1 (w64 (100000 - r_1.Y))).bind fun r_16 => some r_16).bind fun v_11 => bif v_11 then some 1 else some 0
def screen_inside (r_1 : Rect) (wv_2 : Int) (h_3 : Int) : Option (Bool) :=
  (bif (decide (r_1.X ≥ 0)) then bif (decide (r_1.Y ≥ 0)) then bif (decide ((w64 (r_1.X + r_1.W)) ≤ wv_2)) then some (decide ((w64 (r_1.Y + r_1.H)) ≤ h_3)) else some false else some false else some false).bind fun v_5 => some v_5
noncomputable def screen_CheckLayout_L1 (l_1 : Layout) (k_10 : Nat) (x_12 : Zone) (s_15 : Unit) : Option (Ctl (Unit) (Int)) :=
  (kit_IsKey x_12.Key).bind fun r_21 => bif (!r_21) then some (.ret 5) else (screen_CheckRect x_12.On).bind fun r_24 => bif (r_24 != 0) then some (.ret r_24) else (screen_inside x_12.On l_1.W l_1.H).bind fun r_27 => bif (!r_27) then some (.ret 3) else (kit_Outside x_12.Order 0 1000).bind fun r_30 => bif r_30 then some (.ret 1) else (bif (decide ((k_10 : Int) > 0)) then (idx l_1.Zones (w64 ((k_10 : Int) - 1))).bind fun y_36 => some (sLe x_12.Key y_36.Key) else some false).bind fun v_33 => bif v_33 then some (.ret 7) else some (.go ())
noncomputable def screen_CheckLayout (l_1 : Layout) : Option (Int) :=
  (kit_IsKey l_1.Key).bind fun r_3 => bif (!r_3) then some 5 else (screen_sidesFault ([l_1.W, l_1.H] : List Int)).bind fun r_6 => bif (r_6 != 0) then some r_6 else bif (decide ((l_1.Zones.length : Int) > 30)) then some 2 else (forL l_1.Zones () (fun k x s => screen_CheckLayout_L1 l_1 k x s)).bind fun o_18 => thenC o_18 (fun s_15 => some 0) (fun r => some r)
def screen_has (r_1 : Rect) (x_2 : Int) (y_3 : Int) : Option (Bool) :=
  (bif (decide (r_1.X ≤ x_2)) then bif (decide (x_2 < (w64 (r_1.X + r_1.W)))) then bif (decide (r_1.Y ≤ y_3)) then some (decide (y_3 < (w64 (r_1.Y + r_1.H)))) else some false else some false else some false).bind fun v_5 => some v_5
def screen_covers (l_1 : (List Zone)) (i_2 : Int) (k_3 : Int) : Option (Bool) :=
  ((idx l_1 i_2).bind fun y_6 => (idx l_1 k_3).bind fun y_8 => bif (decide (y_6.Order > y_8.Order)) then some true else (idx l_1 i_2).bind fun y_11 => (idx l_1 k_3).bind fun y_13 => bif (y_11.Order == y_13.Order) then some (decide (i_2 > k_3)) else some false).bind fun v_4 => some v_4
def screen_ZoneAt_L1 (x_2 : Int) (y_3 : Int) (l_1 : Layout) (k_11 : Nat) (x_13 : Zone) (s_16 : Int) : Option (Ctl (Int) (Unit)) :=
  ((screen_has x_13.On x_2 y_3).bind fun r_24 => bif r_24 then bif (decide (s_16 < 0)) then some true else (screen_covers l_1.Zones (k_11 : Int) s_16).bind fun r_28 => some r_28 else some false).bind fun v_22 => (bif v_22 then some (k_11 : Int) else some s_16).bind fun v_30 => some (.go v_30)
def slices_Grow_api_Rect_api_Rect_k (n_1 : Int) : Option Bool :=
  bif (decide (n_1 < 0)) then none else bif (decide ((w64 (n_1 - (w64 (0 - 0)))) > 0)) then (zN (w64 (n_1 - (w64 (0 - 0)))) 32).bind fun _ => some true else some false
def slices_Concat_api_Rect_api_Rect_L1 (k_2 : Nat) (x_4 : (List Rect)) (s_7 : Int) : Option (Ctl (Int) (Unit)) :=
  (bif (decide ((w64 (s_7 + (x_4.length : Int))) < 0)) then none else some ()).bind fun v_12 => some (.go (w64 (s_7 + (x_4.length : Int))))
def slices_Concat_api_Rect_api_Rect_L2 (k_18 : Nat) (x_20 : (List Rect)) (s_23 : (List Rect)) : Option (Ctl ((List Rect)) (Unit)) :=
  (appL s_23 x_20).bind fun a_30 => some (.go a_30)
def slices_Concat_api_Rect_api_Rect (slices_1 : (List (List Rect))) : Option ((List Rect)) :=
  (forL slices_1 0 (fun k x s => slices_Concat_api_Rect_api_Rect_L1 k x s)).bind fun o_10 => thenC o_10 (fun s_7 => (slices_Grow_api_Rect_api_Rect_k s_7).bind fun b_15 => (forL slices_1 ([] : List Rect) (fun k x s => slices_Concat_api_Rect_api_Rect_L2 k x s)).bind fun o_28 => thenC o_28 (fun s_23 => some s_23) (fun _ => none)) (fun _ => none)
def slices_Sort_int_int_v1 (x : (List Int)) : Option ((List Int)) :=
  sortI x
def slices_Compact_int_int_v1_L1 (s_1 : (List Int)) (s_8 : Int) (s_28 : (List Int) × Int × Int) : Option (Ctl ((List Int) × Int × Int) (Unit)) :=
  bif (decide (s_28.2.2 < (((((s_1.length : Int)).toNat - (s_8).toNat) : Nat) : Int))) then (inN s_28.2.2 (((s_1.length : Int)).toNat - (s_8).toNat)).bind fun _ => (s_28.1[(((s_8).toNat) + (s_28.2.2).toNat)]?).bind fun e_35 => (inN (w64 (s_28.2.2 - 1)) (((s_1.length : Int)).toNat - (s_8).toNat)).bind fun _ => (s_28.1[(((s_8).toNat) + ((w64 (s_28.2.2 - 1))).toNat)]?).bind fun e_38 => (bif (e_35 != e_38) then (inN s_28.2.2 (((s_1.length : Int)).toNat - (s_8).toNat)).bind fun _ => (s_28.1[(((s_8).toNat) + (s_28.2.2).toNat)]?).bind fun e_44 => (inR s_28.2.1 s_28.1).bind fun _ => (s_28.1[(0 + (s_28.2.1).toNat)]?).bind fun e_47 => some ((s_28.1.set (0 + (s_28.2.1).toNat) e_44), (w64 (s_28.2.1 + 1))) else some (s_28.1, s_28.2.1)).bind fun v_40 => some (.go (v_40.1, v_40.2, (w64 (s_28.2.2 + 1)))) else some (.brk (s_28.1, s_28.2.1, s_28.2.2))
noncomputable def slices_Compact_int_int_v1_L2 (s_1 : (List Int)) (s_8 : Int) : Option (Ctl (Int) ((List Int))) :=
  bif (decide (s_8 < (s_1.length : Int))) then (inR s_8 s_1).bind fun _ => (s_1[(0 + (s_8).toNat)]?).bind fun e_15 => (inR (w64 (s_8 - 1)) s_1).bind fun _ => (s_1[(0 + ((w64 (s_8 - 1))).toNat)]?).bind fun e_18 => bif (e_15 == e_18) then (neL s_1).bind fun _ => (subR s_1 s_8 (s_1.length : Int)).bind fun _ => (loopO (s_1, s_8, 1) (fun s => slices_Compact_int_int_v1_L1 s_1 s_8 s)).bind fun o_31 => thenC o_31 (fun s_28 => (subR s_28.1 s_28.2.1 (s_28.1.length : Int)).bind fun _ => (subR (s_28.1.take ((s_28.2.1).toNat) ++ List.replicate (((s_28.1.length : Int)).toNat - (s_28.2.1).toNat) 0 ++ s_28.1.drop (((s_28.2.1).toNat) + (((s_28.1.length : Int)).toNat - (s_28.2.1).toNat))) 0 s_28.2.1).bind fun _ => some (.ret (cutL (s_28.1.take ((s_28.2.1).toNat) ++ List.replicate (((s_28.1.length : Int)).toNat - (s_28.2.1).toNat) 0 ++ s_28.1.drop (((s_28.2.1).toNat) + (((s_28.1.length : Int)).toNat - (s_28.2.1).toNat))) 0 ((s_28.2.1).toNat)))) (fun _ => none) else some (.go (w64 (s_8 + 1))) else some (.brk s_8)
noncomputable def slices_Compact_int_int_v1 (s_1 : (List Int)) : Option ((List Int)) :=
  bif (decide ((s_1.length : Int) < 2)) then some s_1 else (loopO 1 (fun s => slices_Compact_int_int_v1_L2 s_1 s)).bind fun o_11 => thenC o_11 (fun s_8 => some s_1) (fun r => some r)
def screen_runs_1 (a_1 : Run) (b_2 : Run) : Option (Int) :=
  some (w64 (a_1.f_from - b_2.f_from))
def math_bits_Len64 (x_1 : Int) : Option (Int) :=
  (bif (decide (x_1 ≥ 4294967296)) then (shrO .u64 x_1 32).bind fun q_5 => some (q_5, 32) else some (x_1, 0)).bind fun v_2 => (bif (decide (v_2.1 ≥ 65536)) then (shrO .u64 v_2.1 16).bind fun q_10 => some (q_10, (w64 (v_2.2 + 16))) else some (v_2.1, v_2.2)).bind fun v_7 => (bif (decide (v_7.1 ≥ 256)) then (shrO .u64 v_7.1 8).bind fun q_15 => some (q_15, (w64 (v_7.2 + 8))) else some (v_7.1, v_7.2)).bind fun v_12 => (idxS (⟨#[0, 1, 2, 2, 3, 3, 3, 3, 4, 4, 4, 4, 4, 4, 4, 4, 5, 5, 5, 5, 5, 5, 5, 5, 5, 5, 5, 5, 5, 5, 5, 5, 6, 6, 6, 6, 6, 6, 6, 6, 6, 6, 6, 6, 6, 6, 6, 6, 6, 6, 6, 6, 6, 6, 6, 6, 6, 6, 6, 6, 6, 6, 6, 6, 7, 7, 7, 7, 7, 7, 7, 7, 7, 7, 7, 7, 7, 7, 7, 7, 7, 7, 7, 7, 7, 7, 7, 7, 7, 7, 7, 7, 7, 7, 7, 7, 7, 7, 7, 7, 7, 7, 7, 7, 7, 7, 7, 7, 7, 7, 7, 7, 7, 7, 7, 7, 7, 7, 7, 7, 7, 7, 7, 7, 7, 7, 7, 7, 8, 8, 8, 8, 8, 8, 8, 8, 8, 8, 8, 8, 8, 8, 8, 8, 8, 8, 8, 8, 8, 8, 8, 8, 8, 8, 8, 8, 8, 8, 8, 8, 8, 8, 8, 8, 8, 8, 8, 8, 8, 8, 8, 8, 8, 8, 8, 8, 8, 8, 8, 8, 8, 8, 8, 8, 8, 8, 8, 8, 8, 8, 8, 8, 8, 8, 8, 8, 8, 8, 8, 8, 8, 8, 8, 8, 8, 8, 8, 8, 8, 8, 8, 8, 8, 8, 8, 8, 8, 8, 8, 8, 8, 8, 8, 8, 8, 8, 8, 8, 8, 8, 8, 8, 8, 8, 8, 8, 8, 8, 8, 8, 8, 8, 8, 8, 8, 8, 8, 8, 8, 8, 8, 8, 8, 8, 8, 8]⟩ : ByteArray) (IntKind.u8.wrap v_12.1)).bind fun b_17 => some (w64 (v_12.2 + (w64 (b_17.toNat : Int))))
def math_bits_Len (x_1 : Int) : Option (Int) :=
  (math_bits_Len64 x_1).bind fun r_2 => some r_2
def slices_insertionSortCmpFunc_screen_run_v1_L1 (a_2 : Int) (s_21 : (List Run) × Int) : Option (Ctl ((List Run) × Int) (Unit)) :=
  (bif (decide (s_21.2 > a_2)) then (inR s_21.2 s_21.1).bind fun _ => (s_21.1[(0 + (s_21.2).toNat)]?).bind fun e_30 => (inR (w64 (s_21.2 - 1)) s_21.1).bind fun _ => (s_21.1[(0 + ((w64 (s_21.2 - 1))).toNat)]?).bind fun e_33 => (screen_runs_1 e_30 e_33).bind fun r_35 => some (decide (r_35 < 0)) else some false).bind fun v_26 => bif v_26 then (inR (w64 (s_21.2 - 1)) s_21.1).bind fun _ => (s_21.1[(0 + ((w64 (s_21.2 - 1))).toNat)]?).bind fun e_39 => (inR s_21.2 s_21.1).bind fun _ => (s_21.1[(0 + (s_21.2).toNat)]?).bind fun e_42 => (inR s_21.2 s_21.1).bind fun _ => (s_21.1[(0 + (s_21.2).toNat)]?).bind fun e_45 => (inR (w64 (s_21.2 - 1)) (s_21.1.set (0 + (s_21.2).toNat) e_39)).bind fun _ => ((s_21.1.set (0 + (s_21.2).toNat) e_39)[(0 + ((w64 (s_21.2 - 1))).toNat)]?).bind fun e_48 => some (.go (((s_21.1.set (0 + (s_21.2).toNat) e_39).set (0 + ((w64 (s_21.2 - 1))).toNat) e_42), (w64 (s_21.2 - 1)))) else some (.brk (s_21.1, s_21.2))
noncomputable def slices_insertionSortCmpFunc_screen_run_v1_L2 (b_3 : Int) (a_2 : Int) (s_10 : (List Run) × Int) : Option (Ctl ((List Run) × Int) (Unit)) :=
  bif (decide (s_10.2 < b_3)) then (loopO (s_10.1, s_10.2) (fun s => slices_insertionSortCmpFunc_screen_run_v1_L1 a_2 s)).bind fun o_24 => thenC o_24 (fun s_21 => some (.go (s_21.1, (w64 (s_10.2 + 1))))) (fun _ => none) else some (.brk (s_10.1, s_10.2))
noncomputable def slices_insertionSortCmpFunc_screen_run_v1 (data_1 : (List Run)) (a_2 : Int) (b_3 : Int) : Option ((List Run)) :=
  (loopO (data_1, (w64 (a_2 + 1))) (fun s => slices_insertionSortCmpFunc_screen_run_v1_L2 b_3 a_2 s)).bind fun o_13 => thenC o_13 (fun s_10 => some s_10.1) (fun _ => none)
noncomputable def slices_pdqsortCmpFunc_screen_run_v1_L1 (b_3 : Int) (a_2 : Int) (data_1 : (List Run)) (limit_4 : Int) (s_11 : Unit) : Option (Ctl (Unit) ((List Run))) :=
  bif (decide ((w64 (b_3 - a_2)) ≤ 12)) then (slices_insertionSortCmpFunc_screen_run_v1 data_1 a_2 b_3).bind fun r_17 => (sameL r_17 data_1).bind fun _ => some (.ret r_17) else bif (limit_4 == 0) then none else none
noncomputable def slices_pdqsortCmpFunc_screen_run_v1 (data_1 : (List Run)) (a_2 : Int) (b_3 : Int) (limit_4 : Int) : Option ((List Run)) :=
  (loopO () (fun s => slices_pdqsortCmpFunc_screen_run_v1_L1 b_3 a_2 data_1 limit_4 s)).bind fun o_14 => thenC o_14 (fun s_11 => some data_1) (fun r => some r)
noncomputable def slices_SortFunc_screen_run_screen_run_v1 (x_1 : (List Run)) : Option ((List Run)) :=
  (math_bits_Len (IntKind.u64.wrap (x_1.length : Int))).bind fun r_3 => (slices_pdqsortCmpFunc_screen_run_v1 x_1 0 (x_1.length : Int) r_3).bind fun r_5 => (sameL r_5 x_1).bind fun _ => some r_5
def screen_runs_L1 (y_2 : Int) (k_3 : Nat) (x_5 : Rect) (s_8 : (List Run)) : Option (Ctl ((List Run)) (Unit)) :=
  (bif (decide (x_5.Y ≤ y_2)) then some (decide (y_2 < (w64 (x_5.Y + x_5.H)))) else some false).bind fun v_17 => (bif v_17 then (appL s_8 ([(⟨x_5.X, (w64 (x_5.X + x_5.W))⟩ : Run)] : List Run)).bind fun a_24 => some a_24 else some s_8).bind fun v_20 => some (.go v_20)
def screen_runs_L2 (k_30 : Nat) (x_32 : Run) (s_35 : (List Run)) : Option (Ctl ((List Run)) (Unit)) :=
  (bif (decide ((w64 ((s_35.length : Int) - 1)) ≥ 0)) then (inR (w64 ((s_35.length : Int) - 1)) s_35).bind fun _ => (s_35[(0 + ((w64 ((s_35.length : Int) - 1))).toNat)]?).bind fun e_48 => some (decide (x_32.f_from ≤ e_48.f_to)) else some false).bind fun v_44 => (bif v_44 then (inR (w64 ((s_35.length : Int) - 1)) s_35).bind fun _ => (s_35[(0 + ((w64 ((s_35.length : Int) - 1))).toNat)]?).bind fun e_55 => (inR (w64 ((s_35.length : Int) - 1)) s_35).bind fun _ => (s_35[(0 + ((w64 ((s_35.length : Int) - 1))).toNat)]?).bind fun e_58 => some (s_35.set (0 + ((w64 ((s_35.length : Int) - 1))).toNat) (⟨e_58.f_from, (maxI e_55.f_to x_32.f_to)⟩ : Run)) else (appL s_35 ([x_32] : List Run)).bind fun a_60 => some a_60).bind fun v_50 => some (.go v_50)
noncomputable def screen_runs (l_1 : (List Rect)) (y_2 : Int) : Option ((List Run)) :=
  (forL l_1 ([] : List Run) (fun k x s => screen_runs_L1 y_2 k x s)).bind fun o_14 => thenC o_14 (fun s_8 => (slices_SortFunc_screen_run_screen_run_v1 s_8).bind fun r_27 => (sameL r_27 s_8).bind fun _ => (forL r_27 ([] : List Run) (fun k x s => screen_runs_L2 k x s)).bind fun o_41 => thenC o_41 (fun s_35 => some s_35) (fun _ => none)) (fun _ => none)
def screen_less_L1 (m_2 : (List Run)) (x_5 : Run) (s_22 : Int) : Option (Ctl (Int) (Unit)) :=
  (bif (decide (s_22 < (m_2.length : Int))) then (idx m_2 s_22).bind fun y_30 => some (decide (y_30.f_to ≤ x_5.f_from)) else some false).bind fun v_27 => bif v_27 then some (.go (w64 (s_22 + 1))) else some (.brk s_22)
def screen_less_L2 (m_2 : (List Run)) (x_5 : Run) (s_38 : (List Run) × Int × Int) : Option (Ctl ((List Run) × Int × Int) (Unit)) :=
  (bif (decide (s_38.2.1 < (m_2.length : Int))) then (idx m_2 s_38.2.1).bind fun y_48 => some (decide (y_48.f_from < x_5.f_to)) else some false).bind fun v_45 => bif v_45 then (idx m_2 s_38.2.1).bind fun y_51 => (bif (decide (y_51.f_from > s_38.2.2)) then (idx m_2 s_38.2.1).bind fun y_57 => (appL s_38.1 ([(⟨s_38.2.2, y_57.f_from⟩ : Run)] : List Run)).bind fun a_59 => some a_59 else some s_38.1).bind fun v_53 => (idx m_2 s_38.2.1).bind fun y_62 => some (.go (v_53, (w64 (s_38.2.1 + 1)), (maxI s_38.2.2 y_62.f_to))) else some (.brk (s_38.1, s_38.2.1, s_38.2.2))
noncomputable def screen_less_L3 (m_2 : (List Run)) (k_3 : Nat) (x_5 : Run) (s_8 : (List Run) × Int) : Option (Ctl ((List Run) × Int) (Unit)) :=
  (loopO s_8.2 (fun s => screen_less_L1 m_2 x_5 s)).bind fun o_25 => thenC o_25 (fun s_22 => (loopO (s_8.1, s_22, x_5.f_from) (fun s => screen_less_L2 m_2 x_5 s)).bind fun o_43 => thenC o_43 (fun s_38 => (bif (decide (s_38.2.2 < x_5.f_to)) then (appL s_38.1 ([(⟨s_38.2.2, x_5.f_to⟩ : Run)] : List Run)).bind fun a_68 => some a_68 else some s_38.1).bind fun v_64 => some (.go (v_64, s_22))) (fun _ => none)) (fun _ => none)
noncomputable def screen_less (l_1 : (List Run)) (m_2 : (List Run)) : Option ((List Run)) :=
  (forL l_1 (([] : List Run), 0) (fun k x s => screen_less_L3 m_2 k x s)).bind fun o_14 => thenC o_14 (fun s_8 => some s_8.1) (fun _ => none)
def slices_Equal_screen_run_screen_run_L1 (s2_2 : (List Run)) (k_4 : Nat) (x_6 : Run) (s_9 : Unit) : Option (Ctl (Unit) (Bool)) :=
  (idx s2_2 (k_4 : Int)).bind fun y_14 => bif (!((x_6.f_from == y_14.f_from) && ((x_6.f_to == y_14.f_to) && true))) then some (.ret false) else some (.go ())
def slices_Equal_screen_run_screen_run (s1_1 : (List Run)) (s2_2 : (List Run)) : Option (Bool) :=
  bif ((s1_1.length : Int) != (s2_2.length : Int)) then some false else (forL s1_1 () (fun k x s => slices_Equal_screen_run_screen_run_L1 s2_2 k x s)).bind fun o_12 => thenC o_12 (fun s_9 => some true) (fun r => some r)
def screen_region_L1 (k_5 : Nat) (x_7 : Rect) (s_10 : (List Int)) : Option (Ctl ((List Int)) (Unit)) :=
  (appL s_10 ([x_7.Y, (w64 (x_7.Y + x_7.H))] : List Int)).bind fun a_19 => some (.go a_19)
def screen_region_L2 (s_32 : (List Rect) × (List Run) × Int) (x_29 : Int) (k_54 : Nat) (x_56 : Run) (s_59 : (List Rect)) : Option (Ctl ((List Rect)) (Unit)) :=
  (appL s_59 ([(⟨x_56.f_from, s_32.2.2, (w64 (x_56.f_to - x_56.f_from)), (w64 (x_29 - s_32.2.2))⟩ : Rect)] : List Rect)).bind fun a_67 => some (.go a_67)
noncomputable def screen_region_L3 (r_25 : (List Int)) (l_1 : (List Rect)) (m_2 : (List Rect)) (k_27 : Nat) (x_29 : Int) (s_32 : (List Rect) × (List Run) × Int) : Option (Ctl ((List Rect) × (List Run) × Int) (Unit)) :=
  (bif (decide ((w64 ((k_27 : Int) + 1)) < (r_25.length : Int))) then (screen_runs l_1 x_29).bind fun r_45 => (screen_runs m_2 x_29).bind fun r_47 => (screen_less r_45 r_47).bind fun r_49 => some r_49 else some ([] : List Run)).bind fun v_42 => (slices_Equal_screen_run_screen_run s_32.2.1 v_42).bind fun r_51 => bif r_51 then some (.go (s_32.1, s_32.2.1, s_32.2.2)) else (forL s_32.2.1 s_32.1 (fun k x s => screen_region_L2 s_32 x_29 k x s)).bind fun o_64 => thenC o_64 (fun s_59 => some (.go (s_59, v_42, x_29))) (fun _ => none)
noncomputable def screen_region (l_1 : (List Rect)) (m_2 : (List Rect)) : Option ((List Rect)) :=
  (slices_Concat_api_Rect_api_Rect ([l_1, m_2] : List (List Rect))).bind fun r_3 => (forL r_3 ([] : List Int) (fun k x s => screen_region_L1 k x s)).bind fun o_16 => thenC o_16 (fun s_10 => (slices_Sort_int_int_v1 s_10).bind fun r_22 => (sameL r_22 s_10).bind fun _ => (slices_Compact_int_int_v1 r_22).bind fun r_25 => (forL r_25 (([] : List Rect), ([] : List Run), 0) (fun k x s => screen_region_L3 r_25 l_1 m_2 k x s)).bind fun o_38 => thenC o_38 (fun s_32 => some s_32.1) (fun _ => none)) (fun _ => none)
def screen_seenOf_L1 (l_1 : Layout) (k_2 : Int) (k_4 : Nat) (x_6 : Zone) (s_9 : (List Rect)) : Option (Ctl ((List Rect)) (Unit)) :=
  (screen_covers l_1.Zones (k_4 : Int) k_2).bind fun r_18 => (bif r_18 then (appL s_9 ([x_6.On] : List Rect)).bind fun a_24 => some a_24 else some s_9).bind fun v_20 => some (.go v_20)
noncomputable def screen_seenOf (l_1 : Layout) (k_2 : Int) : Option ((List Rect)) :=
  (forL l_1.Zones ([] : List Rect) (fun k x s => screen_seenOf_L1 l_1 k_2 k x s)).bind fun o_15 => thenC o_15 (fun s_9 => (idx l_1.Zones k_2).bind fun y_27 => (screen_region ([y_27.On] : List Rect) s_9).bind fun r_29 => some r_29) (fun _ => none)
def screen_seen_L1 (x_5 : Zone) (k_19 : Nat) (x_21 : Rect) (s_24 : (List Piece)) : Option (Ctl ((List Piece)) (Unit)) :=
  (appL s_24 ([(⟨x_5.Key, x_21⟩ : Piece)] : List Piece)).bind fun a_32 => some (.go a_32)
noncomputable def screen_seen_L2 (l_1 : Layout) (k_3 : Nat) (x_5 : Zone) (s_8 : (List Piece)) : Option (Ctl ((List Piece)) (Unit)) :=
  (screen_seenOf l_1 (k_3 : Int)).bind fun r_17 => (forL r_17 s_8 (fun k x s => screen_seen_L1 x_5 k x s)).bind fun o_29 => thenC o_29 (fun s_24 => some (.go s_24)) (fun _ => none)
noncomputable def screen_seen (l_1 : Layout) : Option ((List Piece) × Int) :=
  (forL l_1.Zones ([] : List Piece) (fun k x s => screen_seen_L2 l_1 k x s)).bind fun o_14 => thenC o_14 (fun s_8 => bif (decide ((s_8.length : Int) > 2000)) then some (([] : (List Piece)), 2) else some (s_8, 0)) (fun _ => none)
def ref_in (n_1 : Int) (low_2 : Int) (high_3 : Int) : Option (Bool) :=
  (bif (decide (low_2 ≤ n_1)) then some (decide (n_1 ≤ high_3)) else some false).bind fun v_4 => some v_4
def internal_stringslite_IndexByte (s_1 : ByteArray) (c_2 : Int) : Option (Int) :=
  some (ixB s_1 c_2)
def strings_IndexByte (s_1 : ByteArray) (c_2 : Int) : Option (Int) :=
  (internal_stringslite_IndexByte s_1 c_2).bind fun r_3 => some r_3
def ref_only_L1 (s_1 : ByteArray) (somev_2 : ByteArray) (k_3 : Nat) (x_5 : Nat) (s_8 : Unit) : Option (Ctl (Unit) (Bool)) :=
  (idxS s_1 (k_3 : Int)).bind fun b_13 => (strings_IndexByte somev_2 (b_13.toNat : Int)).bind fun r_15 => bif (decide (r_15 < 0)) then some (.ret false) else some (.go ())
def ref_only (s_1 : ByteArray) (somev_2 : ByteArray) : Option (Bool) :=
  (forL (List.range ((s_1.size : Int)).toNat) () (fun k x s => ref_only_L1 s_1 somev_2 k x s)).bind fun o_11 => thenC o_11 (fun s_8 => some true) (fun r => some r)
def ref_Key (s_1 : ByteArray) : Option (Bool) :=
  ((ref_in (s_1.size : Int) 1 40).bind fun r_4 => bif r_4 then (subS s_1 0 1).bind fun y_7 => (ref_only y_7 (⟨#[97, 98, 99, 100, 101, 102, 103, 104, 105, 106, 107, 108, 109, 110, 111, 112, 113, 114, 115, 116, 117, 118, 119, 120, 121, 122]⟩ : ByteArray)).bind fun r_9 => bif r_9 then (ref_only s_1 (⟨#[97, 98, 99, 100, 101, 102, 103, 104, 105, 106, 107, 108, 109, 110, 111, 112, 113, 114, 115, 116, 117, 118, 119, 120, 121, 122, 48, 49, 50, 51, 52, 53, 54, 55, 56, 57, 45, 95]⟩ : ByteArray)).bind fun r_12 => some r_12 else some false else some false).bind fun v_2 => some v_2
def ref_side (n_1 : Int) : Option (Bool) :=
  (ref_in n_1 1 20000).bind fun r_2 => some r_2
def ref_RectFault (r_1 : Rect) : Option (Int) :=
  ((ref_in r_1.X (-100000) 100000).bind fun r_5 => bif (!r_5) then some true else (ref_in r_1.Y (-100000) 100000).bind fun r_8 => bif (!r_8) then some true else (ref_in r_1.W 1 (w64 (100000 - r_1.X))).bind fun r_11 => bif (!r_11) then some true else (ref_in r_1.H 1 (w64 (100000 - r_1.Y))).bind fun r_14 => some (!r_14)).bind fun v_3 => bif v_3 then some 1 else some 0
def ref_within (r_1 : Rect) (wv_2 : Int) (h_3 : Int) : Option (Bool) :=
  (bif (decide (r_1.X ≥ 0)) then bif (decide (r_1.Y ≥ 0)) then bif (decide ((w64 (r_1.X + r_1.W)) ≤ wv_2)) then some (decide ((w64 (r_1.Y + r_1.H)) ≤ h_3)) else some false else some false else some false).bind fun v_5 => some v_5
def ref_LayoutFault_L1 (l_1 : Layout) (k_15 : Nat) (x_17 : Zone) (s_20 : ByteArray) : Option (Ctl (ByteArray) (Int)) :=
  (ref_Key x_17.Key).bind fun r_26 => bif (!r_26) then some (.ret 5) else (ref_RectFault x_17.On).bind fun r_29 => bif (r_29 != 0) then some (.ret r_29) else (ref_within x_17.On l_1.W l_1.H).bind fun r_32 => bif (!r_32) then some (.ret 3) else (ref_in x_17.Order 0 1000).bind fun r_35 => bif (!r_35) then some (.ret 1) else bif (sLe x_17.Key s_20) then some (.ret 7) else some (.go x_17.Key)
def ref_LayoutFault (l_1 : Layout) : Option (Int) :=
  (ref_Key l_1.Key).bind fun r_3 => bif (!r_3) then some 5 else ((ref_side l_1.W).bind fun r_8 => bif (!r_8) then some true else (ref_side l_1.H).bind fun r_11 => some (!r_11)).bind fun v_6 => bif v_6 then some 1 else bif (decide ((l_1.Zones.length : Int) > 30)) then some 2 else (forL l_1.Zones (⟨#[]⟩ : ByteArray) (fun k x s => ref_LayoutFault_L1 l_1 k x s)).bind fun o_23 => thenC o_23 (fun s_20 => some 0) (fun r => some r)
def law_errs_L1 (k_2 : Nat) (x_4 : Int) (s_7 : Unit) : Option (Ctl (Unit) (Int)) :=
  bif (x_4 != 0) then some (.ret x_4) else some (.go ())
def law_errs (l_1 : (List Int)) : Option (Int) :=
  (forL l_1 () (fun k x s => law_errs_L1 k x s)).bind fun o_10 => thenC o_10 (fun s_7 => some 0) (fun r => some r)
def ref_has (r_1 : Rect) (x_2 : Int) (y_3 : Int) : Option (Bool) :=
  ((ref_in x_2 r_1.X (w64 ((w64 (r_1.X + r_1.W)) - 1))).bind fun r_7 => bif r_7 then (ref_in y_3 r_1.Y (w64 ((w64 (r_1.Y + r_1.H)) - 1))).bind fun r_10 => some r_10 else some false).bind fun v_5 => some v_5
def ref_ZoneOf_L1 (x_2 : Int) (y_3 : Int) (l_1 : Layout) (k_5 : Nat) (x_7 : Zone) (s_10 : Int) : Option (Ctl (Int) (Unit)) :=
  ((ref_has x_7.On x_2 y_3).bind fun r_18 => bif r_18 then bif (decide (s_10 < 0)) then some true else (idx l_1.Zones s_10).bind fun y_22 => some (decide (x_7.Order ≥ y_22.Order)) else some false).bind fun v_16 => (bif v_16 then some (k_5 : Int) else some s_10).bind fun v_24 => some (.go v_24)
def ref_ZoneOf (l_1 : Layout) (x_2 : Int) (y_3 : Int) : Option (ByteArray × Bool) :=
  (forL l_1.Zones (-1) (fun k x s => ref_ZoneOf_L1 x_2 y_3 l_1 k x s)).bind fun o_13 => thenC o_13 (fun s_10 => bif (decide (s_10 < 0)) then some ((⟨#[]⟩ : ByteArray), false) else (idx l_1.Zones s_10).bind fun y_28 => some (y_28.Key, true)) (fun _ => none)
def screen_rectsFault_L1 (k_3 : Nat) (x_5 : Rect) (s_8 : Unit) : Option (Ctl (Unit) (Int)) :=
  (screen_CheckRect x_5).bind fun r_14 => bif (r_14 != 0) then some (.ret r_14) else some (.go ())
def screen_rectsFault (l_1 : (List Rect)) : Option (Int) :=
  bif (decide ((l_1.length : Int) > 2000)) then some 2 else (forL l_1 () (fun k x s => screen_rectsFault_L1 k x s)).bind fun o_11 => thenC o_11 (fun s_8 => some 0) (fun r => some r)
def screen_area_L1 (k_2 : Nat) (x_4 : Rect) (s_7 : Int) : Option (Ctl (Int) (Unit)) :=
  some (.go (w64 (s_7 + (w64 (x_4.W * x_4.H)))))
def screen_area (l_1 : (List Rect)) : Option (Int) :=
  (forL l_1 0 (fun k x s => screen_area_L1 k x s)).bind fun o_10 => thenC o_10 (fun s_7 => some s_7) (fun _ => none)
noncomputable def screen_Area (l_1 : (List Rect)) : Option (Int × Int) :=
  (screen_rectsFault l_1).bind fun r_2 => bif (r_2 != 0) then some (0, r_2) else (screen_region l_1 ([] : List Rect)).bind fun r_5 => (screen_area r_5).bind fun r_7 => some (r_7, 0)
noncomputable def law_lit  : Option (Bool) :=
  (screen_Area ([(⟨0, 0, 2, 2⟩ : Rect), (⟨1, 1, 2, 2⟩ : Rect)] : List Rect)).bind fun r_1 => (bif (r_1.2 == 0) then some (r_1.1 == 7) else some false).bind fun v_3 => some v_3
def ref_SeenOf_1 (x_1 : Int) (y_2 : Int) (p_3 : Layout) (p_4 : Zone) : Option (Bool) :=
  (ref_ZoneOf p_3 x_1 y_2).bind fun r_5 => some (sEq r_5.1 p_4.Key)
def ref_regionOf_1 (r_1 : Rect) : Option (Int × Int) :=
  some (r_1.X, (w64 (r_1.X + r_1.W)))
def ref_cuts_v1_L1 (k_3 : Nat) (x_5 : Rect) (s_8 : (List Int)) : Option (Ctl ((List Int)) (Unit)) :=
  (ref_regionOf_1 x_5).bind fun r_17 => (appL s_8 ([r_17.1, r_17.2] : List Int)).bind fun a_19 => some (.go a_19)
noncomputable def ref_cuts_v1 (l_1 : (List Rect)) : Option ((List Int)) :=
  (forL l_1 ([] : List Int) (fun k x s => ref_cuts_v1_L1 k x s)).bind fun o_14 => thenC o_14 (fun s_8 => (slices_Sort_int_int_v1 s_8).bind fun r_22 => (sameL r_22 s_8).bind fun _ => (slices_Compact_int_int_v1 r_22).bind fun r_25 => some r_25) (fun _ => none)
def ref_regionOf_2 (r_1 : Rect) : Option (Int × Int) :=
  some (r_1.Y, (w64 (r_1.Y + r_1.H)))
def ref_cuts_v2_L1 (k_3 : Nat) (x_5 : Rect) (s_8 : (List Int)) : Option (Ctl ((List Int)) (Unit)) :=
  (ref_regionOf_2 x_5).bind fun r_17 => (appL s_8 ([r_17.1, r_17.2] : List Int)).bind fun a_19 => some (.go a_19)
noncomputable def ref_cuts_v2 (l_1 : (List Rect)) : Option ((List Int)) :=
  (forL l_1 ([] : List Int) (fun k x s => ref_cuts_v2_L1 k x s)).bind fun o_14 => thenC o_14 (fun s_8 => (slices_Sort_int_int_v1 s_8).bind fun r_22 => (sameL r_22 s_8).bind fun _ => (slices_Compact_int_int_v1 r_22).bind fun r_25 => some r_25) (fun _ => none)
def ref_regionOf_3 (a_1 : Rect) (b_2 : Rect) : Option (Bool) :=
  (bif (a_1.X == b_2.X) then bif (a_1.W == b_2.W) then some (a_1.Y == (w64 (b_2.Y + b_2.H))) else some false else some false).bind fun v_5 => some v_5
def slices_EqualFunc_api_Rect_api_Rect_api_Rect_api_Rect_v3_L1 (s1_1 : (List Rect)) (s2_2 : (List Rect)) (k_5 : Nat) (x_7 : Nat) (s_10 : Unit) : Option (Ctl (Unit) (Bool)) :=
  (inR (k_5 : Int) s1_1).bind fun _ => (s1_1[(0 + ((k_5 : Int)).toNat)]?).bind fun e_16 => (inR (k_5 : Int) s2_2).bind fun _ => (s2_2[(0 + ((k_5 : Int)).toNat)]?).bind fun e_20 => (ref_regionOf_3 e_16 e_20).bind fun r_23 => bif (!r_23) then some (.ret false) else some (.go ())
def slices_EqualFunc_api_Rect_api_Rect_api_Rect_api_Rect_v3 (s1_1 : (List Rect)) (s2_2 : (List Rect)) : Option (Bool) :=
  bif ((s1_1.length : Int) != (s2_2.length : Int)) then some false else (forL (List.range ((s1_1.length : Int)).toNat) () (fun k x s => slices_EqualFunc_api_Rect_api_Rect_api_Rect_api_Rect_v3_L1 s1_1 s2_2 k x s)).bind fun o_13 => thenC o_13 (fun s_10 => some true) (fun r => some r)
def ref_regionOf_v1_L1 (r_5 : (List Int)) (r_7 : (List Int)) (s_14 : (List Rect) × (List Rect) × Int) (is2_3 : Layout) (is2_4 : Zone) (s_31 : (List Rect) × Int) : Option (Ctl ((List Rect) × Int) (Unit)) :=
  bif (decide ((w64 (s_31.2 + 1)) < (r_5.length : Int))) then (idx r_5 s_31.2).bind fun y_40 => (idx r_7 s_14.2.2).bind fun y_42 => (ref_SeenOf_1 y_40 y_42 is2_3 is2_4).bind fun r_44 => bif (!r_44) then some (.go (s_31.1, (w64 (s_31.2 + 1)))) else (bif (decide ((w64 ((s_31.1.length : Int) - 1)) ≥ 0)) then (inR (w64 ((s_31.1.length : Int) - 1)) s_31.1).bind fun _ => (s_31.1[(0 + ((w64 ((s_31.1.length : Int) - 1))).toNat)]?).bind fun e_52 => (inR (w64 ((s_31.1.length : Int) - 1)) s_31.1).bind fun _ => (s_31.1[(0 + ((w64 ((s_31.1.length : Int) - 1))).toNat)]?).bind fun e_55 => (idx r_5 s_31.2).bind fun y_57 => some ((w64 (e_52.X + e_55.W)) == y_57) else some false).bind fun v_48 => (bif v_48 then (idx r_5 (w64 (s_31.2 + 1))).bind fun y_63 => (inR (w64 ((s_31.1.length : Int) - 1)) s_31.1).bind fun _ => (s_31.1[(0 + ((w64 ((s_31.1.length : Int) - 1))).toNat)]?).bind fun e_66 => (inR (w64 ((s_31.1.length : Int) - 1)) s_31.1).bind fun _ => (s_31.1[(0 + ((w64 ((s_31.1.length : Int) - 1))).toNat)]?).bind fun e_69 => some (s_31.1.set (0 + ((w64 ((s_31.1.length : Int) - 1))).toNat) (⟨e_69.X, e_69.Y, (w64 (y_63 - e_66.X)), e_69.H⟩ : Rect)) else (idx r_5 s_31.2).bind fun y_71 => (idx r_7 s_14.2.2).bind fun y_73 => (idx r_5 (w64 (s_31.2 + 1))).bind fun y_75 => (idx r_5 s_31.2).bind fun y_77 => (idx r_7 (w64 (s_14.2.2 + 1))).bind fun y_79 => (idx r_7 s_14.2.2).bind fun y_81 => (appL s_31.1 ([(⟨y_71, y_73, (w64 (y_75 - y_77)), (w64 (y_79 - y_81))⟩ : Rect)] : List Rect)).bind fun a_83 => some a_83).bind fun v_59 => some (.go (v_59, (w64 (s_31.2 + 1)))) else some (.brk (s_31.1, s_31.2))
def ref_regionOf_v1_L2 (s_31 : (List Rect) × Int) (k_92 : Nat) (x_94 : Nat) (s_97 : (List Rect)) : Option (Ctl ((List Rect)) (Unit)) :=
  (inR (k_92 : Int) s_97).bind fun _ => (s_97[(0 + ((k_92 : Int)).toNat)]?).bind fun e_103 => (inR (k_92 : Int) s_31.1).bind fun _ => (s_31.1[(0 + ((k_92 : Int)).toNat)]?).bind fun e_106 => (inR (k_92 : Int) s_97).bind fun _ => (s_97[(0 + ((k_92 : Int)).toNat)]?).bind fun e_109 => some (.go (s_97.set (0 + ((k_92 : Int)).toNat) (⟨e_109.X, e_109.Y, e_109.W, (w64 (e_103.H + e_106.H))⟩ : Rect)))
noncomputable def ref_regionOf_v1_L3 (r_7 : (List Int)) (r_5 : (List Int)) (is2_3 : Layout) (is2_4 : Zone) (s_14 : (List Rect) × (List Rect) × Int) : Option (Ctl ((List Rect) × (List Rect) × Int) (Unit)) :=
  bif (decide ((w64 (s_14.2.2 + 1)) < (r_7.length : Int))) then (loopO (([] : List Rect), 0) (fun s => ref_regionOf_v1_L1 r_5 r_7 s_14 is2_3 is2_4 s)).bind fun o_37 => thenC o_37 (fun s_31 => (slices_EqualFunc_api_Rect_api_Rect_api_Rect_api_Rect_v3 s_31.1 s_14.2.1).bind fun r_86 => (bif r_86 then some (decide ((s_31.1.length : Int) > 0)) else some false).bind fun v_88 => bif v_88 then (forL (List.range ((s_14.2.1.length : Int)).toNat) s_14.2.1 (fun k x s => ref_regionOf_v1_L2 s_31 k x s)).bind fun o_100 => thenC o_100 (fun s_97 => some (.go (s_14.1, s_97, (w64 (s_14.2.2 + 1))))) (fun _ => none) else (appL s_14.1 s_14.2.1).bind fun a_111 => some (.go (a_111, s_31.1, (w64 (s_14.2.2 + 1))))) (fun _ => none) else some (.brk (s_14.1, s_14.2.1, s_14.2.2))
noncomputable def ref_regionOf_v1 (l_1 : (List Rect)) (is2_3 : Layout) (is2_4 : Zone) : Option ((List Rect)) :=
  (ref_cuts_v1 l_1).bind fun r_5 => (ref_cuts_v2 l_1).bind fun r_7 => (loopO (([] : List Rect), ([] : List Rect), 0) (fun s => ref_regionOf_v1_L3 r_7 r_5 is2_3 is2_4 s)).bind fun o_23 => thenC o_23 (fun s_14 => (appL s_14.1 s_14.2.1).bind fun a_115 => some a_115) (fun _ => none)
def ref_SeenOf_L1 (k_3 : Nat) (x_5 : Zone) (s_8 : (List Rect)) : Option (Ctl ((List Rect)) (Unit)) :=
  (appL s_8 ([x_5.On] : List Rect)).bind fun a_17 => some (.go a_17)
def ref_SeenOf_L2 (x_22 : Zone) (k_37 : Nat) (x_39 : Rect) (s_42 : (List Piece)) : Option (Ctl ((List Piece)) (Unit)) :=
  (appL s_42 ([(⟨x_22.Key, x_39⟩ : Piece)] : List Piece)).bind fun a_50 => some (.go a_50)
noncomputable def ref_SeenOf_L3 (s_8 : (List Rect)) (l_1 : Layout) (k_20 : Nat) (x_22 : Zone) (s_25 : (List Piece)) : Option (Ctl ((List Piece)) (Unit)) :=
  (ref_regionOf_v1 s_8 l_1 x_22).bind fun r_34 => (forL r_34 s_25 (fun k x s => ref_SeenOf_L2 x_22 k x s)).bind fun o_47 => thenC o_47 (fun s_42 => some (.go s_42)) (fun _ => none)
noncomputable def ref_SeenOf (l_1 : Layout) : Option ((List Piece)) :=
  (forL l_1.Zones ([] : List Rect) (fun k x s => ref_SeenOf_L1 k x s)).bind fun o_14 => thenC o_14 (fun s_8 => (forL l_1.Zones ([] : List Piece) (fun k x s => ref_SeenOf_L3 s_8 l_1 k x s)).bind fun o_31 => thenC o_31 (fun s_25 => some s_25) (fun _ => none)) (fun _ => none)
def slices_Clone_api_Screen_api_Screen (s_1 : (List Screen)) : Option ((List Screen)) :=
  (appL [] s_1).bind fun a_4 => some a_4
def ref_MeetOf (a_1 : Rect) (b_2 : Rect) : Option (Rect × Bool) :=
  (bif (decide ((w64 ((minI (w64 (a_1.X + a_1.W)) (w64 (b_2.X + b_2.W))) - (maxI a_1.X b_2.X))) ≤ 0)) then some true else some (decide ((w64 ((minI (w64 (a_1.Y + a_1.H)) (w64 (b_2.Y + b_2.H))) - (maxI a_1.Y b_2.Y))) ≤ 0))).bind fun v_6 => bif v_6 then some ((⟨0, 0, 0, 0⟩ : Rect), false) else some ((⟨(maxI a_1.X b_2.X), (maxI a_1.Y b_2.Y), (w64 ((minI (w64 (a_1.X + a_1.W)) (w64 (b_2.X + b_2.W))) - (maxI a_1.X b_2.X))), (w64 ((minI (w64 (a_1.Y + a_1.H)) (w64 (b_2.Y + b_2.H))) - (maxI a_1.Y b_2.Y)))⟩ : Rect), true)
def ref_WallFault_L1 (wv_1 : Wall) (k_15 : Nat) (x_17 : Screen) (s_20 : ByteArray) : Option (Ctl (ByteArray) (Int)) :=
  (ref_Key x_17.Key).bind fun r_26 => bif (!r_26) then some (.ret 5) else (ref_RectFault x_17.On).bind fun r_29 => bif (r_29 != 0) then some (.ret r_29) else (ref_within x_17.On wv_1.W wv_1.H).bind fun r_32 => bif (!r_32) then some (.ret 3) else bif (sLe x_17.Key s_20) then some (.ret 7) else some (.go x_17.Key)
def ref_WallFault_L2 (x_38 : Screen) (k_49 : Nat) (x_51 : Screen) (s_54 : Unit) : Option (Ctl (Unit) (Int)) :=
  (ref_MeetOf x_38.On x_51.On).bind fun r_60 => bif r_60.2 then some (.ret 13) else some (.go ())
def ref_WallFault_L3 (wv_1 : Wall) (k_36 : Nat) (x_38 : Screen) (s_41 : Unit) : Option (Ctl (Unit) (Int)) :=
  (subL wv_1.Screens 0 (k_36 : Int)).bind fun y_47 => (forL y_47 () (fun k x s => ref_WallFault_L2 x_38 k x s)).bind fun o_57 => thenC o_57 (fun s_54 => some (.go ())) (fun r => some (.ret r))
def ref_WallFault (wv_1 : Wall) : Option (Int) :=
  (ref_Key wv_1.Key).bind fun r_3 => bif (!r_3) then some 5 else ((ref_side wv_1.W).bind fun r_8 => bif (!r_8) then some true else (ref_side wv_1.H).bind fun r_11 => some (!r_11)).bind fun v_6 => bif v_6 then some 1 else bif (decide ((wv_1.Screens.length : Int) > 50)) then some 2 else (forL wv_1.Screens (⟨#[]⟩ : ByteArray) (fun k x s => ref_WallFault_L1 wv_1 k x s)).bind fun o_23 => thenC o_23 (fun s_20 => (forL wv_1.Screens () (fun k x s => ref_WallFault_L3 wv_1 k x s)).bind fun o_44 => thenC o_44 (fun s_41 => some 0) (fun r => some r)) (fun r => some r)
def mk_Stream_RightWall_L1 (r_3 : Int × Stream) (r_6 : Int × Stream) (k_10 : Nat) (x_12 : ByteArray) (s_15 : (List Int) × Int × (List Screen)) : Option (Ctl ((List Int) × Int × (List Screen)) (Unit)) :=
  (mk_Stream_Range (⟨s_15.1, s_15.2.1⟩ : Stream) 0 (w64 (r_3.1 - 1))).bind fun r_20 => (mk_Stream_Range r_20.2 0 (w64 (r_6.1 - 1))).bind fun r_23 => (mk_Stream_Range r_23.2 1 (w64 (r_3.1 - r_20.1))).bind fun r_27 => (mk_Stream_Range r_27.2 1 (w64 (r_6.1 - r_23.1))).bind fun r_30 => (slices_Clone_api_Screen_api_Screen s_15.2.2).bind fun r_33 => (appL r_33 ([(⟨x_12, (⟨r_20.1, r_23.1, r_27.1, r_30.1⟩ : Rect)⟩ : Screen)] : List Screen)).bind fun a_36 => (mk_Stream_Flip r_30.2 4).bind fun r_40 => (bif (!r_40.1) then (ref_WallFault (⟨(⟨#[119]⟩ : ByteArray), r_3.1, r_6.1, a_36⟩ : Wall)).bind fun r_46 => bif (r_46 == 0) then some (a_36, a_36) else some (s_15.2.2, a_36) else some (s_15.2.2, s_15.2.2)).bind fun v_43 => some (.go (r_40.2.L, r_40.2.f_at, v_43.1))
def mk_Stream_RightWall (s_1 : Stream) : Option (Wall × Stream) :=
  (mk_Stream_Pick s_1 ([10, 20, 24, 100] : List Int)).bind fun r_3 => (mk_Stream_Pick r_3.2 ([6, 10, 30] : List Int)).bind fun r_6 => (forL ([(⟨#[115, 97]⟩ : ByteArray), (⟨#[115, 98]⟩ : ByteArray), (⟨#[115, 99]⟩ : ByteArray), (⟨#[115, 100]⟩ : ByteArray)] : List ByteArray) (r_6.2.L, r_6.2.f_at, ([] : List Screen)) (fun k x s => mk_Stream_RightWall_L1 r_3 r_6 k x s)).bind fun o_18 => thenC o_18 (fun s_15 => some ((⟨(⟨#[119]⟩ : ByteArray), r_3.1, r_6.1, s_15.2.2⟩ : Wall), (⟨s_15.1, s_15.2.1⟩ : Stream))) (fun _ => none)
def mk_Stream_Wall (s_1 : Stream) : Option (Wall × Stream) :=
  (mk_Stream_RightWall s_1).bind fun r_3 => (mk_Stream_Flip r_3.2 10).bind fun r_7 => (bif r_7.1 then (mk_Stream_Next r_7.2 3).bind fun r_15 => bif (r_15.1 == 0) then (mk_Stream_Some r_15.2 ([(⟨#[]⟩ : ByteArray), (⟨#[65]⟩ : ByteArray)] : List ByteArray)).bind fun r_19 => some (r_19.2.L, r_19.2.f_at, r_19.1, r_3.1.W, r_3.1.Screens) else bif (r_15.1 == 1) then (mk_Stream_Odd r_15.2 1 20).bind fun r_23 => some (r_23.2.L, r_23.2.f_at, r_3.1.Key, r_23.1, r_3.1.Screens) else (slices_Clone_api_Screen_api_Screen r_3.1.Screens).bind fun r_26 => (mk_Stream_Some r_15.2 ([(⟨#[]⟩ : ByteArray), (⟨#[115, 97]⟩ : ByteArray), (⟨#[115, 122]⟩ : ByteArray)] : List ByteArray)).bind fun r_30 => (mk_Stream_Rect r_30.2).bind fun r_33 => (appL r_26 ([(⟨r_30.1, r_33.1⟩ : Screen)] : List Screen)).bind fun a_36 => some (r_33.2.L, r_33.2.f_at, r_3.1.Key, r_3.1.W, a_36) else some (r_7.2.L, r_7.2.f_at, r_3.1.Key, r_3.1.W, r_3.1.Screens)).bind fun v_12 => some ((⟨v_12.2.2.1, v_12.2.2.2.1, r_3.1.H, v_12.2.2.2.2⟩ : Wall), (⟨v_12.1, v_12.2.1⟩ : Stream))
def screen_meet (a_1 : Rect) (b_2 : Rect) : Option (Rect × Bool) :=
  (bif (decide ((w64 ((minI (w64 (a_1.X + a_1.W)) (w64 (b_2.X + b_2.W))) - (maxI a_1.X b_2.X))) ≤ 0)) then some true else some (decide ((w64 ((minI (w64 (a_1.Y + a_1.H)) (w64 (b_2.Y + b_2.H))) - (maxI a_1.Y b_2.Y))) ≤ 0))).bind fun v_6 => bif v_6 then some ((⟨0, 0, 0, 0⟩ : Rect), false) else some ((⟨(maxI a_1.X b_2.X), (maxI a_1.Y b_2.Y), (w64 ((minI (w64 (a_1.X + a_1.W)) (w64 (b_2.X + b_2.W))) - (maxI a_1.X b_2.X))), (w64 ((minI (w64 (a_1.Y + a_1.H)) (w64 (b_2.Y + b_2.H))) - (maxI a_1.Y b_2.Y)))⟩ : Rect), true)
noncomputable def screen_CheckWall_L1 (wv_1 : Wall) (k_10 : Nat) (x_12 : Screen) (s_15 : Unit) : Option (Ctl (Unit) (Int)) :=
  (kit_IsKey x_12.Key).bind fun r_21 => bif (!r_21) then some (.ret 5) else (screen_CheckRect x_12.On).bind fun r_24 => bif (r_24 != 0) then some (.ret r_24) else (screen_inside x_12.On wv_1.W wv_1.H).bind fun r_27 => bif (!r_27) then some (.ret 3) else (bif (decide ((k_10 : Int) > 0)) then (idx wv_1.Screens (w64 ((k_10 : Int) - 1))).bind fun y_33 => some (sLe x_12.Key y_33.Key) else some false).bind fun v_30 => bif v_30 then some (.ret 7) else some (.go ())
def screen_CheckWall_L2 (x_38 : Screen) (k_49 : Nat) (x_51 : Screen) (s_54 : Unit) : Option (Ctl (Unit) (Int)) :=
  (screen_meet x_38.On x_51.On).bind fun r_60 => bif r_60.2 then some (.ret 13) else some (.go ())
def screen_CheckWall_L3 (wv_1 : Wall) (k_36 : Nat) (x_38 : Screen) (s_41 : Unit) : Option (Ctl (Unit) (Int)) :=
  (subL wv_1.Screens 0 (k_36 : Int)).bind fun y_47 => (forL y_47 () (fun k x s => screen_CheckWall_L2 x_38 k x s)).bind fun o_57 => thenC o_57 (fun s_54 => some (.go ())) (fun r => some (.ret r))
noncomputable def screen_CheckWall (wv_1 : Wall) : Option (Int) :=
  (kit_IsKey wv_1.Key).bind fun r_3 => bif (!r_3) then some 5 else (screen_sidesFault ([wv_1.W, wv_1.H] : List Int)).bind fun r_6 => bif (r_6 != 0) then some r_6 else bif (decide ((wv_1.Screens.length : Int) > 50)) then some 2 else (forL wv_1.Screens () (fun k x s => screen_CheckWall_L1 wv_1 k x s)).bind fun o_18 => thenC o_18 (fun s_15 => (forL wv_1.Screens () (fun k x s => screen_CheckWall_L3 wv_1 k x s)).bind fun o_44 => thenC o_44 (fun s_41 => some 0) (fun r => some r)) (fun r => some r)
def screen_scale (r_1 : Rect) (wv_2 : Int) (h_3 : Int) (toW_4 : Int) (toH_5 : Int) : Option (Rect) :=
  (quoO .i64 (w64 (r_1.X * toW_4)) wv_2).bind fun q_8 => (quoO .i64 (w64 (r_1.Y * toH_5)) h_3).bind fun q_10 => (quoO .i64 (w64 ((w64 (r_1.X + r_1.W)) * toW_4)) wv_2).bind fun q_12 => (quoO .i64 (w64 ((w64 (r_1.Y + r_1.H)) * toH_5)) h_3).bind fun q_14 => (bif ((w64 (q_12 - q_8)) == 0) then some true else some ((w64 (q_14 - q_10)) == 0)).bind fun v_17 => bif v_17 then some (⟨0, 0, 0, 0⟩ : Rect) else some (⟨q_8, q_10, (w64 (q_12 - q_8)), (w64 (q_14 - q_10))⟩ : Rect)
def screen_scaled_L1 (l_2 : Layout) (wv_1 : Wall) (k_14 : Nat) (x_16 : Piece) (s_19 : (List Piece)) : Option (Ctl ((List Piece)) (Unit)) :=
  (screen_scale x_16.On l_2.W l_2.H wv_1.W wv_1.H).bind fun r_28 => (bif (decide (r_28.W > 0)) then (appL s_19 ([(⟨x_16.Zone, r_28⟩ : Piece)] : List Piece)).bind fun a_35 => some a_35 else some s_19).bind fun v_31 => some (.go v_31)
noncomputable def screen_scaled (wv_1 : Wall) (l_2 : Layout) : Option ((List Piece) × Int) :=
  (screen_CheckWall wv_1).bind fun r_5 => bif (r_5 != 0) then some (([] : (List Piece)), r_5) else (screen_CheckLayout l_2).bind fun r_8 => bif (r_8 != 0) then some (([] : (List Piece)), r_8) else (screen_seen l_2).bind fun r_11 => bif (r_11.2 != 0) then some (([] : (List Piece)), r_11.2) else (forL r_11.1 ([] : List Piece) (fun k x s => screen_scaled_L1 l_2 wv_1 k x s)).bind fun o_25 => thenC o_25 (fun s_19 => some (s_19, 0)) (fun _ => none)
def screen_moved (r_1 : Rect) (byv_2 : Rect) : Option (Rect) :=
  some (⟨(w64 (r_1.X - byv_2.X)), (w64 (r_1.Y - byv_2.Y)), r_1.W, r_1.H⟩ : Rect)
def screen_Views_L1 (x_10 : Screen) (k_22 : Nat) (x_24 : Piece) (s_27 : (List View)) : Option (Ctl ((List View)) (Unit)) :=
  (screen_meet x_10.On x_24.On).bind fun r_35 => (bif r_35.2 then (screen_moved r_35.1 x_10.On).bind fun r_42 => (appL s_27 ([(⟨x_10.Key, x_24.Zone, r_42⟩ : View)] : List View)).bind fun a_44 => some a_44 else some s_27).bind fun v_38 => some (.go v_38)
def screen_Views_L2 (r_5 : (List Piece) × Int) (k_8 : Nat) (x_10 : Screen) (s_13 : (List View)) : Option (Ctl ((List View)) (Unit)) :=
  (forL r_5.1 s_13 (fun k x s => screen_Views_L1 x_10 k x s)).bind fun o_32 => thenC o_32 (fun s_27 => some (.go s_27)) (fun _ => none)
noncomputable def screen_Views (wv_1 : Wall) (l_2 : Layout) : Option ((List View) × Int) :=
  (screen_scaled wv_1 l_2).bind fun r_5 => bif (r_5.2 != 0) then some (([] : (List View)), r_5.2) else (forL wv_1.Screens ([] : List View) (fun k x s => screen_Views_L2 r_5 k x s)).bind fun o_19 => thenC o_19 (fun s_13 => some (s_13, 0)) (fun _ => none)
def screen_lit_L1 (k_3 : Nat) (x_5 : Screen) (s_8 : (List Rect)) : Option (Ctl ((List Rect)) (Unit)) :=
  (appL s_8 ([x_5.On] : List Rect)).bind fun a_17 => some (.go a_17)
def screen_lit (wv_1 : Wall) : Option ((List Rect)) :=
  (forL wv_1.Screens ([] : List Rect) (fun k x s => screen_lit_L1 k x s)).bind fun o_14 => thenC o_14 (fun s_8 => some s_8) (fun _ => none)
def screen_Lost_L1 (k_8 : Nat) (x_10 : Piece) (s_13 : (List Rect)) : Option (Ctl ((List Rect)) (Unit)) :=
  (appL s_13 ([x_10.On] : List Rect)).bind fun a_22 => some (.go a_22)
noncomputable def screen_Lost (wv_1 : Wall) (l_2 : Layout) : Option (Int × Int) :=
  (screen_scaled wv_1 l_2).bind fun r_5 => bif (r_5.2 != 0) then some (0, r_5.2) else (forL r_5.1 ([] : List Rect) (fun k x s => screen_Lost_L1 k x s)).bind fun o_19 => thenC o_19 (fun s_13 => (screen_lit wv_1).bind fun r_25 => (screen_region s_13 r_25).bind fun r_27 => (screen_area r_27).bind fun r_29 => some (r_29, 0)) (fun _ => none)
def ref_scaled (r_1 : Rect) (wv_2 : Int) (h_3 : Int) (toW_4 : Int) (toH_5 : Int) : Option (Rect) :=
  (quoO .i64 (w64 (r_1.X * toW_4)) wv_2).bind fun q_8 => (quoO .i64 (w64 (r_1.Y * toH_5)) h_3).bind fun q_10 => (quoO .i64 (w64 ((w64 (r_1.X + r_1.W)) * toW_4)) wv_2).bind fun q_12 => (quoO .i64 (w64 ((w64 (r_1.Y + r_1.H)) * toH_5)) h_3).bind fun q_14 => (bif ((w64 (q_12 - q_8)) == 0) then some true else some ((w64 (q_14 - q_10)) == 0)).bind fun v_17 => bif v_17 then some (⟨0, 0, 0, 0⟩ : Rect) else some (⟨q_8, q_10, (w64 (q_12 - q_8)), (w64 (q_14 - q_10))⟩ : Rect)
def ref_ViewsOf_L1 (l_2 : Layout) (wv_1 : Wall) (x_7 : Screen) (k_21 : Nat) (x_23 : Piece) (s_26 : (List View)) : Option (Ctl ((List View)) (Unit)) :=
  (ref_scaled x_23.On l_2.W l_2.H wv_1.W wv_1.H).bind fun r_34 => (ref_MeetOf x_7.On r_34).bind fun r_37 => (bif r_37.2 then (appL s_26 ([(⟨x_7.Key, x_23.Zone, (⟨(w64 (r_37.1.X - x_7.On.X)), (w64 (r_37.1.Y - x_7.On.Y)), r_37.1.W, r_37.1.H⟩ : Rect)⟩ : View)] : List View)).bind fun a_44 => some (a_44, (w64 (r_37.1.X - x_7.On.X)), (w64 (r_37.1.Y - x_7.On.Y))) else some (s_26, r_37.1.X, r_37.1.Y)).bind fun v_40 => some (.go v_40.1)
noncomputable def ref_ViewsOf_L2 (l_2 : Layout) (wv_1 : Wall) (k_5 : Nat) (x_7 : Screen) (s_10 : (List View)) : Option (Ctl ((List View)) (Unit)) :=
  (ref_SeenOf l_2).bind fun r_19 => (forL r_19 s_10 (fun k x s => ref_ViewsOf_L1 l_2 wv_1 x_7 k x s)).bind fun o_31 => thenC o_31 (fun s_26 => some (.go s_26)) (fun _ => none)
noncomputable def ref_ViewsOf (wv_1 : Wall) (l_2 : Layout) : Option ((List View)) :=
  (forL wv_1.Screens ([] : List View) (fun k x s => ref_ViewsOf_L2 l_2 wv_1 k x s)).bind fun o_16 => thenC o_16 (fun s_10 => some s_10) (fun _ => none)
def slices_Equal_api_View_api_View_L1 (s2_2 : (List View)) (k_4 : Nat) (x_6 : View) (s_9 : Unit) : Option (Ctl (Unit) (Bool)) :=
  (idx s2_2 (k_4 : Int)).bind fun y_14 => bif (!((x_6.Screen.toList == y_14.Screen.toList) && ((x_6.Zone.toList == y_14.Zone.toList) && (((x_6.On.X == y_14.On.X) && ((x_6.On.Y == y_14.On.Y) && ((x_6.On.W == y_14.On.W) && ((x_6.On.H == y_14.On.H) && true)))) && true)))) then some (.ret false) else some (.go ())
def slices_Equal_api_View_api_View (s1_1 : (List View)) (s2_2 : (List View)) : Option (Bool) :=
  bif ((s1_1.length : Int) != (s2_2.length : Int)) then some false else (forL s1_1 () (fun k x s => slices_Equal_api_View_api_View_L1 s2_2 k x s)).bind fun o_12 => thenC o_12 (fun s_9 => some true) (fun r => some r)
def ref_LostOf_L1 (l_2 : Layout) (wv_1 : Wall) (k_7 : Nat) (x_9 : Piece) (s_12 : Int) : Option (Ctl (Int) (Unit)) :=
  (ref_scaled x_9.On l_2.W l_2.H wv_1.W wv_1.H).bind fun r_18 => some (.go (w64 (s_12 + (w64 (r_18.W * r_18.H)))))
def ref_LostOf_L2 (k_23 : Nat) (x_25 : View) (s_28 : Int) : Option (Ctl (Int) (Unit)) :=
  some (.go (w64 (s_28 - (w64 (x_25.On.W * x_25.On.H)))))
noncomputable def ref_LostOf (wv_1 : Wall) (l_2 : Layout) : Option (Int) :=
  (ref_SeenOf l_2).bind fun r_5 => (forL r_5 0 (fun k x s => ref_LostOf_L1 l_2 wv_1 k x s)).bind fun o_15 => thenC o_15 (fun s_12 => (ref_ViewsOf wv_1 l_2).bind fun r_21 => (forL r_21 s_12 (fun k x s => ref_LostOf_L2 k x s)).bind fun o_31 => thenC o_31 (fun s_28 => some s_28) (fun _ => none)) (fun _ => none)
noncomputable def law_WallsShow (l_1 : (List Int)) : Option (Bool) :=
  (mk_Stream_Wall (⟨l_1, 0⟩ : Stream)).bind fun r_3 => (mk_Stream_Layout r_3.2).bind fun r_6 => (screen_Views r_3.1 r_6.1).bind fun r_11 => (screen_Lost r_3.1 r_6.1).bind fun r_13 => (ref_WallFault r_3.1).bind fun r_15 => (ref_LayoutFault r_6.1).bind fun r_17 => (law_errs ([r_15, r_17] : List Int)).bind fun r_19 => bif (r_19 != 0) then (bif (r_11.2 == r_19) then bif (r_13.2 == r_19) then bif ((r_11.1.length : Int) == 0) then bif (r_13.1 == 0) then (law_lit).bind fun r_28 => some r_28 else some false else some false else some false else some false).bind fun v_22 => some v_22 else (bif (r_11.2 == 0) then bif (r_13.2 == 0) then (ref_ViewsOf r_3.1 r_6.1).bind fun r_34 => (slices_Equal_api_View_api_View r_11.1 r_34).bind fun r_36 => bif r_36 then (ref_LostOf r_3.1 r_6.1).bind fun r_39 => bif (r_13.1 == r_39) then (law_lit).bind fun r_42 => some r_42 else some false else some false else some false else some false).bind fun v_30 => some v_30
end Go.Proofs.YtiekkaelpgahoaaGreat.Law

