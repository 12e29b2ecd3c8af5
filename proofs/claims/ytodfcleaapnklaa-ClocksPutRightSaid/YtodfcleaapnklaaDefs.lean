/-
  The functions of the program, as plain functions over data (written by a program of ours).
-/
import Derived.Test.YtodfcleaapnklaaEng3
open Go Go.Eng
namespace Go.Proofs.Ytodfcleaapnklaa.Law
set_option maxRecDepth 100000
set_option linter.unusedVariables false
set_option maxHeartbeats 1000000
structure Stream where
  L : (List Int)
  f_at : Int
def Stream.enc (s : Stream) : List D := [dl eI s.L, .int .i64 s.f_at]

structure Beat where
  Player : ByteArray
  At : Int
  Clock : Int
def Beat.enc (s : Beat) : List D := [.str s.Player, .int .i64 s.At, .int .i64 s.Clock]

structure Beat_ where
  f_from : Int
  f_to : Int
def Beat_.enc (s : Beat_) : List D := [.int .i64 s.f_from, .int .i64 s.f_to]

structure Fraction where
  Num : Int
  Den : Int
def Fraction.enc (s : Fraction) : List D := [.int .i64 s.Num, .int .i64 s.Den]

structure Player where
  Key : ByteArray
  Screen : ByteArray
  Zone : Int
  Tags : (List ByteArray)
def Player.enc (s : Player) : List D := [.str s.Key, .str s.Screen, .int .i64 s.Zone, dl eS s.Tags]

def mk_Below (x_1 : Int) (n_2 : Int) : Option (Int) :=
  bif (decide (n_2 < 1)) then some 0 else (remO .i64 x_1 n_2).bind fun q_4 => (bif (decide (q_4 < 0)) then some (w64 (q_4 + n_2)) else some q_4).bind fun v_6 => some v_6
def mk_Stream_Next (s_1 : Stream) (n_2 : Int) : Option (Int × Stream) :=
  bif ((s_1.L.length : Int) == 0) then (mk_Below (w64 ((w64 (s_1.f_at + 1)) * 7919)) n_2).bind fun r_4 => some (r_4, (⟨s_1.L, (w64 (s_1.f_at + 1))⟩ : Stream)) else (remO .i64 (w64 ((w64 (s_1.f_at + 1)) - 1)) (s_1.L.length : Int)).bind fun q_6 => (quoO .i64 (w64 ((w64 (s_1.f_at + 1)) - 1)) (s_1.L.length : Int)).bind fun q_8 => (idx s_1.L q_6).bind fun y_10 => (mk_Below y_10 1073741824).bind fun r_12 => (mk_Below (w64 (r_12 + (w64 (q_8 * (w64 (7919 + q_6)))))) n_2).bind fun r_14 => some (r_14, (⟨s_1.L, (w64 (s_1.f_at + 1))⟩ : Stream))
def mk_Stream_Range (s_1 : Stream) (low_2 : Int) (high_3 : Int) : Option (Int × Stream) :=
  bif (decide (high_3 < low_2)) then some (low_2, s_1) else (mk_Stream_Next s_1 (w64 ((w64 (high_3 - low_2)) + 1))).bind fun r_5 => some ((w64 (low_2 + r_5.1)), r_5.2)
def mk_Stream_Pick (s_1 : Stream) (l_2 : (List Int)) : Option (Int × Stream) :=
  (mk_Stream_Next s_1 (l_2.length : Int)).bind fun r_3 => (idx l_2 r_3.1).bind fun y_6 => some (y_6, r_3.2)
def mk_Stream_RightBeats_L1 (x_4 : ByteArray) (k_24 : Nat) (x_26 : Nat) (s_29 : (List Beat) × Int × Int × (List Int) × Int) : Option (Ctl ((List Beat) × Int × Int × (List Int) × Int) (Unit)) :=
  (appL s_29.1 ([(⟨x_4, s_29.2.1, s_29.2.2.1⟩ : Beat)] : List Beat)).bind fun a_36 => (mk_Stream_Pick (⟨s_29.2.2.2.1, s_29.2.2.2.2⟩ : Stream) ([1, 50, 100, 1000, 2678400000] : List Int)).bind fun r_39 => (mk_Stream_Pick r_39.2 ([1, 40, 100, 1300, 2592000000] : List Int)).bind fun r_42 => some (.go (a_36, (w64 (s_29.2.1 + r_39.1)), (w64 (s_29.2.2.1 + r_42.1)), r_42.2.L, r_42.2.f_at))
def mk_Stream_RightBeats_L2 (k_2 : Nat) (x_4 : ByteArray) (s_7 : (List Beat) × (List Int) × Int) : Option (Ctl ((List Beat) × (List Int) × Int) (Unit)) :=
  (mk_Stream_Range (⟨s_7.2.1, s_7.2.2⟩ : Stream) 0 100).bind fun r_15 => (mk_Stream_Range r_15.2 0 100).bind fun r_18 => (mk_Stream_Range r_18.2 0 3).bind fun r_21 => (forL (List.range (r_21.1).toNat) (s_7.1, r_15.1, r_18.1, r_21.2.L, r_21.2.f_at) (fun k x s => mk_Stream_RightBeats_L1 x_4 k x s)).bind fun o_34 => thenC o_34 (fun s_29 => some (.go (s_29.1, s_29.2.2.2.1, s_29.2.2.2.2))) (fun _ => none)
def mk_Stream_RightBeats (s_1 : Stream) : Option ((List Beat) × Stream) :=
  (forL ([(⟨#[112, 97]⟩ : ByteArray), (⟨#[112, 98]⟩ : ByteArray)] : List ByteArray) (([] : List Beat), s_1.L, s_1.f_at) (fun k x s => mk_Stream_RightBeats_L2 k x s)).bind fun o_13 => thenC o_13 (fun s_7 => some (s_7.1, (⟨s_7.2.1, s_7.2.2⟩ : Stream))) (fun _ => none)
def mk_Stream_Flip (s_1 : Stream) (n_2 : Int) : Option (Bool × Stream) :=
  (mk_Stream_Next s_1 n_2).bind fun r_3 => some ((r_3.1 == 0), r_3.2)
def mk_Stream_Some (s_1 : Stream) (l_2 : (List ByteArray)) : Option (ByteArray × Stream) :=
  (mk_Stream_Next s_1 (l_2.length : Int)).bind fun r_3 => (idx l_2 r_3.1).bind fun y_6 => some (y_6, r_3.2)
def mk_Stream_Odd (s_1 : Stream) (low_2 : Int) (high_3 : Int) : Option (Int × Stream) :=
  (mk_Stream_Flip s_1 12).bind fun r_4 => bif r_4.1 then (mk_Stream_Pick r_4.2 ([(w64 (low_2 - 1)), (w64 (high_3 + 1)), low_2, high_3, (-1099511627776), 1099511627776] : List Int)).bind fun r_8 => some (r_8.1, r_8.2) else (mk_Stream_Range r_4.2 low_2 high_3).bind fun r_11 => some (r_11.1, r_11.2)
def mk_Stream_Beats (s_1 : Stream) : Option ((List Beat) × Stream) :=
  (mk_Stream_RightBeats s_1).bind fun r_2 => (bif (decide ((r_2.1.length : Int) > 0)) then (mk_Stream_Flip r_2.2 12).bind fun r_9 => some (r_9.1, r_9.2.L, r_9.2.f_at) else some (false, r_2.2.L, r_2.2.f_at)).bind fun v_6 => (bif v_6.1 then (mk_Stream_Next (⟨v_6.2.1, v_6.2.2⟩ : Stream) (r_2.1.length : Int)).bind fun r_15 => (inR r_15.1 r_2.1).bind fun _ => (r_2.1[(0 + (r_15.1).toNat)]?).bind fun e_19 => (mk_Stream_Some r_15.2 ([e_19.Player, (⟨#[]⟩ : ByteArray), (⟨#[112, 97]⟩ : ByteArray)] : List ByteArray)).bind fun r_21 => (mk_Stream_Odd r_21.2 0 1000).bind fun r_24 => (mk_Stream_Odd r_24.2 0 1000).bind fun r_27 => (r_2.1[(0 + (r_15.1).toNat)]?).bind fun e_30 => ((r_2.1.set (0 + (r_15.1).toNat) (⟨r_21.1, e_30.At, e_30.Clock⟩ : Beat))[(0 + (r_15.1).toNat)]?).bind fun e_32 => (((r_2.1.set (0 + (r_15.1).toNat) (⟨r_21.1, e_30.At, e_30.Clock⟩ : Beat)).set (0 + (r_15.1).toNat) (⟨e_32.Player, r_24.1, e_32.Clock⟩ : Beat))[(0 + (r_15.1).toNat)]?).bind fun e_34 => some ((((r_2.1.set (0 + (r_15.1).toNat) (⟨r_21.1, e_30.At, e_30.Clock⟩ : Beat)).set (0 + (r_15.1).toNat) (⟨e_32.Player, r_24.1, e_32.Clock⟩ : Beat)).set (0 + (r_15.1).toNat) (⟨e_34.Player, e_34.At, r_27.1⟩ : Beat)), r_27.2.L, r_27.2.f_at) else some (r_2.1, v_6.2.1, v_6.2.2)).bind fun v_12 => some (v_12.1, (⟨v_12.2.1, v_12.2.2⟩ : Stream))
def kit_IsKey_L1 (s_1 : ByteArray) (s_7 : Int) : Option (Ctl (Int) (Bool)) :=
  bif (decide (s_7 < (s_1.size : Int))) then (idxS s_1 s_7).bind fun b_13 => (bif (decide ((b_13.toNat : Int) ≥ 97)) then bif (decide ((b_13.toNat : Int) ≤ 122)) then some false else bif (decide (s_7 > 0)) then bif (decide ((b_13.toNat : Int) ≥ 48)) then bif (decide ((b_13.toNat : Int) ≤ 57)) then some false else bif ((b_13.toNat : Int) == 45) then some false else some (!((b_13.toNat : Int) == 95)) else bif ((b_13.toNat : Int) == 45) then some false else some (!((b_13.toNat : Int) == 95)) else some true else bif (decide (s_7 > 0)) then bif (decide ((b_13.toNat : Int) ≥ 48)) then bif (decide ((b_13.toNat : Int) ≤ 57)) then some false else bif ((b_13.toNat : Int) == 45) then some false else some (!((b_13.toNat : Int) == 95)) else bif ((b_13.toNat : Int) == 45) then some false else some (!((b_13.toNat : Int) == 95)) else some true).bind fun v_15 => bif v_15 then some (.ret false) else some (.go (w64 (s_7 + 1))) else some (.brk s_7)
noncomputable def kit_IsKey (s_1 : ByteArray) : Option (Bool) :=
  (loopO 0 (fun s => kit_IsKey_L1 s_1 s)).bind fun o_10 => thenC o_10 (fun s_7 => (bif (sNe s_1 (⟨#[]⟩ : ByteArray)) then some (decide ((s_1.size : Int) ≤ 40)) else some false).bind fun v_30 => some v_30) (fun r => some r)
def kit_IsMoment (n_1 : Int) : Option (Bool) :=
  (bif (decide (n_1 ≥ 0)) then some (decide (n_1 < 345686400000)) else some false).bind fun v_2 => some v_2
def kit_Outside (n_1 : Int) (low_2 : Int) (high_3 : Int) : Option (Bool) :=
  (bif (decide (n_1 < low_2)) then some true else some (decide (n_1 > high_3))).bind fun v_4 => some v_4
def internal_bytealg_CompareString (a_1 : ByteArray) (b_2 : ByteArray) : Option (Int) :=
  some (cmpB a_1 b_2)
def strings_Compare (a_1 : ByteArray) (b_2 : ByteArray) : Option (Int) :=
  (internal_bytealg_CompareString a_1 b_2).bind fun r_3 => some r_3
def cmp_isNaN_int (x_1 : Int) : Option (Bool) :=
  some (x_1 != x_1)
def cmp_Compare_int (x_1 : Int) (y_2 : Int) : Option (Int) :=
  (cmp_isNaN_int x_1).bind fun r_3 => (cmp_isNaN_int y_2).bind fun r_5 => bif r_3 then bif r_5 then some 0 else some (-1) else bif r_5 then some 1 else bif (decide (x_1 < y_2)) then some (-1) else bif (decide (x_1 > y_2)) then some 1 else some 0
def cmp_Or_int_L1 (k_2 : Nat) (x_4 : Int) (s_7 : Unit) : Option (Ctl (Unit) (Int)) :=
  bif (x_4 != 0) then some (.ret x_4) else some (.go ())
def cmp_Or_int (vals_1 : (List Int)) : Option (Int) :=
  (forL vals_1 () (fun k x s => cmp_Or_int_L1 k x s)).bind fun o_10 => thenC o_10 (fun s_7 => some 0) (fun r => some r)
def proof_compareBeats (a_1 : Beat) (b_2 : Beat) : Option (Int) :=
  (strings_Compare a_1.Player b_2.Player).bind fun r_5 => (cmp_Compare_int a_1.At b_2.At).bind fun r_7 => (cmp_Or_int ([r_5, r_7] : List Int)).bind fun r_9 => some r_9
noncomputable def proof_CheckBeats_L1 (l_1 : (List Beat)) (k_3 : Nat) (x_5 : Beat) (s_8 : Unit) : Option (Ctl (Unit) (Int)) :=
  (kit_IsKey x_5.Player).bind fun r_14 => bif (!r_14) then some (.ret 5) else ((kit_IsMoment x_5.At).bind fun r_19 => bif (!r_19) then some true else (kit_Outside x_5.Clock 0 345686399999).bind fun r_22 => some r_22).bind fun v_17 => bif v_17 then some (.ret 1) else (bif (decide ((k_3 : Int) > 0)) then (idx l_1 (w64 ((k_3 : Int) - 1))).bind fun y_28 => (proof_compareBeats y_28 x_5).bind fun r_30 => some (decide (r_30 ≥ 0)) else some false).bind fun v_25 => bif v_25 then some (.ret 7) else (bif (decide ((k_3 : Int) > 0)) then (idx l_1 (w64 ((k_3 : Int) - 1))).bind fun y_36 => bif (sEq x_5.Player y_36.Player) then (idx l_1 (w64 ((k_3 : Int) - 1))).bind fun y_39 => some (decide (x_5.Clock ≤ y_39.Clock)) else some false else some false).bind fun v_33 => bif v_33 then some (.ret 16) else some (.go ())
noncomputable def proof_CheckBeats (l_1 : (List Beat)) : Option (Int) :=
  bif (decide ((l_1.length : Int) > 500)) then some 2 else (forL l_1 () (fun k x s => proof_CheckBeats_L1 l_1 k x s)).bind fun o_11 => thenC o_11 (fun s_8 => some 0) (fun r => some r)
def proof_beatsOf_L1 (player_2 : ByteArray) (back_3 : Bool) (k_4 : Nat) (x_6 : Beat) (s_9 : (List Beat_)) : Option (Ctl ((List Beat_)) (Unit)) :=
  (bif (sNe x_6.Player player_2) then some s_9 else bif back_3 then (appL s_9 ([(⟨x_6.At, x_6.Clock⟩ : Beat_)] : List Beat_)).bind fun a_23 => some a_23 else (appL s_9 ([(⟨x_6.Clock, x_6.At⟩ : Beat_)] : List Beat_)).bind fun a_26 => some a_26).bind fun v_18 => some (.go v_18)
def proof_beatsOf (l_1 : (List Beat)) (player_2 : ByteArray) (back_3 : Bool) : Option ((List Beat_)) :=
  (forL l_1 ([] : List Beat_) (fun k x s => proof_beatsOf_L1 player_2 back_3 k x s)).bind fun o_15 => thenC o_15 (fun s_9 => some s_9) (fun _ => none)
def proof_mapped_L1 (l_1 : (List Beat_)) (n_2 : Int) (s_9 : Int) : Option (Ctl (Int) (Unit)) :=
  (bif (decide (s_9 < (l_1.length : Int))) then (idx l_1 s_9).bind fun y_17 => some (decide (y_17.f_from ≤ n_2)) else some false).bind fun v_14 => bif v_14 then some (.go (w64 (s_9 + 1))) else some (.brk s_9)
noncomputable def proof_mapped (l_1 : (List Beat_)) (n_2 : Int) : Option (Int × Int) :=
  bif ((l_1.length : Int) == 0) then some (0, 8) else (loopO 0 (fun s => proof_mapped_L1 l_1 n_2 s)).bind fun o_12 => thenC o_12 (fun s_9 => bif (s_9 == 0) then (idx l_1 0).bind fun y_21 => (idx l_1 0).bind fun y_23 => (kit_IsMoment (w64 (y_21.f_to - (w64 (y_23.f_from - n_2))))).bind fun r_25 => bif (!r_25) then some (0, 11) else some ((w64 (y_21.f_to - (w64 (y_23.f_from - n_2)))), 0) else bif (s_9 == (l_1.length : Int)) then (idx l_1 (w64 (s_9 - 1))).bind fun y_29 => (idx l_1 (w64 (s_9 - 1))).bind fun y_31 => (kit_IsMoment (w64 ((w64 (y_29.f_to + n_2)) - y_31.f_from))).bind fun r_33 => bif (!r_33) then some (0, 11) else some ((w64 ((w64 (y_29.f_to + n_2)) - y_31.f_from)), 0) else (idx l_1 (w64 (s_9 - 1))).bind fun y_36 => (idx l_1 s_9).bind fun y_38 => (bif (decide ((w64 (y_38.f_from - y_36.f_from)) > 2592000000)) then some true else some (decide ((w64 (y_38.f_to - y_36.f_to)) > 2592000000))).bind fun v_42 => bif v_42 then some (0, 2) else (quoO .i64 (w64 ((w64 (n_2 - y_36.f_from)) * (w64 (y_38.f_to - y_36.f_to)))) (w64 (y_38.f_from - y_36.f_from))).bind fun q_46 => (kit_IsMoment (w64 (y_36.f_to + q_46))).bind fun r_48 => bif (!r_48) then some (0, 11) else some ((w64 (y_36.f_to + q_46)), 0)) (fun _ => none)
noncomputable def proof_asked (l_1 : (List Beat)) (player_2 : ByteArray) (n_3 : Int) (back_4 : Bool) : Option (Int × Int) :=
  (proof_CheckBeats l_1).bind fun r_5 => bif (r_5 != 0) then some (0, r_5) else (kit_IsKey player_2).bind fun r_8 => bif (!r_8) then some (0, 5) else (kit_IsMoment n_3).bind fun r_11 => bif (!r_11) then some (0, 1) else (proof_beatsOf l_1 player_2 back_4).bind fun r_14 => (proof_mapped r_14 n_3).bind fun r_16 => some (r_16.1, r_16.2)
noncomputable def proof_Right (l_1 : (List Beat)) (player_2 : ByteArray) (clock_3 : Int) : Option (Int × Int) :=
  (proof_asked l_1 player_2 clock_3 false).bind fun r_4 => some (r_4.1, r_4.2)
noncomputable def proof_Shown (l_1 : (List Beat)) (player_2 : ByteArray) (atv_3 : Int) : Option (Int × Int) :=
  (proof_asked l_1 player_2 atv_3 true).bind fun r_4 => some (r_4.1, r_4.2)
def kit_Gcd_L1 (s_8 : Int × Int) : Option (Ctl (Int × Int) (Unit)) :=
  bif (s_8.2 != 0) then (remO .i64 s_8.1 s_8.2).bind fun q_14 => some (.go (s_8.2, q_14)) else some (.brk (s_8.1, s_8.2))
noncomputable def kit_Gcd (a_1 : Int) (b_2 : Int) : Option (Int) :=
  (loopO (a_1, b_2) (fun s => kit_Gcd_L1 s)).bind fun o_11 => thenC o_11 (fun s_8 => some (maxI s_8.1 (w64 (0 - s_8.1)))) (fun _ => none)
noncomputable def kit_Lowest (num_1 : Int) (den_2 : Int) : Option (Fraction) :=
  (bif (decide (den_2 < 0)) then some ((w64 (0 - num_1)), (w64 (0 - den_2))) else some (num_1, den_2)).bind fun v_4 => (kit_Gcd v_4.1 v_4.2).bind fun r_7 => (quoO .i64 v_4.1 r_7).bind fun q_9 => (quoO .i64 v_4.2 r_7).bind fun q_11 => some (⟨q_9, q_11⟩ : Fraction)
noncomputable def proof_Drift (l_1 : (List Beat)) (player_2 : ByteArray) : Option (Fraction × Int) :=
  (proof_CheckBeats l_1).bind fun r_4 => bif (r_4 != 0) then some ((⟨0, 0⟩ : Fraction), r_4) else (kit_IsKey player_2).bind fun r_7 => bif (!r_7) then some ((⟨0, 0⟩ : Fraction), 5) else (proof_beatsOf l_1 player_2 true).bind fun r_10 => bif (decide ((r_10.length : Int) < 2)) then some ((⟨0, 0⟩ : Fraction), 8) else (idx r_10 0).bind fun y_13 => (idx r_10 (w64 ((r_10.length : Int) - 1))).bind fun y_15 => (kit_Lowest (w64 ((w64 (y_15.f_to - y_13.f_to)) - (w64 (y_15.f_from - y_13.f_from)))) (w64 (y_15.f_from - y_13.f_from))).bind fun r_19 => some (r_19, 0)
def ref_in (n_1 : Int) (low_2 : Int) (high_3 : Int) : Option (Bool) :=
  (bif (decide (low_2 ≤ n_1)) then some (decide (n_1 ≤ high_3)) else some false).bind fun v_4 => some v_4
def internal_stringslite_IndexByte (s_1 : ByteArray) (c_2 : Int) : Option (Int) :=
  some (ixB s_1 c_2)
def strings_IndexByte (s_1 : ByteArray) (c_2 : Int) : Option (Int) :=
  (internal_stringslite_IndexByte s_1 c_2).bind fun r_3 => some r_3
def ref_only_L1 (s_1 : ByteArray) (somev_2 : ByteArray) (k_3 : Nat) (x_5 : Nat) (s_8 : Unit) : Option (Ctl (Unit) (Bool)) :=
  (idxS s_1 (k_3 : Int)).bind fun b_13 => (strings_IndexByte somev_2 (b_13.toNat : Int)).bind fun r_15 => bif (decide (r_15 < 0)) then some (.ret false) else some (.go ())
def ref_only (s_1 : ByteArray) (somev_2 : ByteArray) : Option (Bool) :=
  (forL (List.range ((s_1.size : Int)).toNat) () (fun k x s => ref_only_L1 s_1 somev_2 k x s)).bind fun o_11 => thenC o_11 (fun s_8 => some true) (fun r => some r)
def ref_Key (s_1 : ByteArray) : Option (Bool) :=
  ((ref_in (s_1.size : Int) 1 40).bind fun r_4 => bif r_4 then (subS s_1 0 1).bind fun y_7 => (ref_only y_7 (⟨#[97, 98, 99, 100, 101, 102, 103, 104, 105, 106, 107, 108, 109, 110, 111, 112, 113, 114, 115, 116, 117, 118, 119, 120, 121, 122]⟩ : ByteArray)).bind fun r_9 => bif r_9 then (ref_only s_1 (⟨#[97, 98, 99, 100, 101, 102, 103, 104, 105, 106, 107, 108, 109, 110, 111, 112, 113, 114, 115, 116, 117, 118, 119, 120, 121, 122, 48, 49, 50, 51, 52, 53, 54, 55, 56, 57, 45, 95]⟩ : ByteArray)).bind fun r_12 => some r_12 else some false else some false).bind fun v_2 => some v_2
def ref_Moment (atv_1 : Int) : Option (Bool) :=
  (ref_in atv_1 0 345686399999).bind fun r_2 => some r_2
def ref_BeatsFault_L1 (l_1 : (List Beat)) (k_3 : Nat) (x_5 : Beat) (s_8 : Unit) : Option (Ctl (Unit) (Int)) :=
  (ref_Key x_5.Player).bind fun r_14 => bif (!r_14) then some (.ret 5) else ((ref_Moment x_5.At).bind fun r_19 => bif (!r_19) then some true else (ref_Moment x_5.Clock).bind fun r_22 => some (!r_22)).bind fun v_17 => bif v_17 then some (.ret 1) else bif ((k_3 : Int) == 0) then some (.go ()) else (idx l_1 (w64 ((k_3 : Int) - 1))).bind fun y_26 => (bif (sLt x_5.Player y_26.Player) then some true else bif (sEq x_5.Player y_26.Player) then some (decide (x_5.At ≤ y_26.At)) else some false).bind fun v_29 => bif v_29 then some (.ret 7) else (bif (sEq x_5.Player y_26.Player) then some (decide (x_5.Clock ≤ y_26.Clock)) else some false).bind fun v_34 => bif v_34 then some (.ret 16) else some (.go ())
def ref_BeatsFault (l_1 : (List Beat)) : Option (Int) :=
  bif (decide ((l_1.length : Int) > 500)) then some 2 else (forL l_1 () (fun k x s => ref_BeatsFault_L1 l_1 k x s)).bind fun o_11 => thenC o_11 (fun s_8 => some 0) (fun r => some r)
def law_when (is_1 : Bool) (e_2 : Int) : Option (Int) :=
  bif is_1 then some e_2 else some 0
def law_errs_L1 (k_2 : Nat) (x_4 : Int) (s_7 : Unit) : Option (Ctl (Unit) (Int)) :=
  bif (x_4 != 0) then some (.ret x_4) else some (.go ())
def law_errs (l_1 : (List Int)) : Option (Int) :=
  (forL l_1 () (fun k x s => law_errs_L1 k x s)).bind fun o_10 => thenC o_10 (fun s_7 => some 0) (fun r => some r)
def law_momentFault (atv_1 : Int) : Option (Int) :=
  (ref_Moment atv_1).bind fun r_2 => (law_when (!r_2) 1).bind fun r_4 => some r_4
def slices_Clone_api_Beat_api_Beat (s_1 : (List Beat)) : Option ((List Beat)) :=
  (appL [] s_1).bind fun a_4 => some a_4
def ref_beatsOf_1 (b_1 : Beat) (p_2 : ByteArray) : Option (Bool) :=
  some (sNe b_1.Player p_2)
def slices_IndexFunc_api_Beat_api_Beat_v1_L1 (s_1 : (List Beat)) (f2_3 : ByteArray) (k_4 : Nat) (x_6 : Nat) (s_9 : Unit) : Option (Ctl (Unit) (Int)) :=
  (inR (k_4 : Int) s_1).bind fun _ => (s_1[(0 + ((k_4 : Int)).toNat)]?).bind fun e_15 => (ref_beatsOf_1 e_15 f2_3).bind fun r_17 => bif r_17 then some (.ret (k_4 : Int)) else some (.go ())
def slices_IndexFunc_api_Beat_api_Beat_v1 (s_1 : (List Beat)) (f2_3 : ByteArray) : Option (Int) :=
  (forL (List.range ((s_1.length : Int)).toNat) () (fun k x s => slices_IndexFunc_api_Beat_api_Beat_v1_L1 s_1 f2_3 k x s)).bind fun o_12 => thenC o_12 (fun s_9 => some (-1)) (fun r => some r)
def slices_DeleteFunc_api_Beat_api_Beat_v1_L1 (del2_3 : ByteArray) (s_12 : (List Beat) × Int × Int) : Option (Ctl ((List Beat) × Int × Int) (Unit)) :=
  bif (decide (s_12.2.2 < (s_12.1.length : Int))) then (inR s_12.2.2 s_12.1).bind fun _ => (s_12.1[(0 + (s_12.2.2).toNat)]?).bind fun e_19 => (ref_beatsOf_1 e_19 del2_3).bind fun r_22 => (bif (!r_22) then (inR s_12.2.1 s_12.1).bind fun _ => (s_12.1[(0 + (s_12.2.1).toNat)]?).bind fun e_29 => some ((s_12.1.set (0 + (s_12.2.1).toNat) e_19), (w64 (s_12.2.1 + 1))) else some (s_12.1, s_12.2.1)).bind fun v_25 => some (.go (v_25.1, v_25.2, (w64 (s_12.2.2 + 1)))) else some (.brk (s_12.1, s_12.2.1, s_12.2.2))
noncomputable def slices_DeleteFunc_api_Beat_api_Beat_v1 (s_1 : (List Beat)) (del2_3 : ByteArray) : Option ((List Beat)) :=
  (slices_IndexFunc_api_Beat_api_Beat_v1 s_1 del2_3).bind fun r_4 => bif (r_4 == (-1)) then some s_1 else (loopO (s_1, r_4, (w64 (r_4 + 1))) (fun s => slices_DeleteFunc_api_Beat_api_Beat_v1_L1 del2_3 s)).bind fun o_15 => thenC o_15 (fun s_12 => (neL s_12.1).bind fun _ => (subR s_12.1 s_12.2.1 (s_12.1.length : Int)).bind fun _ => (subR (s_12.1.take ((s_12.2.1).toNat) ++ List.replicate (((s_12.1.length : Int)).toNat - (s_12.2.1).toNat) (⟨(⟨#[]⟩ : ByteArray), 0, 0⟩ : Beat) ++ s_12.1.drop (((s_12.2.1).toNat) + (((s_12.1.length : Int)).toNat - (s_12.2.1).toNat))) 0 s_12.2.1).bind fun _ => some (cutL (s_12.1.take ((s_12.2.1).toNat) ++ List.replicate (((s_12.1.length : Int)).toNat - (s_12.2.1).toNat) (⟨(⟨#[]⟩ : ByteArray), 0, 0⟩ : Beat) ++ s_12.1.drop (((s_12.2.1).toNat) + (((s_12.1.length : Int)).toNat - (s_12.2.1).toNat))) 0 ((s_12.2.1).toNat))) (fun _ => none)
noncomputable def ref_beatsOf (l_1 : (List Beat)) (player_2 : ByteArray) : Option ((List Beat)) :=
  (slices_Clone_api_Beat_api_Beat l_1).bind fun r_4 => (slices_DeleteFunc_api_Beat_api_Beat_v1 r_4 player_2).bind fun r_8 => some r_8
def ref_RightOf_L1 (clock_3 : Int) (r_4 : (List Beat)) (k_11 : Nat) (x_13 : Beat) (s_16 : Int) : Option (Ctl (Int) (Int × Int)) :=
  bif (decide (x_13.Clock > clock_3)) then some (.brk s_16) else (bif ((w64 ((k_11 : Int) + 1)) == (r_4.length : Int)) then some true else (idx r_4 (w64 ((k_11 : Int) + 1))).bind fun y_26 => some (decide (y_26.Clock ≤ clock_3))).bind fun v_23 => bif v_23 then some (.go (w64 ((w64 (x_13.At + clock_3)) - x_13.Clock))) else (idx r_4 (w64 ((k_11 : Int) + 1))).bind fun y_29 => (bif (decide ((w64 (y_29.At - x_13.At)) > 2592000000)) then some true else some (decide ((w64 (y_29.Clock - x_13.Clock)) > 2592000000))).bind fun v_32 => bif v_32 then some (.ret (0, 2)) else (quoO .i64 (w64 ((w64 (clock_3 - x_13.Clock)) * (w64 (y_29.At - x_13.At)))) (w64 (y_29.Clock - x_13.Clock))).bind fun q_36 => some (.go (w64 (x_13.At + q_36)))
noncomputable def ref_RightOf (all_1 : (List Beat)) (player_2 : ByteArray) (clock_3 : Int) : Option (Int × Int) :=
  (ref_beatsOf all_1 player_2).bind fun r_4 => bif ((r_4.length : Int) == 0) then some (0, 8) else (idx r_4 0).bind fun y_7 => (idx r_4 0).bind fun y_9 => (forL r_4 (w64 ((w64 (y_7.At + clock_3)) - y_9.Clock)) (fun k x s => ref_RightOf_L1 clock_3 r_4 k x s)).bind fun o_19 => thenC o_19 (fun s_16 => (ref_Moment s_16).bind fun r_38 => bif (!r_38) then some (0, 11) else some (s_16, 0)) (fun r => some r)
def ref_swapped_L1 (k_2 : Nat) (x_4 : Beat) (s_7 : (List Beat)) : Option (Ctl ((List Beat)) (Unit)) :=
  (appL s_7 ([(⟨x_4.Player, x_4.Clock, x_4.At⟩ : Beat)] : List Beat)).bind fun a_16 => some (.go a_16)
def ref_swapped (l_1 : (List Beat)) : Option ((List Beat)) :=
  (forL l_1 ([] : List Beat) (fun k x s => ref_swapped_L1 k x s)).bind fun o_13 => thenC o_13 (fun s_7 => some s_7) (fun _ => none)
noncomputable def ref_ShownOf (all_1 : (List Beat)) (player_2 : ByteArray) (atv_3 : Int) : Option (Int × Int) :=
  (ref_swapped all_1).bind fun r_4 => (ref_RightOf r_4 player_2 atv_3).bind fun r_6 => some (r_6.1, r_6.2)
def ref_Lowest_L1 (s_9 : Int × Int) : Option (Ctl (Int × Int) (Unit)) :=
  bif (s_9.2 != 0) then (remO .i64 s_9.1 s_9.2).bind fun q_15 => some (.go (s_9.2, q_15)) else some (.brk (s_9.1, s_9.2))
noncomputable def ref_Lowest (num_1 : Int) (den_2 : Int) : Option (Fraction) :=
  (loopO (num_1, den_2) (fun s => ref_Lowest_L1 s)).bind fun o_12 => thenC o_12 (fun s_9 => (bif (decide (s_9.1 < 0)) then some (w64 (0 - s_9.1)) else some s_9.1).bind fun v_17 => (quoO .i64 num_1 v_17).bind fun q_20 => (quoO .i64 den_2 v_17).bind fun q_22 => some (⟨q_20, q_22⟩ : Fraction)) (fun _ => none)
noncomputable def ref_DriftOf (all_1 : (List Beat)) (player_2 : ByteArray) : Option (Fraction × Bool) :=
  (ref_beatsOf all_1 player_2).bind fun r_4 => bif (decide ((r_4.length : Int) < 2)) then some ((⟨0, 0⟩ : Fraction), false) else (idx r_4 0).bind fun y_7 => (idx r_4 (w64 ((r_4.length : Int) - 1))).bind fun y_9 => (ref_Lowest (w64 ((w64 (y_9.Clock - y_7.Clock)) - (w64 (y_9.At - y_7.At)))) (w64 (y_9.At - y_7.At))).bind fun r_13 => some (r_13, true)
noncomputable def law_proved  : Option (Bool) :=
  (proof_Right ([(⟨(⟨#[112]⟩ : ByteArray), 0, 100⟩ : Beat), (⟨(⟨#[112]⟩ : ByteArray), 1000, 1300⟩ : Beat)] : List Beat) (⟨#[112]⟩ : ByteArray) 700).bind fun r_1 => (bif (r_1.2 == 0) then some (r_1.1 == 500) else some false).bind fun v_3 => some v_3
noncomputable def law_ClocksPutRight (l_1 : (List Int)) : Option (Bool) :=
  (mk_Stream_Beats (⟨l_1, 0⟩ : Stream)).bind fun r_3 => (mk_Stream_Some r_3.2 ([(⟨#[112, 97]⟩ : ByteArray), (⟨#[112, 97]⟩ : ByteArray), (⟨#[112, 98]⟩ : ByteArray), (⟨#[112, 122]⟩ : ByteArray), (⟨#[]⟩ : ByteArray)] : List ByteArray)).bind fun r_6 => (mk_Stream_Pick r_6.2 ([0, 50, 100, 130, 500, 1500, 2678400000, 5184000000, (-1), 345686399999, 345686400000] : List Int)).bind fun r_9 => (proof_Right r_3.1 r_6.1 r_9.1).bind fun r_12 => (proof_Shown r_3.1 r_6.1 r_9.1).bind fun r_14 => (proof_Drift r_3.1 r_6.1).bind fun r_16 => (ref_BeatsFault r_3.1).bind fun r_19 => (proof_CheckBeats r_3.1).bind fun r_21 => bif (r_21 != r_19) then some false else (ref_Key r_6.1).bind fun r_24 => (law_when (!r_24) 5).bind fun r_26 => (law_errs ([r_19, r_26] : List Int)).bind fun r_28 => (law_momentFault r_9.1).bind fun r_30 => (law_errs ([r_28, r_30] : List Int)).bind fun r_32 => (law_momentFault r_9.1).bind fun r_34 => (law_errs ([r_28, r_34] : List Int)).bind fun r_36 => (bif (r_32 == 0) then (ref_RightOf r_3.1 r_6.1 r_9.1).bind fun r_42 => some (r_42.2, r_42.1) else some (r_32, 0)).bind fun v_39 => (bif (r_36 == 0) then (ref_ShownOf r_3.1 r_6.1 r_9.1).bind fun r_47 => some (r_47.2, r_47.1) else some (r_36, 0)).bind fun v_44 => (bif (r_28 == 0) then (ref_DriftOf r_3.1 r_6.1).bind fun r_52 => (law_when (!r_52.2) 8).bind fun r_55 => some (r_55, r_52.1.Num, r_52.1.Den) else some (r_28, 0, 0)).bind fun v_49 => (bif (r_12.2 == v_39.1) then bif (r_12.1 == v_39.2) then bif (r_14.2 == v_44.1) then bif (r_14.1 == v_44.2) then bif (r_16.2 == v_49.1) then bif ((r_16.1.Num == v_49.2.1) && ((r_16.1.Den == v_49.2.2) && true)) then (law_proved).bind fun r_65 => some r_65 else some false else some false else some false else some false else some false else some false).bind fun v_57 => some v_57
end Go.Proofs.Ytodfcleaapnklaa.Law
