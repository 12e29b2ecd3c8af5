/-
  The functions of the program, as plain functions over data (written by a program of ours).
-/
import Derived.Test.YtodfcleaapnklaaEng3
open Go Go.Eng
namespace Go.Proofs.Ytodfcleaapnklaa.Law
set_option maxRecDepth 100000
set_option linter.unusedVariables false
set_option maxHeartbeats 1000000
structure Stream where
  L : (List Int)
  f_at : Int
def Stream.enc (s : Stream) : List D := [dl eI s.L, .int .i64 s.f_at]

structure Player where
  Key : ByteArray
  Screen : ByteArray
  Zone : Int
  Tags : (List ByteArray)
def Player.enc (s : Player) : List D := [.str s.Key, .str s.Screen, .int .i64 s.Zone, dl eS s.Tags]

structure Window where
  From : Int
  To : Int
def Window.enc (s : Window) : List D := [.int .i64 s.From, .int .i64 s.To]

structure Entry where
  Key : ByteArray
  Item : ByteArray
  Version : Int
  First : Int
  Last : Int
  Every : Int
  Days : Int
  Except : (List Int)
  From : Int
  To : Int
  Prio : Int
  Tags : (List ByteArray)
  Gone : Bool
def Entry.enc (s : Entry) : List D := [.str s.Key, .str s.Item, .int .i64 s.Version, .int .i64 s.First, .int .i64 s.Last, .int .i64 s.Every, .int .i64 s.Days, dl eI s.Except, .int .i64 s.From, .int .i64 s.To, .int .i64 s.Prio, dl eS s.Tags, .bool s.Gone]

def mk_Below (x_1 : Int) (n_2 : Int) : Option (Int) :=
  bif (decide (n_2 < 1)) then some 0 else (remO .i64 x_1 n_2).bind fun q_4 => (bif (decide (q_4 < 0)) then some (w64 (q_4 + n_2)) else some q_4).bind fun v_6 => some v_6
def mk_Stream_Next (s_1 : Stream) (n_2 : Int) : Option (Int × Stream) :=
  bif ((s_1.L.length : Int) == 0) then (mk_Below (w64 ((w64 (s_1.f_at + 1)) * 7919)) n_2).bind fun r_4 => some (r_4, (⟨s_1.L, (w64 (s_1.f_at + 1))⟩ : Stream)) else (remO .i64 (w64 ((w64 (s_1.f_at + 1)) - 1)) (s_1.L.length : Int)).bind fun q_6 => (quoO .i64 (w64 ((w64 (s_1.f_at + 1)) - 1)) (s_1.L.length : Int)).bind fun q_8 => (idx s_1.L q_6).bind fun y_10 => (mk_Below y_10 1073741824).bind fun r_12 => (mk_Below (w64 (r_12 + (w64 (q_8 * (w64 (7919 + q_6)))))) n_2).bind fun r_14 => some (r_14, (⟨s_1.L, (w64 (s_1.f_at + 1))⟩ : Stream))
def mk_Stream_Range (s_1 : Stream) (low_2 : Int) (high_3 : Int) : Option (Int × Stream) :=
  bif (decide (high_3 < low_2)) then some (low_2, s_1) else (mk_Stream_Next s_1 (w64 ((w64 (high_3 - low_2)) + 1))).bind fun r_5 => some ((w64 (low_2 + r_5.1)), r_5.2)
def mk_Stream_Pick (s_1 : Stream) (l_2 : (List Int)) : Option (Int × Stream) :=
  (mk_Stream_Next s_1 (l_2.length : Int)).bind fun r_3 => (idx l_2 r_3.1).bind fun y_6 => some (y_6, r_3.2)
def mk_Stream_Flip (s_1 : Stream) (n_2 : Int) : Option (Bool × Stream) :=
  (mk_Stream_Next s_1 n_2).bind fun r_3 => some ((r_3.1 == 0), r_3.2)
def mk_Stream_Some (s_1 : Stream) (l_2 : (List ByteArray)) : Option (ByteArray × Stream) :=
  (mk_Stream_Next s_1 (l_2.length : Int)).bind fun r_3 => (idx l_2 r_3.1).bind fun y_6 => some (y_6, r_3.2)
def mk_Stream_Odd (s_1 : Stream) (low_2 : Int) (high_3 : Int) : Option (Int × Stream) :=
  (mk_Stream_Flip s_1 12).bind fun r_4 => bif r_4.1 then (mk_Stream_Pick r_4.2 ([(w64 (low_2 - 1)), (w64 (high_3 + 1)), low_2, high_3, (-1099511627776), 1099511627776] : List Int)).bind fun r_8 => some (r_8.1, r_8.2) else (mk_Stream_Range r_4.2 low_2 high_3).bind fun r_11 => some (r_11.1, r_11.2)
def kit_IsKey_L1 (s_1 : ByteArray) (s_7 : Int) : Option (Ctl (Int) (Bool)) :=
  bif (decide (s_7 < (s_1.size : Int))) then (idxS s_1 s_7).bind fun b_13 => (bif (decide ((b_13.toNat : Int) ≥ 97)) then bif (decide ((b_13.toNat : Int) ≤ 122)) then some false else bif (decide (s_7 > 0)) then bif (decide ((b_13.toNat : Int) ≥ 48)) then bif (decide ((b_13.toNat : Int) ≤ 57)) then some false else bif ((b_13.toNat : Int) == 45) then some false else some (!((b_13.toNat : Int) == 95)) else bif ((b_13.toNat : Int) == 45) then some false else some (!((b_13.toNat : Int) == 95)) else some true else bif (decide (s_7 > 0)) then bif (decide ((b_13.toNat : Int) ≥ 48)) then bif (decide ((b_13.toNat : Int) ≤ 57)) then some false else bif ((b_13.toNat : Int) == 45) then some false else some (!((b_13.toNat : Int) == 95)) else bif ((b_13.toNat : Int) == 45) then some false else some (!((b_13.toNat : Int) == 95)) else some true).bind fun v_15 => bif v_15 then some (.ret false) else some (.go (w64 (s_7 + 1))) else some (.brk s_7)
noncomputable def kit_IsKey (s_1 : ByteArray) : Option (Bool) :=
  (loopO 0 (fun s => kit_IsKey_L1 s_1 s)).bind fun o_10 => thenC o_10 (fun s_7 => (bif (sNe s_1 (⟨#[]⟩ : ByteArray)) then some (decide ((s_1.size : Int) ≤ 40)) else some false).bind fun v_30 => some v_30) (fun r => some r)
def kit_Outside (n_1 : Int) (low_2 : Int) (high_3 : Int) : Option (Bool) :=
  (bif (decide (n_1 < low_2)) then some true else some (decide (n_1 > high_3))).bind fun v_4 => some v_4
def cmp_isNaN_int (x_1 : Int) : Option (Bool) :=
  some (x_1 != x_1)
def ref_in (n_1 : Int) (low_2 : Int) (high_3 : Int) : Option (Bool) :=
  (bif (decide (low_2 ≤ n_1)) then some (decide (n_1 ≤ high_3)) else some false).bind fun v_4 => some v_4
def internal_stringslite_IndexByte (s_1 : ByteArray) (c_2 : Int) : Option (Int) :=
  some (ixB s_1 c_2)
def strings_IndexByte (s_1 : ByteArray) (c_2 : Int) : Option (Int) :=
  (internal_stringslite_IndexByte s_1 c_2).bind fun r_3 => some r_3
def ref_only_L1 (s_1 : ByteArray) (somev_2 : ByteArray) (k_3 : Nat) (x_5 : Nat) (s_8 : Unit) : Option (Ctl (Unit) (Bool)) :=
  (idxS s_1 (k_3 : Int)).bind fun b_13 => (strings_IndexByte somev_2 (b_13.toNat : Int)).bind fun r_15 => bif (decide (r_15 < 0)) then some (.ret false) else some (.go ())
def ref_only (s_1 : ByteArray) (somev_2 : ByteArray) : Option (Bool) :=
  (forL (List.range ((s_1.size : Int)).toNat) () (fun k x s => ref_only_L1 s_1 somev_2 k x s)).bind fun o_11 => thenC o_11 (fun s_8 => some true) (fun r => some r)
def ref_Key (s_1 : ByteArray) : Option (Bool) :=
  ((ref_in (s_1.size : Int) 1 40).bind fun r_4 => bif r_4 then (subS s_1 0 1).bind fun y_7 => (ref_only y_7 (⟨#[97, 98, 99, 100, 101, 102, 103, 104, 105, 106, 107, 108, 109, 110, 111, 112, 113, 114, 115, 116, 117, 118, 119, 120, 121, 122]⟩ : ByteArray)).bind fun r_9 => bif r_9 then (ref_only s_1 (⟨#[97, 98, 99, 100, 101, 102, 103, 104, 105, 106, 107, 108, 109, 110, 111, 112, 113, 114, 115, 116, 117, 118, 119, 120, 121, 122, 48, 49, 50, 51, 52, 53, 54, 55, 56, 57, 45, 95]⟩ : ByteArray)).bind fun r_12 => some r_12 else some false else some false).bind fun v_2 => some v_2
def law_when (is_1 : Bool) (e_2 : Int) : Option (Int) :=
  bif is_1 then some e_2 else some 0
def law_errs_L1 (k_2 : Nat) (x_4 : Int) (s_7 : Unit) : Option (Ctl (Unit) (Int)) :=
  bif (x_4 != 0) then some (.ret x_4) else some (.go ())
def law_errs (l_1 : (List Int)) : Option (Int) :=
  (forL l_1 () (fun k x s => law_errs_L1 k x s)).bind fun o_10 => thenC o_10 (fun s_7 => some 0) (fun r => some r)
def mk_Stream_RightPlayer (s_1 : Stream) : Option (Player × Stream) :=
  (mk_Stream_Pick s_1 ([0, 0, 60, (-90), 1440] : List Int)).bind fun r_3 => (mk_Stream_Next r_3.2 3).bind fun r_6 => (idx ([([] : List ByteArray), ([(⟨#[99, 105, 116, 121]⟩ : ByteArray)] : List ByteArray), ([(⟨#[99, 105, 116, 121]⟩ : ByteArray), (⟨#[109, 97, 108, 108]⟩ : ByteArray)] : List ByteArray)] : List (List ByteArray)) r_6.1).bind fun y_9 => some ((⟨(⟨#[112]⟩ : ByteArray), (⟨#[115, 97]⟩ : ByteArray), r_3.1, y_9⟩ : Player), r_6.2)
def mk_Stream_Player (s_1 : Stream) : Option (Player × Stream) :=
  (mk_Stream_RightPlayer s_1).bind fun r_3 => (mk_Stream_Flip r_3.2 15).bind fun r_7 => (bif r_7.1 then (mk_Stream_Some r_7.2 ([(⟨#[112]⟩ : ByteArray), (⟨#[]⟩ : ByteArray)] : List ByteArray)).bind fun r_13 => (mk_Stream_Some r_13.2 ([(⟨#[115, 97]⟩ : ByteArray), (⟨#[65]⟩ : ByteArray)] : List ByteArray)).bind fun r_16 => (mk_Stream_Odd r_16.2 (-1440) 1440).bind fun r_19 => (mk_Stream_Next r_19.2 3).bind fun r_22 => (idx ([([(⟨#[109, 97, 108, 108]⟩ : ByteArray), (⟨#[99, 105, 116, 121]⟩ : ByteArray)] : List ByteArray), ([(⟨#[]⟩ : ByteArray)] : List ByteArray), ([] : List ByteArray)] : List (List ByteArray)) r_22.1).bind fun y_25 => some (r_22.2.L, r_22.2.f_at, r_13.1, r_16.1, r_19.1, y_25) else some (r_7.2.L, r_7.2.f_at, r_3.1.Key, r_3.1.Screen, r_3.1.Zone, r_3.1.Tags)).bind fun v_10 => some ((⟨v_10.2.2.1, v_10.2.2.2.1, v_10.2.2.2.2.1, v_10.2.2.2.2.2⟩ : Player), (⟨v_10.1, v_10.2.1⟩ : Stream))
def mk_Stream_Days (s_1 : Stream) : Option (Window × Stream) :=
  (mk_Stream_Pick s_1 ([0, 0, 1, 36000000, 86400000] : List Int)).bind fun r_3 => (mk_Stream_Pick r_3.2 ([1, 42000000, 86400000, 259200000, 777600000] : List Int)).bind fun r_6 => (bif (decide (r_3.1 > r_6.1)) then (mk_Stream_Flip r_6.2 3).bind fun r_13 => some ((!r_13.1), r_13.2.L, r_13.2.f_at) else some (false, r_6.2.L, r_6.2.f_at)).bind fun v_10 => (bif v_10.1 then some 0 else some r_3.1).bind fun v_16 => (mk_Stream_Flip (⟨v_10.2.1, v_10.2.2⟩ : Stream) 25).bind fun r_19 => (bif r_19.1 then (mk_Stream_Odd r_19.2 0 100).bind fun r_25 => (mk_Stream_Pick r_25.2 ([345686400000, 345686400001, 34646400000, 34560000000, (-1)] : List Int)).bind fun r_28 => some (r_28.2.L, r_28.2.f_at, r_25.1, r_28.1) else some (r_19.2.L, r_19.2.f_at, v_16, r_6.1)).bind fun v_22 => some ((⟨v_22.2.2.1, v_22.2.2.2⟩ : Window), (⟨v_22.1, v_22.2.1⟩ : Stream))
def mk_Stream_RightEntries_L1 (k_50 : Nat) (x_52 : Int) (s_55 : (List Int) × (List Int) × Int) : Option (Ctl ((List Int) × (List Int) × Int) (Unit)) :=
  (mk_Stream_Flip (⟨s_55.2.1, s_55.2.2⟩ : Stream) 4).bind fun r_63 => (bif r_63.1 then (appL s_55.1 ([x_52] : List Int)).bind fun a_70 => some a_70 else some s_55.1).bind fun v_66 => some (.go (v_66, r_63.2.L, r_63.2.f_at))
def mk_Stream_RightEntries_L2 (k_73 : Nat) (x_75 : ByteArray) (s_78 : (List ByteArray) × (List Int) × Int) : Option (Ctl ((List ByteArray) × (List Int) × Int) (Unit)) :=
  (mk_Stream_Flip (⟨s_78.2.1, s_78.2.2⟩ : Stream) 4).bind fun r_86 => (bif r_86.1 then (appL s_78.1 ([x_75] : List ByteArray)).bind fun a_93 => some a_93 else some s_78.1).bind fun v_89 => some (.go (v_89, r_86.2.L, r_86.2.f_at))
def mk_Stream_RightEntries_L3 (k_2 : Nat) (x_4 : ByteArray) (s_7 : (List Entry) × (List Int) × Int) : Option (Ctl ((List Entry) × (List Int) × Int) (Unit)) :=
  (mk_Stream_Flip (⟨s_7.2.1, s_7.2.2⟩ : Stream) 4).bind fun r_15 => bif r_15.1 then some (.go (s_7.1, r_15.2.L, r_15.2.f_at)) else (mk_Stream_Some r_15.2 ([(⟨#[105, 97]⟩ : ByteArray), (⟨#[105, 98]⟩ : ByteArray), (⟨#[105, 99]⟩ : ByteArray)] : List ByteArray)).bind fun r_19 => (mk_Stream_Range r_19.2 0 2).bind fun r_22 => (mk_Stream_Pick r_22.2 ([0, 0, 1, 3] : List Int)).bind fun r_25 => (mk_Stream_Pick r_25.2 ([1, 1, 2, 3, 7] : List Int)).bind fun r_28 => (mk_Stream_Pick r_28.2 ([127, 127, 31, 96, 1, 2] : List Int)).bind fun r_31 => (mk_Stream_Pick r_31.2 ([0, 0, 60, 600, 1380] : List Int)).bind fun r_34 => (mk_Stream_Pick r_34.2 ([0, 60, 120, 600, 720, 1439] : List Int)).bind fun r_37 => (mk_Stream_Pick r_37.2 ([0, 0, 1, 5] : List Int)).bind fun r_40 => (mk_Stream_Flip r_40.2 8).bind fun r_43 => (mk_Stream_Pick r_43.2 ([0, 1, 5, 10, 30] : List Int)).bind fun r_47 => (forL ([1, 2, 8] : List Int) (([] : List Int), r_47.2.L, r_47.2.f_at) (fun k x s => mk_Stream_RightEntries_L1 k x s)).bind fun o_61 => thenC o_61 (fun s_55 => (forL ([(⟨#[99, 105, 116, 121]⟩ : ByteArray), (⟨#[109, 97, 108, 108]⟩ : ByteArray)] : List ByteArray) (([] : List ByteArray), s_55.2.1, s_55.2.2) (fun k x s => mk_Stream_RightEntries_L2 k x s)).bind fun o_84 => thenC o_84 (fun s_78 => (appL s_7.1 ([(⟨x_4, r_19.1, r_22.1, r_25.1, (w64 (r_25.1 + r_47.1)), r_28.1, r_31.1, s_55.1, r_34.1, r_37.1, r_40.1, s_78.1, r_43.1⟩ : Entry)] : List Entry)).bind fun a_96 => some (.go (a_96, s_78.2.1, s_78.2.2))) (fun _ => none)) (fun _ => none)
def mk_Stream_RightEntries (s_1 : Stream) : Option ((List Entry) × Stream) :=
  (forL ([(⟨#[101, 97]⟩ : ByteArray), (⟨#[101, 98]⟩ : ByteArray), (⟨#[101, 99]⟩ : ByteArray), (⟨#[101, 100]⟩ : ByteArray)] : List ByteArray) (([] : List Entry), s_1.L, s_1.f_at) (fun k x s => mk_Stream_RightEntries_L3 k x s)).bind fun o_13 => thenC o_13 (fun s_7 => some (s_7.1, (⟨s_7.2.1, s_7.2.2⟩ : Stream))) (fun _ => none)
def slices_Clone_int_int (s_1 : (List Int)) : Option ((List Int)) :=
  (appL [] s_1).bind fun a_4 => some a_4
def mk_Stream_Entries (s_1 : Stream) : Option ((List Entry) × Stream) :=
  (mk_Stream_RightEntries s_1).bind fun r_2 => (bif (decide ((r_2.1.length : Int) > 0)) then (mk_Stream_Flip r_2.2 10).bind fun r_9 => some (r_9.1, r_9.2.L, r_9.2.f_at) else some (false, r_2.2.L, r_2.2.f_at)).bind fun v_6 => (bif v_6.1 then (mk_Stream_Next (⟨v_6.2.1, v_6.2.2⟩ : Stream) (r_2.1.length : Int)).bind fun r_15 => (inR r_15.1 r_2.1).bind fun _ => (mk_Stream_Next r_15.2 6).bind fun r_19 => bif (r_19.1 == 0) then (r_2.1[(0 + (r_15.1).toNat)]?).bind fun e_23 => (mk_Stream_Some r_19.2 ([e_23.Key, (⟨#[]⟩ : ByteArray), (⟨#[65]⟩ : ByteArray), (⟨#[101, 97]⟩ : ByteArray)] : List ByteArray)).bind fun r_25 => (mk_Stream_Some r_25.2 ([(⟨#[105, 97]⟩ : ByteArray), (⟨#[]⟩ : ByteArray), (⟨#[66]⟩ : ByteArray)] : List ByteArray)).bind fun r_28 => (r_2.1[(0 + (r_15.1).toNat)]?).bind fun e_31 => ((r_2.1.set (0 + (r_15.1).toNat) (⟨r_25.1, e_31.Item, e_31.Version, e_31.First, e_31.Last, e_31.Every, e_31.Days, e_31.Except, e_31.From, e_31.To, e_31.Prio, e_31.Tags, e_31.Gone⟩ : Entry))[(0 + (r_15.1).toNat)]?).bind fun e_33 => some (((r_2.1.set (0 + (r_15.1).toNat) (⟨r_25.1, e_31.Item, e_31.Version, e_31.First, e_31.Last, e_31.Every, e_31.Days, e_31.Except, e_31.From, e_31.To, e_31.Prio, e_31.Tags, e_31.Gone⟩ : Entry)).set (0 + (r_15.1).toNat) (⟨e_33.Key, r_28.1, e_33.Version, e_33.First, e_33.Last, e_33.Every, e_33.Days, e_33.Except, e_33.From, e_33.To, e_33.Prio, e_33.Tags, e_33.Gone⟩ : Entry)), r_28.2.L, r_28.2.f_at) else bif (r_19.1 == 1) then (mk_Stream_Odd r_19.2 0 10).bind fun r_36 => (mk_Stream_Odd r_36.2 0 4000).bind fun r_39 => (r_2.1[(0 + (r_15.1).toNat)]?).bind fun e_42 => ((r_2.1.set (0 + (r_15.1).toNat) (⟨e_42.Key, e_42.Item, e_42.Version, r_36.1, e_42.Last, e_42.Every, e_42.Days, e_42.Except, e_42.From, e_42.To, e_42.Prio, e_42.Tags, e_42.Gone⟩ : Entry))[(0 + (r_15.1).toNat)]?).bind fun e_44 => some (((r_2.1.set (0 + (r_15.1).toNat) (⟨e_42.Key, e_42.Item, e_42.Version, r_36.1, e_42.Last, e_42.Every, e_42.Days, e_42.Except, e_42.From, e_42.To, e_42.Prio, e_42.Tags, e_42.Gone⟩ : Entry)).set (0 + (r_15.1).toNat) (⟨e_44.Key, e_44.Item, e_44.Version, e_44.First, r_39.1, e_44.Every, e_44.Days, e_44.Except, e_44.From, e_44.To, e_44.Prio, e_44.Tags, e_44.Gone⟩ : Entry)), r_39.2.L, r_39.2.f_at) else bif (r_19.1 == 2) then (mk_Stream_Odd r_19.2 1 400).bind fun r_47 => (mk_Stream_Odd r_47.2 1 127).bind fun r_50 => (r_2.1[(0 + (r_15.1).toNat)]?).bind fun e_53 => ((r_2.1.set (0 + (r_15.1).toNat) (⟨e_53.Key, e_53.Item, e_53.Version, e_53.First, e_53.Last, r_47.1, e_53.Days, e_53.Except, e_53.From, e_53.To, e_53.Prio, e_53.Tags, e_53.Gone⟩ : Entry))[(0 + (r_15.1).toNat)]?).bind fun e_55 => some (((r_2.1.set (0 + (r_15.1).toNat) (⟨e_53.Key, e_53.Item, e_53.Version, e_53.First, e_53.Last, r_47.1, e_53.Days, e_53.Except, e_53.From, e_53.To, e_53.Prio, e_53.Tags, e_53.Gone⟩ : Entry)).set (0 + (r_15.1).toNat) (⟨e_55.Key, e_55.Item, e_55.Version, e_55.First, e_55.Last, e_55.Every, r_50.1, e_55.Except, e_55.From, e_55.To, e_55.Prio, e_55.Tags, e_55.Gone⟩ : Entry)), r_50.2.L, r_50.2.f_at) else bif (r_19.1 == 3) then (r_2.1[(0 + (r_15.1).toNat)]?).bind fun e_58 => (slices_Clone_int_int e_58.Except).bind fun r_60 => (mk_Stream_Odd r_19.2 0 4000).bind fun r_64 => (appL r_60 ([r_64.1] : List Int)).bind fun a_67 => (r_2.1[(0 + (r_15.1).toNat)]?).bind fun e_70 => some ((r_2.1.set (0 + (r_15.1).toNat) (⟨e_70.Key, e_70.Item, e_70.Version, e_70.First, e_70.Last, e_70.Every, e_70.Days, a_67, e_70.From, e_70.To, e_70.Prio, e_70.Tags, e_70.Gone⟩ : Entry)), r_64.2.L, r_64.2.f_at) else bif (r_19.1 == 4) then (mk_Stream_Odd r_19.2 0 1439).bind fun r_73 => (mk_Stream_Odd r_73.2 0 1439).bind fun r_76 => (r_2.1[(0 + (r_15.1).toNat)]?).bind fun e_79 => ((r_2.1.set (0 + (r_15.1).toNat) (⟨e_79.Key, e_79.Item, e_79.Version, e_79.First, e_79.Last, e_79.Every, e_79.Days, e_79.Except, r_73.1, e_79.To, e_79.Prio, e_79.Tags, e_79.Gone⟩ : Entry))[(0 + (r_15.1).toNat)]?).bind fun e_81 => some (((r_2.1.set (0 + (r_15.1).toNat) (⟨e_79.Key, e_79.Item, e_79.Version, e_79.First, e_79.Last, e_79.Every, e_79.Days, e_79.Except, r_73.1, e_79.To, e_79.Prio, e_79.Tags, e_79.Gone⟩ : Entry)).set (0 + (r_15.1).toNat) (⟨e_81.Key, e_81.Item, e_81.Version, e_81.First, e_81.Last, e_81.Every, e_81.Days, e_81.Except, e_81.From, r_76.1, e_81.Prio, e_81.Tags, e_81.Gone⟩ : Entry)), r_76.2.L, r_76.2.f_at) else (mk_Stream_Next r_19.2 3).bind fun r_83 => (idx ([([(⟨#[109, 97, 108, 108]⟩ : ByteArray), (⟨#[99, 105, 116, 121]⟩ : ByteArray)] : List ByteArray), ([(⟨#[]⟩ : ByteArray)] : List ByteArray), ([(⟨#[97]⟩ : ByteArray), (⟨#[97]⟩ : ByteArray)] : List ByteArray)] : List (List ByteArray)) r_83.1).bind fun y_86 => (mk_Stream_Odd r_83.2 0 9).bind fun r_88 => (r_2.1[(0 + (r_15.1).toNat)]?).bind fun e_91 => ((r_2.1.set (0 + (r_15.1).toNat) (⟨e_91.Key, e_91.Item, e_91.Version, e_91.First, e_91.Last, e_91.Every, e_91.Days, e_91.Except, e_91.From, e_91.To, e_91.Prio, y_86, e_91.Gone⟩ : Entry))[(0 + (r_15.1).toNat)]?).bind fun e_93 => some (((r_2.1.set (0 + (r_15.1).toNat) (⟨e_91.Key, e_91.Item, e_91.Version, e_91.First, e_91.Last, e_91.Every, e_91.Days, e_91.Except, e_91.From, e_91.To, e_91.Prio, y_86, e_91.Gone⟩ : Entry)).set (0 + (r_15.1).toNat) (⟨e_93.Key, e_93.Item, e_93.Version, e_93.First, e_93.Last, e_93.Every, e_93.Days, e_93.Except, e_93.From, e_93.To, r_88.1, e_93.Tags, e_93.Gone⟩ : Entry)), r_88.2.L, r_88.2.f_at) else some (r_2.1, v_6.2.1, v_6.2.2)).bind fun v_12 => some (v_12.1, (⟨v_12.2.1, v_12.2.2⟩ : Stream))
def kit_IsDay (n_1 : Int) : Option (Bool) :=
  (bif (decide (n_1 ≥ 0)) then some (decide (n_1 ≤ 4000)) else some false).bind fun v_2 => some v_2
def schedule_exceptFault_L1 (l_1 : (List Int)) (k_3 : Nat) (x_5 : Int) (s_8 : Unit) : Option (Ctl (Unit) (Int)) :=
  (kit_IsDay x_5).bind fun r_13 => bif (!r_13) then some (.ret 1) else (bif (decide ((k_3 : Int) > 0)) then (idx l_1 (w64 ((k_3 : Int) - 1))).bind fun y_19 => some (decide (x_5 ≤ y_19)) else some false).bind fun v_16 => bif v_16 then some (.ret 7) else some (.go ())
def schedule_exceptFault (l_1 : (List Int)) : Option (Int) :=
  bif (decide ((l_1.length : Int) > 100)) then some 2 else (forL l_1 () (fun k x s => schedule_exceptFault_L1 l_1 k x s)).bind fun o_11 => thenC o_11 (fun s_8 => some 0) (fun r => some r)
noncomputable def kit_RisingFault_L1 (l_1 : (List ByteArray)) (k_2 : Nat) (x_4 : ByteArray) (s_7 : Unit) : Option (Ctl (Unit) (Int)) :=
  (kit_IsKey x_4).bind fun r_12 => bif (!r_12) then some (.ret 5) else (bif (decide ((k_2 : Int) > 0)) then (idx l_1 (w64 ((k_2 : Int) - 1))).bind fun y_18 => some (sLe x_4 y_18) else some false).bind fun v_15 => bif v_15 then some (.ret 7) else some (.go ())
noncomputable def kit_RisingFault (l_1 : (List ByteArray)) : Option (Int) :=
  (forL l_1 () (fun k x s => kit_RisingFault_L1 l_1 k x s)).bind fun o_10 => thenC o_10 (fun s_7 => some 0) (fun r => some r)
noncomputable def schedule_tagsFault (l_1 : (List ByteArray)) : Option (Int) :=
  bif (decide ((l_1.length : Int) > 20)) then some 2 else (kit_RisingFault l_1).bind fun r_3 => some r_3
noncomputable def schedule_entryFault (e_1 : Entry) : Option (Int) :=
  ((kit_IsKey e_1.Key).bind fun r_5 => bif (!r_5) then some true else (kit_IsKey e_1.Item).bind fun r_8 => some (!r_8)).bind fun v_3 => bif v_3 then some 5 else ((kit_Outside e_1.Version 0 1000000).bind fun r_13 => bif r_13 then some true else (kit_Outside e_1.First 0 e_1.Last).bind fun r_16 => bif r_16 then some true else bif (decide (e_1.Last > 4000)) then some true else (kit_Outside e_1.Every 1 400).bind fun r_20 => bif r_20 then some true else (kit_Outside e_1.Days 1 127).bind fun r_23 => some r_23).bind fun v_11 => bif v_11 then some 1 else (schedule_exceptFault e_1.Except).bind fun r_26 => bif (r_26 != 0) then some r_26 else ((kit_Outside e_1.From 0 1439).bind fun r_31 => bif r_31 then some true else (kit_Outside e_1.To 0 1439).bind fun r_34 => bif r_34 then some true else (kit_Outside e_1.Prio 0 9).bind fun r_37 => some r_37).bind fun v_29 => bif v_29 then some 1 else (schedule_tagsFault e_1.Tags).bind fun r_40 => some r_40
noncomputable def schedule_CheckEntries_L1 (l_1 : (List Entry)) (k_3 : Nat) (x_5 : Entry) (s_8 : Unit) : Option (Ctl (Unit) (Int)) :=
  (schedule_entryFault x_5).bind fun r_14 => bif (r_14 != 0) then some (.ret r_14) else (bif (decide ((k_3 : Int) > 0)) then (idx l_1 (w64 ((k_3 : Int) - 1))).bind fun y_20 => some (sLe x_5.Key y_20.Key) else some false).bind fun v_17 => bif v_17 then some (.ret 7) else some (.go ())
noncomputable def schedule_CheckEntries (l_1 : (List Entry)) : Option (Int) :=
  bif (decide ((l_1.length : Int) > 200)) then some 2 else (forL l_1 () (fun k x s => schedule_CheckEntries_L1 l_1 k x s)).bind fun o_11 => thenC o_11 (fun s_8 => some 0) (fun r => some r)
def schedule_windowFault (wv_1 : Window) : Option (Int) :=
  ((kit_Outside wv_1.From 0 wv_1.To).bind fun r_5 => bif r_5 then some true else some (decide (wv_1.To > 345686400000))).bind fun v_3 => bif v_3 then some 1 else bif (decide ((w64 (wv_1.To - wv_1.From)) > 34560000000)) then some 2 else some 0
def cmp_Less_int (x_1 : Int) (y_2 : Int) : Option (Bool) :=
  ((cmp_isNaN_int x_1).bind fun r_5 => bif r_5 then (cmp_isNaN_int y_2).bind fun r_8 => bif (!r_8) then some true else some (decide (x_1 < y_2)) else some (decide (x_1 < y_2))).bind fun v_3 => some v_3
def slices_isNaN_int (x_1 : Int) : Option (Bool) :=
  some (x_1 != x_1)
def slices_BinarySearch_int_int_L1 (x_1 : (List Int)) (target_2 : Int) (s_8 : Int × Int) : Option (Ctl (Int × Int) (Unit)) :=
  bif (decide (s_8.1 < s_8.2)) then (shrO .u64 (IntKind.u64.wrap (w64 (s_8.1 + s_8.2))) 1).bind fun q_14 => (idx x_1 (w64 q_14)).bind fun y_16 => (cmp_Less_int y_16 target_2).bind fun r_18 => bif r_18 then some (.go ((w64 ((w64 q_14) + 1)), s_8.2)) else some (.go (s_8.1, (w64 q_14))) else some (.brk (s_8.1, s_8.2))
noncomputable def slices_BinarySearch_int_int (x_1 : (List Int)) (target_2 : Int) : Option (Int × Bool) :=
  (loopO (0, (x_1.length : Int)) (fun s => slices_BinarySearch_int_int_L1 x_1 target_2 s)).bind fun o_11 => thenC o_11 (fun s_8 => (bif (decide (s_8.1 < (x_1.length : Int))) then (idx x_1 s_8.1).bind fun y_24 => bif (y_24 == target_2) then some true else (idx x_1 s_8.1).bind fun y_27 => (slices_isNaN_int y_27).bind fun r_29 => bif r_29 then (slices_isNaN_int target_2).bind fun r_32 => some r_32 else some false else some false).bind fun v_21 => some (s_8.1, v_21)) (fun _ => none)
noncomputable def schedule_isDay (e_1 : Entry) (d_2 : Int) : Option (Bool) :=
  ((kit_Outside d_2 e_1.First e_1.Last).bind fun r_6 => bif r_6 then some true else (remO .i64 (w64 (d_2 - e_1.First)) e_1.Every).bind fun q_9 => bif (q_9 != 0) then some true else (shlO .i64 1 (d_2.tmod 7)).bind fun q_12 => some ((andI .i64 e_1.Days q_12) == 0)).bind fun v_4 => bif v_4 then some false else (slices_BinarySearch_int_int e_1.Except d_2).bind fun r_15 => some (!r_15.2)
def schedule_timeOf (e_1 : Entry) (zone_2 : Int) (d_3 : Int) : Option (Window) :=
  (bif (decide ((w64 (e_1.To - e_1.From)) ≤ 0)) then some (w64 ((w64 (e_1.To - e_1.From)) + 1440)) else some (w64 (e_1.To - e_1.From))).bind fun v_6 => some (⟨(w64 ((w64 ((w64 ((w64 (d_3 * 1440)) + e_1.From)) - zone_2)) * 60000)), (w64 ((w64 ((w64 ((w64 ((w64 (d_3 * 1440)) + e_1.From)) - zone_2)) * 60000)) + (w64 (v_6 * 60000))))⟩ : Window)
noncomputable def schedule_times_L1 (wv_3 : Window) (zone_2 : Int) (e_1 : Entry) (s_15 : (List Window) × Int) : Option (Ctl ((List Window) × Int) (Unit)) :=
  bif (decide (s_15.2 ≤ (minI (w64 ((w64 ((w64 (wv_3.To + (w64 (zone_2 * 60000)))).tdiv 86400000)) + 1)) e_1.Last))) then (schedule_isDay e_1 s_15.2).bind fun r_24 => bif (!r_24) then some (.go (s_15.1, (w64 (s_15.2 + 1)))) else (schedule_timeOf e_1 zone_2 s_15.2).bind fun r_27 => (bif (decide (r_27.From < wv_3.To)) then some (decide (r_27.To > wv_3.From)) else some false).bind fun v_30 => (bif v_30 then (appL s_15.1 ([r_27] : List Window)).bind fun a_37 => some a_37 else some s_15.1).bind fun v_33 => some (.go (v_33, (w64 (s_15.2 + 1)))) else some (.brk (s_15.1, s_15.2))
noncomputable def schedule_times (e_1 : Entry) (zone_2 : Int) (wv_3 : Window) : Option ((List Window)) :=
  (bif e_1.Gone then some true else some (decide (wv_3.From ≥ wv_3.To))).bind fun v_6 => bif v_6 then some ([] : (List Window)) else (loopO (([] : List Window), (maxI (w64 ((w64 ((w64 (wv_3.From + (w64 (zone_2 * 60000)))).tdiv 86400000)) - 2)) e_1.First)) (fun s => schedule_times_L1 wv_3 zone_2 e_1 s)).bind fun o_21 => thenC o_21 (fun s_15 => some s_15.1) (fun _ => none)
def schedule_cut (t_1 : Window) (wv_2 : Window) : Option (Window) :=
  some (⟨(maxI t_1.From wv_2.From), (minI t_1.To wv_2.To)⟩ : Window)
def schedule_Times_L1 (wv_3 : Window) (k_19 : Nat) (x_21 : Nat) (s_24 : (List Window)) : Option (Ctl ((List Window)) (Unit)) :=
  (inR (k_19 : Int) s_24).bind fun _ => (s_24[(0 + ((k_19 : Int)).toNat)]?).bind fun e_30 => (schedule_cut e_30 wv_3).bind fun r_33 => (inR (k_19 : Int) s_24).bind fun _ => (s_24[(0 + ((k_19 : Int)).toNat)]?).bind fun e_36 => some (.go (s_24.set (0 + ((k_19 : Int)).toNat) r_33))
noncomputable def schedule_Times (e_1 : Entry) (zone_2 : Int) (wv_3 : Window) : Option ((List Window) × Int) :=
  (schedule_CheckEntries ([e_1] : List Entry)).bind fun r_6 => bif (r_6 != 0) then some (([] : (List Window)), r_6) else (kit_Outside zone_2 (-1440) 1440).bind fun r_9 => bif r_9 then some (([] : (List Window)), 1) else (schedule_windowFault wv_3).bind fun r_12 => bif (r_12 != 0) then some (([] : (List Window)), r_12) else (schedule_times e_1 zone_2 wv_3).bind fun r_15 => (forL (List.range ((r_15.length : Int)).toNat) r_15 (fun k x s => schedule_Times_L1 wv_3 k x s)).bind fun o_27 => thenC o_27 (fun s_24 => some (s_24, 0)) (fun _ => none)
noncomputable def schedule_CheckPlayer (p_1 : Player) : Option (Int) :=
  ((kit_IsKey p_1.Key).bind fun r_5 => bif (!r_5) then some true else (kit_IsKey p_1.Screen).bind fun r_8 => some (!r_8)).bind fun v_3 => bif v_3 then some 5 else (kit_Outside p_1.Zone (-1440) 1440).bind fun r_11 => bif r_11 then some 1 else (schedule_tagsFault p_1.Tags).bind fun r_14 => some r_14
def cmp_isNaN_string (x_1 : ByteArray) : Option (Bool) :=
  some (sNe x_1 x_1)
def cmp_Less_string (x_1 : ByteArray) (y_2 : ByteArray) : Option (Bool) :=
  ((cmp_isNaN_string x_1).bind fun r_5 => bif r_5 then (cmp_isNaN_string y_2).bind fun r_8 => bif (!r_8) then some true else some (sLt x_1 y_2) else some (sLt x_1 y_2)).bind fun v_3 => some v_3
def slices_isNaN_string (x_1 : ByteArray) : Option (Bool) :=
  some (sNe x_1 x_1)
def slices_BinarySearch_string_string_L1 (x_1 : (List ByteArray)) (target_2 : ByteArray) (s_8 : Int × Int) : Option (Ctl (Int × Int) (Unit)) :=
  bif (decide (s_8.1 < s_8.2)) then (shrO .u64 (IntKind.u64.wrap (w64 (s_8.1 + s_8.2))) 1).bind fun q_14 => (idx x_1 (w64 q_14)).bind fun y_16 => (cmp_Less_string y_16 target_2).bind fun r_18 => bif r_18 then some (.go ((w64 ((w64 q_14) + 1)), s_8.2)) else some (.go (s_8.1, (w64 q_14))) else some (.brk (s_8.1, s_8.2))
noncomputable def slices_BinarySearch_string_string (x_1 : (List ByteArray)) (target_2 : ByteArray) : Option (Int × Bool) :=
  (loopO (0, (x_1.length : Int)) (fun s => slices_BinarySearch_string_string_L1 x_1 target_2 s)).bind fun o_11 => thenC o_11 (fun s_8 => (bif (decide (s_8.1 < (x_1.length : Int))) then (idx x_1 s_8.1).bind fun y_24 => bif (sEq y_24 target_2) then some true else (idx x_1 s_8.1).bind fun y_27 => (slices_isNaN_string y_27).bind fun r_29 => bif r_29 then (slices_isNaN_string target_2).bind fun r_32 => some r_32 else some false else some false).bind fun v_21 => some (s_8.1, v_21)) (fun _ => none)
noncomputable def schedule_fits_L1 (p_2 : Player) (k_5 : Nat) (x_7 : ByteArray) (s_10 : Unit) : Option (Ctl (Unit) (Bool)) :=
  (slices_BinarySearch_string_string p_2.Tags x_7).bind fun r_15 => bif (!r_15.2) then some (.ret false) else some (.go ())
noncomputable def schedule_fits (e_1 : Entry) (p_2 : Player) : Option (Bool) :=
  (forL e_1.Tags () (fun k x s => schedule_fits_L1 p_2 k x s)).bind fun o_13 => thenC o_13 (fun s_10 => some true) (fun r => some r)
noncomputable def schedule_Fits (e_1 : Entry) (p_2 : Player) : Option (Bool × Int) :=
  (schedule_CheckEntries ([e_1] : List Entry)).bind fun r_5 => bif (r_5 != 0) then some (false, r_5) else (schedule_CheckPlayer p_2).bind fun r_8 => bif (r_8 != 0) then some (false, r_8) else (schedule_fits e_1 p_2).bind fun r_11 => some (r_11, 0)
def ref_risingFault_L1 (l_1 : (List ByteArray)) (k_2 : Nat) (x_4 : ByteArray) (s_7 : Unit) : Option (Ctl (Unit) (Int)) :=
  (ref_Key x_4).bind fun r_12 => bif (!r_12) then some (.ret 5) else (bif (decide ((k_2 : Int) > 0)) then (idx l_1 (w64 ((k_2 : Int) - 1))).bind fun y_18 => some (sLe x_4 y_18) else some false).bind fun v_15 => bif v_15 then some (.ret 7) else some (.go ())
def ref_risingFault (l_1 : (List ByteArray)) : Option (Int) :=
  (forL l_1 () (fun k x s => ref_risingFault_L1 l_1 k x s)).bind fun o_10 => thenC o_10 (fun s_7 => some 0) (fun r => some r)
def ref_TagsFault (l_1 : (List ByteArray)) : Option (Int) :=
  bif (decide ((l_1.length : Int) > 20)) then some 2 else (ref_risingFault l_1).bind fun r_3 => some r_3
def ref_entryFault_L1 (e_1 : Entry) (k_27 : Nat) (x_29 : Int) (s_32 : Unit) : Option (Ctl (Unit) (Int)) :=
  (ref_in x_29 0 4000).bind fun r_37 => bif (!r_37) then some (.ret 1) else (bif (decide ((k_27 : Int) > 0)) then (idx e_1.Except (w64 ((k_27 : Int) - 1))).bind fun y_43 => some (decide (x_29 ≤ y_43)) else some false).bind fun v_40 => bif v_40 then some (.ret 7) else some (.go ())
def ref_entryFault (e_1 : Entry) : Option (Int) :=
  ((ref_Key e_1.Key).bind fun r_5 => bif (!r_5) then some true else (ref_Key e_1.Item).bind fun r_8 => some (!r_8)).bind fun v_3 => bif v_3 then some 5 else ((ref_in e_1.Version 0 1000000).bind fun r_13 => bif (!r_13) then some true else (ref_in e_1.First 0 e_1.Last).bind fun r_16 => bif (!r_16) then some true else bif (decide (e_1.Last > 4000)) then some true else (ref_in e_1.Every 1 400).bind fun r_20 => bif (!r_20) then some true else (ref_in e_1.Days 1 127).bind fun r_23 => some (!r_23)).bind fun v_11 => bif v_11 then some 1 else bif (decide ((e_1.Except.length : Int) > 100)) then some 2 else (forL e_1.Except () (fun k x s => ref_entryFault_L1 e_1 k x s)).bind fun o_35 => thenC o_35 (fun s_32 => ((ref_in e_1.From 0 1439).bind fun r_48 => bif (!r_48) then some true else (ref_in e_1.To 0 1439).bind fun r_51 => bif (!r_51) then some true else (ref_in e_1.Prio 0 9).bind fun r_54 => some (!r_54)).bind fun v_46 => bif v_46 then some 1 else (ref_TagsFault e_1.Tags).bind fun r_57 => some r_57) (fun r => some r)
def ref_EntriesFault_L1 (k_3 : Nat) (x_5 : Entry) (s_8 : ByteArray) : Option (Ctl (ByteArray) (Int)) :=
  (ref_entryFault x_5).bind fun r_14 => bif (r_14 != 0) then some (.ret r_14) else bif (sLe x_5.Key s_8) then some (.ret 7) else some (.go x_5.Key)
def ref_EntriesFault (l_1 : (List Entry)) : Option (Int) :=
  bif (decide ((l_1.length : Int) > 200)) then some 2 else (forL l_1 (⟨#[]⟩ : ByteArray) (fun k x s => ref_EntriesFault_L1 k x s)).bind fun o_11 => thenC o_11 (fun s_8 => some 0) (fun r => some r)
def ref_WindowFault (wv_1 : Window) : Option (Int) :=
  ((ref_in wv_1.From 0 wv_1.To).bind fun r_5 => bif (!r_5) then some true else some (decide (wv_1.To > 345686400000))).bind fun v_3 => bif v_3 then some 1 else some 0
def ref_SpanFault (wv_1 : Window) : Option (Int) :=
  (ref_WindowFault wv_1).bind fun r_3 => bif (r_3 != 0) then some r_3 else bif (decide ((w64 (wv_1.To - wv_1.From)) > 34560000000)) then some 2 else some 0
def ref_PlayerFault (p_1 : Player) : Option (Int) :=
  ((ref_Key p_1.Key).bind fun r_5 => bif (!r_5) then some true else (ref_Key p_1.Screen).bind fun r_8 => some (!r_8)).bind fun v_3 => bif v_3 then some 5 else (ref_in p_1.Zone (-1440) 1440).bind fun r_11 => bif (!r_11) then some 1 else (ref_TagsFault p_1.Tags).bind fun r_14 => some r_14
def ref_timeOf (e_1 : Entry) (zone_2 : Int) (d_3 : Int) : Option (Window) :=
  (bif (decide (e_1.To ≤ e_1.From)) then some (w64 (e_1.To + 1440)) else some e_1.To).bind fun v_6 => some (⟨(w64 ((w64 ((w64 (d_3 * 86400000)) - (w64 (zone_2 * 60000)))) + (w64 (e_1.From * 60000)))), (w64 ((w64 ((w64 (d_3 * 86400000)) - (w64 (zone_2 * 60000)))) + (w64 (v_6 * 60000))))⟩ : Window)
def slices_Index_int_int_L1 (v_2 : Int) (k_3 : Nat) (x_5 : Int) (s_8 : Unit) : Option (Ctl (Unit) (Int)) :=
  bif (v_2 == x_5) then some (.ret (k_3 : Int)) else some (.go ())
def slices_Index_int_int (s_1 : (List Int)) (v_2 : Int) : Option (Int) :=
  (forL s_1 () (fun k x s => slices_Index_int_int_L1 v_2 k x s)).bind fun o_11 => thenC o_11 (fun s_8 => some (-1)) (fun r => some r)
def slices_Contains_int_int (s_1 : (List Int)) (v_2 : Int) : Option (Bool) :=
  (slices_Index_int_int s_1 v_2).bind fun r_3 => some (decide (r_3 ≥ 0))
def ref_dayOf (e_1 : Entry) (d_2 : Int) : Option (Bool) :=
  ((ref_in d_2 e_1.First e_1.Last).bind fun r_6 => bif r_6 then (remO .i64 (w64 (d_2 - e_1.First)) e_1.Every).bind fun q_9 => bif (q_9 == 0) then (shrO .i64 e_1.Days (d_2.tmod 7)).bind fun q_12 => bif ((andI .i64 q_12 1) == 1) then (slices_Contains_int_int e_1.Except d_2).bind fun r_15 => some (!r_15) else some false else some false else some false).bind fun v_4 => some v_4
def ref_TimesOf_L1 (e_1 : Entry) (zone_2 : Int) (wv_3 : Window) (s_11 : (List Window) × Int) : Option (Ctl ((List Window) × Int) (Unit)) :=
  bif (decide (s_11.2 ≤ e_1.Last)) then (ref_timeOf e_1 zone_2 s_11.2).bind fun r_20 => (bif (!e_1.Gone) then (ref_dayOf e_1 s_11.2).bind fun r_26 => bif r_26 then some (decide ((maxI r_20.From wv_3.From) < (minI r_20.To wv_3.To))) else some false else some false).bind fun v_23 => (bif v_23 then (appL s_11.1 ([(⟨(maxI r_20.From wv_3.From), (minI r_20.To wv_3.To)⟩ : Window)] : List Window)).bind fun a_33 => some a_33 else some s_11.1).bind fun v_29 => some (.go (v_29, (w64 (s_11.2 + 1)))) else some (.brk (s_11.1, s_11.2))
noncomputable def ref_TimesOf (e_1 : Entry) (zone_2 : Int) (wv_3 : Window) : Option ((List Window)) :=
  (loopO (([] : List Window), e_1.First) (fun s => ref_TimesOf_L1 e_1 zone_2 wv_3 s)).bind fun o_17 => thenC o_17 (fun s_11 => some s_11.1) (fun _ => none)
def slices_Equal_api_Window_api_Window_L1 (s2_2 : (List Window)) (k_4 : Nat) (x_6 : Window) (s_9 : Unit) : Option (Ctl (Unit) (Bool)) :=
  (idx s2_2 (k_4 : Int)).bind fun y_14 => bif (!((x_6.From == y_14.From) && ((x_6.To == y_14.To) && true))) then some (.ret false) else some (.go ())
def slices_Equal_api_Window_api_Window (s1_1 : (List Window)) (s2_2 : (List Window)) : Option (Bool) :=
  bif ((s1_1.length : Int) != (s2_2.length : Int)) then some false else (forL s1_1 () (fun k x s => slices_Equal_api_Window_api_Window_L1 s2_2 k x s)).bind fun o_12 => thenC o_12 (fun s_9 => some true) (fun r => some r)
def slices_Index_string_string_L1 (v_2 : ByteArray) (k_3 : Nat) (x_5 : ByteArray) (s_8 : Unit) : Option (Ctl (Unit) (Int)) :=
  bif (sEq v_2 x_5) then some (.ret (k_3 : Int)) else some (.go ())
def slices_Index_string_string (s_1 : (List ByteArray)) (v_2 : ByteArray) : Option (Int) :=
  (forL s_1 () (fun k x s => slices_Index_string_string_L1 v_2 k x s)).bind fun o_11 => thenC o_11 (fun s_8 => some (-1)) (fun r => some r)
def slices_Contains_string_string (s_1 : (List ByteArray)) (v_2 : ByteArray) : Option (Bool) :=
  (slices_Index_string_string s_1 v_2).bind fun r_3 => some (decide (r_3 ≥ 0))
def ref_FitsOf_1 (t_1 : ByteArray) (p_2 : Player) : Option (Bool) :=
  (slices_Contains_string_string p_2.Tags t_1).bind fun r_3 => some (!r_3)
def slices_IndexFunc_string_string_L1 (f_2 : ByteArray → Option Bool) (k_3 : Nat) (x_5 : ByteArray) (s_8 : Unit) : Option (Ctl (Unit) (Int)) :=
  (f_2 x_5).bind fun r_13 => bif r_13 then some (.ret (k_3 : Int)) else some (.go ())
def slices_IndexFunc_string_string (s_1 : (List ByteArray)) (f_2 : ByteArray → Option Bool) : Option (Int) :=
  (forL s_1 () (fun k x s => slices_IndexFunc_string_string_L1 f_2 k x s)).bind fun o_11 => thenC o_11 (fun s_8 => some (-1)) (fun r => some r)
def slices_ContainsFunc_string_string (s_1 : (List ByteArray)) (f_2 : ByteArray → Option Bool) : Option (Bool) :=
  (slices_IndexFunc_string_string s_1 f_2).bind fun r_3 => some (decide (r_3 ≥ 0))
def ref_FitsOf (e_1 : Entry) (p_2 : Player) : Option (Bool) :=
  (slices_ContainsFunc_string_string e_1.Tags (fun x0 => ref_FitsOf_1 x0 p_2)).bind fun r_5 => some (!r_5)
noncomputable def law_timed  : Option (Bool) :=
  (schedule_Times (⟨(⟨#[97]⟩ : ByteArray), (⟨#[98]⟩ : ByteArray), 0, 0, 0, 1, 127, ([] : List Int), 1, 2, 0, ([] : List ByteArray), false⟩ : Entry) 0 (⟨0, 86400000⟩ : Window)).bind fun r_1 => (bif (r_1.2 == 0) then bif ((r_1.1.length : Int) == 1) then (idx r_1.1 0).bind fun y_7 => some (y_7.From == 60000) else some false else some false).bind fun v_3 => some v_3
noncomputable def law_EntriesTimed_L1 (r_9 : Int × Stream) (r_6 : Window × Stream) (r_3 : Player × Stream) (k_17 : Nat) (x_19 : Entry) (s_22 : Unit) : Option (Ctl (Unit) (Bool)) :=
  (schedule_Times x_19 r_9.1 r_6.1).bind fun r_28 => (schedule_Fits x_19 r_3.1).bind fun r_30 => (ref_EntriesFault ([x_19] : List Entry)).bind fun r_32 => (bif (decide (r_9.1 < (-1440))) then (law_when true 1).bind fun r_37 => (ref_SpanFault r_6.1).bind fun r_39 => (law_errs ([r_32, r_37, r_39] : List Int)).bind fun r_41 => (ref_PlayerFault r_3.1).bind fun r_43 => (law_errs ([r_32, r_43] : List Int)).bind fun r_45 => some (r_41, r_45) else (law_when (decide (r_9.1 > 1440)) 1).bind fun r_47 => (ref_SpanFault r_6.1).bind fun r_49 => (law_errs ([r_32, r_47, r_49] : List Int)).bind fun r_51 => (ref_PlayerFault r_3.1).bind fun r_53 => (law_errs ([r_32, r_53] : List Int)).bind fun r_55 => some (r_51, r_55)).bind fun v_34 => (bif (v_34.1 == 0) then (ref_TimesOf x_19 r_9.1 r_6.1).bind fun r_62 => some r_62 else some ([] : List Window)).bind fun v_59 => (bif (r_28.2 != v_34.1) then some true else (slices_Equal_api_Window_api_Window r_28.1 v_59).bind fun r_67 => bif (!r_67) then some true else bif (r_30.2 != v_34.2) then some true else bif (v_34.2 == 0) then (ref_FitsOf x_19 r_3.1).bind fun r_72 => some (!(r_30.1 == r_72)) else some (!(r_30.1 == false))).bind fun v_64 => bif v_64 then some (.ret false) else some (.go ())
noncomputable def law_EntriesTimed (l_1 : (List Int)) : Option (Bool) :=
  (mk_Stream_Player (⟨l_1, 0⟩ : Stream)).bind fun r_3 => (mk_Stream_Days r_3.2).bind fun r_6 => (mk_Stream_Pick r_6.2 ([0, 0, 60, (-90), 1440, (-1440), 1441] : List Int)).bind fun r_9 => (mk_Stream_Entries r_9.2).bind fun r_14 => (forL r_14.1 () (fun k x s => law_EntriesTimed_L1 r_9 r_6 r_3 k x s)).bind fun o_25 => thenC o_25 (fun s_22 => (law_timed).bind fun r_75 => some r_75) (fun r => some r)
end Go.Proofs.Ytodfcleaapnklaa.Law
