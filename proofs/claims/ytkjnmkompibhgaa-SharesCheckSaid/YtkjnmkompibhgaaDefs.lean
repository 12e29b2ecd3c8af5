/-
  The functions of the program, as plain functions over data (written by a program of ours).
-/
import Derived.Test.YtkjnmkompibhgaaEng3
open Go Go.Eng
namespace Go.Proofs.Ytkjnmkompibhgaa.Law
set_option maxRecDepth 100000
set_option linter.unusedVariables false
set_option maxHeartbeats 1000000
structure Stream where
  L : (List Int)
  f_at : Int
def Stream.enc (s : Stream) : List D := [dl eI s.L, .int .i64 s.f_at]

structure Window where
  From : Int
  To : Int
def Window.enc (s : Window) : List D := [.int .i64 s.From, .int .i64 s.To]

structure Spot where
  Key : ByteArray
  Time : Window
  Room : Int
  Tags : (List ByteArray)
def Spot.enc (s : Spot) : List D := [.str s.Key, .int .i64 s.Time.From, .int .i64 s.Time.To, .int .i64 s.Room, dl eS s.Tags]

structure Campaign where
  Key : ByteArray
  Class : ByteArray
  Time : Window
  Tags : (List ByteArray)
  Goal : Int
  Most : Int
  Cents : Int
def Campaign.enc (s : Campaign) : List D := [.str s.Key, .str s.Class, .int .i64 s.Time.From, .int .i64 s.Time.To, dl eS s.Tags, .int .i64 s.Goal, .int .i64 s.Most, .int .i64 s.Cents]

structure Share where
  Campaign : ByteArray
  Spot : ByteArray
  Many : Int
def Share.enc (s : Share) : List D := [.str s.Campaign, .str s.Spot, .int .i64 s.Many]

def mk_Below (x_1 : Int) (n_2 : Int) : Option (Int) :=
  bif (decide (n_2 < 1)) then some 0 else (remO .i64 x_1 n_2).bind fun q_4 => (bif (decide (q_4 < 0)) then some (w64 (q_4 + n_2)) else some q_4).bind fun v_6 => some v_6
def mk_Stream_Next (s_1 : Stream) (n_2 : Int) : Option (Int × Stream) :=
  bif ((s_1.L.length : Int) == 0) then (mk_Below (w64 ((w64 (s_1.f_at + 1)) * 7919)) n_2).bind fun r_4 => some (r_4, (⟨s_1.L, (w64 (s_1.f_at + 1))⟩ : Stream)) else (remO .i64 (w64 ((w64 (s_1.f_at + 1)) - 1)) (s_1.L.length : Int)).bind fun q_6 => (quoO .i64 (w64 ((w64 (s_1.f_at + 1)) - 1)) (s_1.L.length : Int)).bind fun q_8 => (idx s_1.L q_6).bind fun y_10 => (mk_Below y_10 1073741824).bind fun r_12 => (mk_Below (w64 (r_12 + (w64 (q_8 * (w64 (7919 + q_6)))))) n_2).bind fun r_14 => some (r_14, (⟨s_1.L, (w64 (s_1.f_at + 1))⟩ : Stream))
def mk_Stream_Flip (s_1 : Stream) (n_2 : Int) : Option (Bool × Stream) :=
  (mk_Stream_Next s_1 n_2).bind fun r_3 => some ((r_3.1 == 0), r_3.2)
def mk_Stream_Pick (s_1 : Stream) (l_2 : (List Int)) : Option (Int × Stream) :=
  (mk_Stream_Next s_1 (l_2.length : Int)).bind fun r_3 => (idx l_2 r_3.1).bind fun y_6 => some (y_6, r_3.2)
def mk_Stream_RightSpots_L1 (k_26 : Nat) (x_28 : ByteArray) (s_31 : (List ByteArray) × (List Int) × Int) : Option (Ctl ((List ByteArray) × (List Int) × Int) (Unit)) :=
  (mk_Stream_Flip (⟨s_31.2.1, s_31.2.2⟩ : Stream) 2).bind fun r_39 => (bif r_39.1 then (appL s_31.1 ([x_28] : List ByteArray)).bind fun a_46 => some a_46 else some s_31.1).bind fun v_42 => some (.go (v_42, r_39.2.L, r_39.2.f_at))
def mk_Stream_RightSpots_L2 (k_2 : Nat) (x_4 : ByteArray) (s_7 : (List Spot) × (List Int) × Int) : Option (Ctl ((List Spot) × (List Int) × Int) (Unit)) :=
  (mk_Stream_Flip (⟨s_7.2.1, s_7.2.2⟩ : Stream) 4).bind fun r_15 => bif r_15.1 then some (.go (s_7.1, r_15.2.L, r_15.2.f_at)) else (mk_Stream_Pick r_15.2 ([5, 10, 10] : List Int)).bind fun r_19 => (mk_Stream_Pick r_19.2 ([0, 1, 2, 3, 5] : List Int)).bind fun r_22 => (forL ([(⟨#[99, 105, 116, 121]⟩ : ByteArray), (⟨#[109, 97, 108, 108]⟩ : ByteArray)] : List ByteArray) (([] : List ByteArray), r_22.2.L, r_22.2.f_at) (fun k x s => mk_Stream_RightSpots_L1 k x s)).bind fun o_37 => thenC o_37 (fun s_31 => (appL s_7.1 ([(⟨x_4, (⟨(w64 (10 * (k_2 : Int))), (w64 ((w64 (10 * (k_2 : Int))) + r_19.1))⟩ : Window), r_22.1, s_31.1⟩ : Spot)] : List Spot)).bind fun a_49 => some (.go (a_49, s_31.2.1, s_31.2.2))) (fun _ => none)
def mk_Stream_RightSpots (s_1 : Stream) : Option ((List Spot) × Stream) :=
  (forL ([(⟨#[115, 97]⟩ : ByteArray), (⟨#[115, 98]⟩ : ByteArray), (⟨#[115, 99]⟩ : ByteArray), (⟨#[115, 100]⟩ : ByteArray), (⟨#[115, 101]⟩ : ByteArray)] : List ByteArray) (([] : List Spot), s_1.L, s_1.f_at) (fun k x s => mk_Stream_RightSpots_L2 k x s)).bind fun o_13 => thenC o_13 (fun s_7 => some (s_7.1, (⟨s_7.2.1, s_7.2.2⟩ : Stream))) (fun _ => none)
def mk_Stream_Some (s_1 : Stream) (l_2 : (List ByteArray)) : Option (ByteArray × Stream) :=
  (mk_Stream_Next s_1 (l_2.length : Int)).bind fun r_3 => (idx l_2 r_3.1).bind fun y_6 => some (y_6, r_3.2)
def mk_Stream_Range (s_1 : Stream) (low_2 : Int) (high_3 : Int) : Option (Int × Stream) :=
  bif (decide (high_3 < low_2)) then some (low_2, s_1) else (mk_Stream_Next s_1 (w64 ((w64 (high_3 - low_2)) + 1))).bind fun r_5 => some ((w64 (low_2 + r_5.1)), r_5.2)
def mk_Stream_Odd (s_1 : Stream) (low_2 : Int) (high_3 : Int) : Option (Int × Stream) :=
  (mk_Stream_Flip s_1 12).bind fun r_4 => bif r_4.1 then (mk_Stream_Pick r_4.2 ([(w64 (low_2 - 1)), (w64 (high_3 + 1)), low_2, high_3, (-1099511627776), 1099511627776] : List Int)).bind fun r_8 => some (r_8.1, r_8.2) else (mk_Stream_Range r_4.2 low_2 high_3).bind fun r_11 => some (r_11.1, r_11.2)
def mk_Stream_Spots (s_1 : Stream) : Option ((List Spot) × Stream) :=
  (mk_Stream_RightSpots s_1).bind fun r_2 => (bif (decide ((r_2.1.length : Int) > 0)) then (mk_Stream_Flip r_2.2 12).bind fun r_9 => some (r_9.1, r_9.2.L, r_9.2.f_at) else some (false, r_2.2.L, r_2.2.f_at)).bind fun v_6 => (bif v_6.1 then (mk_Stream_Next (⟨v_6.2.1, v_6.2.2⟩ : Stream) (r_2.1.length : Int)).bind fun r_15 => (inR r_15.1 r_2.1).bind fun _ => (r_2.1[(0 + (r_15.1).toNat)]?).bind fun e_19 => (mk_Stream_Some r_15.2 ([e_19.Key, (⟨#[]⟩ : ByteArray), (⟨#[115, 97]⟩ : ByteArray)] : List ByteArray)).bind fun r_21 => (mk_Stream_Odd r_21.2 0 60).bind fun r_24 => (mk_Stream_Odd r_24.2 0 5).bind fun r_27 => (mk_Stream_Next r_27.2 3).bind fun r_30 => (idx ([([] : List ByteArray), ([(⟨#[98]⟩ : ByteArray), (⟨#[97]⟩ : ByteArray)] : List ByteArray), ([(⟨#[65]⟩ : ByteArray)] : List ByteArray)] : List (List ByteArray)) r_30.1).bind fun y_33 => (r_2.1[(0 + (r_15.1).toNat)]?).bind fun e_35 => ((r_2.1.set (0 + (r_15.1).toNat) (⟨r_21.1, e_35.Time, e_35.Room, e_35.Tags⟩ : Spot))[(0 + (r_15.1).toNat)]?).bind fun e_37 => (((r_2.1.set (0 + (r_15.1).toNat) (⟨r_21.1, e_35.Time, e_35.Room, e_35.Tags⟩ : Spot)).set (0 + (r_15.1).toNat) (⟨e_37.Key, (⟨e_37.Time.From, r_24.1⟩ : Window), e_37.Room, e_37.Tags⟩ : Spot))[(0 + (r_15.1).toNat)]?).bind fun e_39 => ((((r_2.1.set (0 + (r_15.1).toNat) (⟨r_21.1, e_35.Time, e_35.Room, e_35.Tags⟩ : Spot)).set (0 + (r_15.1).toNat) (⟨e_37.Key, (⟨e_37.Time.From, r_24.1⟩ : Window), e_37.Room, e_37.Tags⟩ : Spot)).set (0 + (r_15.1).toNat) (⟨e_39.Key, e_39.Time, r_27.1, e_39.Tags⟩ : Spot))[(0 + (r_15.1).toNat)]?).bind fun e_41 => some (((((r_2.1.set (0 + (r_15.1).toNat) (⟨r_21.1, e_35.Time, e_35.Room, e_35.Tags⟩ : Spot)).set (0 + (r_15.1).toNat) (⟨e_37.Key, (⟨e_37.Time.From, r_24.1⟩ : Window), e_37.Room, e_37.Tags⟩ : Spot)).set (0 + (r_15.1).toNat) (⟨e_39.Key, e_39.Time, r_27.1, e_39.Tags⟩ : Spot)).set (0 + (r_15.1).toNat) (⟨e_41.Key, e_41.Time, e_41.Room, y_33⟩ : Spot)), r_30.2.L, r_30.2.f_at) else some (r_2.1, v_6.2.1, v_6.2.2)).bind fun v_12 => some (v_12.1, (⟨v_12.2.1, v_12.2.2⟩ : Stream))
def mk_Stream_RightCampaigns_L1 (k_41 : Nat) (x_43 : ByteArray) (s_46 : (List ByteArray) × (List Int) × Int) : Option (Ctl ((List ByteArray) × (List Int) × Int) (Unit)) :=
  (mk_Stream_Flip (⟨s_46.2.1, s_46.2.2⟩ : Stream) 4).bind fun r_54 => (bif r_54.1 then (appL s_46.1 ([x_43] : List ByteArray)).bind fun a_61 => some a_61 else some s_46.1).bind fun v_57 => some (.go (v_57, r_54.2.L, r_54.2.f_at))
def mk_Stream_RightCampaigns_L2 (k_5 : Nat) (x_7 : ByteArray) (s_10 : (List Campaign) × (List Int) × Int) : Option (Ctl ((List Campaign) × (List Int) × Int) (Unit)) :=
  (mk_Stream_Flip (⟨s_10.2.1, s_10.2.2⟩ : Stream) 5).bind fun r_18 => bif r_18.1 then some (.go (s_10.1, r_18.2.L, r_18.2.f_at)) else (mk_Stream_Some r_18.2 ([(⟨#[]⟩ : ByteArray), (⟨#[]⟩ : ByteArray), (⟨#[99, 97, 114, 115]⟩ : ByteArray), (⟨#[102, 111, 111, 100]⟩ : ByteArray)] : List ByteArray)).bind fun r_22 => (mk_Stream_Pick r_22.2 ([0, 0, 10, 20] : List Int)).bind fun r_25 => (mk_Stream_Pick r_25.2 ([30, 50, 60, 100] : List Int)).bind fun r_28 => (mk_Stream_Pick r_28.2 ([0, 1, 2, 3, 4, 6] : List Int)).bind fun r_31 => (mk_Stream_Pick r_31.2 ([0, 1, 2, 3, 9] : List Int)).bind fun r_34 => (mk_Stream_Pick r_34.2 ([0, 500, 1000, 1500] : List Int)).bind fun r_37 => (forL ([(⟨#[99, 105, 116, 121]⟩ : ByteArray), (⟨#[109, 97, 108, 108]⟩ : ByteArray)] : List ByteArray) (([] : List ByteArray), r_37.2.L, r_37.2.f_at) (fun k x s => mk_Stream_RightCampaigns_L1 k x s)).bind fun o_52 => thenC o_52 (fun s_46 => (appL s_10.1 ([(⟨x_7, r_22.1, (⟨r_25.1, r_28.1⟩ : Window), s_46.1, r_31.1, r_34.1, r_37.1⟩ : Campaign)] : List Campaign)).bind fun a_64 => some (.go (a_64, s_46.2.1, s_46.2.2))) (fun _ => none)
def mk_Stream_RightCampaigns (s_1 : Stream) (most_2 : Int) : Option ((List Campaign) × Stream) :=
  (subL ([(⟨#[99, 97]⟩ : ByteArray), (⟨#[99, 98]⟩ : ByteArray), (⟨#[99, 99]⟩ : ByteArray), (⟨#[99, 100]⟩ : ByteArray)] : List ByteArray) 0 most_2).bind fun y_3 => (forL y_3 (([] : List Campaign), s_1.L, s_1.f_at) (fun k x s => mk_Stream_RightCampaigns_L2 k x s)).bind fun o_16 => thenC o_16 (fun s_10 => some (s_10.1, (⟨s_10.2.1, s_10.2.2⟩ : Stream))) (fun _ => none)
def mk_Stream_Campaigns (s_1 : Stream) (most_2 : Int) : Option ((List Campaign) × Stream) :=
  (mk_Stream_RightCampaigns s_1 most_2).bind fun r_3 => (bif (decide ((r_3.1.length : Int) > 0)) then (mk_Stream_Flip r_3.2 12).bind fun r_10 => some (r_10.1, r_10.2.L, r_10.2.f_at) else some (false, r_3.2.L, r_3.2.f_at)).bind fun v_7 => (bif v_7.1 then (mk_Stream_Next (⟨v_7.2.1, v_7.2.2⟩ : Stream) (r_3.1.length : Int)).bind fun r_16 => (inR r_16.1 r_3.1).bind fun _ => (mk_Stream_Next r_16.2 4).bind fun r_20 => bif (r_20.1 == 0) then (r_3.1[(0 + (r_16.1).toNat)]?).bind fun e_24 => (mk_Stream_Some r_20.2 ([e_24.Key, (⟨#[]⟩ : ByteArray), (⟨#[99, 97]⟩ : ByteArray)] : List ByteArray)).bind fun r_26 => (mk_Stream_Some r_26.2 ([(⟨#[]⟩ : ByteArray), (⟨#[65]⟩ : ByteArray)] : List ByteArray)).bind fun r_29 => (r_3.1[(0 + (r_16.1).toNat)]?).bind fun e_32 => ((r_3.1.set (0 + (r_16.1).toNat) (⟨r_26.1, e_32.Class, e_32.Time, e_32.Tags, e_32.Goal, e_32.Most, e_32.Cents⟩ : Campaign))[(0 + (r_16.1).toNat)]?).bind fun e_34 => some (((r_3.1.set (0 + (r_16.1).toNat) (⟨r_26.1, e_32.Class, e_32.Time, e_32.Tags, e_32.Goal, e_32.Most, e_32.Cents⟩ : Campaign)).set (0 + (r_16.1).toNat) (⟨e_34.Key, r_29.1, e_34.Time, e_34.Tags, e_34.Goal, e_34.Most, e_34.Cents⟩ : Campaign)), r_29.2.L, r_29.2.f_at) else bif (r_20.1 == 1) then (mk_Stream_Odd r_20.2 0 60).bind fun r_37 => (r_3.1[(0 + (r_16.1).toNat)]?).bind fun e_40 => some ((r_3.1.set (0 + (r_16.1).toNat) (⟨e_40.Key, e_40.Class, (⟨e_40.Time.From, r_37.1⟩ : Window), e_40.Tags, e_40.Goal, e_40.Most, e_40.Cents⟩ : Campaign)), r_37.2.L, r_37.2.f_at) else bif (r_20.1 == 2) then (mk_Stream_Odd r_20.2 0 6).bind fun r_43 => (mk_Stream_Odd r_43.2 0 6).bind fun r_46 => (mk_Stream_Odd r_46.2 0 1000).bind fun r_49 => (r_3.1[(0 + (r_16.1).toNat)]?).bind fun e_52 => ((r_3.1.set (0 + (r_16.1).toNat) (⟨e_52.Key, e_52.Class, e_52.Time, e_52.Tags, r_43.1, e_52.Most, e_52.Cents⟩ : Campaign))[(0 + (r_16.1).toNat)]?).bind fun e_54 => (((r_3.1.set (0 + (r_16.1).toNat) (⟨e_52.Key, e_52.Class, e_52.Time, e_52.Tags, r_43.1, e_52.Most, e_52.Cents⟩ : Campaign)).set (0 + (r_16.1).toNat) (⟨e_54.Key, e_54.Class, e_54.Time, e_54.Tags, e_54.Goal, r_46.1, e_54.Cents⟩ : Campaign))[(0 + (r_16.1).toNat)]?).bind fun e_56 => some ((((r_3.1.set (0 + (r_16.1).toNat) (⟨e_52.Key, e_52.Class, e_52.Time, e_52.Tags, r_43.1, e_52.Most, e_52.Cents⟩ : Campaign)).set (0 + (r_16.1).toNat) (⟨e_54.Key, e_54.Class, e_54.Time, e_54.Tags, e_54.Goal, r_46.1, e_54.Cents⟩ : Campaign)).set (0 + (r_16.1).toNat) (⟨e_56.Key, e_56.Class, e_56.Time, e_56.Tags, e_56.Goal, e_56.Most, r_49.1⟩ : Campaign)), r_49.2.L, r_49.2.f_at) else (mk_Stream_Next r_20.2 3).bind fun r_58 => (idx ([([(⟨#[98]⟩ : ByteArray), (⟨#[97]⟩ : ByteArray)] : List ByteArray), ([(⟨#[65]⟩ : ByteArray)] : List ByteArray), ([(⟨#[97]⟩ : ByteArray), (⟨#[97]⟩ : ByteArray)] : List ByteArray)] : List (List ByteArray)) r_58.1).bind fun y_61 => (r_3.1[(0 + (r_16.1).toNat)]?).bind fun e_63 => some ((r_3.1.set (0 + (r_16.1).toNat) (⟨e_63.Key, e_63.Class, e_63.Time, y_61, e_63.Goal, e_63.Most, e_63.Cents⟩ : Campaign)), r_58.2.L, r_58.2.f_at) else some (r_3.1, v_7.2.1, v_7.2.2)).bind fun v_13 => some (v_13.1, (⟨v_13.2.1, v_13.2.2⟩ : Stream))
def ref_in (n_1 : Int) (low_2 : Int) (high_3 : Int) : Option (Bool) :=
  (bif (decide (low_2 ≤ n_1)) then some (decide (n_1 ≤ high_3)) else some false).bind fun v_4 => some v_4
def internal_stringslite_IndexByte (s_1 : ByteArray) (c_2 : Int) : Option (Int) :=
  some (ixB s_1 c_2)
def strings_IndexByte (s_1 : ByteArray) (c_2 : Int) : Option (Int) :=
  (internal_stringslite_IndexByte s_1 c_2).bind fun r_3 => some r_3
def ref_only_L1 (s_1 : ByteArray) (somev_2 : ByteArray) (k_3 : Nat) (x_5 : Nat) (s_8 : Unit) : Option (Ctl (Unit) (Bool)) :=
  (idxS s_1 (k_3 : Int)).bind fun b_13 => (strings_IndexByte somev_2 (b_13.toNat : Int)).bind fun r_15 => bif (decide (r_15 < 0)) then some (.ret false) else some (.go ())
def ref_only (s_1 : ByteArray) (somev_2 : ByteArray) : Option (Bool) :=
  (forL (List.range ((s_1.size : Int)).toNat) () (fun k x s => ref_only_L1 s_1 somev_2 k x s)).bind fun o_11 => thenC o_11 (fun s_8 => some true) (fun r => some r)
def ref_Key (s_1 : ByteArray) : Option (Bool) :=
  ((ref_in (s_1.size : Int) 1 40).bind fun r_4 => bif r_4 then (subS s_1 0 1).bind fun y_7 => (ref_only y_7 (⟨#[97, 98, 99, 100, 101, 102, 103, 104, 105, 106, 107, 108, 109, 110, 111, 112, 113, 114, 115, 116, 117, 118, 119, 120, 121, 122]⟩ : ByteArray)).bind fun r_9 => bif r_9 then (ref_only s_1 (⟨#[97, 98, 99, 100, 101, 102, 103, 104, 105, 106, 107, 108, 109, 110, 111, 112, 113, 114, 115, 116, 117, 118, 119, 120, 121, 122, 48, 49, 50, 51, 52, 53, 54, 55, 56, 57, 45, 95]⟩ : ByteArray)).bind fun r_12 => some r_12 else some false else some false).bind fun v_2 => some v_2
def ref_risingFault_L1 (l_1 : (List ByteArray)) (k_2 : Nat) (x_4 : ByteArray) (s_7 : Unit) : Option (Ctl (Unit) (Int)) :=
  (ref_Key x_4).bind fun r_12 => bif (!r_12) then some (.ret 5) else (bif (decide ((k_2 : Int) > 0)) then (idx l_1 (w64 ((k_2 : Int) - 1))).bind fun y_18 => some (sLe x_4 y_18) else some false).bind fun v_15 => bif v_15 then some (.ret 7) else some (.go ())
def ref_risingFault (l_1 : (List ByteArray)) : Option (Int) :=
  (forL l_1 () (fun k x s => ref_risingFault_L1 l_1 k x s)).bind fun o_10 => thenC o_10 (fun s_7 => some 0) (fun r => some r)
def ref_TagsFault (l_1 : (List ByteArray)) : Option (Int) :=
  bif (decide ((l_1.length : Int) > 20)) then some 2 else (ref_risingFault l_1).bind fun r_3 => some r_3
def ref_SpotsFault_L1 (k_3 : Nat) (x_5 : Spot) (s_8 : ByteArray) : Option (Ctl (ByteArray) (Int)) :=
  (ref_Key x_5.Key).bind fun r_14 => bif (!r_14) then some (.ret 5) else bif (sLe x_5.Key s_8) then some (.ret 7) else (bif (decide (x_5.Time.From < 0)) then some true else bif (decide (x_5.Time.From ≥ x_5.Time.To)) then some true else bif (decide (x_5.Time.To > 345686400000)) then some true else (ref_in x_5.Room 0 1000000).bind fun r_23 => some (!r_23)).bind fun v_18 => bif v_18 then some (.ret 1) else (ref_TagsFault x_5.Tags).bind fun r_26 => bif (r_26 != 0) then some (.ret r_26) else some (.go x_5.Key)
def ref_SpotsFault (l_1 : (List Spot)) : Option (Int) :=
  bif (decide ((l_1.length : Int) > 60)) then some 2 else (forL l_1 (⟨#[]⟩ : ByteArray) (fun k x s => ref_SpotsFault_L1 k x s)).bind fun o_11 => thenC o_11 (fun s_8 => some 0) (fun r => some r)
def ref_CampaignsFault_L1 (k_3 : Nat) (x_5 : Campaign) (s_8 : ByteArray) : Option (Ctl (ByteArray) (Int)) :=
  ((ref_Key x_5.Key).bind fun r_16 => bif (!r_16) then some true else bif (sNe x_5.Class (⟨#[]⟩ : ByteArray)) then (ref_Key x_5.Class).bind fun r_20 => some (!r_20) else some false).bind fun v_14 => bif v_14 then some (.ret 5) else bif (sLe x_5.Key s_8) then some (.ret 7) else (bif (decide (x_5.Time.From < 0)) then some true else bif (decide (x_5.Time.From ≥ x_5.Time.To)) then some true else bif (decide (x_5.Time.To > 345686400000)) then some true else (ref_in x_5.Goal 0 1000000).bind fun r_29 => bif (!r_29) then some true else (ref_in x_5.Most 0 1000000).bind fun r_32 => bif (!r_32) then some true else (ref_in x_5.Cents 0 1000000000).bind fun r_35 => some (!r_35)).bind fun v_24 => bif v_24 then some (.ret 1) else (ref_TagsFault x_5.Tags).bind fun r_38 => bif (r_38 != 0) then some (.ret r_38) else some (.go x_5.Key)
def ref_CampaignsFault (l_1 : (List Campaign)) : Option (Int) :=
  bif (decide ((l_1.length : Int) > 30)) then some 2 else (forL l_1 (⟨#[]⟩ : ByteArray) (fun k x s => ref_CampaignsFault_L1 k x s)).bind fun o_11 => thenC o_11 (fun s_8 => some 0) (fun r => some r)
def law_errs_L1 (k_2 : Nat) (x_4 : Int) (s_7 : Unit) : Option (Ctl (Unit) (Int)) :=
  bif (x_4 != 0) then some (.ret x_4) else some (.go ())
def law_errs (l_1 : (List Int)) : Option (Int) :=
  (forL l_1 () (fun k x s => law_errs_L1 k x s)).bind fun o_10 => thenC o_10 (fun s_7 => some 0) (fun r => some r)
def law_office (s_1 : Stream) : Option ((List Spot) × (List Campaign) × Int × Stream) :=
  (mk_Stream_Spots s_1).bind fun r_2 => (mk_Stream_Campaigns r_2.2 4).bind fun r_5 => (ref_SpotsFault r_2.1).bind fun r_8 => (ref_CampaignsFault r_5.1).bind fun r_10 => (law_errs ([r_8, r_10] : List Int)).bind fun r_12 => some (r_2.1, r_5.1, r_12, r_5.2)
def kit_IsKey_L1 (s_1 : ByteArray) (s_7 : Int) : Option (Ctl (Int) (Bool)) :=
  bif (decide (s_7 < (s_1.size : Int))) then (idxS s_1 s_7).bind fun b_13 => (bif (decide ((b_13.toNat : Int) ≥ 97)) then bif (decide ((b_13.toNat : Int) ≤ 122)) then some false else bif (decide (s_7 > 0)) then bif (decide ((b_13.toNat : Int) ≥ 48)) then bif (decide ((b_13.toNat : Int) ≤ 57)) then some false else bif ((b_13.toNat : Int) == 45) then some false else some (!((b_13.toNat : Int) == 95)) else bif ((b_13.toNat : Int) == 45) then some false else some (!((b_13.toNat : Int) == 95)) else some true else bif (decide (s_7 > 0)) then bif (decide ((b_13.toNat : Int) ≥ 48)) then bif (decide ((b_13.toNat : Int) ≤ 57)) then some false else bif ((b_13.toNat : Int) == 45) then some false else some (!((b_13.toNat : Int) == 95)) else bif ((b_13.toNat : Int) == 45) then some false else some (!((b_13.toNat : Int) == 95)) else some true).bind fun v_15 => bif v_15 then some (.ret false) else some (.go (w64 (s_7 + 1))) else some (.brk s_7)
noncomputable def kit_IsKey (s_1 : ByteArray) : Option (Bool) :=
  (loopO 0 (fun s => kit_IsKey_L1 s_1 s)).bind fun o_10 => thenC o_10 (fun s_7 => (bif (sNe s_1 (⟨#[]⟩ : ByteArray)) then some (decide ((s_1.size : Int) ≤ 40)) else some false).bind fun v_30 => some v_30) (fun r => some r)
def booking_isTime (wv_1 : Window) : Option (Bool) :=
  (bif (decide (wv_1.From ≥ 0)) then bif (decide (wv_1.From < wv_1.To)) then some (decide (wv_1.To ≤ 345686400000)) else some false else some false).bind fun v_3 => some v_3
def kit_Outside (n_1 : Int) (low_2 : Int) (high_3 : Int) : Option (Bool) :=
  (bif (decide (n_1 < low_2)) then some true else some (decide (n_1 > high_3))).bind fun v_4 => some v_4
noncomputable def kit_RisingFault_L1 (l_1 : (List ByteArray)) (k_2 : Nat) (x_4 : ByteArray) (s_7 : Unit) : Option (Ctl (Unit) (Int)) :=
  (kit_IsKey x_4).bind fun r_12 => bif (!r_12) then some (.ret 5) else (bif (decide ((k_2 : Int) > 0)) then (idx l_1 (w64 ((k_2 : Int) - 1))).bind fun y_18 => some (sLe x_4 y_18) else some false).bind fun v_15 => bif v_15 then some (.ret 7) else some (.go ())
noncomputable def kit_RisingFault (l_1 : (List ByteArray)) : Option (Int) :=
  (forL l_1 () (fun k x s => kit_RisingFault_L1 l_1 k x s)).bind fun o_10 => thenC o_10 (fun s_7 => some 0) (fun r => some r)
noncomputable def booking_tagsFault (l_1 : (List ByteArray)) : Option (Int) :=
  bif (decide ((l_1.length : Int) > 20)) then some 2 else (kit_RisingFault l_1).bind fun r_3 => some r_3
noncomputable def booking_CheckSpots_L1 (l_1 : (List Spot)) (k_3 : Nat) (x_5 : Spot) (s_8 : Unit) : Option (Ctl (Unit) (Int)) :=
  (kit_IsKey x_5.Key).bind fun r_14 => bif (!r_14) then some (.ret 5) else (bif (decide ((k_3 : Int) > 0)) then (idx l_1 (w64 ((k_3 : Int) - 1))).bind fun y_20 => some (sLe x_5.Key y_20.Key) else some false).bind fun v_17 => bif v_17 then some (.ret 7) else ((booking_isTime x_5.Time).bind fun r_25 => bif (!r_25) then some true else (kit_Outside x_5.Room 0 1000000).bind fun r_28 => some r_28).bind fun v_23 => bif v_23 then some (.ret 1) else (booking_tagsFault x_5.Tags).bind fun r_31 => bif (r_31 != 0) then some (.ret r_31) else some (.go ())
noncomputable def booking_CheckSpots (l_1 : (List Spot)) : Option (Int) :=
  bif (decide ((l_1.length : Int) > 60)) then some 2 else (forL l_1 () (fun k x s => booking_CheckSpots_L1 l_1 k x s)).bind fun o_11 => thenC o_11 (fun s_8 => some 0) (fun r => some r)
noncomputable def booking_CheckCampaigns_L1 (l_1 : (List Campaign)) (k_3 : Nat) (x_5 : Campaign) (s_8 : Unit) : Option (Ctl (Unit) (Int)) :=
  ((kit_IsKey x_5.Key).bind fun r_16 => bif (!r_16) then some true else bif (sNe x_5.Class (⟨#[]⟩ : ByteArray)) then (kit_IsKey x_5.Class).bind fun r_20 => some (!r_20) else some false).bind fun v_14 => bif v_14 then some (.ret 5) else (bif (decide ((k_3 : Int) > 0)) then (idx l_1 (w64 ((k_3 : Int) - 1))).bind fun y_26 => some (sLe x_5.Key y_26.Key) else some false).bind fun v_23 => bif v_23 then some (.ret 7) else ((booking_isTime x_5.Time).bind fun r_31 => bif (!r_31) then some true else (kit_Outside x_5.Goal 0 1000000).bind fun r_34 => bif r_34 then some true else (kit_Outside x_5.Most 0 1000000).bind fun r_37 => bif r_37 then some true else (kit_Outside x_5.Cents 0 1000000000).bind fun r_40 => some r_40).bind fun v_29 => bif v_29 then some (.ret 1) else (booking_tagsFault x_5.Tags).bind fun r_43 => bif (r_43 != 0) then some (.ret r_43) else some (.go ())
noncomputable def booking_CheckCampaigns (l_1 : (List Campaign)) : Option (Int) :=
  bif (decide ((l_1.length : Int) > 30)) then some 2 else (forL l_1 () (fun k x s => booking_CheckCampaigns_L1 l_1 k x s)).bind fun o_11 => thenC o_11 (fun s_8 => some 0) (fun r => some r)
noncomputable def booking_checkBoth (spots_1 : (List Spot)) (l_2 : (List Campaign)) : Option (Int) :=
  (booking_CheckSpots spots_1).bind fun r_3 => bif (r_3 != 0) then some r_3 else (booking_CheckCampaigns l_2).bind fun r_6 => some r_6
def cmp_isNaN_string (x_1 : ByteArray) : Option (Bool) :=
  some (sNe x_1 x_1)
def cmp_Less_string (x_1 : ByteArray) (y_2 : ByteArray) : Option (Bool) :=
  ((cmp_isNaN_string x_1).bind fun r_5 => bif r_5 then (cmp_isNaN_string y_2).bind fun r_8 => bif (!r_8) then some true else some (sLt x_1 y_2) else some (sLt x_1 y_2)).bind fun v_3 => some v_3
def slices_isNaN_string (x_1 : ByteArray) : Option (Bool) :=
  some (sNe x_1 x_1)
def slices_BinarySearch_string_string_L1 (x_1 : (List ByteArray)) (target_2 : ByteArray) (s_8 : Int × Int) : Option (Ctl (Int × Int) (Unit)) :=
  bif (decide (s_8.1 < s_8.2)) then (shrO .u64 (IntKind.u64.wrap (w64 (s_8.1 + s_8.2))) 1).bind fun q_14 => (idx x_1 (w64 q_14)).bind fun y_16 => (cmp_Less_string y_16 target_2).bind fun r_18 => bif r_18 then some (.go ((w64 ((w64 q_14) + 1)), s_8.2)) else some (.go (s_8.1, (w64 q_14))) else some (.brk (s_8.1, s_8.2))
noncomputable def slices_BinarySearch_string_string (x_1 : (List ByteArray)) (target_2 : ByteArray) : Option (Int × Bool) :=
  (loopO (0, (x_1.length : Int)) (fun s => slices_BinarySearch_string_string_L1 x_1 target_2 s)).bind fun o_11 => thenC o_11 (fun s_8 => (bif (decide (s_8.1 < (x_1.length : Int))) then (idx x_1 s_8.1).bind fun y_24 => bif (sEq y_24 target_2) then some true else (idx x_1 s_8.1).bind fun y_27 => (slices_isNaN_string y_27).bind fun r_29 => bif r_29 then (slices_isNaN_string target_2).bind fun r_32 => some r_32 else some false else some false).bind fun v_21 => some (s_8.1, v_21)) (fun _ => none)
noncomputable def booking_suits_L1 (s_2 : Spot) (k_9 : Nat) (x_11 : ByteArray) (s_14 : Unit) : Option (Ctl (Unit) (Bool)) :=
  (slices_BinarySearch_string_string s_2.Tags x_11).bind fun r_19 => bif (!r_19.2) then some (.ret false) else some (.go ())
noncomputable def booking_suits (c_1 : Campaign) (s_2 : Spot) : Option (Bool) :=
  (bif (decide (s_2.Time.From < c_1.Time.From)) then some true else some (decide (s_2.Time.To > c_1.Time.To))).bind fun v_5 => bif v_5 then some false else (forL c_1.Tags () (fun k x s => booking_suits_L1 s_2 k x s)).bind fun o_17 => thenC o_17 (fun s_14 => some true) (fun r => some r)
def slices_Index_string_string_L1 (v_2 : ByteArray) (k_3 : Nat) (x_5 : ByteArray) (s_8 : Unit) : Option (Ctl (Unit) (Int)) :=
  bif (sEq v_2 x_5) then some (.ret (k_3 : Int)) else some (.go ())
def slices_Index_string_string (s_1 : (List ByteArray)) (v_2 : ByteArray) : Option (Int) :=
  (forL s_1 () (fun k x s => slices_Index_string_string_L1 v_2 k x s)).bind fun o_11 => thenC o_11 (fun s_8 => some (-1)) (fun r => some r)
def slices_Contains_string_string (s_1 : (List ByteArray)) (v_2 : ByteArray) : Option (Bool) :=
  (slices_Index_string_string s_1 v_2).bind fun r_3 => some (decide (r_3 ≥ 0))
def ref_SuitsOf_1 (t_1 : ByteArray) (p_2 : Spot) : Option (Bool) :=
  (slices_Contains_string_string p_2.Tags t_1).bind fun r_3 => some (!r_3)
def slices_IndexFunc_string_string_L1 (f_2 : ByteArray → Option Bool) (k_3 : Nat) (x_5 : ByteArray) (s_8 : Unit) : Option (Ctl (Unit) (Int)) :=
  (f_2 x_5).bind fun r_13 => bif r_13 then some (.ret (k_3 : Int)) else some (.go ())
def slices_IndexFunc_string_string (s_1 : (List ByteArray)) (f_2 : ByteArray → Option Bool) : Option (Int) :=
  (forL s_1 () (fun k x s => slices_IndexFunc_string_string_L1 f_2 k x s)).bind fun o_11 => thenC o_11 (fun s_8 => some (-1)) (fun r => some r)
def slices_ContainsFunc_string_string (s_1 : (List ByteArray)) (f_2 : ByteArray → Option Bool) : Option (Bool) :=
  (slices_IndexFunc_string_string s_1 f_2).bind fun r_3 => some (decide (r_3 ≥ 0))
def ref_SuitsOf (c_1 : Campaign) (s_2 : Spot) : Option (Bool) :=
  (bif (decide (c_1.Time.From ≤ s_2.Time.From)) then bif (decide (s_2.Time.To ≤ c_1.Time.To)) then (slices_ContainsFunc_string_string c_1.Tags (fun x0 => ref_SuitsOf_1 x0 s_2)).bind fun r_9 => some (!r_9) else some false else some false).bind fun v_5 => some v_5
def kit_IsMoment (n_1 : Int) : Option (Bool) :=
  (bif (decide (n_1 ≥ 0)) then some (decide (n_1 < 345686400000)) else some false).bind fun v_2 => some v_2
def booking_due (c_1 : Campaign) (atv_2 : Int) : Option (Int) :=
  bif (decide (atv_2 < c_1.Time.From)) then some 0 else bif (decide (atv_2 ≥ c_1.Time.To)) then some c_1.Goal else (quoO .i64 (w64 (c_1.Goal * (w64 (atv_2 - c_1.Time.From)))) (w64 (c_1.Time.To - c_1.Time.From))).bind fun q_6 => some q_6
noncomputable def booking_Due (c_1 : Campaign) (atv_2 : Int) : Option (Int × Int) :=
  (booking_CheckCampaigns ([c_1] : List Campaign)).bind fun r_4 => bif (r_4 != 0) then some (0, r_4) else (kit_IsMoment atv_2).bind fun r_7 => bif (!r_7) then some (0, 1) else (booking_due c_1 atv_2).bind fun r_10 => some (r_10, 0)
noncomputable def law_booked  : Option (Bool) :=
  (booking_Due (⟨(⟨#[97]⟩ : ByteArray), (⟨#[]⟩ : ByteArray), (⟨0, 100⟩ : Window), ([] : List ByteArray), 10, 0, 0⟩ : Campaign) 50).bind fun r_1 => (bif (r_1.2 == 0) then some (r_1.1 == 5) else some false).bind fun v_3 => some v_3
def mk_Stream_Shares_L1 (x_6 : Campaign) (k_18 : Nat) (x_20 : Spot) (s_23 : (List Share) × (List Int) × Int) : Option (Ctl ((List Share) × (List Int) × Int) (Unit)) :=
  ((mk_Stream_Flip (⟨s_23.2.1, s_23.2.2⟩ : Stream) 2).bind fun r_33 => bif r_33.1 then (ref_SuitsOf x_6 x_20).bind fun r_37 => bif r_37 then some (true, r_33.2.L, r_33.2.f_at) else (mk_Stream_Flip r_33.2 12).bind fun r_40 => some (r_40.1, r_40.2.L, r_40.2.f_at) else some (false, r_33.2.L, r_33.2.f_at)).bind fun v_31 => (bif v_31.1 then (mk_Stream_Pick (⟨v_31.2.1, v_31.2.2⟩ : Stream) ([1, 1, 1, 2, 0] : List Int)).bind fun r_47 => (appL s_23.1 ([(⟨x_6.Key, x_20.Key, r_47.1⟩ : Share)] : List Share)).bind fun a_50 => some (a_50, r_47.2.L, r_47.2.f_at) else some (s_23.1, v_31.2.1, v_31.2.2)).bind fun v_43 => some (.go (v_43.1, v_43.2.1, v_43.2.2))
def mk_Stream_Shares_L2 (spots_2 : (List Spot)) (k_4 : Nat) (x_6 : Campaign) (s_9 : (List Share) × (List Int) × Int) : Option (Ctl ((List Share) × (List Int) × Int) (Unit)) :=
  (forL spots_2 (s_9.1, s_9.2.1, s_9.2.2) (fun k x s => mk_Stream_Shares_L1 x_6 k x s)).bind fun o_28 => thenC o_28 (fun s_23 => some (.go (s_23.1, s_23.2.1, s_23.2.2))) (fun _ => none)
def mk_Stream_Shares (s_1 : Stream) (spots_2 : (List Spot)) (l_3 : (List Campaign)) : Option ((List Share) × Stream) :=
  (forL l_3 (([] : List Share), s_1.L, s_1.f_at) (fun k x s => mk_Stream_Shares_L2 spots_2 k x s)).bind fun o_15 => thenC o_15 (fun s_9 => (bif (decide ((s_9.1.length : Int) > 0)) then (mk_Stream_Flip (⟨s_9.2.1, s_9.2.2⟩ : Stream) 12).bind fun r_56 => some (r_56.1, r_56.2.L, r_56.2.f_at) else some (false, s_9.2.1, s_9.2.2)).bind fun v_53 => (bif v_53.1 then (mk_Stream_Next (⟨v_53.2.1, v_53.2.2⟩ : Stream) (s_9.1.length : Int)).bind fun r_62 => (inR r_62.1 s_9.1).bind fun _ => (s_9.1[(0 + (r_62.1).toNat)]?).bind fun e_66 => (mk_Stream_Some r_62.2 ([e_66.Campaign, (⟨#[110, 111, 110, 101]⟩ : ByteArray)] : List ByteArray)).bind fun r_68 => (s_9.1[(0 + (r_62.1).toNat)]?).bind fun e_71 => (mk_Stream_Some r_68.2 ([e_71.Spot, (⟨#[110, 111, 110, 101]⟩ : ByteArray), (⟨#[115, 97]⟩ : ByteArray)] : List ByteArray)).bind fun r_73 => (s_9.1[(0 + (r_62.1).toNat)]?).bind fun e_76 => ((s_9.1.set (0 + (r_62.1).toNat) (⟨r_68.1, e_76.Spot, e_76.Many⟩ : Share))[(0 + (r_62.1).toNat)]?).bind fun e_78 => some (((s_9.1.set (0 + (r_62.1).toNat) (⟨r_68.1, e_76.Spot, e_76.Many⟩ : Share)).set (0 + (r_62.1).toNat) (⟨e_78.Campaign, r_73.1, e_78.Many⟩ : Share)), r_73.2.L, r_73.2.f_at) else some (s_9.1, v_53.2.1, v_53.2.2)).bind fun v_59 => some (v_59.1, (⟨v_59.2.1, v_59.2.2⟩ : Stream))) (fun _ => none)
def ref_SharesFault_1 (c_1 : Campaign) (p_2 : Share) : Option (Bool) :=
  some (sEq c_1.Key p_2.Campaign)
def slices_IndexFunc_api_Campaign_api_Campaign_L1 (f_2 : Campaign → Option Bool) (k_3 : Nat) (x_5 : Campaign) (s_8 : Unit) : Option (Ctl (Unit) (Int)) :=
  (f_2 x_5).bind fun r_13 => bif r_13 then some (.ret (k_3 : Int)) else some (.go ())
def slices_IndexFunc_api_Campaign_api_Campaign (s_1 : (List Campaign)) (f_2 : Campaign → Option Bool) : Option (Int) :=
  (forL s_1 () (fun k x s => slices_IndexFunc_api_Campaign_api_Campaign_L1 f_2 k x s)).bind fun o_11 => thenC o_11 (fun s_8 => some (-1)) (fun r => some r)
def ref_SharesFault_2 (y_1 : Spot) (p_2 : Share) : Option (Bool) :=
  some (sEq y_1.Key p_2.Spot)
def slices_IndexFunc_api_Spot_api_Spot_L1 (f_2 : Spot → Option Bool) (k_3 : Nat) (x_5 : Spot) (s_8 : Unit) : Option (Ctl (Unit) (Int)) :=
  (f_2 x_5).bind fun r_13 => bif r_13 then some (.ret (k_3 : Int)) else some (.go ())
def slices_IndexFunc_api_Spot_api_Spot (s_1 : (List Spot)) (f_2 : Spot → Option Bool) : Option (Int) :=
  (forL s_1 () (fun k x s => slices_IndexFunc_api_Spot_api_Spot_L1 f_2 k x s)).bind fun o_11 => thenC o_11 (fun s_8 => some (-1)) (fun r => some r)
def cmp_Compare_string (x_1 : ByteArray) (y_2 : ByteArray) : Option (Int) :=
  (cmp_isNaN_string x_1).bind fun r_3 => (cmp_isNaN_string y_2).bind fun r_5 => bif r_3 then bif r_5 then some 0 else some (-1) else bif r_5 then some 1 else bif (sLt x_1 y_2) then some (-1) else bif (sGt x_1 y_2) then some 1 else some 0
def slices_Compare_string_string_L1 (s2_2 : (List ByteArray)) (k_3 : Nat) (x_5 : ByteArray) (s_8 : Unit) : Option (Ctl (Unit) (Int)) :=
  bif (decide ((k_3 : Int) ≥ (s2_2.length : Int))) then some (.ret 1) else (idx s2_2 (k_3 : Int)).bind fun y_14 => (cmp_Compare_string x_5 y_14).bind fun r_16 => bif (r_16 != 0) then some (.ret r_16) else some (.go ())
def slices_Compare_string_string (s1_1 : (List ByteArray)) (s2_2 : (List ByteArray)) : Option (Int) :=
  (forL s1_1 () (fun k x s => slices_Compare_string_string_L1 s2_2 k x s)).bind fun o_11 => thenC o_11 (fun s_8 => bif (decide ((s1_1.length : Int) < (s2_2.length : Int))) then some (-1) else some 0) (fun r => some r)
def ref_SharesFault_L1 (l_2 : (List Campaign)) (spots_1 : (List Spot)) (s_3 : (List Share)) (k_7 : Nat) (x_9 : Share) (s_12 : (List (ByteArray × Int)) × (List (ByteArray × Int))) : Option (Ctl ((List (ByteArray × Int)) × (List (ByteArray × Int))) (Int)) :=
  (slices_IndexFunc_api_Campaign_api_Campaign l_2 (fun x0 => ref_SharesFault_1 x0 x_9)).bind fun r_18 => (slices_IndexFunc_api_Spot_api_Spot spots_1 (fun x0 => ref_SharesFault_2 x0 x_9)).bind fun r_21 => (bif (decide (r_18 < 0)) then some true else some (decide (r_21 < 0))).bind fun v_24 => bif v_24 then some (.ret 8) else (idx l_2 r_18).bind fun y_28 => (idx spots_1 r_21).bind fun y_30 => (ref_SuitsOf y_28 y_30).bind fun r_32 => bif (!r_32) then some (.ret 16) else (idx l_2 r_18).bind fun y_35 => (ref_in x_9.Many 1 y_35.Most).bind fun r_37 => bif (!r_37) then some (.ret 1) else (bif (decide ((k_7 : Int) > 0)) then (idx s_3 (w64 ((k_7 : Int) - 1))).bind fun y_43 => (idx s_3 (w64 ((k_7 : Int) - 1))).bind fun y_45 => (slices_Compare_string_string ([y_43.Campaign, y_45.Spot] : List ByteArray) ([x_9.Campaign, x_9.Spot] : List ByteArray)).bind fun r_47 => some (decide (r_47 ≥ 0)) else some false).bind fun v_40 => bif v_40 then some (.ret 7) else some (.go ((mSet eqS s_12.1 x_9.Spot (w64 (((mGet eqS s_12.1 x_9.Spot).getD 0) + x_9.Many))), (mSet eqS s_12.2 x_9.Campaign (w64 (((mGet eqS s_12.2 x_9.Campaign).getD 0) + x_9.Many)))))
def ref_SharesFault_L2 (s_12 : (List (ByteArray × Int)) × (List (ByteArray × Int))) (k_50 : Nat) (x_52 : Spot) (s_55 : Unit) : Option (Ctl (Unit) (Int)) :=
  bif (decide (((mGet eqS s_12.1 x_52.Key).getD 0) > x_52.Room)) then some (.ret 12) else some (.go ())
def ref_SharesFault_L3 (s_12 : (List (ByteArray × Int)) × (List (ByteArray × Int))) (k_62 : Nat) (x_64 : Campaign) (s_67 : Unit) : Option (Ctl (Unit) (Int)) :=
  bif (decide (((mGet eqS s_12.2 x_64.Key).getD 0) > x_64.Goal)) then some (.ret 12) else some (.go ())
def ref_SharesFault (spots_1 : (List Spot)) (l_2 : (List Campaign)) (s_3 : (List Share)) : Option (Int) :=
  bif (decide ((s_3.length : Int) > 1800)) then some 2 else (forL s_3 (([] : List (ByteArray × Int)), ([] : List (ByteArray × Int))) (fun k x s => ref_SharesFault_L1 l_2 spots_1 s_3 k x s)).bind fun o_15 => thenC o_15 (fun s_12 => (forL spots_1 () (fun k x s => ref_SharesFault_L2 s_12 k x s)).bind fun o_58 => thenC o_58 (fun s_55 => (forL l_2 () (fun k x s => ref_SharesFault_L3 s_12 k x s)).bind fun o_70 => thenC o_70 (fun s_67 => some 0) (fun r => some r)) (fun r => some r)) (fun r => some r)
def internal_bytealg_CompareString (a_1 : ByteArray) (b_2 : ByteArray) : Option (Int) :=
  some (cmpB a_1 b_2)
def strings_Compare (a_1 : ByteArray) (b_2 : ByteArray) : Option (Int) :=
  (internal_bytealg_CompareString a_1 b_2).bind fun r_3 => some r_3
def booking_campAt_1 (c_1 : Campaign) (k_2 : ByteArray) : Option (Int) :=
  (strings_Compare c_1.Key k_2).bind fun r_4 => some r_4
def slices_BinarySearchFunc_api_Campaign_api_Campaign_string_L1 (x_1 : (List Campaign)) (cmp_3 : Campaign → ByteArray → Option Int) (target_2 : ByteArray) (s_9 : Int × Int) : Option (Ctl (Int × Int) (Unit)) :=
  bif (decide (s_9.1 < s_9.2)) then (shrO .u64 (IntKind.u64.wrap (w64 (s_9.1 + s_9.2))) 1).bind fun q_15 => (idx x_1 (w64 q_15)).bind fun y_17 => (cmp_3 y_17 target_2).bind fun r_19 => bif (decide (r_19 < 0)) then some (.go ((w64 ((w64 q_15) + 1)), s_9.2)) else some (.go (s_9.1, (w64 q_15))) else some (.brk (s_9.1, s_9.2))
noncomputable def slices_BinarySearchFunc_api_Campaign_api_Campaign_string (x_1 : (List Campaign)) (target_2 : ByteArray) (cmp_3 : Campaign → ByteArray → Option Int) : Option (Int × Bool) :=
  (loopO (0, (x_1.length : Int)) (fun s => slices_BinarySearchFunc_api_Campaign_api_Campaign_string_L1 x_1 cmp_3 target_2 s)).bind fun o_12 => thenC o_12 (fun s_9 => (bif (decide (s_9.1 < (x_1.length : Int))) then (idx x_1 s_9.1).bind fun y_25 => (cmp_3 y_25 target_2).bind fun r_27 => some (r_27 == 0) else some false).bind fun v_22 => some (s_9.1, v_22)) (fun _ => none)
noncomputable def booking_campAt (l_1 : (List Campaign)) (key_2 : ByteArray) : Option (Int × Bool) :=
  (slices_BinarySearchFunc_api_Campaign_api_Campaign_string l_1 key_2 (fun x0 x1 => booking_campAt_1 x0 x1)).bind fun r_3 => some (r_3.1, r_3.2)
def booking_spotAt_1 (s_1 : Spot) (k_2 : ByteArray) : Option (Int) :=
  (strings_Compare s_1.Key k_2).bind fun r_4 => some r_4
def slices_BinarySearchFunc_api_Spot_api_Spot_string_L1 (x_1 : (List Spot)) (cmp_3 : Spot → ByteArray → Option Int) (target_2 : ByteArray) (s_9 : Int × Int) : Option (Ctl (Int × Int) (Unit)) :=
  bif (decide (s_9.1 < s_9.2)) then (shrO .u64 (IntKind.u64.wrap (w64 (s_9.1 + s_9.2))) 1).bind fun q_15 => (idx x_1 (w64 q_15)).bind fun y_17 => (cmp_3 y_17 target_2).bind fun r_19 => bif (decide (r_19 < 0)) then some (.go ((w64 ((w64 q_15) + 1)), s_9.2)) else some (.go (s_9.1, (w64 q_15))) else some (.brk (s_9.1, s_9.2))
noncomputable def slices_BinarySearchFunc_api_Spot_api_Spot_string (x_1 : (List Spot)) (target_2 : ByteArray) (cmp_3 : Spot → ByteArray → Option Int) : Option (Int × Bool) :=
  (loopO (0, (x_1.length : Int)) (fun s => slices_BinarySearchFunc_api_Spot_api_Spot_string_L1 x_1 cmp_3 target_2 s)).bind fun o_12 => thenC o_12 (fun s_9 => (bif (decide (s_9.1 < (x_1.length : Int))) then (idx x_1 s_9.1).bind fun y_25 => (cmp_3 y_25 target_2).bind fun r_27 => some (r_27 == 0) else some false).bind fun v_22 => some (s_9.1, v_22)) (fun _ => none)
noncomputable def booking_spotAt (l_1 : (List Spot)) (key_2 : ByteArray) : Option (Int × Bool) :=
  (slices_BinarySearchFunc_api_Spot_api_Spot_string l_1 key_2 (fun x0 x1 => booking_spotAt_1 x0 x1)).bind fun r_3 => some (r_3.1, r_3.2)
noncomputable def booking_shareFault (spots_1 : (List Spot)) (l_2 : (List Campaign)) (s_3 : (List Share)) (i_4 : Int) : Option (Int) :=
  (idx s_3 i_4).bind fun y_5 => (booking_campAt l_2 y_5.Campaign).bind fun r_8 => (booking_spotAt spots_1 y_5.Spot).bind fun r_10 => (bif (!r_8.2) then some true else some (!r_10.2)).bind fun v_12 => bif v_12 then some 8 else (idx l_2 r_8.1).bind fun y_16 => (idx spots_1 r_10.1).bind fun y_18 => (booking_suits y_16 y_18).bind fun r_20 => bif (!r_20) then some 16 else (idx l_2 r_8.1).bind fun y_23 => (kit_Outside y_5.Many 1 y_23.Most).bind fun r_25 => bif r_25 then some 1 else (bif (decide (i_4 > 0)) then (idx s_3 (w64 (i_4 - 1))).bind fun y_31 => bif (sLt y_5.Campaign y_31.Campaign) then some true else (idx s_3 (w64 (i_4 - 1))).bind fun y_34 => bif (sEq y_5.Campaign y_34.Campaign) then (idx s_3 (w64 (i_4 - 1))).bind fun y_37 => some (sLe y_5.Spot y_37.Spot) else some false else some false).bind fun v_28 => bif v_28 then some 7 else some 0
def booking_CheckShares_1 (x_1 : Spot) (p_2 : (List (ByteArray × Int))) : Option (Bool) :=
  some (decide (((mGet eqS p_2 x_1.Key).getD 0) > x_1.Room))
def slices_ContainsFunc_api_Spot_api_Spot (s_1 : (List Spot)) (f_2 : Spot → Option Bool) : Option (Bool) :=
  (slices_IndexFunc_api_Spot_api_Spot s_1 f_2).bind fun r_3 => some (decide (r_3 ≥ 0))
def booking_CheckShares_2 (c_1 : Campaign) (p_2 : (List (ByteArray × Int))) : Option (Bool) :=
  some (decide (((mGet eqS p_2 c_1.Key).getD 0) > c_1.Goal))
def slices_ContainsFunc_api_Campaign_api_Campaign (s_1 : (List Campaign)) (f_2 : Campaign → Option Bool) : Option (Bool) :=
  (slices_IndexFunc_api_Campaign_api_Campaign s_1 f_2).bind fun r_3 => some (decide (r_3 ≥ 0))
noncomputable def booking_CheckShares_L1 (spots_1 : (List Spot)) (l_2 : (List Campaign)) (s_3 : (List Share)) (k_12 : Nat) (x_14 : Share) (s_17 : (List (ByteArray × Int)) × (List (ByteArray × Int))) : Option (Ctl ((List (ByteArray × Int)) × (List (ByteArray × Int))) (Int)) :=
  (booking_shareFault spots_1 l_2 s_3 (k_12 : Int)).bind fun r_23 => bif (r_23 != 0) then some (.ret r_23) else some (.go ((mSet eqS s_17.1 x_14.Spot (w64 (((mGet eqS s_17.1 x_14.Spot).getD 0) + x_14.Many))), (mSet eqS s_17.2 x_14.Campaign (w64 (((mGet eqS s_17.2 x_14.Campaign).getD 0) + x_14.Many)))))
noncomputable def booking_CheckShares (spots_1 : (List Spot)) (l_2 : (List Campaign)) (s_3 : (List Share)) : Option (Int) :=
  (booking_checkBoth spots_1 l_2).bind fun r_4 => bif (r_4 != 0) then some r_4 else bif (decide ((s_3.length : Int) > 1800)) then some 2 else (forL s_3 (([] : List (ByteArray × Int)), ([] : List (ByteArray × Int))) (fun k x s => booking_CheckShares_L1 spots_1 l_2 s_3 k x s)).bind fun o_20 => thenC o_20 (fun s_17 => ((slices_ContainsFunc_api_Spot_api_Spot spots_1 (fun x0 => booking_CheckShares_1 x0 s_17.1)).bind fun r_28 => bif r_28 then some true else (slices_ContainsFunc_api_Campaign_api_Campaign l_2 (fun x0 => booking_CheckShares_2 x0 s_17.2)).bind fun r_32 => some r_32).bind fun v_26 => bif v_26 then some 12 else some 0) (fun r => some r)
noncomputable def law_SharesCheck (l_1 : (List Int)) : Option (Bool) :=
  (law_office (⟨l_1, 0⟩ : Stream)).bind fun r_3 => (mk_Stream_Shares r_3.2.2.2 r_3.1 r_3.2.1).bind fun r_6 => (bif (r_3.2.2.1 == 0) then (ref_SharesFault r_3.1 r_3.2.1 r_6.1).bind fun r_12 => some r_12 else some r_3.2.2.1).bind fun v_9 => ((booking_CheckShares r_3.1 r_3.2.1 r_6.1).bind fun r_16 => bif (r_16 == v_9) then (law_booked).bind fun r_19 => some r_19 else some false).bind fun v_14 => some v_14
end Go.Proofs.Ytkjnmkompibhgaa.Law
