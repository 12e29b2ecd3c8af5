/-
  The functions of the program, as plain functions over data (written by a program of ours).
-/
import Derived.Test.YtkjnmkompibhgaaEng3
open Go Go.Eng
namespace Go.Proofs.Ytkjnmkompibhgaa.Law
set_option maxRecDepth 100000
set_option linter.unusedVariables false
set_option maxHeartbeats 1000000
structure Stream where
  L : (List Int)
  f_at : Int
def Stream.enc (s : Stream) : List D := [dl eI s.L, .int .i64 s.f_at]

structure Window where
  From : Int
  To : Int
def Window.enc (s : Window) : List D := [.int .i64 s.From, .int .i64 s.To]

structure Spot where
  Key : ByteArray
  Time : Window
  Room : Int
  Tags : (List ByteArray)
def Spot.enc (s : Spot) : List D := [.str s.Key, .int .i64 s.Time.From, .int .i64 s.Time.To, .int .i64 s.Room, dl eS s.Tags]

structure Campaign where
  Key : ByteArray
  Class : ByteArray
  Time : Window
  Tags : (List ByteArray)
  Goal : Int
  Most : Int
  Cents : Int
def Campaign.enc (s : Campaign) : List D := [.str s.Key, .str s.Class, .int .i64 s.Time.From, .int .i64 s.Time.To, dl eS s.Tags, .int .i64 s.Goal, .int .i64 s.Most, .int .i64 s.Cents]

def mk_Below (x_1 : Int) (n_2 : Int) : Option (Int) :=
  bif (decide (n_2 < 1)) then some 0 else (remO .i64 x_1 n_2).bind fun q_4 => (bif (decide (q_4 < 0)) then some (w64 (q_4 + n_2)) else some q_4).bind fun v_6 => some v_6
def mk_Stream_Next (s_1 : Stream) (n_2 : Int) : Option (Int × Stream) :=
  bif ((s_1.L.length : Int) == 0) then (mk_Below (w64 ((w64 (s_1.f_at + 1)) * 7919)) n_2).bind fun r_4 => some (r_4, (⟨s_1.L, (w64 (s_1.f_at + 1))⟩ : Stream)) else (remO .i64 (w64 ((w64 (s_1.f_at + 1)) - 1)) (s_1.L.length : Int)).bind fun q_6 => (quoO .i64 (w64 ((w64 (s_1.f_at + 1)) - 1)) (s_1.L.length : Int)).bind fun q_8 => (idx s_1.L q_6).bind fun y_10 => (mk_Below y_10 1073741824).bind fun r_12 => (mk_Below (w64 (r_12 + (w64 (q_8 * (w64 (7919 + q_6)))))) n_2).bind fun r_14 => some (r_14, (⟨s_1.L, (w64 (s_1.f_at + 1))⟩ : Stream))
def mk_Stream_Flip (s_1 : Stream) (n_2 : Int) : Option (Bool × Stream) :=
  (mk_Stream_Next s_1 n_2).bind fun r_3 => some ((r_3.1 == 0), r_3.2)
def mk_Stream_Pick (s_1 : Stream) (l_2 : (List Int)) : Option (Int × Stream) :=
  (mk_Stream_Next s_1 (l_2.length : Int)).bind fun r_3 => (idx l_2 r_3.1).bind fun y_6 => some (y_6, r_3.2)
def mk_Stream_RightSpots_L1 (k_25 : Nat) (x_27 : ByteArray) (s_30 : (List ByteArray) × (List Int) × Int) : Option (Ctl ((List ByteArray) × (List Int) × Int) (Unit)) :=
  (mk_Stream_Flip (⟨s_30.2.1, s_30.2.2⟩ : Stream) 2).bind fun r_37 => (bif r_37.1 then (appL s_30.1 ([x_27] : List ByteArray)).bind fun a_44 => some a_44 else some s_30.1).bind fun v_40 => some (.go (v_40, r_37.2.L, r_37.2.f_at))
def mk_Stream_RightSpots_L2 (k_2 : Nat) (x_4 : ByteArray) (s_7 : (List Spot) × (List Int) × Int) : Option (Ctl ((List Spot) × (List Int) × Int) (Unit)) :=
  (mk_Stream_Flip (⟨s_7.2.1, s_7.2.2⟩ : Stream) 4).bind fun r_14 => bif r_14.1 then some (.go (s_7.1, r_14.2.L, r_14.2.f_at)) else (mk_Stream_Pick r_14.2 ([5, 10, 10] : List Int)).bind fun r_18 => (mk_Stream_Pick r_18.2 ([0, 1, 2, 3, 5] : List Int)).bind fun r_21 => (forL ([(⟨#[99, 105, 116, 121]⟩ : ByteArray), (⟨#[109, 97, 108, 108]⟩ : ByteArray)] : List ByteArray) (([] : List ByteArray), r_21.2.L, r_21.2.f_at) (fun k x s => mk_Stream_RightSpots_L1 k x s)).bind fun o_35 => thenC o_35 (fun s_30 => (appL s_7.1 ([(⟨x_4, (⟨(w64 (10 * (k_2 : Int))), (w64 ((w64 (10 * (k_2 : Int))) + r_18.1))⟩ : Window), r_21.1, s_30.1⟩ : Spot)] : List Spot)).bind fun a_47 => some (.go (a_47, s_30.2.1, s_30.2.2))) (fun _ => none)
def mk_Stream_RightSpots (s_1 : Stream) : Option ((List Spot) × Stream) :=
  (forL ([(⟨#[115, 97]⟩ : ByteArray), (⟨#[115, 98]⟩ : ByteArray), (⟨#[115, 99]⟩ : ByteArray), (⟨#[115, 100]⟩ : ByteArray), (⟨#[115, 101]⟩ : ByteArray)] : List ByteArray) (([] : List Spot), s_1.L, s_1.f_at) (fun k x s => mk_Stream_RightSpots_L2 k x s)).bind fun o_12 => thenC o_12 (fun s_7 => some (s_7.1, (⟨s_7.2.1, s_7.2.2⟩ : Stream))) (fun _ => none)
def mk_Stream_Some (s_1 : Stream) (l_2 : (List ByteArray)) : Option (ByteArray × Stream) :=
  (mk_Stream_Next s_1 (l_2.length : Int)).bind fun r_3 => (idx l_2 r_3.1).bind fun y_6 => some (y_6, r_3.2)
def mk_Stream_Range (s_1 : Stream) (low_2 : Int) (high_3 : Int) : Option (Int × Stream) :=
  bif (decide (high_3 < low_2)) then some (low_2, s_1) else (mk_Stream_Next s_1 (w64 ((w64 (high_3 - low_2)) + 1))).bind fun r_5 => some ((w64 (low_2 + r_5.1)), r_5.2)
def mk_Stream_Odd (s_1 : Stream) (low_2 : Int) (high_3 : Int) : Option (Int × Stream) :=
  (mk_Stream_Flip s_1 12).bind fun r_4 => bif r_4.1 then (mk_Stream_Pick r_4.2 ([(w64 (low_2 - 1)), (w64 (high_3 + 1)), low_2, high_3, (-1099511627776), 1099511627776] : List Int)).bind fun r_8 => some (r_8.1, r_8.2) else (mk_Stream_Range r_4.2 low_2 high_3).bind fun r_11 => some (r_11.1, r_11.2)
def mk_Stream_Spots (s_1 : Stream) : Option ((List Spot) × Stream) :=
  (mk_Stream_RightSpots s_1).bind fun r_2 => (bif (decide ((r_2.1.length : Int) > 0)) then (mk_Stream_Flip r_2.2 12).bind fun r_9 => some (r_9.1, r_9.2.L, r_9.2.f_at) else some (false, r_2.2.L, r_2.2.f_at)).bind fun v_6 => (bif v_6.1 then (mk_Stream_Next (⟨v_6.2.1, v_6.2.2⟩ : Stream) (r_2.1.length : Int)).bind fun r_15 => (inR r_15.1 r_2.1).bind fun _ => (r_2.1[(0 + (r_15.1).toNat)]?).bind fun e_19 => (mk_Stream_Some r_15.2 ([e_19.Key, (⟨#[]⟩ : ByteArray), (⟨#[115, 97]⟩ : ByteArray)] : List ByteArray)).bind fun r_21 => (mk_Stream_Odd r_21.2 0 60).bind fun r_24 => (mk_Stream_Odd r_24.2 0 5).bind fun r_27 => (mk_Stream_Next r_27.2 3).bind fun r_30 => (idx ([([] : List ByteArray), ([(⟨#[98]⟩ : ByteArray), (⟨#[97]⟩ : ByteArray)] : List ByteArray), ([(⟨#[65]⟩ : ByteArray)] : List ByteArray)] : List (List ByteArray)) r_30.1).bind fun y_33 => (r_2.1[(0 + (r_15.1).toNat)]?).bind fun e_35 => ((r_2.1.set (0 + (r_15.1).toNat) (⟨r_21.1, e_35.Time, e_35.Room, e_35.Tags⟩ : Spot))[(0 + (r_15.1).toNat)]?).bind fun e_37 => (((r_2.1.set (0 + (r_15.1).toNat) (⟨r_21.1, e_35.Time, e_35.Room, e_35.Tags⟩ : Spot)).set (0 + (r_15.1).toNat) (⟨e_37.Key, (⟨e_37.Time.From, r_24.1⟩ : Window), e_37.Room, e_37.Tags⟩ : Spot))[(0 + (r_15.1).toNat)]?).bind fun e_39 => ((((r_2.1.set (0 + (r_15.1).toNat) (⟨r_21.1, e_35.Time, e_35.Room, e_35.Tags⟩ : Spot)).set (0 + (r_15.1).toNat) (⟨e_37.Key, (⟨e_37.Time.From, r_24.1⟩ : Window), e_37.Room, e_37.Tags⟩ : Spot)).set (0 + (r_15.1).toNat) (⟨e_39.Key, e_39.Time, r_27.1, e_39.Tags⟩ : Spot))[(0 + (r_15.1).toNat)]?).bind fun e_41 => some (((((r_2.1.set (0 + (r_15.1).toNat) (⟨r_21.1, e_35.Time, e_35.Room, e_35.Tags⟩ : Spot)).set (0 + (r_15.1).toNat) (⟨e_37.Key, (⟨e_37.Time.From, r_24.1⟩ : Window), e_37.Room, e_37.Tags⟩ : Spot)).set (0 + (r_15.1).toNat) (⟨e_39.Key, e_39.Time, r_27.1, e_39.Tags⟩ : Spot)).set (0 + (r_15.1).toNat) (⟨e_41.Key, e_41.Time, e_41.Room, y_33⟩ : Spot)), r_30.2.L, r_30.2.f_at) else some (r_2.1, v_6.2.1, v_6.2.2)).bind fun v_12 => some (v_12.1, (⟨v_12.2.1, v_12.2.2⟩ : Stream))
def mk_Stream_RightCampaigns_L1 (k_40 : Nat) (x_42 : ByteArray) (s_45 : (List ByteArray) × (List Int) × Int) : Option (Ctl ((List ByteArray) × (List Int) × Int) (Unit)) :=
  (mk_Stream_Flip (⟨s_45.2.1, s_45.2.2⟩ : Stream) 4).bind fun r_52 => (bif r_52.1 then (appL s_45.1 ([x_42] : List ByteArray)).bind fun a_59 => some a_59 else some s_45.1).bind fun v_55 => some (.go (v_55, r_52.2.L, r_52.2.f_at))
def mk_Stream_RightCampaigns_L2 (k_5 : Nat) (x_7 : ByteArray) (s_10 : (List Campaign) × (List Int) × Int) : Option (Ctl ((List Campaign) × (List Int) × Int) (Unit)) :=
  (mk_Stream_Flip (⟨s_10.2.1, s_10.2.2⟩ : Stream) 5).bind fun r_17 => bif r_17.1 then some (.go (s_10.1, r_17.2.L, r_17.2.f_at)) else (mk_Stream_Some r_17.2 ([(⟨#[]⟩ : ByteArray), (⟨#[]⟩ : ByteArray), (⟨#[99, 97, 114, 115]⟩ : ByteArray), (⟨#[102, 111, 111, 100]⟩ : ByteArray)] : List ByteArray)).bind fun r_21 => (mk_Stream_Pick r_21.2 ([0, 0, 10, 20] : List Int)).bind fun r_24 => (mk_Stream_Pick r_24.2 ([30, 50, 60, 100] : List Int)).bind fun r_27 => (mk_Stream_Pick r_27.2 ([0, 1, 2, 3, 4, 6] : List Int)).bind fun r_30 => (mk_Stream_Pick r_30.2 ([0, 1, 2, 3, 9] : List Int)).bind fun r_33 => (mk_Stream_Pick r_33.2 ([0, 500, 1000, 1500] : List Int)).bind fun r_36 => (forL ([(⟨#[99, 105, 116, 121]⟩ : ByteArray), (⟨#[109, 97, 108, 108]⟩ : ByteArray)] : List ByteArray) (([] : List ByteArray), r_36.2.L, r_36.2.f_at) (fun k x s => mk_Stream_RightCampaigns_L1 k x s)).bind fun o_50 => thenC o_50 (fun s_45 => (appL s_10.1 ([(⟨x_7, r_21.1, (⟨r_24.1, r_27.1⟩ : Window), s_45.1, r_30.1, r_33.1, r_36.1⟩ : Campaign)] : List Campaign)).bind fun a_62 => some (.go (a_62, s_45.2.1, s_45.2.2))) (fun _ => none)
def mk_Stream_RightCampaigns (s_1 : Stream) (most_2 : Int) : Option ((List Campaign) × Stream) :=
  (subL ([(⟨#[99, 97]⟩ : ByteArray), (⟨#[99, 98]⟩ : ByteArray), (⟨#[99, 99]⟩ : ByteArray), (⟨#[99, 100]⟩ : ByteArray)] : List ByteArray) 0 most_2).bind fun y_3 => (forL y_3 (([] : List Campaign), s_1.L, s_1.f_at) (fun k x s => mk_Stream_RightCampaigns_L2 k x s)).bind fun o_15 => thenC o_15 (fun s_10 => some (s_10.1, (⟨s_10.2.1, s_10.2.2⟩ : Stream))) (fun _ => none)
def mk_Stream_Campaigns (s_1 : Stream) (most_2 : Int) : Option ((List Campaign) × Stream) :=
  (mk_Stream_RightCampaigns s_1 most_2).bind fun r_3 => (bif (decide ((r_3.1.length : Int) > 0)) then (mk_Stream_Flip r_3.2 12).bind fun r_10 => some (r_10.1, r_10.2.L, r_10.2.f_at) else some (false, r_3.2.L, r_3.2.f_at)).bind fun v_7 => (bif v_7.1 then (mk_Stream_Next (⟨v_7.2.1, v_7.2.2⟩ : Stream) (r_3.1.length : Int)).bind fun r_16 => (inR r_16.1 r_3.1).bind fun _ => (mk_Stream_Next r_16.2 4).bind fun r_20 => bif (r_20.1 == 0) then (r_3.1[(0 + (r_16.1).toNat)]?).bind fun e_24 => (mk_Stream_Some r_20.2 ([e_24.Key, (⟨#[]⟩ : ByteArray), (⟨#[99, 97]⟩ : ByteArray)] : List ByteArray)).bind fun r_26 => (mk_Stream_Some r_26.2 ([(⟨#[]⟩ : ByteArray), (⟨#[65]⟩ : ByteArray)] : List ByteArray)).bind fun r_29 => (r_3.1[(0 + (r_16.1).toNat)]?).bind fun e_32 => ((r_3.1.set (0 + (r_16.1).toNat) (⟨r_26.1, e_32.Class, e_32.Time, e_32.Tags, e_32.Goal, e_32.Most, e_32.Cents⟩ : Campaign))[(0 + (r_16.1).toNat)]?).bind fun e_34 => some (((r_3.1.set (0 + (r_16.1).toNat) (⟨r_26.1, e_32.Class, e_32.Time, e_32.Tags, e_32.Goal, e_32.Most, e_32.Cents⟩ : Campaign)).set (0 + (r_16.1).toNat) (⟨e_34.Key, r_29.1, e_34.Time, e_34.Tags, e_34.Goal, e_34.Most, e_34.Cents⟩ : Campaign)), r_29.2.L, r_29.2.f_at) else bif (r_20.1 == 1) then (mk_Stream_Odd r_20.2 0 60).bind fun r_37 => (r_3.1[(0 + (r_16.1).toNat)]?).bind fun e_40 => some ((r_3.1.set (0 + (r_16.1).toNat) (⟨e_40.Key, e_40.Class, (⟨e_40.Time.From, r_37.1⟩ : Window), e_40.Tags, e_40.Goal, e_40.Most, e_40.Cents⟩ : Campaign)), r_37.2.L, r_37.2.f_at) else bif (r_20.1 == 2) then (mk_Stream_Odd r_20.2 0 6).bind fun r_43 => (mk_Stream_Odd r_43.2 0 6).bind fun r_46 => (mk_Stream_Odd r_46.2 0 1000).bind fun r_49 => (r_3.1[(0 + (r_16.1).toNat)]?).bind fun e_52 => ((r_3.1.set (0 + (r_16.1).toNat) (⟨e_52.Key, e_52.Class, e_52.Time, e_52.Tags, r_43.1, e_52.Most, e_52.Cents⟩ : Campaign))[(0 + (r_16.1).toNat)]?).bind fun e_54 => (((r_3.1.set (0 + (r_16.1).toNat) (⟨e_52.Key, e_52.Class, e_52.Time, e_52.Tags, r_43.1, e_52.Most, e_52.Cents⟩ : Campaign)).set (0 + (r_16.1).toNat) (⟨e_54.Key, e_54.Class, e_54.Time, e_54.Tags, e_54.Goal, r_46.1, e_54.Cents⟩ : Campaign))[(0 + (r_16.1).toNat)]?).bind fun e_56 => some ((((r_3.1.set (0 + (r_16.1).toNat) (⟨e_52.Key, e_52.Class, e_52.Time, e_52.Tags, r_43.1, e_52.Most, e_52.Cents⟩ : Campaign)).set (0 + (r_16.1).toNat) (⟨e_54.Key, e_54.Class, e_54.Time, e_54.Tags, e_54.Goal, r_46.1, e_54.Cents⟩ : Campaign)).set (0 + (r_16.1).toNat) (⟨e_56.Key, e_56.Class, e_56.Time, e_56.Tags, e_56.Goal, e_56.Most, r_49.1⟩ : Campaign)), r_49.2.L, r_49.2.f_at) else (mk_Stream_Next r_20.2 3).bind fun r_58 => (idx ([([(⟨#[98]⟩ : ByteArray), (⟨#[97]⟩ : ByteArray)] : List ByteArray), ([(⟨#[65]⟩ : ByteArray)] : List ByteArray), ([(⟨#[97]⟩ : ByteArray), (⟨#[97]⟩ : ByteArray)] : List ByteArray)] : List (List ByteArray)) r_58.1).bind fun y_61 => (r_3.1[(0 + (r_16.1).toNat)]?).bind fun e_63 => some ((r_3.1.set (0 + (r_16.1).toNat) (⟨e_63.Key, e_63.Class, e_63.Time, y_61, e_63.Goal, e_63.Most, e_63.Cents⟩ : Campaign)), r_58.2.L, r_58.2.f_at) else some (r_3.1, v_7.2.1, v_7.2.2)).bind fun v_13 => some (v_13.1, (⟨v_13.2.1, v_13.2.2⟩ : Stream))
def ref_in (n_1 : Int) (low_2 : Int) (high_3 : Int) : Option (Bool) :=
  (bif (decide (low_2 ≤ n_1)) then some (decide (n_1 ≤ high_3)) else some false).bind fun v_4 => some v_4
def internal_stringslite_IndexByte (s_1 : ByteArray) (c_2 : Int) : Option (Int) :=
  some (ixB s_1 c_2)
def strings_IndexByte (s_1 : ByteArray) (c_2 : Int) : Option (Int) :=
  (internal_stringslite_IndexByte s_1 c_2).bind fun r_3 => some r_3
def ref_only_L1 (s_1 : ByteArray) (somev_2 : ByteArray) (k_3 : Nat) (x_5 : Nat) (s_8 : Unit) : Option (Ctl (Unit) (Bool)) :=
  (idxS s_1 (k_3 : Int)).bind fun b_13 => (strings_IndexByte somev_2 (b_13.toNat : Int)).bind fun r_15 => bif (decide (r_15 < 0)) then some (.ret false) else some (.go ())
def ref_only (s_1 : ByteArray) (somev_2 : ByteArray) : Option (Bool) :=
  (forL (List.range ((s_1.size : Int)).toNat) () (fun k x s => ref_only_L1 s_1 somev_2 k x s)).bind fun o_11 => thenC o_11 (fun s_8 => some true) (fun r => some r)
def ref_Key (s_1 : ByteArray) : Option (Bool) :=
  ((ref_in (s_1.size : Int) 1 40).bind fun r_4 => bif r_4 then (subS s_1 0 1).bind fun y_7 => (ref_only y_7 (⟨#[97, 98, 99, 100, 101, 102, 103, 104, 105, 106, 107, 108, 109, 110, 111, 112, 113, 114, 115, 116, 117, 118, 119, 120, 121, 122]⟩ : ByteArray)).bind fun r_9 => bif r_9 then (ref_only s_1 (⟨#[97, 98, 99, 100, 101, 102, 103, 104, 105, 106, 107, 108, 109, 110, 111, 112, 113, 114, 115, 116, 117, 118, 119, 120, 121, 122, 48, 49, 50, 51, 52, 53, 54, 55, 56, 57, 45, 95]⟩ : ByteArray)).bind fun r_12 => some r_12 else some false else some false).bind fun v_2 => some v_2
def ref_risingFault_L1 (l_1 : (List ByteArray)) (k_2 : Nat) (x_4 : ByteArray) (s_7 : Unit) : Option (Ctl (Unit) (Int)) :=
  (ref_Key x_4).bind fun r_12 => bif (!r_12) then some (.ret 5) else (bif (decide ((k_2 : Int) > 0)) then (idx l_1 (w64 ((k_2 : Int) - 1))).bind fun y_18 => some (sLe x_4 y_18) else some false).bind fun v_15 => bif v_15 then some (.ret 7) else some (.go ())
def ref_risingFault (l_1 : (List ByteArray)) : Option (Int) :=
  (forL l_1 () (fun k x s => ref_risingFault_L1 l_1 k x s)).bind fun o_10 => thenC o_10 (fun s_7 => some 0) (fun r => some r)
def ref_TagsFault (l_1 : (List ByteArray)) : Option (Int) :=
  bif (decide ((l_1.length : Int) > 20)) then some 2 else (ref_risingFault l_1).bind fun r_3 => some r_3
def ref_SpotsFault_L1 (k_3 : Nat) (x_5 : Spot) (s_8 : ByteArray) : Option (Ctl (ByteArray) (Int)) :=
  (ref_Key x_5.Key).bind fun r_14 => bif (!r_14) then some (.ret 5) else bif (sLe x_5.Key s_8) then some (.ret 7) else (bif (decide (x_5.Time.From < 0)) then some true else bif (decide (x_5.Time.From ≥ x_5.Time.To)) then some true else bif (decide (x_5.Time.To > 345686400000)) then some true else (ref_in x_5.Room 0 1000000).bind fun r_23 => some (!r_23)).bind fun v_18 => bif v_18 then some (.ret 1) else (ref_TagsFault x_5.Tags).bind fun r_26 => bif (r_26 != 0) then some (.ret r_26) else some (.go x_5.Key)
def ref_SpotsFault (l_1 : (List Spot)) : Option (Int) :=
  bif (decide ((l_1.length : Int) > 60)) then some 2 else (forL l_1 (⟨#[]⟩ : ByteArray) (fun k x s => ref_SpotsFault_L1 k x s)).bind fun o_11 => thenC o_11 (fun s_8 => some 0) (fun r => some r)
def ref_CampaignsFault_L1 (k_3 : Nat) (x_5 : Campaign) (s_8 : ByteArray) : Option (Ctl (ByteArray) (Int)) :=
  ((ref_Key x_5.Key).bind fun r_16 => bif (!r_16) then some true else bif (sNe x_5.Class (⟨#[]⟩ : ByteArray)) then (ref_Key x_5.Class).bind fun r_20 => some (!r_20) else some false).bind fun v_14 => bif v_14 then some (.ret 5) else bif (sLe x_5.Key s_8) then some (.ret 7) else (bif (decide (x_5.Time.From < 0)) then some true else bif (decide (x_5.Time.From ≥ x_5.Time.To)) then some true else bif (decide (x_5.Time.To > 345686400000)) then some true else (ref_in x_5.Goal 0 1000000).bind fun r_29 => bif (!r_29) then some true else (ref_in x_5.Most 0 1000000).bind fun r_32 => bif (!r_32) then some true else (ref_in x_5.Cents 0 1000000000).bind fun r_35 => some (!r_35)).bind fun v_24 => bif v_24 then some (.ret 1) else (ref_TagsFault x_5.Tags).bind fun r_38 => bif (r_38 != 0) then some (.ret r_38) else some (.go x_5.Key)
def ref_CampaignsFault (l_1 : (List Campaign)) : Option (Int) :=
  bif (decide ((l_1.length : Int) > 30)) then some 2 else (forL l_1 (⟨#[]⟩ : ByteArray) (fun k x s => ref_CampaignsFault_L1 k x s)).bind fun o_11 => thenC o_11 (fun s_8 => some 0) (fun r => some r)
def law_errs_L1 (k_2 : Nat) (x_4 : Int) (s_7 : Unit) : Option (Ctl (Unit) (Int)) :=
  bif (x_4 != 0) then some (.ret x_4) else some (.go ())
def law_errs (l_1 : (List Int)) : Option (Int) :=
  (forL l_1 () (fun k x s => law_errs_L1 k x s)).bind fun o_10 => thenC o_10 (fun s_7 => some 0) (fun r => some r)
def law_office (s_1 : Stream) : Option ((List Spot) × (List Campaign) × Int × Stream) :=
  (mk_Stream_Spots s_1).bind fun r_2 => (mk_Stream_Campaigns r_2.2 4).bind fun r_5 => (ref_SpotsFault r_2.1).bind fun r_8 => (ref_CampaignsFault r_5.1).bind fun r_10 => (law_errs ([r_8, r_10] : List Int)).bind fun r_12 => some (r_2.1, r_5.1, r_12, r_5.2)
def kit_IsKey_L1 (s_1 : ByteArray) (s_7 : Int) : Option (Ctl (Int) (Bool)) :=
  bif (decide (s_7 < (s_1.size : Int))) then (idxS s_1 s_7).bind fun b_13 => (bif (decide ((b_13.toNat : Int) ≥ 97)) then bif (decide ((b_13.toNat : Int) ≤ 122)) then some false else bif (decide (s_7 > 0)) then bif (decide ((b_13.toNat : Int) ≥ 48)) then bif (decide ((b_13.toNat : Int) ≤ 57)) then some false else bif ((b_13.toNat : Int) == 45) then some false else some (!((b_13.toNat : Int) == 95)) else bif ((b_13.toNat : Int) == 45) then some false else some (!((b_13.toNat : Int) == 95)) else some true else bif (decide (s_7 > 0)) then bif (decide ((b_13.toNat : Int) ≥ 48)) then bif (decide ((b_13.toNat : Int) ≤ 57)) then some false else bif ((b_13.toNat : Int) == 45) then some false else some (!((b_13.toNat : Int) == 95)) else bif ((b_13.toNat : Int) == 45) then some false else some (!((b_13.toNat : Int) == 95)) else some true).bind fun v_15 => bif v_15 then some (.ret false) else some (.go (w64 (s_7 + 1))) else some (.brk s_7)
noncomputable def kit_IsKey (s_1 : ByteArray) : Option (Bool) :=
  (loopO 0 (fun s => kit_IsKey_L1 s_1 s)).bind fun o_10 => thenC o_10 (fun s_7 => (bif (sNe s_1 (⟨#[]⟩ : ByteArray)) then some (decide ((s_1.size : Int) ≤ 40)) else some false).bind fun v_30 => some v_30) (fun r => some r)
def booking_isTime (wv_1 : Window) : Option (Bool) :=
  (bif (decide (wv_1.From ≥ 0)) then bif (decide (wv_1.From < wv_1.To)) then some (decide (wv_1.To ≤ 345686400000)) else some false else some false).bind fun v_3 => some v_3
def kit_Outside (n_1 : Int) (low_2 : Int) (high_3 : Int) : Option (Bool) :=
  (bif (decide (n_1 < low_2)) then some true else some (decide (n_1 > high_3))).bind fun v_4 => some v_4
noncomputable def kit_RisingFault_L1 (l_1 : (List ByteArray)) (k_2 : Nat) (x_4 : ByteArray) (s_7 : Unit) : Option (Ctl (Unit) (Int)) :=
  (kit_IsKey x_4).bind fun r_12 => bif (!r_12) then some (.ret 5) else (bif (decide ((k_2 : Int) > 0)) then (idx l_1 (w64 ((k_2 : Int) - 1))).bind fun y_18 => some (sLe x_4 y_18) else some false).bind fun v_15 => bif v_15 then some (.ret 7) else some (.go ())
noncomputable def kit_RisingFault (l_1 : (List ByteArray)) : Option (Int) :=
  (forL l_1 () (fun k x s => kit_RisingFault_L1 l_1 k x s)).bind fun o_10 => thenC o_10 (fun s_7 => some 0) (fun r => some r)
noncomputable def booking_tagsFault (l_1 : (List ByteArray)) : Option (Int) :=
  bif (decide ((l_1.length : Int) > 20)) then some 2 else (kit_RisingFault l_1).bind fun r_3 => some r_3
noncomputable def booking_CheckSpots_L1 (l_1 : (List Spot)) (k_3 : Nat) (x_5 : Spot) (s_8 : Unit) : Option (Ctl (Unit) (Int)) :=
  (kit_IsKey x_5.Key).bind fun r_14 => bif (!r_14) then some (.ret 5) else (bif (decide ((k_3 : Int) > 0)) then (idx l_1 (w64 ((k_3 : Int) - 1))).bind fun y_20 => some (sLe x_5.Key y_20.Key) else some false).bind fun v_17 => bif v_17 then some (.ret 7) else ((booking_isTime x_5.Time).bind fun r_25 => bif (!r_25) then some true else (kit_Outside x_5.Room 0 1000000).bind fun r_28 => some r_28).bind fun v_23 => bif v_23 then some (.ret 1) else (booking_tagsFault x_5.Tags).bind fun r_31 => bif (r_31 != 0) then some (.ret r_31) else some (.go ())
noncomputable def booking_CheckSpots (l_1 : (List Spot)) : Option (Int) :=
  bif (decide ((l_1.length : Int) > 60)) then some 2 else (forL l_1 () (fun k x s => booking_CheckSpots_L1 l_1 k x s)).bind fun o_11 => thenC o_11 (fun s_8 => some 0) (fun r => some r)
noncomputable def booking_CheckCampaigns_L1 (l_1 : (List Campaign)) (k_3 : Nat) (x_5 : Campaign) (s_8 : Unit) : Option (Ctl (Unit) (Int)) :=
  ((kit_IsKey x_5.Key).bind fun r_16 => bif (!r_16) then some true else bif (sNe x_5.Class (⟨#[]⟩ : ByteArray)) then (kit_IsKey x_5.Class).bind fun r_20 => some (!r_20) else some false).bind fun v_14 => bif v_14 then some (.ret 5) else (bif (decide ((k_3 : Int) > 0)) then (idx l_1 (w64 ((k_3 : Int) - 1))).bind fun y_26 => some (sLe x_5.Key y_26.Key) else some false).bind fun v_23 => bif v_23 then some (.ret 7) else ((booking_isTime x_5.Time).bind fun r_31 => bif (!r_31) then some true else (kit_Outside x_5.Goal 0 1000000).bind fun r_34 => bif r_34 then some true else (kit_Outside x_5.Most 0 1000000).bind fun r_37 => bif r_37 then some true else (kit_Outside x_5.Cents 0 1000000000).bind fun r_40 => some r_40).bind fun v_29 => bif v_29 then some (.ret 1) else (booking_tagsFault x_5.Tags).bind fun r_43 => bif (r_43 != 0) then some (.ret r_43) else some (.go ())
noncomputable def booking_CheckCampaigns (l_1 : (List Campaign)) : Option (Int) :=
  bif (decide ((l_1.length : Int) > 30)) then some 2 else (forL l_1 () (fun k x s => booking_CheckCampaigns_L1 l_1 k x s)).bind fun o_11 => thenC o_11 (fun s_8 => some 0) (fun r => some r)
noncomputable def booking_checkBoth (spots_1 : (List Spot)) (l_2 : (List Campaign)) : Option (Int) :=
  (booking_CheckSpots spots_1).bind fun r_3 => bif (r_3 != 0) then some r_3 else (booking_CheckCampaigns l_2).bind fun r_6 => some r_6
def cmp_isNaN_string (x_1 : ByteArray) : Option (Bool) :=
  some (sNe x_1 x_1)
def cmp_Less_string (x_1 : ByteArray) (y_2 : ByteArray) : Option (Bool) :=
  ((cmp_isNaN_string x_1).bind fun r_5 => bif r_5 then (cmp_isNaN_string y_2).bind fun r_8 => bif (!r_8) then some true else some (sLt x_1 y_2) else some (sLt x_1 y_2)).bind fun v_3 => some v_3
def slices_isNaN_string (x_1 : ByteArray) : Option (Bool) :=
  some (sNe x_1 x_1)
def slices_BinarySearch_string_string_L1 (x_1 : (List ByteArray)) (target_2 : ByteArray) (s_8 : Int × Int) : Option (Ctl (Int × Int) (Unit)) :=
  bif (decide (s_8.1 < s_8.2)) then (shrO .u64 (IntKind.u64.wrap (w64 (s_8.1 + s_8.2))) 1).bind fun q_14 => (idx x_1 (w64 q_14)).bind fun y_16 => (cmp_Less_string y_16 target_2).bind fun r_18 => bif r_18 then some (.go ((w64 ((w64 q_14) + 1)), s_8.2)) else some (.go (s_8.1, (w64 q_14))) else some (.brk (s_8.1, s_8.2))
noncomputable def slices_BinarySearch_string_string (x_1 : (List ByteArray)) (target_2 : ByteArray) : Option (Int × Bool) :=
  (loopO (0, (x_1.length : Int)) (fun s => slices_BinarySearch_string_string_L1 x_1 target_2 s)).bind fun o_11 => thenC o_11 (fun s_8 => (bif (decide (s_8.1 < (x_1.length : Int))) then (idx x_1 s_8.1).bind fun y_24 => bif (sEq y_24 target_2) then some true else (idx x_1 s_8.1).bind fun y_27 => (slices_isNaN_string y_27).bind fun r_29 => bif r_29 then (slices_isNaN_string target_2).bind fun r_32 => some r_32 else some false else some false).bind fun v_21 => some (s_8.1, v_21)) (fun _ => none)
noncomputable def booking_suits_L1 (s_2 : Spot) (k_9 : Nat) (x_11 : ByteArray) (s_14 : Unit) : Option (Ctl (Unit) (Bool)) :=
  (slices_BinarySearch_string_string s_2.Tags x_11).bind fun r_19 => bif (!r_19.2) then some (.ret false) else some (.go ())
noncomputable def booking_suits (c_1 : Campaign) (s_2 : Spot) : Option (Bool) :=
  (bif (decide (s_2.Time.From < c_1.Time.From)) then some true else some (decide (s_2.Time.To > c_1.Time.To))).bind fun v_5 => bif v_5 then some false else (forL c_1.Tags () (fun k x s => booking_suits_L1 s_2 k x s)).bind fun o_17 => thenC o_17 (fun s_14 => some true) (fun r => some r)
noncomputable def booking_Room_L1 (c_2 : Campaign) (k_7 : Nat) (x_9 : Spot) (s_12 : Int) : Option (Ctl (Int) (Unit)) :=
  (booking_suits c_2 x_9).bind fun r_18 => (bif r_18 then some (w64 (s_12 + (minI x_9.Room c_2.Most))) else some s_12).bind fun v_20 => some (.go v_20)
noncomputable def booking_Room (spots_1 : (List Spot)) (c_2 : Campaign) : Option (Int × Int) :=
  (booking_checkBoth spots_1 ([c_2] : List Campaign)).bind fun r_4 => bif (r_4 != 0) then some (0, r_4) else (forL spots_1 0 (fun k x s => booking_Room_L1 c_2 k x s)).bind fun o_15 => thenC o_15 (fun s_12 => some (s_12, 0)) (fun _ => none)
def slices_Index_string_string_L1 (v_2 : ByteArray) (k_3 : Nat) (x_5 : ByteArray) (s_8 : Unit) : Option (Ctl (Unit) (Int)) :=
  bif (sEq v_2 x_5) then some (.ret (k_3 : Int)) else some (.go ())
def slices_Index_string_string (s_1 : (List ByteArray)) (v_2 : ByteArray) : Option (Int) :=
  (forL s_1 () (fun k x s => slices_Index_string_string_L1 v_2 k x s)).bind fun o_11 => thenC o_11 (fun s_8 => some (-1)) (fun r => some r)
def slices_Contains_string_string (s_1 : (List ByteArray)) (v_2 : ByteArray) : Option (Bool) :=
  (slices_Index_string_string s_1 v_2).bind fun r_3 => some (decide (r_3 ≥ 0))
def ref_SuitsOf_1 (t_1 : ByteArray) (p_2 : Spot) : Option (Bool) :=
  (slices_Contains_string_string p_2.Tags t_1).bind fun r_3 => some (!r_3)
def slices_IndexFunc_string_string_L1 (f_2 : ByteArray → Option Bool) (k_3 : Nat) (x_5 : ByteArray) (s_8 : Unit) : Option (Ctl (Unit) (Int)) :=
  (f_2 x_5).bind fun r_13 => bif r_13 then some (.ret (k_3 : Int)) else some (.go ())
def slices_IndexFunc_string_string (s_1 : (List ByteArray)) (f_2 : ByteArray → Option Bool) : Option (Int) :=
  (forL s_1 () (fun k x s => slices_IndexFunc_string_string_L1 f_2 k x s)).bind fun o_11 => thenC o_11 (fun s_8 => some (-1)) (fun r => some r)
def slices_ContainsFunc_string_string (s_1 : (List ByteArray)) (f_2 : ByteArray → Option Bool) : Option (Bool) :=
  (slices_IndexFunc_string_string s_1 f_2).bind fun r_3 => some (decide (r_3 ≥ 0))
def ref_SuitsOf (c_1 : Campaign) (s_2 : Spot) : Option (Bool) :=
  (bif (decide (c_1.Time.From ≤ s_2.Time.From)) then bif (decide (s_2.Time.To ≤ c_1.Time.To)) then (slices_ContainsFunc_string_string c_1.Tags (fun x0 => ref_SuitsOf_1 x0 s_2)).bind fun r_9 => some (!r_9) else some false else some false).bind fun v_5 => some v_5
def ref_RoomOf_L1 (c_2 : Campaign) (k_4 : Nat) (x_6 : Spot) (s_9 : Int) : Option (Ctl (Int) (Unit)) :=
  (ref_SuitsOf c_2 x_6).bind fun r_15 => (bif r_15 then some (w64 (s_9 + (minI x_6.Room c_2.Most))) else some s_9).bind fun v_17 => some (.go v_17)
def ref_RoomOf (spots_1 : (List Spot)) (c_2 : Campaign) : Option (Int) :=
  (forL spots_1 0 (fun k x s => ref_RoomOf_L1 c_2 k x s)).bind fun o_12 => thenC o_12 (fun s_9 => some s_9) (fun _ => none)
noncomputable def booking_Suits (c_1 : Campaign) (s_2 : Spot) : Option (Bool × Int) :=
  (booking_checkBoth ([s_2] : List Spot) ([c_1] : List Campaign)).bind fun r_5 => bif (r_5 != 0) then some (false, r_5) else (booking_suits c_1 s_2).bind fun r_8 => some (r_8, 0)
def kit_IsMoment (n_1 : Int) : Option (Bool) :=
  (bif (decide (n_1 ≥ 0)) then some (decide (n_1 < 345686400000)) else some false).bind fun v_2 => some v_2
def booking_due (c_1 : Campaign) (atv_2 : Int) : Option (Int) :=
  bif (decide (atv_2 < c_1.Time.From)) then some 0 else bif (decide (atv_2 ≥ c_1.Time.To)) then some c_1.Goal else (quoO .i64 (w64 (c_1.Goal * (w64 (atv_2 - c_1.Time.From)))) (w64 (c_1.Time.To - c_1.Time.From))).bind fun q_6 => some q_6
noncomputable def booking_Due (c_1 : Campaign) (atv_2 : Int) : Option (Int × Int) :=
  (booking_CheckCampaigns ([c_1] : List Campaign)).bind fun r_4 => bif (r_4 != 0) then some (0, r_4) else (kit_IsMoment atv_2).bind fun r_7 => bif (!r_7) then some (0, 1) else (booking_due c_1 atv_2).bind fun r_10 => some (r_10, 0)
noncomputable def law_booked  : Option (Bool) :=
  (booking_Due (⟨(⟨#[97]⟩ : ByteArray), (⟨#[]⟩ : ByteArray), (⟨0, 100⟩ : Window), ([] : List ByteArray), 10, 0, 0⟩ : Campaign) 50).bind fun r_1 => (bif (r_1.2 == 0) then some (r_1.1 == 5) else some false).bind fun v_3 => some v_3
noncomputable def law_BookingsCheck_L1 (x_20 : Campaign) (k_46 : Nat) (x_48 : Spot) (s_51 : Unit) : Option (Ctl (Unit) (Bool)) :=
  (booking_Suits x_20 x_48).bind fun r_57 => (ref_SpotsFault ([x_48] : List Spot)).bind fun r_59 => (ref_CampaignsFault ([x_20] : List Campaign)).bind fun r_61 => (law_errs ([r_59, r_61] : List Int)).bind fun r_63 => (bif (r_57.2 != r_63) then some true else bif (r_63 == 0) then (ref_SuitsOf x_20 x_48).bind fun r_69 => some (!(r_57.1 == r_69)) else some (!(r_57.1 == false))).bind fun v_65 => bif v_65 then some (.ret false) else some (.go ())
noncomputable def law_BookingsCheck_L2 (r_3 : (List Spot) × (List Campaign) × Int × Stream) (k_18 : Nat) (x_20 : Campaign) (s_23 : Unit) : Option (Ctl (Unit) (Bool)) :=
  (ref_SpotsFault r_3.1).bind fun r_29 => (ref_CampaignsFault ([x_20] : List Campaign)).bind fun r_31 => (law_errs ([r_29, r_31] : List Int)).bind fun r_33 => (booking_Room r_3.1 x_20).bind fun r_35 => (bif (r_33 == 0) then (ref_RoomOf r_3.1 x_20).bind fun r_40 => some r_40 else some 0).bind fun v_37 => (bif (r_35.2 != r_33) then some true else some (r_35.1 != v_37)).bind fun v_42 => bif v_42 then some (.ret false) else (forL r_3.1 () (fun k x s => law_BookingsCheck_L1 x_20 k x s)).bind fun o_54 => thenC o_54 (fun s_51 => some (.go ())) (fun r => some (.ret r))
noncomputable def law_BookingsCheck (l_1 : (List Int)) : Option (Bool) :=
  (law_office (⟨l_1, 0⟩ : Stream)).bind fun r_3 => ((booking_CheckSpots r_3.1).bind fun r_8 => (ref_SpotsFault r_3.1).bind fun r_10 => bif (r_8 != r_10) then some true else (booking_CheckCampaigns r_3.2.1).bind fun r_13 => (ref_CampaignsFault r_3.2.1).bind fun r_15 => some (r_13 != r_15)).bind fun v_6 => bif v_6 then some false else (forL r_3.2.1 () (fun k x s => law_BookingsCheck_L2 r_3 k x s)).bind fun o_26 => thenC o_26 (fun s_23 => (law_booked).bind fun r_72 => some r_72) (fun r => some r)
end Go.Proofs.Ytkjnmkompibhgaa.Law
