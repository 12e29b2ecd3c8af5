/-
  The functions of the program, as plain functions over data (written by a program of ours).
-/
import Derived.Test.YtjmpbmnakfipdaaDoorEng5
open Go Go.Eng
namespace Go.Proofs.YtjmpbmnakfipdaaDoor.Law
set_option maxRecDepth 100000
set_option linter.unusedVariables false
set_option maxHeartbeats 1000000
structure Stream where
  L : (List Int)
  f_at : Int
def Stream.enc (s : Stream) : List D := [dl eI s.L, .int .i64 s.f_at]

structure Window where
  From : Int
  To : Int
def Window.enc (s : Window) : List D := [.int .i64 s.From, .int .i64 s.To]

structure Campaign where
  Key : ByteArray
  Class : ByteArray
  Time : Window
  Tags : (List ByteArray)
  Goal : Int
  Most : Int
  Cents : Int
def Campaign.enc (s : Campaign) : List D := [.str s.Key, .str s.Class, .int .i64 s.Time.From, .int .i64 s.Time.To, dl eS s.Tags, .int .i64 s.Goal, .int .i64 s.Most, .int .i64 s.Cents]

structure Play where
  Player : ByteArray
  Item : ByteArray
  At : Int
  Long : Int
def Play.enc (s : Play) : List D := [.str s.Player, .str s.Item, .int .i64 s.At, .int .i64 s.Long]

structure Pace where
  Campaign : ByteArray
  Due : Int
  Done : Int
def Pace.enc (s : Pace) : List D := [.str s.Campaign, .int .i64 s.Due, .int .i64 s.Done]

structure Pair where
  Name : ByteArray
  Value : ByteArray
def Pair.enc (s : Pair) : List D := [.str s.Name, .str s.Value]

def mk_Below (x_1 : Int) (n_2 : Int) : Option (Int) :=
  bif (decide (n_2 < 1)) then some 0 else (remO .i64 x_1 n_2).bind fun q_4 => (bif (decide (q_4 < 0)) then some (w64 (q_4 + n_2)) else some q_4).bind fun v_6 => some v_6
def mk_Stream_Next (s_1 : Stream) (n_2 : Int) : Option (Int × Stream) :=
  bif ((s_1.L.length : Int) == 0) then (mk_Below (w64 ((w64 (s_1.f_at + 1)) * 7919)) n_2).bind fun r_4 => some (r_4, (⟨s_1.L, (w64 (s_1.f_at + 1))⟩ : Stream)) else (remO .i64 (w64 ((w64 (s_1.f_at + 1)) - 1)) (s_1.L.length : Int)).bind fun q_6 => (quoO .i64 (w64 ((w64 (s_1.f_at + 1)) - 1)) (s_1.L.length : Int)).bind fun q_8 => (idx s_1.L q_6).bind fun y_10 => (mk_Below y_10 1073741824).bind fun r_12 => (mk_Below (w64 (r_12 + (w64 (q_8 * (w64 (7919 + q_6)))))) n_2).bind fun r_14 => some (r_14, (⟨s_1.L, (w64 (s_1.f_at + 1))⟩ : Stream))
def mk_Stream_Flip (s_1 : Stream) (n_2 : Int) : Option (Bool × Stream) :=
  (mk_Stream_Next s_1 n_2).bind fun r_3 => some ((r_3.1 == 0), r_3.2)
def mk_Stream_Some (s_1 : Stream) (l_2 : (List ByteArray)) : Option (ByteArray × Stream) :=
  (mk_Stream_Next s_1 (l_2.length : Int)).bind fun r_3 => (idx l_2 r_3.1).bind fun y_6 => some (y_6, r_3.2)
def mk_Stream_Pick (s_1 : Stream) (l_2 : (List Int)) : Option (Int × Stream) :=
  (mk_Stream_Next s_1 (l_2.length : Int)).bind fun r_3 => (idx l_2 r_3.1).bind fun y_6 => some (y_6, r_3.2)
def mk_Stream_RightCampaigns_L1 (k_41 : Nat) (x_43 : ByteArray) (s_46 : (List ByteArray) × (List Int) × Int) : Option (Ctl ((List ByteArray) × (List Int) × Int) (Unit)) :=
  (mk_Stream_Flip (⟨s_46.2.1, s_46.2.2⟩ : Stream) 4).bind fun r_54 => (bif r_54.1 then (appL s_46.1 ([x_43] : List ByteArray)).bind fun a_61 => some a_61 else some s_46.1).bind fun v_57 => some (.go (v_57, r_54.2.L, r_54.2.f_at))
def mk_Stream_RightCampaigns_L2 (k_5 : Nat) (x_7 : ByteArray) (s_10 : (List Campaign) × (List Int) × Int) : Option (Ctl ((List Campaign) × (List Int) × Int) (Unit)) :=
  (mk_Stream_Flip (⟨s_10.2.1, s_10.2.2⟩ : Stream) 5).bind fun r_18 => bif r_18.1 then some (.go (s_10.1, r_18.2.L, r_18.2.f_at)) else (mk_Stream_Some r_18.2 ([(⟨#[]⟩ : ByteArray), (⟨#[]⟩ : ByteArray), (⟨#[99, 97, 114, 115]⟩ : ByteArray), (⟨#[102, 111, 111, 100]⟩ : ByteArray)] : List ByteArray)).bind fun r_22 => (mk_Stream_Pick r_22.2 ([0, 0, 10, 20] : List Int)).bind fun r_25 => (mk_Stream_Pick r_25.2 ([30, 50, 60, 100] : List Int)).bind fun r_28 => (mk_Stream_Pick r_28.2 ([0, 1, 2, 3, 4, 6] : List Int)).bind fun r_31 => (mk_Stream_Pick r_31.2 ([0, 1, 2, 3, 9] : List Int)).bind fun r_34 => (mk_Stream_Pick r_34.2 ([0, 500, 1000, 1500] : List Int)).bind fun r_37 => (forL ([(⟨#[99, 105, 116, 121]⟩ : ByteArray), (⟨#[109, 97, 108, 108]⟩ : ByteArray)] : List ByteArray) (([] : List ByteArray), r_37.2.L, r_37.2.f_at) (fun k x s => mk_Stream_RightCampaigns_L1 k x s)).bind fun o_52 => thenC o_52 (fun s_46 => (appL s_10.1 ([(⟨x_7, r_22.1, (⟨r_25.1, r_28.1⟩ : Window), s_46.1, r_31.1, r_34.1, r_37.1⟩ : Campaign)] : List Campaign)).bind fun a_64 => some (.go (a_64, s_46.2.1, s_46.2.2))) (fun _ => none)
def mk_Stream_RightCampaigns (s_1 : Stream) (most_2 : Int) : Option ((List Campaign) × Stream) :=
  (subL ([(⟨#[99, 97]⟩ : ByteArray), (⟨#[99, 98]⟩ : ByteArray), (⟨#[99, 99]⟩ : ByteArray), (⟨#[99, 100]⟩ : ByteArray)] : List ByteArray) 0 most_2).bind fun y_3 => (forL y_3 (([] : List Campaign), s_1.L, s_1.f_at) (fun k x s => mk_Stream_RightCampaigns_L2 k x s)).bind fun o_16 => thenC o_16 (fun s_10 => some (s_10.1, (⟨s_10.2.1, s_10.2.2⟩ : Stream))) (fun _ => none)
def mk_Stream_Range (s_1 : Stream) (low_2 : Int) (high_3 : Int) : Option (Int × Stream) :=
  bif (decide (high_3 < low_2)) then some (low_2, s_1) else (mk_Stream_Next s_1 (w64 ((w64 (high_3 - low_2)) + 1))).bind fun r_5 => some ((w64 (low_2 + r_5.1)), r_5.2)
def mk_Stream_Odd (s_1 : Stream) (low_2 : Int) (high_3 : Int) : Option (Int × Stream) :=
  (mk_Stream_Flip s_1 12).bind fun r_4 => bif r_4.1 then (mk_Stream_Pick r_4.2 ([(w64 (low_2 - 1)), (w64 (high_3 + 1)), low_2, high_3, (-1099511627776), 1099511627776] : List Int)).bind fun r_8 => some (r_8.1, r_8.2) else (mk_Stream_Range r_4.2 low_2 high_3).bind fun r_11 => some (r_11.1, r_11.2)
def mk_Stream_Campaigns (s_1 : Stream) (most_2 : Int) : Option ((List Campaign) × Stream) :=
  (mk_Stream_RightCampaigns s_1 most_2).bind fun r_3 => (bif (decide ((r_3.1.length : Int) > 0)) then (mk_Stream_Flip r_3.2 12).bind fun r_10 => some (r_10.1, r_10.2.L, r_10.2.f_at) else some (false, r_3.2.L, r_3.2.f_at)).bind fun v_7 => (bif v_7.1 then (mk_Stream_Next (⟨v_7.2.1, v_7.2.2⟩ : Stream) (r_3.1.length : Int)).bind fun r_16 => (inR r_16.1 r_3.1).bind fun _ => (mk_Stream_Next r_16.2 4).bind fun r_20 => bif (r_20.1 == 0) then (r_3.1[(0 + (r_16.1).toNat)]?).bind fun e_24 => (mk_Stream_Some r_20.2 ([e_24.Key, (⟨#[]⟩ : ByteArray), (⟨#[99, 97]⟩ : ByteArray)] : List ByteArray)).bind fun r_26 => (mk_Stream_Some r_26.2 ([(⟨#[]⟩ : ByteArray), (⟨#[65]⟩ : ByteArray)] : List ByteArray)).bind fun r_29 => (r_3.1[(0 + (r_16.1).toNat)]?).bind fun e_32 => ((r_3.1.set (0 + (r_16.1).toNat) (⟨r_26.1, e_32.Class, e_32.Time, e_32.Tags, e_32.Goal, e_32.Most, e_32.Cents⟩ : Campaign))[(0 + (r_16.1).toNat)]?).bind fun e_34 => some (((r_3.1.set (0 + (r_16.1).toNat) (⟨r_26.1, e_32.Class, e_32.Time, e_32.Tags, e_32.Goal, e_32.Most, e_32.Cents⟩ : Campaign)).set (0 + (r_16.1).toNat) (⟨e_34.Key, r_29.1, e_34.Time, e_34.Tags, e_34.Goal, e_34.Most, e_34.Cents⟩ : Campaign)), r_29.2.L, r_29.2.f_at) else bif (r_20.1 == 1) then (mk_Stream_Odd r_20.2 0 60).bind fun r_37 => (r_3.1[(0 + (r_16.1).toNat)]?).bind fun e_40 => some ((r_3.1.set (0 + (r_16.1).toNat) (⟨e_40.Key, e_40.Class, (⟨e_40.Time.From, r_37.1⟩ : Window), e_40.Tags, e_40.Goal, e_40.Most, e_40.Cents⟩ : Campaign)), r_37.2.L, r_37.2.f_at) else bif (r_20.1 == 2) then (mk_Stream_Odd r_20.2 0 6).bind fun r_43 => (mk_Stream_Odd r_43.2 0 6).bind fun r_46 => (mk_Stream_Odd r_46.2 0 1000).bind fun r_49 => (r_3.1[(0 + (r_16.1).toNat)]?).bind fun e_52 => ((r_3.1.set (0 + (r_16.1).toNat) (⟨e_52.Key, e_52.Class, e_52.Time, e_52.Tags, r_43.1, e_52.Most, e_52.Cents⟩ : Campaign))[(0 + (r_16.1).toNat)]?).bind fun e_54 => (((r_3.1.set (0 + (r_16.1).toNat) (⟨e_52.Key, e_52.Class, e_52.Time, e_52.Tags, r_43.1, e_52.Most, e_52.Cents⟩ : Campaign)).set (0 + (r_16.1).toNat) (⟨e_54.Key, e_54.Class, e_54.Time, e_54.Tags, e_54.Goal, r_46.1, e_54.Cents⟩ : Campaign))[(0 + (r_16.1).toNat)]?).bind fun e_56 => some ((((r_3.1.set (0 + (r_16.1).toNat) (⟨e_52.Key, e_52.Class, e_52.Time, e_52.Tags, r_43.1, e_52.Most, e_52.Cents⟩ : Campaign)).set (0 + (r_16.1).toNat) (⟨e_54.Key, e_54.Class, e_54.Time, e_54.Tags, e_54.Goal, r_46.1, e_54.Cents⟩ : Campaign)).set (0 + (r_16.1).toNat) (⟨e_56.Key, e_56.Class, e_56.Time, e_56.Tags, e_56.Goal, e_56.Most, r_49.1⟩ : Campaign)), r_49.2.L, r_49.2.f_at) else (mk_Stream_Next r_20.2 3).bind fun r_58 => (idx ([([(⟨#[98]⟩ : ByteArray), (⟨#[97]⟩ : ByteArray)] : List ByteArray), ([(⟨#[65]⟩ : ByteArray)] : List ByteArray), ([(⟨#[97]⟩ : ByteArray), (⟨#[97]⟩ : ByteArray)] : List ByteArray)] : List (List ByteArray)) r_58.1).bind fun y_61 => (r_3.1[(0 + (r_16.1).toNat)]?).bind fun e_63 => some ((r_3.1.set (0 + (r_16.1).toNat) (⟨e_63.Key, e_63.Class, e_63.Time, y_61, e_63.Goal, e_63.Most, e_63.Cents⟩ : Campaign)), r_58.2.L, r_58.2.f_at) else some (r_3.1, v_7.2.1, v_7.2.2)).bind fun v_13 => some (v_13.1, (⟨v_13.2.1, v_13.2.2⟩ : Stream))
def mk_Stream_Played_L1 (k_3 : Nat) (x_5 : Nat) (s_8 : (List Play) × (List Int) × Int) : Option (Ctl ((List Play) × (List Int) × Int) (Unit)) :=
  (mk_Stream_Some (⟨s_8.2.1, s_8.2.2⟩ : Stream) ([(⟨#[99, 97]⟩ : ByteArray), (⟨#[99, 97]⟩ : ByteArray), (⟨#[99, 98]⟩ : ByteArray), (⟨#[99, 99]⟩ : ByteArray), (⟨#[122, 122]⟩ : ByteArray)] : List ByteArray)).bind fun r_16 => (mk_Stream_Range r_16.2 0 70).bind fun r_19 => (mk_Stream_Pick r_19.2 ([1, 5] : List Int)).bind fun r_22 => (mk_Stream_Flip r_22.2 80).bind fun r_26 => (bif r_26.1 then (mk_Stream_Some r_26.2 ([(⟨#[112]⟩ : ByteArray), (⟨#[]⟩ : ByteArray)] : List ByteArray)).bind fun r_32 => (mk_Stream_Some r_32.2 ([(⟨#[99, 97]⟩ : ByteArray), (⟨#[65]⟩ : ByteArray)] : List ByteArray)).bind fun r_35 => (mk_Stream_Odd r_35.2 0 70).bind fun r_38 => (mk_Stream_Odd r_38.2 1 9).bind fun r_41 => some (r_41.2.L, r_41.2.f_at, r_32.1, r_35.1, r_38.1, r_41.1) else some (r_26.2.L, r_26.2.f_at, (⟨#[112]⟩ : ByteArray), r_16.1, r_19.1, r_22.1)).bind fun v_29 => (appL s_8.1 ([(⟨v_29.2.2.1, v_29.2.2.2.1, v_29.2.2.2.2.1, v_29.2.2.2.2.2⟩ : Play)] : List Play)).bind fun a_44 => some (.go (a_44, v_29.1, v_29.2.1))
def mk_Stream_Played (s_1 : Stream) (many_2 : Int) : Option ((List Play) × Stream) :=
  (forL (List.range (many_2).toNat) (([] : List Play), s_1.L, s_1.f_at) (fun k x s => mk_Stream_Played_L1 k x s)).bind fun o_14 => thenC o_14 (fun s_8 => some (s_8.1, (⟨s_8.2.1, s_8.2.2⟩ : Stream))) (fun _ => none)
def kit_IsKey_L1 (s_1 : ByteArray) (s_7 : Int) : Option (Ctl (Int) (Bool)) :=
  bif (decide (s_7 < (s_1.size : Int))) then (idxS s_1 s_7).bind fun b_13 => (bif (decide ((b_13.toNat : Int) ≥ 97)) then bif (decide ((b_13.toNat : Int) ≤ 122)) then some false else bif (decide (s_7 > 0)) then bif (decide ((b_13.toNat : Int) ≥ 48)) then bif (decide ((b_13.toNat : Int) ≤ 57)) then some false else bif ((b_13.toNat : Int) == 45) then some false else some (!((b_13.toNat : Int) == 95)) else bif ((b_13.toNat : Int) == 45) then some false else some (!((b_13.toNat : Int) == 95)) else some true else bif (decide (s_7 > 0)) then bif (decide ((b_13.toNat : Int) ≥ 48)) then bif (decide ((b_13.toNat : Int) ≤ 57)) then some false else bif ((b_13.toNat : Int) == 45) then some false else some (!((b_13.toNat : Int) == 95)) else bif ((b_13.toNat : Int) == 45) then some false else some (!((b_13.toNat : Int) == 95)) else some true).bind fun v_15 => bif v_15 then some (.ret false) else some (.go (w64 (s_7 + 1))) else some (.brk s_7)
noncomputable def kit_IsKey (s_1 : ByteArray) : Option (Bool) :=
  (loopO 0 (fun s => kit_IsKey_L1 s_1 s)).bind fun o_10 => thenC o_10 (fun s_7 => (bif (sNe s_1 (⟨#[]⟩ : ByteArray)) then some (decide ((s_1.size : Int) ≤ 40)) else some false).bind fun v_30 => some v_30) (fun r => some r)
def booking_isTime (wv_1 : Window) : Option (Bool) :=
  (bif (decide (wv_1.From ≥ 0)) then bif (decide (wv_1.From < wv_1.To)) then some (decide (wv_1.To ≤ 345686400000)) else some false else some false).bind fun v_3 => some v_3
def kit_Outside (n_1 : Int) (low_2 : Int) (high_3 : Int) : Option (Bool) :=
  (bif (decide (n_1 < low_2)) then some true else some (decide (n_1 > high_3))).bind fun v_4 => some v_4
noncomputable def kit_RisingFault_L1 (l_1 : (List ByteArray)) (k_2 : Nat) (x_4 : ByteArray) (s_7 : Unit) : Option (Ctl (Unit) (Int)) :=
  (kit_IsKey x_4).bind fun r_12 => bif (!r_12) then some (.ret 5) else (bif (decide ((k_2 : Int) > 0)) then (idx l_1 (w64 ((k_2 : Int) - 1))).bind fun y_18 => some (sLe x_4 y_18) else some false).bind fun v_15 => bif v_15 then some (.ret 7) else some (.go ())
noncomputable def kit_RisingFault (l_1 : (List ByteArray)) : Option (Int) :=
  (forL l_1 () (fun k x s => kit_RisingFault_L1 l_1 k x s)).bind fun o_10 => thenC o_10 (fun s_7 => some 0) (fun r => some r)
noncomputable def booking_tagsFault (l_1 : (List ByteArray)) : Option (Int) :=
  bif (decide ((l_1.length : Int) > 20)) then some 2 else (kit_RisingFault l_1).bind fun r_3 => some r_3
noncomputable def booking_CheckCampaigns_L1 (l_1 : (List Campaign)) (k_3 : Nat) (x_5 : Campaign) (s_8 : Unit) : Option (Ctl (Unit) (Int)) :=
  ((kit_IsKey x_5.Key).bind fun r_16 => bif (!r_16) then some true else bif (sNe x_5.Class (⟨#[]⟩ : ByteArray)) then (kit_IsKey x_5.Class).bind fun r_20 => some (!r_20) else some false).bind fun v_14 => bif v_14 then some (.ret 5) else (bif (decide ((k_3 : Int) > 0)) then (idx l_1 (w64 ((k_3 : Int) - 1))).bind fun y_26 => some (sLe x_5.Key y_26.Key) else some false).bind fun v_23 => bif v_23 then some (.ret 7) else ((booking_isTime x_5.Time).bind fun r_31 => bif (!r_31) then some true else (kit_Outside x_5.Goal 0 1000000).bind fun r_34 => bif r_34 then some true else (kit_Outside x_5.Most 0 1000000).bind fun r_37 => bif r_37 then some true else (kit_Outside x_5.Cents 0 1000000000).bind fun r_40 => some r_40).bind fun v_29 => bif v_29 then some (.ret 1) else (booking_tagsFault x_5.Tags).bind fun r_43 => bif (r_43 != 0) then some (.ret r_43) else some (.go ())
noncomputable def booking_CheckCampaigns (l_1 : (List Campaign)) : Option (Int) :=
  bif (decide ((l_1.length : Int) > 30)) then some 2 else (forL l_1 () (fun k x s => booking_CheckCampaigns_L1 l_1 k x s)).bind fun o_11 => thenC o_11 (fun s_8 => some 0) (fun r => some r)
def kit_IsMoment (n_1 : Int) : Option (Bool) :=
  (bif (decide (n_1 ≥ 0)) then some (decide (n_1 < 345686400000)) else some false).bind fun v_2 => some v_2
noncomputable def booking_paceFault_L1 (k_8 : Nat) (x_10 : Play) (s_13 : Unit) : Option (Ctl (Unit) (Int)) :=
  ((kit_IsKey x_10.Player).bind fun r_21 => bif (!r_21) then some true else (kit_IsKey x_10.Item).bind fun r_24 => some (!r_24)).bind fun v_19 => bif v_19 then some (.ret 5) else ((kit_IsMoment x_10.At).bind fun r_29 => bif (!r_29) then some true else (kit_Outside x_10.Long 1 86400000).bind fun r_32 => some r_32).bind fun v_27 => bif v_27 then some (.ret 1) else some (.go ())
noncomputable def booking_paceFault (l_1 : (List Campaign)) (plays_2 : (List Play)) (atv_3 : Int) : Option (Int) :=
  (booking_CheckCampaigns l_1).bind fun r_4 => bif (r_4 != 0) then some r_4 else bif (decide ((plays_2.length : Int) > 3000)) then some 2 else (forL plays_2 () (fun k x s => booking_paceFault_L1 k x s)).bind fun o_16 => thenC o_16 (fun s_13 => (kit_IsMoment atv_3).bind fun r_35 => bif (!r_35) then some 1 else some 0) (fun r => some r)
def booking_due (c_1 : Campaign) (atv_2 : Int) : Option (Int) :=
  bif (decide (atv_2 < c_1.Time.From)) then some 0 else bif (decide (atv_2 ≥ c_1.Time.To)) then some c_1.Goal else (quoO .i64 (w64 (c_1.Goal * (w64 (atv_2 - c_1.Time.From)))) (w64 (c_1.Time.To - c_1.Time.From))).bind fun q_6 => some q_6
def booking_paces_L1 (x_6 : Campaign) (atv_3 : Int) (k_21 : Nat) (x_23 : Play) (s_26 : Int) : Option (Ctl (Int) (Unit)) :=
  (bif (sEq x_23.Item x_6.Key) then bif (decide (x_6.Time.From ≤ x_23.At)) then bif (decide (x_23.At < x_6.Time.To)) then some (decide (x_23.At < atv_3)) else some false else some false else some false).bind fun v_32 => (bif v_32 then some (w64 (s_26 + 1)) else some s_26).bind fun v_37 => some (.go v_37)
def booking_paces_L2 (atv_3 : Int) (plays_2 : (List Play)) (k_4 : Nat) (x_6 : Campaign) (s_9 : (List Pace)) : Option (Ctl ((List Pace)) (Unit)) :=
  (booking_due x_6 atv_3).bind fun r_18 => (forL plays_2 0 (fun k x s => booking_paces_L1 x_6 atv_3 k x s)).bind fun o_29 => thenC o_29 (fun s_26 => (appL s_9 ([(⟨x_6.Key, r_18, s_26⟩ : Pace)] : List Pace)).bind fun a_40 => some (.go a_40)) (fun _ => none)
def booking_paces (l_1 : (List Campaign)) (plays_2 : (List Play)) (atv_3 : Int) : Option ((List Pace)) :=
  (forL l_1 ([] : List Pace) (fun k x s => booking_paces_L2 atv_3 plays_2 k x s)).bind fun o_15 => thenC o_15 (fun s_9 => some s_9) (fun _ => none)
noncomputable def booking_Paces (l_1 : (List Campaign)) (plays_2 : (List Play)) (atv_3 : Int) : Option ((List Pace) × Int) :=
  (booking_paceFault l_1 plays_2 atv_3).bind fun r_4 => bif (r_4 != 0) then some (([] : (List Pace)), r_4) else (booking_paces l_1 plays_2 atv_3).bind fun r_7 => some (r_7, 0)
def booking_Choose_L1 (atv_3 : Int) (r_7 : (List Pace)) (l_1 : (List Campaign)) (k_9 : Nat) (x_11 : Campaign) (s_14 : Int) : Option (Ctl (Int) (Unit)) :=
  (bif (decide (atv_3 < x_11.Time.From)) then some true else bif (decide (atv_3 ≥ x_11.Time.To)) then some true else (idx r_7 (k_9 : Int)).bind fun y_24 => some (decide (y_24.Done ≥ x_11.Goal))).bind fun v_20 => bif v_20 then some (.go s_14) else (bif (decide (s_14 < 0)) then some true else (idx r_7 (k_9 : Int)).bind fun y_30 => (idx r_7 (k_9 : Int)).bind fun y_32 => (idx l_1 s_14).bind fun y_34 => (idx r_7 s_14).bind fun y_36 => (idx r_7 s_14).bind fun y_38 => some (decide ((w64 ((w64 (y_30.Due - y_32.Done)) * y_34.Goal)) > (w64 ((w64 (y_36.Due - y_38.Done)) * x_11.Goal))))).bind fun v_27 => (bif v_27 then some (k_9 : Int) else some s_14).bind fun v_40 => some (.go v_40)
noncomputable def booking_Choose (l_1 : (List Campaign)) (plays_2 : (List Play)) (atv_3 : Int) : Option (ByteArray × Bool × Int) :=
  (booking_paceFault l_1 plays_2 atv_3).bind fun r_4 => bif (r_4 != 0) then some ((⟨#[]⟩ : ByteArray), false, r_4) else (booking_paces l_1 plays_2 atv_3).bind fun r_7 => (forL l_1 (-1) (fun k x s => booking_Choose_L1 atv_3 r_7 l_1 k x s)).bind fun o_17 => thenC o_17 (fun s_14 => bif (decide (s_14 < 0)) then some ((⟨#[]⟩ : ByteArray), false, 0) else (idx l_1 s_14).bind fun y_44 => some (y_44.Key, true, 0)) (fun _ => none)
def strconv_Itoa (x0 : Int) : Option (ByteArray) :=
  itoaF x0
def booking_Bill_L1 (l_1 : (List Campaign)) (k_9 : Nat) (x_11 : Pace) (s_14 : (List Pair)) : Option (Ctl ((List Pair)) (Unit)) :=
  (idx l_1 (k_9 : Int)).bind fun y_23 => (idx l_1 (k_9 : Int)).bind fun y_25 => (bif (decide ((w64 ((w64 ((minI x_11.Done y_23.Goal) * y_25.Cents)).tdiv 1000)) > 0)) then (strconv_Itoa (w64 ((w64 ((minI x_11.Done y_23.Goal) * y_25.Cents)).tdiv 1000))).bind fun r_31 => (appL s_14 ([(⟨x_11.Campaign, r_31⟩ : Pair)] : List Pair)).bind fun a_33 => some a_33 else some s_14).bind fun v_27 => some (.go v_27)
noncomputable def booking_Bill (l_1 : (List Campaign)) (plays_2 : (List Play)) (atv_3 : Int) : Option ((List Pair) × Int) :=
  (booking_paceFault l_1 plays_2 atv_3).bind fun r_4 => bif (r_4 != 0) then some (([] : (List Pair)), r_4) else (booking_paces l_1 plays_2 atv_3).bind fun r_7 => (forL r_7 ([] : List Pair) (fun k x s => booking_Bill_L1 l_1 k x s)).bind fun o_20 => thenC o_20 (fun s_14 => some (s_14, 0)) (fun _ => none)
def ref_in (n_1 : Int) (low_2 : Int) (high_3 : Int) : Option (Bool) :=
  (bif (decide (low_2 ≤ n_1)) then some (decide (n_1 ≤ high_3)) else some false).bind fun v_4 => some v_4
def internal_stringslite_IndexByte (s_1 : ByteArray) (c_2 : Int) : Option (Int) :=
  some (ixB s_1 c_2)
def strings_IndexByte (s_1 : ByteArray) (c_2 : Int) : Option (Int) :=
  (internal_stringslite_IndexByte s_1 c_2).bind fun r_3 => some r_3
def ref_only_L1 (s_1 : ByteArray) (somev_2 : ByteArray) (k_3 : Nat) (x_5 : Nat) (s_8 : Unit) : Option (Ctl (Unit) (Bool)) :=
  (idxS s_1 (k_3 : Int)).bind fun b_13 => (strings_IndexByte somev_2 (b_13.toNat : Int)).bind fun r_15 => bif (decide (r_15 < 0)) then some (.ret false) else some (.go ())
def ref_only (s_1 : ByteArray) (somev_2 : ByteArray) : Option (Bool) :=
  (forL (List.range ((s_1.size : Int)).toNat) () (fun k x s => ref_only_L1 s_1 somev_2 k x s)).bind fun o_11 => thenC o_11 (fun s_8 => some true) (fun r => some r)
def ref_Key (s_1 : ByteArray) : Option (Bool) :=
  ((ref_in (s_1.size : Int) 1 40).bind fun r_4 => bif r_4 then (subS s_1 0 1).bind fun y_7 => (ref_only y_7 (⟨#[97, 98, 99, 100, 101, 102, 103, 104, 105, 106, 107, 108, 109, 110, 111, 112, 113, 114, 115, 116, 117, 118, 119, 120, 121, 122]⟩ : ByteArray)).bind fun r_9 => bif r_9 then (ref_only s_1 (⟨#[97, 98, 99, 100, 101, 102, 103, 104, 105, 106, 107, 108, 109, 110, 111, 112, 113, 114, 115, 116, 117, 118, 119, 120, 121, 122, 48, 49, 50, 51, 52, 53, 54, 55, 56, 57, 45, 95]⟩ : ByteArray)).bind fun r_12 => some r_12 else some false else some false).bind fun v_2 => some v_2
def ref_risingFault_L1 (l_1 : (List ByteArray)) (k_2 : Nat) (x_4 : ByteArray) (s_7 : Unit) : Option (Ctl (Unit) (Int)) :=
  (ref_Key x_4).bind fun r_12 => bif (!r_12) then some (.ret 5) else (bif (decide ((k_2 : Int) > 0)) then (idx l_1 (w64 ((k_2 : Int) - 1))).bind fun y_18 => some (sLe x_4 y_18) else some false).bind fun v_15 => bif v_15 then some (.ret 7) else some (.go ())
def ref_risingFault (l_1 : (List ByteArray)) : Option (Int) :=
  (forL l_1 () (fun k x s => ref_risingFault_L1 l_1 k x s)).bind fun o_10 => thenC o_10 (fun s_7 => some 0) (fun r => some r)
def ref_TagsFault (l_1 : (List ByteArray)) : Option (Int) :=
  bif (decide ((l_1.length : Int) > 20)) then some 2 else (ref_risingFault l_1).bind fun r_3 => some r_3
def ref_CampaignsFault_L1 (k_3 : Nat) (x_5 : Campaign) (s_8 : ByteArray) : Option (Ctl (ByteArray) (Int)) :=
  ((ref_Key x_5.Key).bind fun r_16 => bif (!r_16) then some true else bif (sNe x_5.Class (⟨#[]⟩ : ByteArray)) then (ref_Key x_5.Class).bind fun r_20 => some (!r_20) else some false).bind fun v_14 => bif v_14 then some (.ret 5) else bif (sLe x_5.Key s_8) then some (.ret 7) else (bif (decide (x_5.Time.From < 0)) then some true else bif (decide (x_5.Time.From ≥ x_5.Time.To)) then some true else bif (decide (x_5.Time.To > 345686400000)) then some true else (ref_in x_5.Goal 0 1000000).bind fun r_29 => bif (!r_29) then some true else (ref_in x_5.Most 0 1000000).bind fun r_32 => bif (!r_32) then some true else (ref_in x_5.Cents 0 1000000000).bind fun r_35 => some (!r_35)).bind fun v_24 => bif v_24 then some (.ret 1) else (ref_TagsFault x_5.Tags).bind fun r_38 => bif (r_38 != 0) then some (.ret r_38) else some (.go x_5.Key)
def ref_CampaignsFault (l_1 : (List Campaign)) : Option (Int) :=
  bif (decide ((l_1.length : Int) > 30)) then some 2 else (forL l_1 (⟨#[]⟩ : ByteArray) (fun k x s => ref_CampaignsFault_L1 k x s)).bind fun o_11 => thenC o_11 (fun s_8 => some 0) (fun r => some r)
def ref_Moment (atv_1 : Int) : Option (Bool) :=
  (ref_in atv_1 0 345686399999).bind fun r_2 => some r_2
def ref_PlayedFault_L1 (k_3 : Nat) (x_5 : Play) (s_8 : Unit) : Option (Ctl (Unit) (Int)) :=
  ((ref_Key x_5.Player).bind fun r_16 => bif (!r_16) then some true else (ref_Key x_5.Item).bind fun r_19 => some (!r_19)).bind fun v_14 => bif v_14 then some (.ret 5) else ((ref_Moment x_5.At).bind fun r_24 => bif (!r_24) then some true else (ref_in x_5.Long 1 86400000).bind fun r_27 => some (!r_27)).bind fun v_22 => bif v_22 then some (.ret 1) else some (.go ())
def ref_PlayedFault (l_1 : (List Play)) : Option (Int) :=
  bif (decide ((l_1.length : Int) > 3000)) then some 2 else (forL l_1 () (fun k x s => ref_PlayedFault_L1 k x s)).bind fun o_11 => thenC o_11 (fun s_8 => some 0) (fun r => some r)
def law_when (is_1 : Bool) (e_2 : Int) : Option (Int) :=
  bif is_1 then some e_2 else some 0
def law_momentFault (atv_1 : Int) : Option (Int) :=
  (ref_Moment atv_1).bind fun r_2 => (law_when (!r_2) 1).bind fun r_4 => some r_4
def law_errs_L1 (k_2 : Nat) (x_4 : Int) (s_7 : Unit) : Option (Ctl (Unit) (Int)) :=
  bif (x_4 != 0) then some (.ret x_4) else some (.go ())
def law_errs (l_1 : (List Int)) : Option (Int) :=
  (forL l_1 () (fun k x s => law_errs_L1 k x s)).bind fun o_10 => thenC o_10 (fun s_7 => some 0) (fun r => some r)
noncomputable def booking_Due (c_1 : Campaign) (atv_2 : Int) : Option (Int × Int) :=
  (booking_CheckCampaigns ([c_1] : List Campaign)).bind fun r_4 => bif (r_4 != 0) then some (0, r_4) else (kit_IsMoment atv_2).bind fun r_7 => bif (!r_7) then some (0, 1) else (booking_due c_1 atv_2).bind fun r_10 => some (r_10, 0)
def ref_DueOf (c_1 : Campaign) (atv_2 : Int) : Option (Int) :=
  (quoO .i64 (w64 (c_1.Goal * (w64 ((minI (maxI atv_2 c_1.Time.From) c_1.Time.To) - c_1.Time.From)))) (w64 (c_1.Time.To - c_1.Time.From))).bind fun q_4 => some q_4
noncomputable def law_booked  : Option (Bool) :=
  (booking_Due (⟨(⟨#[97]⟩ : ByteArray), (⟨#[]⟩ : ByteArray), (⟨0, 100⟩ : Window), ([] : List ByteArray), 10, 0, 0⟩ : Campaign) 50).bind fun r_1 => (bif (r_1.2 == 0) then some (r_1.1 == 5) else some false).bind fun v_3 => some v_3
def ref_doneOf_L1 (c_1 : Campaign) (atv_3 : Int) (k_5 : Nat) (x_7 : Play) (s_10 : Int) : Option (Ctl (Int) (Unit)) :=
  (bif (sEq x_7.Item c_1.Key) then (ref_in x_7.At c_1.Time.From (w64 ((minI c_1.Time.To atv_3) - 1))).bind fun r_19 => some r_19 else some false).bind fun v_16 => (bif v_16 then some (w64 (s_10 + 1)) else some s_10).bind fun v_21 => some (.go v_21)
def ref_doneOf (c_1 : Campaign) (plays_2 : (List Play)) (atv_3 : Int) : Option (Int) :=
  (forL plays_2 0 (fun k x s => ref_doneOf_L1 c_1 atv_3 k x s)).bind fun o_13 => thenC o_13 (fun s_10 => some s_10) (fun _ => none)
def ref_ChooseOf_1 (i_1 : Int) (p_2 : (List Campaign)) (p_3 : Int) (p_4 : (List Play)) : Option (Int) :=
  (idx p_2 i_1).bind fun y_5 => (ref_DueOf y_5 p_3).bind fun r_7 => (idx p_2 i_1).bind fun y_9 => (ref_doneOf y_9 p_4 p_3).bind fun r_11 => some (w64 (r_7 - r_11))
def ref_ChooseOf_L1 (atv_3 : Int) (plays_2 : (List Play)) (l_1 : (List Campaign)) (k_7 : Nat) (x_9 : Campaign) (s_12 : Int) : Option (Ctl (Int) (Unit)) :=
  ((ref_in atv_3 x_9.Time.From (w64 (x_9.Time.To - 1))).bind fun r_20 => bif (!r_20) then some true else (ref_doneOf x_9 plays_2 atv_3).bind fun r_23 => some (decide (r_23 ≥ x_9.Goal))).bind fun v_18 => bif v_18 then some (.go s_12) else (bif (decide (s_12 < 0)) then some true else (ref_ChooseOf_1 (k_7 : Int) l_1 atv_3 plays_2).bind fun r_29 => (idx l_1 s_12).bind fun y_32 => (ref_ChooseOf_1 s_12 l_1 atv_3 plays_2).bind fun r_34 => some (decide ((w64 (r_29 * y_32.Goal)) > (w64 (r_34 * x_9.Goal))))).bind fun v_26 => (bif v_26 then some (k_7 : Int) else some s_12).bind fun v_37 => some (.go v_37)
def ref_ChooseOf (l_1 : (List Campaign)) (plays_2 : (List Play)) (atv_3 : Int) : Option (ByteArray × Bool) :=
  (forL l_1 (-1) (fun k x s => ref_ChooseOf_L1 atv_3 plays_2 l_1 k x s)).bind fun o_15 => thenC o_15 (fun s_12 => bif (decide (s_12 < 0)) then some ((⟨#[]⟩ : ByteArray), false) else (idx l_1 s_12).bind fun y_41 => some (y_41.Key, true)) (fun _ => none)
def ref_PacesOf_L1 (atv_3 : Int) (plays_2 : (List Play)) (k_4 : Nat) (x_6 : Campaign) (s_9 : (List Pace)) : Option (Ctl ((List Pace)) (Unit)) :=
  (ref_DueOf x_6 atv_3).bind fun r_18 => (ref_doneOf x_6 plays_2 atv_3).bind fun r_20 => (appL s_9 ([(⟨x_6.Key, r_18, r_20⟩ : Pace)] : List Pace)).bind fun a_22 => some (.go a_22)
def ref_PacesOf (l_1 : (List Campaign)) (plays_2 : (List Play)) (atv_3 : Int) : Option ((List Pace)) :=
  (forL l_1 ([] : List Pace) (fun k x s => ref_PacesOf_L1 atv_3 plays_2 k x s)).bind fun o_15 => thenC o_15 (fun s_9 => some s_9) (fun _ => none)
def slices_Equal_api_Pace_api_Pace_L1 (s2_2 : (List Pace)) (k_4 : Nat) (x_6 : Pace) (s_9 : Unit) : Option (Ctl (Unit) (Bool)) :=
  (idx s2_2 (k_4 : Int)).bind fun y_14 => bif (!((x_6.Campaign.toList == y_14.Campaign.toList) && ((x_6.Due == y_14.Due) && ((x_6.Done == y_14.Done) && true)))) then some (.ret false) else some (.go ())
def slices_Equal_api_Pace_api_Pace (s1_1 : (List Pace)) (s2_2 : (List Pace)) : Option (Bool) :=
  bif ((s1_1.length : Int) != (s2_2.length : Int)) then some false else (forL s1_1 () (fun k x s => slices_Equal_api_Pace_api_Pace_L1 s2_2 k x s)).bind fun o_12 => thenC o_12 (fun s_9 => some true) (fun r => some r)
def ref_BillOf_L1 (plays_2 : (List Play)) (atv_3 : Int) (k_4 : Nat) (x_6 : Campaign) (s_9 : (List Pair)) : Option (Ctl ((List Pair)) (Unit)) :=
  (ref_doneOf x_6 plays_2 atv_3).bind fun r_18 => (bif (decide ((w64 ((w64 ((minI x_6.Goal r_18) * x_6.Cents)).tdiv 1000)) > 0)) then (strconv_Itoa (w64 ((w64 ((minI x_6.Goal r_18) * x_6.Cents)).tdiv 1000))).bind fun r_24 => (appL s_9 ([(⟨x_6.Key, r_24⟩ : Pair)] : List Pair)).bind fun a_26 => some a_26 else some s_9).bind fun v_20 => some (.go v_20)
def ref_BillOf (l_1 : (List Campaign)) (plays_2 : (List Play)) (atv_3 : Int) : Option ((List Pair)) :=
  (forL l_1 ([] : List Pair) (fun k x s => ref_BillOf_L1 plays_2 atv_3 k x s)).bind fun o_15 => thenC o_15 (fun s_9 => some s_9) (fun _ => none)
def slices_Equal_api_Pair_api_Pair_L1 (s2_2 : (List Pair)) (k_4 : Nat) (x_6 : Pair) (s_9 : Unit) : Option (Ctl (Unit) (Bool)) :=
  (idx s2_2 (k_4 : Int)).bind fun y_14 => bif (!((x_6.Name.toList == y_14.Name.toList) && ((x_6.Value.toList == y_14.Value.toList) && true))) then some (.ret false) else some (.go ())
def slices_Equal_api_Pair_api_Pair (s1_1 : (List Pair)) (s2_2 : (List Pair)) : Option (Bool) :=
  bif ((s1_1.length : Int) != (s2_2.length : Int)) then some false else (forL s1_1 () (fun k x s => slices_Equal_api_Pair_api_Pair_L1 s2_2 k x s)).bind fun o_12 => thenC o_12 (fun s_9 => some true) (fun r => some r)
noncomputable def law_CampaignsPaced_L1 (r_12 : Int × Stream) (k_34 : Nat) (x_36 : Campaign) (s_39 : Unit) : Option (Ctl (Unit) (Bool)) :=
  (booking_Due x_36 r_12.1).bind fun r_45 => (ref_CampaignsFault ([x_36] : List Campaign)).bind fun r_47 => (law_momentFault r_12.1).bind fun r_49 => (law_errs ([r_47, r_49] : List Int)).bind fun r_51 => (bif (r_45.2 != r_51) then some true else bif (r_51 == 0) then (ref_DueOf x_36 r_12.1).bind fun r_57 => bif (r_45.1 != r_57) then some true else bif (r_51 != 0) then some (r_45.1 != 0) else some false else bif (r_51 != 0) then some (r_45.1 != 0) else some false).bind fun v_53 => bif v_53 then some (.ret false) else some (.go ())
noncomputable def law_CampaignsPaced (l_1 : (List Int)) : Option (Bool) :=
  (mk_Stream_Campaigns (⟨l_1, 0⟩ : Stream) 4).bind fun r_3 => (mk_Stream_Range r_3.2 0 12).bind fun r_6 => (mk_Stream_Played r_6.2 r_6.1).bind fun r_9 => (mk_Stream_Pick r_9.2 ([0, 5, 10, 25, 40, 60, 100, (-1)] : List Int)).bind fun r_12 => (booking_Paces r_3.1 r_9.1 r_12.1).bind fun r_15 => (booking_Choose r_3.1 r_9.1 r_12.1).bind fun r_17 => (booking_Bill r_3.1 r_9.1 r_12.1).bind fun r_19 => (ref_CampaignsFault r_3.1).bind fun r_21 => (ref_PlayedFault r_9.1).bind fun r_23 => (law_momentFault r_12.1).bind fun r_25 => (law_errs ([r_21, r_23, r_25] : List Int)).bind fun r_27 => (bif (r_15.2 != r_27) then some true else bif (r_17.2.2 != r_27) then some true else some (r_19.2 != r_27)).bind fun v_29 => bif v_29 then some false else (forL r_3.1 () (fun k x s => law_CampaignsPaced_L1 r_12 k x s)).bind fun o_42 => thenC o_42 (fun s_39 => bif (r_27 != 0) then (bif ((w64 ((r_15.1.length : Int) + (r_19.1.length : Int))) == 0) then bif (sEq r_17.1 (⟨#[]⟩ : ByteArray)) then bif (!r_17.2.1) then (law_booked).bind fun r_69 => some r_69 else some false else some false else some false).bind fun v_64 => some v_64 else (ref_ChooseOf r_3.1 r_9.1 r_12.1).bind fun r_71 => ((ref_PacesOf r_3.1 r_9.1 r_12.1).bind fun r_75 => (slices_Equal_api_Pace_api_Pace r_15.1 r_75).bind fun r_77 => bif r_77 then bif (sEq r_17.1 r_71.1) then bif (r_17.2.1 == r_71.2) then (ref_BillOf r_3.1 r_9.1 r_12.1).bind fun r_82 => (slices_Equal_api_Pair_api_Pair r_19.1 r_82).bind fun r_84 => bif r_84 then (law_booked).bind fun r_87 => some r_87 else some false else some false else some false else some false).bind fun v_73 => some v_73) (fun r => some r)
end Go.Proofs.YtjmpbmnakfipdaaDoor.Law

