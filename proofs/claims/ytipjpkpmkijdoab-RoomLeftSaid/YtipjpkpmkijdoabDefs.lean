/-
  The functions of the program, as plain functions over data (written by a program of ours).
-/
import Derived.Test.YtipjpkpmkijdoabEng5
open Go Go.Eng
namespace Go.Proofs.Ytipjpkpmkijdoab.Law
set_option maxRecDepth 100000
set_option linter.unusedVariables false
set_option maxHeartbeats 1000000
structure Stream where
  L:(List Int)
  f_at:Int
def Stream.enc (s:Stream):List D := [dl eI s.L,.int .i64 s.f_at]

structure Window where
  From:Int
  To:Int
def Window.enc (s:Window):List D := [.int .i64 s.From,.int .i64 s.To]

structure Spot where
  Key:ByteArray
  Time:Window
  Room:Int
  Tags:(List ByteArray)
def Spot.enc (s:Spot):List D := [.str s.Key,.int .i64 s.Time.From,.int .i64 s.Time.To,.int .i64 s.Room,dl eS s.Tags]
abbrev Spot.v (s:Spot):List V := [(vS s.Key),(vI s.Time.From),(vI s.Time.To),(vI s.Room),(vL eS s.Tags)]

structure Campaign where
  Key:ByteArray
  Class:ByteArray
  Time:Window
  Tags:(List ByteArray)
  Goal:Int
  Most:Int
  Cents:Int
def Campaign.enc (s:Campaign):List D := [.str s.Key,.str s.Class,.int .i64 s.Time.From,.int .i64 s.Time.To,dl eS s.Tags,.int .i64 s.Goal,.int .i64 s.Most,.int .i64 s.Cents]
abbrev Campaign.v (s:Campaign):List V := [(vS s.Key),(vS s.Class),(vI s.Time.From),(vI s.Time.To),(vL eS s.Tags),(vI s.Goal),(vI s.Most),(vI s.Cents)]

structure Web where
  f_can:(List (List Int))
  f_camps:Int
def Web.enc (s:Web):List D := [dl (eL eI) s.f_can,.int .i64 s.f_camps]

structure Pair where
  Name:ByteArray
  Value:ByteArray
def Pair.enc (s:Pair):List D := [.str s.Name,.str s.Value]

def mk_Below (x_1:Int) (n_2:Int):Option (Int) :=
  bif (decide (n_2 < 1))then some 0 else (remO .i64 x_1 n_2).bind fun q_4=>(bif (decide (q_4 < 0))then some (w64 (q_4 + n_2))else some q_4).bind fun v_6=>some v_6
def mk_Stream_Next (s_1:Stream) (n_2:Int):Option (Int×Stream) :=
  bif ((s_1.L.length:Int) == 0)then (mk_Below (w64 ((w64 (s_1.f_at + 1)) * 7919)) n_2).bind fun r_4=>some (r_4,(⟨s_1.L,(w64 (s_1.f_at + 1))⟩:Stream))else (remO .i64 (w64 ((w64 (s_1.f_at + 1)) - 1)) (s_1.L.length:Int)).bind fun q_6=>(quoO .i64 (w64 ((w64 (s_1.f_at + 1)) - 1)) (s_1.L.length:Int)).bind fun q_8=>(idx s_1.L q_6).bind fun y_10=>(mk_Below y_10 1073741824).bind fun r_12=>(mk_Below (w64 (r_12 + (w64 (q_8 * (w64 (7919 + q_6)))))) n_2).bind fun r_14=>some (r_14,(⟨s_1.L,(w64 (s_1.f_at + 1))⟩:Stream))
def mk_Stream_Flip (s_1:Stream) (n_2:Int):Option (Bool×Stream) :=
  (mk_Stream_Next s_1 n_2).bind fun r_3=>some ((r_3.1 == 0),r_3.2)
def mk_Stream_Pick (s_1:Stream) (l_2:(List Int)):Option (Int×Stream) :=
  (mk_Stream_Next s_1 (l_2.length:Int)).bind fun r_3=>(idx l_2 r_3.1).bind fun y_6=>some (y_6,r_3.2)
def mk_Stream_RightSpots_L1 (k_26:Nat) (x_28:ByteArray) (s_31:(List ByteArray)×(List Int)×Int):Option (Ctl ((List ByteArray)×(List Int)×Int) (Unit)) :=
  (mk_Stream_Flip (⟨s_31.2.1,s_31.2.2⟩:Stream) 2).bind fun r_39=>(bif r_39.1 then (appL s_31.1 ([x_28]:List ByteArray)).bind fun a_46=>some a_46 else some s_31.1).bind fun v_42=>some (.go (v_42,r_39.2.L,r_39.2.f_at))
def mk_Stream_RightSpots_L2 (k_2:Nat) (x_4:ByteArray) (s_7:(List Spot)×(List Int)×Int):Option (Ctl ((List Spot)×(List Int)×Int) (Unit)) :=
  (mk_Stream_Flip (⟨s_7.2.1,s_7.2.2⟩:Stream) 4).bind fun r_15=>bif r_15.1 then some (.go (s_7.1,r_15.2.L,r_15.2.f_at))else (mk_Stream_Pick r_15.2 ([5,10,10]:List Int)).bind fun r_19=>(mk_Stream_Pick r_19.2 ([0,1,2,3,5]:List Int)).bind fun r_22=>(forL ([(⟨#[99,105,116,121]⟩:ByteArray),(⟨#[109,97,108,108]⟩:ByteArray)]:List ByteArray) (([]:List ByteArray),r_22.2.L,r_22.2.f_at) (fun k x s=>mk_Stream_RightSpots_L1 k x s)).bind fun o_37=>thenC o_37 (fun s_31=>(appL s_7.1 ([(⟨x_4,(⟨(w64 (10 * (k_2:Int))),(w64 ((w64 (10 * (k_2:Int))) + r_19.1))⟩:Window),r_22.1,s_31.1⟩:Spot)]:List Spot)).bind fun a_49=>some (.go (a_49,s_31.2.1,s_31.2.2))) (fun _=>none)
def mk_Stream_RightSpots (s_1:Stream):Option ((List Spot)×Stream) :=
  (forL ([(⟨#[115,97]⟩:ByteArray),(⟨#[115,98]⟩:ByteArray),(⟨#[115,99]⟩:ByteArray),(⟨#[115,100]⟩:ByteArray),(⟨#[115,101]⟩:ByteArray)]:List ByteArray) (([]:List Spot),s_1.L,s_1.f_at) (fun k x s=>mk_Stream_RightSpots_L2 k x s)).bind fun o_13=>thenC o_13 (fun s_7=>some (s_7.1,(⟨s_7.2.1,s_7.2.2⟩:Stream))) (fun _=>none)
def mk_Stream_Some (s_1:Stream) (l_2:(List ByteArray)):Option (ByteArray×Stream) :=
  (mk_Stream_Next s_1 (l_2.length:Int)).bind fun r_3=>(idx l_2 r_3.1).bind fun y_6=>some (y_6,r_3.2)
def mk_Stream_Range (s_1:Stream) (low_2:Int) (high_3:Int):Option (Int×Stream) :=
  bif (decide (high_3 < low_2))then some (low_2,s_1)else (mk_Stream_Next s_1 (w64 ((w64 (high_3 - low_2)) + 1))).bind fun r_5=>some ((w64 (low_2 + r_5.1)),r_5.2)
def mk_Stream_Odd (s_1:Stream) (low_2:Int) (high_3:Int):Option (Int×Stream) :=
  (mk_Stream_Flip s_1 12).bind fun r_4=>bif r_4.1 then (mk_Stream_Pick r_4.2 ([(w64 (low_2 - 1)),(w64 (high_3 + 1)),low_2,high_3,(-1099511627776),1099511627776]:List Int)).bind fun r_8=>some (r_8.1,r_8.2)else (mk_Stream_Range r_4.2 low_2 high_3).bind fun r_11=>some (r_11.1,r_11.2)
def mk_Stream_Spots (s_1:Stream):Option ((List Spot)×Stream) :=
  (mk_Stream_RightSpots s_1).bind fun r_2=>(bif (decide ((r_2.1.length:Int) > 0))then (mk_Stream_Flip r_2.2 12).bind fun r_9=>some (r_9.1,r_9.2.L,r_9.2.f_at)else some (false,r_2.2.L,r_2.2.f_at)).bind fun v_6=>(bif v_6.1 then (mk_Stream_Next (⟨v_6.2.1,v_6.2.2⟩:Stream) (r_2.1.length:Int)).bind fun r_15=>(inR r_15.1 r_2.1).bind fun _=>(r_2.1[(0 + (r_15.1).toNat)]?).bind fun e_19=>(mk_Stream_Some r_15.2 ([e_19.Key,(⟨#[]⟩:ByteArray),(⟨#[115,97]⟩:ByteArray)]:List ByteArray)).bind fun r_21=>(mk_Stream_Odd r_21.2 0 60).bind fun r_24=>(mk_Stream_Odd r_24.2 0 5).bind fun r_27=>(mk_Stream_Next r_27.2 3).bind fun r_30=>(idx ([([]:List ByteArray),([(⟨#[98]⟩:ByteArray),(⟨#[97]⟩:ByteArray)]:List ByteArray),([(⟨#[65]⟩:ByteArray)]:List ByteArray)]:List (List ByteArray)) r_30.1).bind fun y_33=>(r_2.1[(0 + (r_15.1).toNat)]?).bind fun e_35=>((r_2.1.set (0 + (r_15.1).toNat) (⟨r_21.1,e_35.Time,e_35.Room,e_35.Tags⟩:Spot))[(0 + (r_15.1).toNat)]?).bind fun e_37=>(((r_2.1.set (0 + (r_15.1).toNat) (⟨r_21.1,e_35.Time,e_35.Room,e_35.Tags⟩:Spot)).set (0 + (r_15.1).toNat) (⟨e_37.Key,(⟨e_37.Time.From,r_24.1⟩:Window),e_37.Room,e_37.Tags⟩:Spot))[(0 + (r_15.1).toNat)]?).bind fun e_39=>((((r_2.1.set (0 + (r_15.1).toNat) (⟨r_21.1,e_35.Time,e_35.Room,e_35.Tags⟩:Spot)).set (0 + (r_15.1).toNat) (⟨e_37.Key,(⟨e_37.Time.From,r_24.1⟩:Window),e_37.Room,e_37.Tags⟩:Spot)).set (0 + (r_15.1).toNat) (⟨e_39.Key,e_39.Time,r_27.1,e_39.Tags⟩:Spot))[(0 + (r_15.1).toNat)]?).bind fun e_41=>some (((((r_2.1.set (0 + (r_15.1).toNat) (⟨r_21.1,e_35.Time,e_35.Room,e_35.Tags⟩:Spot)).set (0 + (r_15.1).toNat) (⟨e_37.Key,(⟨e_37.Time.From,r_24.1⟩:Window),e_37.Room,e_37.Tags⟩:Spot)).set (0 + (r_15.1).toNat) (⟨e_39.Key,e_39.Time,r_27.1,e_39.Tags⟩:Spot)).set (0 + (r_15.1).toNat) (⟨e_41.Key,e_41.Time,e_41.Room,y_33⟩:Spot)),r_30.2.L,r_30.2.f_at)else some (r_2.1,v_6.2.1,v_6.2.2)).bind fun v_12=>some (v_12.1,(⟨v_12.2.1,v_12.2.2⟩:Stream))
def mk_Stream_RightCampaigns_L1 (k_41:Nat) (x_43:ByteArray) (s_46:(List ByteArray)×(List Int)×Int):Option (Ctl ((List ByteArray)×(List Int)×Int) (Unit)) :=
  (mk_Stream_Flip (⟨s_46.2.1,s_46.2.2⟩:Stream) 4).bind fun r_54=>(bif r_54.1 then (appL s_46.1 ([x_43]:List ByteArray)).bind fun a_61=>some a_61 else some s_46.1).bind fun v_57=>some (.go (v_57,r_54.2.L,r_54.2.f_at))
def mk_Stream_RightCampaigns_L2 (k_5:Nat) (x_7:ByteArray) (s_10:(List Campaign)×(List Int)×Int):Option (Ctl ((List Campaign)×(List Int)×Int) (Unit)) :=
  (mk_Stream_Flip (⟨s_10.2.1,s_10.2.2⟩:Stream) 5).bind fun r_18=>bif r_18.1 then some (.go (s_10.1,r_18.2.L,r_18.2.f_at))else (mk_Stream_Some r_18.2 ([(⟨#[]⟩:ByteArray),(⟨#[]⟩:ByteArray),(⟨#[99,97,114,115]⟩:ByteArray),(⟨#[102,111,111,100]⟩:ByteArray)]:List ByteArray)).bind fun r_22=>(mk_Stream_Pick r_22.2 ([0,0,10,20]:List Int)).bind fun r_25=>(mk_Stream_Pick r_25.2 ([30,50,60,100]:List Int)).bind fun r_28=>(mk_Stream_Pick r_28.2 ([0,1,2,3,4,6]:List Int)).bind fun r_31=>(mk_Stream_Pick r_31.2 ([0,1,2,3,9]:List Int)).bind fun r_34=>(mk_Stream_Pick r_34.2 ([0,500,1000,1500]:List Int)).bind fun r_37=>(forL ([(⟨#[99,105,116,121]⟩:ByteArray),(⟨#[109,97,108,108]⟩:ByteArray)]:List ByteArray) (([]:List ByteArray),r_37.2.L,r_37.2.f_at) (fun k x s=>mk_Stream_RightCampaigns_L1 k x s)).bind fun o_52=>thenC o_52 (fun s_46=>(appL s_10.1 ([(⟨x_7,r_22.1,(⟨r_25.1,r_28.1⟩:Window),s_46.1,r_31.1,r_34.1,r_37.1⟩:Campaign)]:List Campaign)).bind fun a_64=>some (.go (a_64,s_46.2.1,s_46.2.2))) (fun _=>none)
def mk_Stream_RightCampaigns (s_1:Stream) (most_2:Int):Option ((List Campaign)×Stream) :=
  (subL ([(⟨#[99,97]⟩:ByteArray),(⟨#[99,98]⟩:ByteArray),(⟨#[99,99]⟩:ByteArray),(⟨#[99,100]⟩:ByteArray)]:List ByteArray) 0 most_2).bind fun y_3=>(forL y_3 (([]:List Campaign),s_1.L,s_1.f_at) (fun k x s=>mk_Stream_RightCampaigns_L2 k x s)).bind fun o_16=>thenC o_16 (fun s_10=>some (s_10.1,(⟨s_10.2.1,s_10.2.2⟩:Stream))) (fun _=>none)
def mk_Stream_Campaigns (s_1:Stream) (most_2:Int):Option ((List Campaign)×Stream) :=
  (mk_Stream_RightCampaigns s_1 most_2).bind fun r_3=>(bif (decide ((r_3.1.length:Int) > 0))then (mk_Stream_Flip r_3.2 12).bind fun r_10=>some (r_10.1,r_10.2.L,r_10.2.f_at)else some (false,r_3.2.L,r_3.2.f_at)).bind fun v_7=>(bif v_7.1 then (mk_Stream_Next (⟨v_7.2.1,v_7.2.2⟩:Stream) (r_3.1.length:Int)).bind fun r_16=>(inR r_16.1 r_3.1).bind fun _=>(mk_Stream_Next r_16.2 4).bind fun r_20=>bif (r_20.1 == 0)then (r_3.1[(0 + (r_16.1).toNat)]?).bind fun e_24=>(mk_Stream_Some r_20.2 ([e_24.Key,(⟨#[]⟩:ByteArray),(⟨#[99,97]⟩:ByteArray)]:List ByteArray)).bind fun r_26=>(mk_Stream_Some r_26.2 ([(⟨#[]⟩:ByteArray),(⟨#[65]⟩:ByteArray)]:List ByteArray)).bind fun r_29=>(r_3.1[(0 + (r_16.1).toNat)]?).bind fun e_32=>((r_3.1.set (0 + (r_16.1).toNat) (⟨r_26.1,e_32.Class,e_32.Time,e_32.Tags,e_32.Goal,e_32.Most,e_32.Cents⟩:Campaign))[(0 + (r_16.1).toNat)]?).bind fun e_34=>some (((r_3.1.set (0 + (r_16.1).toNat) (⟨r_26.1,e_32.Class,e_32.Time,e_32.Tags,e_32.Goal,e_32.Most,e_32.Cents⟩:Campaign)).set (0 + (r_16.1).toNat) (⟨e_34.Key,r_29.1,e_34.Time,e_34.Tags,e_34.Goal,e_34.Most,e_34.Cents⟩:Campaign)),r_29.2.L,r_29.2.f_at)else bif (r_20.1 == 1)then (mk_Stream_Odd r_20.2 0 60).bind fun r_37=>(r_3.1[(0 + (r_16.1).toNat)]?).bind fun e_40=>some ((r_3.1.set (0 + (r_16.1).toNat) (⟨e_40.Key,e_40.Class,(⟨e_40.Time.From,r_37.1⟩:Window),e_40.Tags,e_40.Goal,e_40.Most,e_40.Cents⟩:Campaign)),r_37.2.L,r_37.2.f_at)else bif (r_20.1 == 2)then (mk_Stream_Odd r_20.2 0 6).bind fun r_43=>(mk_Stream_Odd r_43.2 0 6).bind fun r_46=>(mk_Stream_Odd r_46.2 0 1000).bind fun r_49=>(r_3.1[(0 + (r_16.1).toNat)]?).bind fun e_52=>((r_3.1.set (0 + (r_16.1).toNat) (⟨e_52.Key,e_52.Class,e_52.Time,e_52.Tags,r_43.1,e_52.Most,e_52.Cents⟩:Campaign))[(0 + (r_16.1).toNat)]?).bind fun e_54=>(((r_3.1.set (0 + (r_16.1).toNat) (⟨e_52.Key,e_52.Class,e_52.Time,e_52.Tags,r_43.1,e_52.Most,e_52.Cents⟩:Campaign)).set (0 + (r_16.1).toNat) (⟨e_54.Key,e_54.Class,e_54.Time,e_54.Tags,e_54.Goal,r_46.1,e_54.Cents⟩:Campaign))[(0 + (r_16.1).toNat)]?).bind fun e_56=>some ((((r_3.1.set (0 + (r_16.1).toNat) (⟨e_52.Key,e_52.Class,e_52.Time,e_52.Tags,r_43.1,e_52.Most,e_52.Cents⟩:Campaign)).set (0 + (r_16.1).toNat) (⟨e_54.Key,e_54.Class,e_54.Time,e_54.Tags,e_54.Goal,r_46.1,e_54.Cents⟩:Campaign)).set (0 + (r_16.1).toNat) (⟨e_56.Key,e_56.Class,e_56.Time,e_56.Tags,e_56.Goal,e_56.Most,r_49.1⟩:Campaign)),r_49.2.L,r_49.2.f_at)else (mk_Stream_Next r_20.2 3).bind fun r_58=>(idx ([([(⟨#[98]⟩:ByteArray),(⟨#[97]⟩:ByteArray)]:List ByteArray),([(⟨#[65]⟩:ByteArray)]:List ByteArray),([(⟨#[97]⟩:ByteArray),(⟨#[97]⟩:ByteArray)]:List ByteArray)]:List (List ByteArray)) r_58.1).bind fun y_61=>(r_3.1[(0 + (r_16.1).toNat)]?).bind fun e_63=>some ((r_3.1.set (0 + (r_16.1).toNat) (⟨e_63.Key,e_63.Class,e_63.Time,y_61,e_63.Goal,e_63.Most,e_63.Cents⟩:Campaign)),r_58.2.L,r_58.2.f_at)else some (r_3.1,v_7.2.1,v_7.2.2)).bind fun v_13=>some (v_13.1,(⟨v_13.2.1,v_13.2.2⟩:Stream))
def ref_in (n_1:Int) (low_2:Int) (high_3:Int):Option (Bool) :=
  (bif (decide (low_2≤n_1))then some (decide (n_1≤high_3))else some false).bind fun v_4=>some v_4
def internal_stringslite_IndexByte (s_1:ByteArray) (c_2:Int):Option (Int) :=
  some (ixB s_1 c_2)
def strings_IndexByte (s_1:ByteArray) (c_2:Int):Option (Int) :=
  (internal_stringslite_IndexByte s_1 c_2).bind fun r_3=>some r_3
def ref_only_L1 (s_1:ByteArray) (somev_2:ByteArray) (k_3:Nat) (x_5:Nat) (s_8:Unit):Option (Ctl (Unit) (Bool)) :=
  (idxS s_1 (k_3:Int)).bind fun b_13=>(strings_IndexByte somev_2 (b_13.toNat:Int)).bind fun r_15=>bif (decide (r_15 < 0))then some (.ret false)else some (.go ())
def ref_only (s_1:ByteArray) (somev_2:ByteArray):Option (Bool) :=
  (forL (List.range ((s_1.size:Int)).toNat) () (fun k x s=>ref_only_L1 s_1 somev_2 k x s)).bind fun o_11=>thenC o_11 (fun s_8=>some true) (fun r=>some r)
def ref_Key (s_1:ByteArray):Option (Bool) :=
  ((ref_in (s_1.size:Int) 1 40).bind fun r_4=>bif r_4 then (subS s_1 0 1).bind fun y_7=>(ref_only y_7 (⟨#[97,98,99,100,101,102,103,104,105,106,107,108,109,110,111,112,113,114,115,116,117,118,119,120,121,122]⟩:ByteArray)).bind fun r_9=>bif r_9 then (ref_only s_1 (⟨#[97,98,99,100,101,102,103,104,105,106,107,108,109,110,111,112,113,114,115,116,117,118,119,120,121,122,48,49,50,51,52,53,54,55,56,57,45,95]⟩:ByteArray)).bind fun r_12=>some r_12 else some false else some false).bind fun v_2=>some v_2
def ref_risingFault_L1 (l_1:(List ByteArray)) (k_2:Nat) (x_4:ByteArray) (s_7:Unit):Option (Ctl (Unit) (Int)) :=
  (ref_Key x_4).bind fun r_12=>bif (!r_12)then some (.ret 5)else (bif (decide ((k_2:Int) > 0))then (idx l_1 (w64 ((k_2:Int) - 1))).bind fun y_18=>some (sLe x_4 y_18)else some false).bind fun v_15=>bif v_15 then some (.ret 7)else some (.go ())
def ref_risingFault (l_1:(List ByteArray)):Option (Int) :=
  (forL l_1 () (fun k x s=>ref_risingFault_L1 l_1 k x s)).bind fun o_10=>thenC o_10 (fun s_7=>some 0) (fun r=>some r)
def ref_TagsFault (l_1:(List ByteArray)):Option (Int) :=
  bif (decide ((l_1.length:Int) > 20))then some 2 else (ref_risingFault l_1).bind fun r_3=>some r_3
def ref_SpotsFault_L1 (k_3:Nat) (x_5:Spot) (s_8:ByteArray):Option (Ctl (ByteArray) (Int)) :=
  (ref_Key x_5.Key).bind fun r_14=>bif (!r_14)then some (.ret 5)else bif (sLe x_5.Key s_8)then some (.ret 7)else (bif (decide (x_5.Time.From < 0))then some true else bif (decide (x_5.Time.From≥x_5.Time.To))then some true else bif (decide (x_5.Time.To > 345686400000))then some true else (ref_in x_5.Room 0 1000000).bind fun r_23=>some (!r_23)).bind fun v_18=>bif v_18 then some (.ret 1)else (ref_TagsFault x_5.Tags).bind fun r_26=>bif (r_26 != 0)then some (.ret r_26)else some (.go x_5.Key)
def ref_SpotsFault (l_1:(List Spot)):Option (Int) :=
  bif (decide ((l_1.length:Int) > 60))then some 2 else (forL l_1 (⟨#[]⟩:ByteArray) (fun k x s=>ref_SpotsFault_L1 k x s)).bind fun o_11=>thenC o_11 (fun s_8=>some 0) (fun r=>some r)
def ref_CampaignsFault_L1 (k_3:Nat) (x_5:Campaign) (s_8:ByteArray):Option (Ctl (ByteArray) (Int)) :=
  ((ref_Key x_5.Key).bind fun r_16=>bif (!r_16)then some true else bif (sNe x_5.Class (⟨#[]⟩:ByteArray))then (ref_Key x_5.Class).bind fun r_20=>some (!r_20)else some false).bind fun v_14=>bif v_14 then some (.ret 5)else bif (sLe x_5.Key s_8)then some (.ret 7)else (bif (decide (x_5.Time.From < 0))then some true else bif (decide (x_5.Time.From≥x_5.Time.To))then some true else bif (decide (x_5.Time.To > 345686400000))then some true else (ref_in x_5.Goal 0 1000000).bind fun r_29=>bif (!r_29)then some true else (ref_in x_5.Most 0 1000000).bind fun r_32=>bif (!r_32)then some true else (ref_in x_5.Cents 0 1000000000).bind fun r_35=>some (!r_35)).bind fun v_24=>bif v_24 then some (.ret 1)else (ref_TagsFault x_5.Tags).bind fun r_38=>bif (r_38 != 0)then some (.ret r_38)else some (.go x_5.Key)
def ref_CampaignsFault (l_1:(List Campaign)):Option (Int) :=
  bif (decide ((l_1.length:Int) > 30))then some 2 else (forL l_1 (⟨#[]⟩:ByteArray) (fun k x s=>ref_CampaignsFault_L1 k x s)).bind fun o_11=>thenC o_11 (fun s_8=>some 0) (fun r=>some r)
def law_errs_L1 (k_2:Nat) (x_4:Int) (s_7:Unit):Option (Ctl (Unit) (Int)) :=
  bif (x_4 != 0)then some (.ret x_4)else some (.go ())
def law_errs (l_1:(List Int)):Option (Int) :=
  (forL l_1 () (fun k x s=>law_errs_L1 k x s)).bind fun o_10=>thenC o_10 (fun s_7=>some 0) (fun r=>some r)
def law_office (s_1:Stream):Option ((List Spot)×(List Campaign)×Int×Stream) :=
  (mk_Stream_Spots s_1).bind fun r_2=>(mk_Stream_Campaigns r_2.2 4).bind fun r_5=>(ref_SpotsFault r_2.1).bind fun r_8=>(ref_CampaignsFault r_5.1).bind fun r_10=>(law_errs ([r_8,r_10]:List Int)).bind fun r_12=>some (r_2.1,r_5.1,r_12,r_5.2)
def kit_IsKey_L1 (s_1:ByteArray) (s_7:Int):Option (Ctl (Int) (Bool)) :=
  bif (decide (s_7 < (s_1.size:Int)))then (idxS s_1 s_7).bind fun b_13=>(bif (decide ((b_13.toNat:Int)≥97))then bif (decide ((b_13.toNat:Int)≤122))then some false else bif (decide (s_7 > 0))then bif (decide ((b_13.toNat:Int)≥48))then bif (decide ((b_13.toNat:Int)≤57))then some false else bif ((b_13.toNat:Int) == 45)then some false else some (!((b_13.toNat:Int) == 95))else bif ((b_13.toNat:Int) == 45)then some false else some (!((b_13.toNat:Int) == 95))else some true else bif (decide (s_7 > 0))then bif (decide ((b_13.toNat:Int)≥48))then bif (decide ((b_13.toNat:Int)≤57))then some false else bif ((b_13.toNat:Int) == 45)then some false else some (!((b_13.toNat:Int) == 95))else bif ((b_13.toNat:Int) == 45)then some false else some (!((b_13.toNat:Int) == 95))else some true).bind fun v_15=>bif v_15 then some (.ret false)else some (.go (w64 (s_7 + 1)))else some (.brk s_7)
noncomputable def kit_IsKey (s_1:ByteArray):Option (Bool) :=
  (loopO 0 (fun s=>kit_IsKey_L1 s_1 s)).bind fun o_10=>thenC o_10 (fun s_7=>(bif (sNe s_1 (⟨#[]⟩:ByteArray))then some (decide ((s_1.size:Int)≤40))else some false).bind fun v_30=>some v_30) (fun r=>some r)
def booking_isTime (wv_1:Window):Option (Bool) :=
  (bif (decide (wv_1.From≥0))then bif (decide (wv_1.From < wv_1.To))then some (decide (wv_1.To≤345686400000))else some false else some false).bind fun v_3=>some v_3
def kit_Outside (n_1:Int) (low_2:Int) (high_3:Int):Option (Bool) :=
  (bif (decide (n_1 < low_2))then some true else some (decide (n_1 > high_3))).bind fun v_4=>some v_4
noncomputable def kit_RisingFault_L1 (l_1:(List ByteArray)) (k_2:Nat) (x_4:ByteArray) (s_7:Unit):Option (Ctl (Unit) (Int)) :=
  (kit_IsKey x_4).bind fun r_12=>bif (!r_12)then some (.ret 5)else (bif (decide ((k_2:Int) > 0))then (idx l_1 (w64 ((k_2:Int) - 1))).bind fun y_18=>some (sLe x_4 y_18)else some false).bind fun v_15=>bif v_15 then some (.ret 7)else some (.go ())
noncomputable def kit_RisingFault (l_1:(List ByteArray)):Option (Int) :=
  (forL l_1 () (fun k x s=>kit_RisingFault_L1 l_1 k x s)).bind fun o_10=>thenC o_10 (fun s_7=>some 0) (fun r=>some r)
noncomputable def booking_tagsFault (l_1:(List ByteArray)):Option (Int) :=
  bif (decide ((l_1.length:Int) > 20))then some 2 else (kit_RisingFault l_1).bind fun r_3=>some r_3
noncomputable def booking_CheckSpots_L1 (l_1:(List Spot)) (k_3:Nat) (x_5:Spot) (s_8:Unit):Option (Ctl (Unit) (Int)) :=
  (kit_IsKey x_5.Key).bind fun r_14=>bif (!r_14)then some (.ret 5)else (bif (decide ((k_3:Int) > 0))then (idx l_1 (w64 ((k_3:Int) - 1))).bind fun y_20=>some (sLe x_5.Key y_20.Key)else some false).bind fun v_17=>bif v_17 then some (.ret 7)else ((booking_isTime x_5.Time).bind fun r_25=>bif (!r_25)then some true else (kit_Outside x_5.Room 0 1000000).bind fun r_28=>some r_28).bind fun v_23=>bif v_23 then some (.ret 1)else (booking_tagsFault x_5.Tags).bind fun r_31=>bif (r_31 != 0)then some (.ret r_31)else some (.go ())
noncomputable def booking_CheckSpots (l_1:(List Spot)):Option (Int) :=
  bif (decide ((l_1.length:Int) > 60))then some 2 else (forL l_1 () (fun k x s=>booking_CheckSpots_L1 l_1 k x s)).bind fun o_11=>thenC o_11 (fun s_8=>some 0) (fun r=>some r)
noncomputable def booking_CheckCampaigns_L1 (l_1:(List Campaign)) (k_3:Nat) (x_5:Campaign) (s_8:Unit):Option (Ctl (Unit) (Int)) :=
  ((kit_IsKey x_5.Key).bind fun r_16=>bif (!r_16)then some true else bif (sNe x_5.Class (⟨#[]⟩:ByteArray))then (kit_IsKey x_5.Class).bind fun r_20=>some (!r_20)else some false).bind fun v_14=>bif v_14 then some (.ret 5)else (bif (decide ((k_3:Int) > 0))then (idx l_1 (w64 ((k_3:Int) - 1))).bind fun y_26=>some (sLe x_5.Key y_26.Key)else some false).bind fun v_23=>bif v_23 then some (.ret 7)else ((booking_isTime x_5.Time).bind fun r_31=>bif (!r_31)then some true else (kit_Outside x_5.Goal 0 1000000).bind fun r_34=>bif r_34 then some true else (kit_Outside x_5.Most 0 1000000).bind fun r_37=>bif r_37 then some true else (kit_Outside x_5.Cents 0 1000000000).bind fun r_40=>some r_40).bind fun v_29=>bif v_29 then some (.ret 1)else (booking_tagsFault x_5.Tags).bind fun r_43=>bif (r_43 != 0)then some (.ret r_43)else some (.go ())
noncomputable def booking_CheckCampaigns (l_1:(List Campaign)):Option (Int) :=
  bif (decide ((l_1.length:Int) > 30))then some 2 else (forL l_1 () (fun k x s=>booking_CheckCampaigns_L1 l_1 k x s)).bind fun o_11=>thenC o_11 (fun s_8=>some 0) (fun r=>some r)
noncomputable def booking_checkBoth (spots_1:(List Spot)) (l_2:(List Campaign)):Option (Int) :=
  (booking_CheckSpots spots_1).bind fun r_3=>bif (r_3 != 0)then some r_3 else (booking_CheckCampaigns l_2).bind fun r_6=>some r_6
def booking_Left_1 (o_1:Campaign) (p_2:Campaign):Option (Bool) :=
  some (sEq o_1.Key p_2.Key)
def slices_IndexFunc_api_Campaign_api_Campaign_L1 (f_2:Campaign→Option Bool) (k_3:Nat) (x_5:Campaign) (s_8:Unit):Option (Ctl (Unit) (Int)) :=
  (f_2 x_5).bind fun r_13=>bif r_13 then some (.ret (k_3:Int))else some (.go ())
def slices_IndexFunc_api_Campaign_api_Campaign (s_1:(List Campaign)) (f_2:Campaign→Option Bool):Option (Int) :=
  (forL s_1 () (fun k x s=>slices_IndexFunc_api_Campaign_api_Campaign_L1 f_2 k x s)).bind fun o_11=>thenC o_11 (fun s_8=>some (-1)) (fun r=>some r)
def slices_ContainsFunc_api_Campaign_api_Campaign (s_1:(List Campaign)) (f_2:Campaign→Option Bool):Option (Bool) :=
  (slices_IndexFunc_api_Campaign_api_Campaign s_1 f_2).bind fun r_3=>some (decide (r_3≥0))
def booking_goals_L1 (k_2:Nat) (x_4:Campaign) (s_7:Int):Option (Ctl (Int) (Unit)) :=
  some (.go (w64 (s_7 + x_4.Goal)))
def booking_goals (l_1:(List Campaign)):Option (Int) :=
  (forL l_1 0 (fun k x s=>booking_goals_L1 k x s)).bind fun o_10=>thenC o_10 (fun s_7=>some s_7) (fun _=>none)
def booking_web_camp (wv_1:Web) (i_2:Int):Option (Int) :=
  some (w64 (2 + i_2))
def cmp_isNaN_string (x_1:ByteArray):Option (Bool) :=
  some (sNe x_1 x_1)
def cmp_Less_string (x_1:ByteArray) (y_2:ByteArray):Option (Bool) :=
  ((cmp_isNaN_string x_1).bind fun r_5=>bif r_5 then (cmp_isNaN_string y_2).bind fun r_8=>bif (!r_8)then some true else some (sLt x_1 y_2)else some (sLt x_1 y_2)).bind fun v_3=>some v_3
def slices_isNaN_string (x_1:ByteArray):Option (Bool) :=
  some (sNe x_1 x_1)
def slices_BinarySearch_string_string_L1 (x_1:(List ByteArray)) (target_2:ByteArray) (s_8:Int×Int):Option (Ctl (Int×Int) (Unit)) :=
  bif (decide (s_8.1 < s_8.2))then (shrO .u64 (IntKind.u64.wrap (w64 (s_8.1 + s_8.2))) 1).bind fun q_14=>(idx x_1 (w64 q_14)).bind fun y_16=>(cmp_Less_string y_16 target_2).bind fun r_18=>bif r_18 then some (.go ((w64 ((w64 q_14) + 1)),s_8.2))else some (.go (s_8.1,(w64 q_14)))else some (.brk (s_8.1,s_8.2))
noncomputable def slices_BinarySearch_string_string (x_1:(List ByteArray)) (target_2:ByteArray):Option (Int×Bool) :=
  (loopO (0,(x_1.length:Int)) (fun s=>slices_BinarySearch_string_string_L1 x_1 target_2 s)).bind fun o_11=>thenC o_11 (fun s_8=>(bif (decide (s_8.1 < (x_1.length:Int)))then (idx x_1 s_8.1).bind fun y_24=>bif (sEq y_24 target_2)then some true else (idx x_1 s_8.1).bind fun y_27=>(slices_isNaN_string y_27).bind fun r_29=>bif r_29 then (slices_isNaN_string target_2).bind fun r_32=>some r_32 else some false else some false).bind fun v_21=>some (s_8.1,v_21)) (fun _=>none)
noncomputable def booking_suits_L1 (s_2:Spot) (k_9:Nat) (x_11:ByteArray) (s_14:Unit):Option (Ctl (Unit) (Bool)) :=
  (slices_BinarySearch_string_string s_2.Tags x_11).bind fun r_19=>bif (!r_19.2)then some (.ret false)else some (.go ())
noncomputable def booking_suits (c_1:Campaign) (s_2:Spot):Option (Bool) :=
  (bif (decide (s_2.Time.From < c_1.Time.From))then some true else some (decide (s_2.Time.To > c_1.Time.To))).bind fun v_5=>bif v_5 then some false else (forL c_1.Tags () (fun k x s=>booking_suits_L1 s_2 k x s)).bind fun o_17=>thenC o_17 (fun s_14=>some true) (fun r=>some r)
def booking_web_spot (wv_1:Web) (k_2:Int):Option (Int) :=
  some (w64 ((w64 (2 + wv_1.f_camps)) + k_2))
def booking_newWeb_L1 (spots_1:(List Spot)) (l_2:(List Campaign)) (m_3:Nat) (k_9:Nat) (x_11:Nat) (s_14:(List (List Int))):Option (Ctl ((List (List Int))) (Unit)) :=
  (mkN (w64 ((w64 (2 + (spots_1.length:Int))) + (l_2.length:Int))) 8).bind fun m_21=>(inN (k_9:Int) m_3).bind fun _=>(neL (List.replicate m_21 (0:Int))).bind fun _=>(s_14[(0 + ((k_9:Int)).toNat)]?).bind fun r_26=>some (.go (s_14.set (0 + ((k_9:Int)).toNat) (List.replicate m_21 (0:Int))))
noncomputable def booking_newWeb_L2 (x_30:Campaign) (m_3:Nat) (l_2:(List Campaign)) (k_28:Nat) (k_51:Nat) (x_53:Spot) (s_56:(List (List Int))):Option (Ctl ((List (List Int))) (Unit)) :=
  (booking_suits x_30 x_53).bind fun r_62=>(bif r_62 then (neR s_56).bind fun _=>(lenE s_56 m_3).bind fun _=>(booking_web_camp (⟨s_56,(l_2.length:Int)⟩:Web) (k_28:Int)).bind fun r_67=>(inN r_67 m_3).bind fun _=>(s_56[(0 + (r_67).toNat)]?).bind fun r_72=>(neR s_56).bind fun _=>(lenE s_56 m_3).bind fun _=>(booking_web_spot (⟨s_56,(l_2.length:Int)⟩:Web) (k_51:Int)).bind fun r_74=>(inR r_74 r_72).bind fun _=>(s_56[(0 + (r_67).toNat)]?).bind fun r_79=>(r_79[(0 + (r_74).toNat)]?).bind fun e_81=>some (s_56.set (0 + (r_67).toNat) (r_79.set (0 + (r_74).toNat) x_30.Most))else some s_56).bind fun v_64=>some (.go v_64)
noncomputable def booking_newWeb_L3 (m_3:Nat) (l_2:(List Campaign)) (spots_1:(List Spot)) (k_28:Nat) (x_30:Campaign) (s_33:(List (List Int))):Option (Ctl ((List (List Int))) (Unit)) :=
  (inN 0 m_3).bind fun _=>(s_33[(0 + (0:Int).toNat)]?).bind fun r_40=>(neR s_33).bind fun _=>(lenE s_33 m_3).bind fun _=>(booking_web_camp (⟨s_33,(l_2.length:Int)⟩:Web) (k_28:Int)).bind fun r_42=>(inR r_42 r_40).bind fun _=>(s_33[(0 + (0:Int).toNat)]?).bind fun r_47=>(r_47[(0 + (r_42).toNat)]?).bind fun e_49=>(forL spots_1 (s_33.set (0 + (0:Int).toNat) (r_47.set (0 + (r_42).toNat) x_30.Goal)) (fun k x s=>booking_newWeb_L2 x_30 m_3 l_2 k_28 k x s)).bind fun o_59=>thenC o_59 (fun s_56=>some (.go s_56)) (fun _=>none)
def booking_newWeb_L4 (m_3:Nat) (l_2:(List Campaign)) (k_83:Nat) (x_85:Spot) (s_88:(List (List Int))):Option (Ctl ((List (List Int))) (Unit)) :=
  (neR s_88).bind fun _=>(lenE s_88 m_3).bind fun _=>(booking_web_spot (⟨s_88,(l_2.length:Int)⟩:Web) (k_83:Int)).bind fun r_94=>(inN r_94 m_3).bind fun _=>(s_88[(0 + (r_94).toNat)]?).bind fun r_99=>(inR 1 r_99).bind fun _=>(s_88[(0 + (r_94).toNat)]?).bind fun r_102=>(r_102[(0 + (1:Int).toNat)]?).bind fun e_104=>some (.go (s_88.set (0 + (r_94).toNat) (r_102.set (0 + (1:Int).toNat) x_85.Room)))
noncomputable def booking_newWeb (spots_1:(List Spot)) (l_2:(List Campaign)):Option (Web) :=
  (mkN (w64 ((w64 (2 + (spots_1.length:Int))) + (l_2.length:Int))) 24).bind fun m_3=>(nzI (w64 ((w64 (2 + (spots_1.length:Int))) + (l_2.length:Int)))).bind fun _=>(forL (List.range (((m_3:Nat):Int)).toNat) (List.replicate m_3 ([]:List Int)) (fun k x s=>booking_newWeb_L1 spots_1 l_2 m_3 k x s)).bind fun o_19=>thenC o_19 (fun s_14=>(forL l_2 s_14 (fun k x s=>booking_newWeb_L3 m_3 l_2 spots_1 k x s)).bind fun o_36=>thenC o_36 (fun s_33=>(forL spots_1 s_33 (fun k x s=>booking_newWeb_L4 m_3 l_2 k x s)).bind fun o_91=>thenC o_91 (fun s_88=>(lenE s_88 m_3).bind fun _=>some (⟨s_88,(l_2.length:Int)⟩:Web)) (fun _=>none)) (fun _=>none)) (fun _=>none)
def booking_web_way_L1 (k_7:Nat) (x_9:Nat) (s_12:(List Int)):Option (Ctl ((List Int)) (Unit)) :=
  (inR (k_7:Int) s_12).bind fun _=>(s_12[(0 + ((k_7:Int)).toNat)]?).bind fun e_18=>some (.go (s_12.set (0 + ((k_7:Int)).toNat) (-1)))
def booking_web_way_L2 (r_47:(List Int)) (wv_1:Web) (e_44:Int) (k_49:Nat) (x_51:Nat) (s_54:(List Int)×(List Int)×Nat):Option (Ctl ((List Int)×(List Int)×Nat) (Unit)) :=
  (inR (k_49:Int) r_47).bind fun _=>(wv_1.f_can[(0 + (e_44).toNat)]?).bind fun r_62=>(r_62[(0 + ((k_49:Int)).toNat)]?).bind fun e_64=>(bif (decide (e_64 > 0))then (inR (k_49:Int) s_54.1).bind fun _=>(s_54.1[(0 + ((k_49:Int)).toNat)]?).bind fun e_70=>some (decide (e_70 < 0))else some false).bind fun v_66=>(bif v_66 then (inN 0 (s_54.2.1.length - s_54.2.2)).bind fun _=>(s_54.2.1[(s_54.2.2 + (0:Int).toNat)]?).bind fun e_77=>(inR (k_49:Int) s_54.1).bind fun _=>(s_54.1[(0 + ((k_49:Int)).toNat)]?).bind fun e_80=>(leN s_54.2.2 s_54.2.1.length).bind fun _=>(appL (s_54.2.1.drop s_54.2.2) ([(k_49:Int)]:List Int)).bind fun a_82=>some ((s_54.1.set (0 + ((k_49:Int)).toNat) e_77),a_82,0)else some (s_54.1,s_54.2.1,s_54.2.2)).bind fun v_72=>some (.go (v_72.1,v_72.2.1,v_72.2.2))
def booking_web_way_L3 (tov_3:Int) (wv_1:Web) (s_29:(List Int)×(List Int)×Nat):Option (Ctl ((List Int)×(List Int)×Nat) (Unit)) :=
  (bif (decide ((((s_29.2.1.length - s_29.2.2):Nat):Int) > 0))then (inR tov_3 s_29.1).bind fun _=>(s_29.1[(0 + (tov_3).toNat)]?).bind fun e_40=>some (decide (e_40 < 0))else some false).bind fun v_36=>bif v_36 then (inN 0 (s_29.2.1.length - s_29.2.2)).bind fun _=>(s_29.2.1[(s_29.2.2 + (0:Int).toNat)]?).bind fun e_44=>(inN e_44 wv_1.f_can.length).bind fun _=>(wv_1.f_can[(0 + (e_44).toNat)]?).bind fun r_47=>(forL (List.range ((r_47.length:Int)).toNat) (s_29.1,s_29.2.1,s_29.2.2) (fun k x s=>booking_web_way_L2 r_47 wv_1 e_44 k x s)).bind fun o_59=>thenC o_59 (fun s_54=>(ltN s_54.2.2 s_54.2.1.length).bind fun _=>some (.go (s_54.1,s_54.2.1,(s_54.2.2 + 1)))) (fun _=>none)else some (.brk (s_29.1,s_29.2.1,s_29.2.2))
noncomputable def booking_web_way (wv_1:Web) (fromv_2:Int) (tov_3:Int):Option ((List Int)×Bool) :=
  (mkN ((wv_1.f_can.length:Nat):Int) 8).bind fun m_4=>(forL (List.range (((List.replicate m_4 (0:Int)).length:Int)).toNat) (List.replicate m_4 (0:Int)) (fun k x s=>booking_web_way_L1 k x s)).bind fun o_15=>thenC o_15 (fun s_12=>(inR fromv_2 s_12).bind fun _=>(s_12[(0 + (fromv_2).toNat)]?).bind fun e_21=>(loopO ((s_12.set (0 + (fromv_2).toNat) fromv_2),([fromv_2]:List Int),0) (fun s=>booking_web_way_L3 tov_3 wv_1 s)).bind fun o_34=>thenC o_34 (fun s_29=>(inR tov_3 s_29.1).bind fun _=>(s_29.1[(0 + (tov_3).toNat)]?).bind fun e_88=>some (s_29.1,(decide (e_88≥0)))) (fun _=>none)) (fun _=>none)
def booking_web_flow_L1 (fromv_2:Int) (r_16:(List Int)×Bool) (wv_1:Web) (s_10:(List (List Int))×Int) (s_26:Int×Int):Option (Ctl (Int×Int) (Unit)) :=
  bif (s_26.2 != fromv_2)then (idx r_16.1 s_26.2).bind fun y_32=>(inN y_32 wv_1.f_can.length).bind fun _=>(s_10.1[(0 + (y_32).toNat)]?).bind fun r_35=>(inR s_26.2 r_35).bind fun _=>(s_10.1[(0 + (y_32).toNat)]?).bind fun r_38=>(r_38[(0 + (s_26.2).toNat)]?).bind fun e_40=>(idx r_16.1 s_26.2).bind fun y_42=>some (.go ((minI s_26.1 e_40),y_42))else some (.brk (s_26.1,s_26.2))
def booking_web_flow_L2 (fromv_2:Int) (r_16:(List Int)×Bool) (wv_1:Web) (s_26:Int×Int) (s_49:(List (List Int))×Int):Option (Ctl ((List (List Int))×Int) (Unit)) :=
  bif (s_49.2 != fromv_2)then (idx r_16.1 s_49.2).bind fun y_55=>(inN y_55 wv_1.f_can.length).bind fun _=>(s_49.1[(0 + (y_55).toNat)]?).bind fun r_58=>(inR s_49.2 r_58).bind fun _=>(s_49.1[(0 + (y_55).toNat)]?).bind fun r_61=>(r_61[(0 + (s_49.2).toNat)]?).bind fun e_63=>(inR s_49.2 r_58).bind fun _=>(s_49.1[(0 + (y_55).toNat)]?).bind fun r_66=>(r_66[(0 + (s_49.2).toNat)]?).bind fun e_68=>(inN s_49.2 wv_1.f_can.length).bind fun _=>((s_49.1.set (0 + (y_55).toNat) (r_66.set (0 + (s_49.2).toNat) (w64 (e_63 - s_26.1))))[(0 + (s_49.2).toNat)]?).bind fun r_71=>(idx r_16.1 s_49.2).bind fun y_73=>(inR y_73 r_71).bind fun _=>((s_49.1.set (0 + (y_55).toNat) (r_66.set (0 + (s_49.2).toNat) (w64 (e_63 - s_26.1))))[(0 + (s_49.2).toNat)]?).bind fun r_76=>(r_76[(0 + (y_73).toNat)]?).bind fun e_78=>(inR y_73 r_71).bind fun _=>((s_49.1.set (0 + (y_55).toNat) (r_66.set (0 + (s_49.2).toNat) (w64 (e_63 - s_26.1))))[(0 + (s_49.2).toNat)]?).bind fun r_81=>(r_81[(0 + (y_73).toNat)]?).bind fun e_83=>(idx r_16.1 s_49.2).bind fun y_85=>some (.go (((s_49.1.set (0 + (y_55).toNat) (r_66.set (0 + (s_49.2).toNat) (w64 (e_63 - s_26.1)))).set (0 + (s_49.2).toNat) (r_81.set (0 + (y_73).toNat) (w64 (e_78 + s_26.1)))),y_85))else some (.brk (s_49.1,s_49.2))
noncomputable def booking_web_flow_L3 (most_4:Int) (wv_1:Web) (fromv_2:Int) (tov_3:Int) (s_10:(List (List Int))×Int):Option (Ctl ((List (List Int))×Int) (Unit)) :=
  bif (decide (s_10.2 < most_4))then (neR s_10.1).bind fun _=>(lenE s_10.1 wv_1.f_can.length).bind fun _=>(booking_web_way (⟨s_10.1,wv_1.f_camps⟩:Web) fromv_2 tov_3).bind fun r_16=>bif (!r_16.2)then some (.brk (s_10.1,s_10.2))else (loopO ((w64 (most_4 - s_10.2)),tov_3) (fun s=>booking_web_flow_L1 fromv_2 r_16 wv_1 s_10 s)).bind fun o_29=>thenC o_29 (fun s_26=>(loopO (s_10.1,tov_3) (fun s=>booking_web_flow_L2 fromv_2 r_16 wv_1 s_26 s)).bind fun o_52=>thenC o_52 (fun s_49=>some (.go (s_49.1,(w64 (s_10.2 + s_26.1))))) (fun _=>none)) (fun _=>none)else some (.brk (s_10.1,s_10.2))
noncomputable def booking_web_flow (wv_1:Web) (fromv_2:Int) (tov_3:Int) (most_4:Int):Option (Int×Web) :=
  (loopO (wv_1.f_can,0) (fun s=>booking_web_flow_L3 most_4 wv_1 fromv_2 tov_3 s)).bind fun o_13=>thenC o_13 (fun s_10=>(sameL s_10.1 wv_1.f_can).bind fun _=>some (s_10.2,(⟨s_10.1,wv_1.f_camps⟩:Web))) (fun _=>none)
noncomputable def booking_most (spots_1:(List Spot)) (l_2:(List Campaign)):Option (Int) :=
  (booking_newWeb spots_1 l_2).bind fun r_3=>(neR r_3.f_can).bind fun _=>(neR r_3.f_can).bind fun _=>(lenE r_3.f_can r_3.f_can.length).bind fun _=>(booking_web_flow r_3 0 1 1800000000).bind fun r_9=>(sameL r_9.2.f_can r_3.f_can).bind fun _=>some r_9.1
def slices_Clone_api_Campaign_api_Campaign (s_1:(List Campaign)):Option ((List Campaign)) :=
  (appL [] s_1).bind fun a_4=>some a_4
noncomputable def booking_Left (spots_1:(List Spot)) (l_2:(List Campaign)) (c_3:Campaign):Option (Int×Int) :=
  (booking_checkBoth spots_1 l_2).bind fun r_5=>bif (r_5 != 0)then some (0,r_5)else (booking_CheckCampaigns ([c_3]:List Campaign)).bind fun r_8=>bif (r_8 != 0)then some (0,r_8)else (slices_ContainsFunc_api_Campaign_api_Campaign l_2 (fun x0=>booking_Left_1 x0 c_3)).bind fun r_11=>bif r_11 then some (0,6)else (booking_goals l_2).bind fun r_15=>(booking_most spots_1 l_2).bind fun r_17=>bif (decide (r_17 < r_15))then some (0,12)else (slices_Clone_api_Campaign_api_Campaign l_2).bind fun r_20=>(appL r_20 ([(⟨c_3.Key,c_3.Class,c_3.Time,c_3.Tags,1000000,c_3.Most,c_3.Cents⟩:Campaign)]:List Campaign)).bind fun a_23=>(booking_most spots_1 a_23).bind fun r_26=>some ((w64 (r_26 - r_15)),0)
def slices_Clone_api_Spot_api_Spot (s_1:(List Spot)):Option ((List Spot)) :=
  (appL [] s_1).bind fun a_4=>some a_4
noncomputable def booking_Tight_L1 (spots_1:(List Spot)) (l_2:(List Campaign)) (r_6:Int) (k_8:Nat) (x_10:Spot) (s_13:(List ByteArray)):Option (Ctl ((List ByteArray)) (Unit)) :=
  bif (x_10.Room == 0)then some (.go s_13)else (slices_Clone_api_Spot_api_Spot spots_1).bind fun r_23=>(inR (k_8:Int) r_23).bind fun _=>(r_23[(0 + ((k_8:Int)).toNat)]?).bind fun e_28=>(inR (k_8:Int) r_23).bind fun _=>(r_23[(0 + ((k_8:Int)).toNat)]?).bind fun e_31=>(booking_most (r_23.set (0 + ((k_8:Int)).toNat) (⟨e_31.Key,e_31.Time,(w64 (e_28.Room - 1)),e_31.Tags⟩:Spot)) l_2).bind fun r_33=>(bif (decide (r_33 < r_6))then (appL s_13 ([x_10.Key]:List ByteArray)).bind fun a_39=>some a_39 else some s_13).bind fun v_35=>some (.go v_35)
noncomputable def booking_Tight (spots_1:(List Spot)) (l_2:(List Campaign)):Option ((List ByteArray)×Int) :=
  (booking_checkBoth spots_1 l_2).bind fun r_3=>bif (r_3 != 0)then some (([]:(List ByteArray)),r_3)else (booking_most spots_1 l_2).bind fun r_6=>(forL spots_1 ([]:List ByteArray) (fun k x s=>booking_Tight_L1 spots_1 l_2 r_6 k x s)).bind fun o_19=>thenC o_19 (fun s_13=>some (s_13,0)) (fun _=>none)
noncomputable def booking_Rivals_1 (s_1:Spot) (p_2:Campaign) (p_3:Campaign):Option (Bool) :=
  ((booking_suits p_2 s_1).bind fun r_7=>bif r_7 then (booking_suits p_3 s_1).bind fun r_10=>some r_10 else some false).bind fun v_5=>some v_5
def slices_IndexFunc_api_Spot_api_Spot_L1 (f_2:Spot→Option Bool) (k_3:Nat) (x_5:Spot) (s_8:Unit):Option (Ctl (Unit) (Int)) :=
  (f_2 x_5).bind fun r_13=>bif r_13 then some (.ret (k_3:Int))else some (.go ())
def slices_IndexFunc_api_Spot_api_Spot (s_1:(List Spot)) (f_2:Spot→Option Bool):Option (Int) :=
  (forL s_1 () (fun k x s=>slices_IndexFunc_api_Spot_api_Spot_L1 f_2 k x s)).bind fun o_11=>thenC o_11 (fun s_8=>some (-1)) (fun r=>some r)
def slices_ContainsFunc_api_Spot_api_Spot (s_1:(List Spot)) (f_2:Spot→Option Bool):Option (Bool) :=
  (slices_IndexFunc_api_Spot_api_Spot s_1 f_2).bind fun r_3=>some (decide (r_3≥0))
noncomputable def booking_Rivals_L1 (x_8:Campaign) (spots_1:(List Spot)) (k_22:Nat) (x_24:Campaign) (s_27:(List Pair)):Option (Ctl ((List Pair)) (Unit)) :=
  (bif (sNe x_8.Class (⟨#[]⟩:ByteArray))then bif (sEq x_8.Class x_24.Class)then (slices_ContainsFunc_api_Spot_api_Spot spots_1 (fun x0=>booking_Rivals_1 x0 x_8 x_24)).bind fun r_39=>some r_39 else some false else some false).bind fun v_35=>(bif v_35 then (appL s_27 ([(⟨x_8.Key,x_24.Key⟩:Pair)]:List Pair)).bind fun a_46=>some a_46 else some s_27).bind fun v_42=>some (.go v_42)
noncomputable def booking_Rivals_L2 (l_2:(List Campaign)) (spots_1:(List Spot)) (k_6:Nat) (x_8:Campaign) (s_11:(List Pair)):Option (Ctl ((List Pair)) (Unit)) :=
  (subL l_2 (w64 ((k_6:Int) + 1)) l_2.length).bind fun y_20=>(forL y_20 s_11 (fun k x s=>booking_Rivals_L1 x_8 spots_1 k x s)).bind fun o_32=>thenC o_32 (fun s_27=>some (.go s_27)) (fun _=>none)
noncomputable def booking_Rivals (spots_1:(List Spot)) (l_2:(List Campaign)):Option ((List Pair)×Int) :=
  (booking_checkBoth spots_1 l_2).bind fun r_3=>bif (r_3 != 0)then some (([]:(List Pair)),r_3)else (forL l_2 ([]:List Pair) (fun k x s=>booking_Rivals_L2 l_2 spots_1 k x s)).bind fun o_17=>thenC o_17 (fun s_11=>some (s_11,0)) (fun _=>none)
def law_RoomLeft_1 (y_1:Campaign) (p_2:Campaign):Option (Bool) :=
  some (sEq y_1.Key p_2.Key)
def law_when (is_1:Bool) (e_2:Int):Option (Int) :=
  bif is_1 then some e_2 else some 0
def slices_Index_string_string_L1 (v_2:ByteArray) (k_3:Nat) (x_5:ByteArray) (s_8:Unit):Option (Ctl (Unit) (Int)) :=
  bif (sEq v_2 x_5)then some (.ret (k_3:Int))else some (.go ())
def slices_Index_string_string (s_1:(List ByteArray)) (v_2:ByteArray):Option (Int) :=
  (forL s_1 () (fun k x s=>slices_Index_string_string_L1 v_2 k x s)).bind fun o_11=>thenC o_11 (fun s_8=>some (-1)) (fun r=>some r)
def slices_Contains_string_string (s_1:(List ByteArray)) (v_2:ByteArray):Option (Bool) :=
  (slices_Index_string_string s_1 v_2).bind fun r_3=>some (decide (r_3≥0))
def ref_SuitsOf_1 (t_1:ByteArray) (p_2:Spot):Option (Bool) :=
  (slices_Contains_string_string p_2.Tags t_1).bind fun r_3=>some (!r_3)
def slices_IndexFunc_string_string_L1 (f_2:ByteArray→Option Bool) (k_3:Nat) (x_5:ByteArray) (s_8:Unit):Option (Ctl (Unit) (Int)) :=
  (f_2 x_5).bind fun r_13=>bif r_13 then some (.ret (k_3:Int))else some (.go ())
def slices_IndexFunc_string_string (s_1:(List ByteArray)) (f_2:ByteArray→Option Bool):Option (Int) :=
  (forL s_1 () (fun k x s=>slices_IndexFunc_string_string_L1 f_2 k x s)).bind fun o_11=>thenC o_11 (fun s_8=>some (-1)) (fun r=>some r)
def slices_ContainsFunc_string_string (s_1:(List ByteArray)) (f_2:ByteArray→Option Bool):Option (Bool) :=
  (slices_IndexFunc_string_string s_1 f_2).bind fun r_3=>some (decide (r_3≥0))
def ref_SuitsOf (c_1:Campaign) (s_2:Spot):Option (Bool) :=
  (bif (decide (c_1.Time.From≤s_2.Time.From))then bif (decide (s_2.Time.To≤c_1.Time.To))then (slices_ContainsFunc_string_string c_1.Tags (fun x0=>ref_SuitsOf_1 x0 s_2)).bind fun r_9=>some (!r_9)else some false else some false).bind fun v_5=>some v_5
def ref_greatest_L1 (k_5:Nat) (k_15:Nat) (x_17:Spot) (s_20:Int):Option (Ctl (Int) (Unit)) :=
  (shrO .i64 (k_5:Int) (k_15:Int)).bind fun q_26=>(bif ((andI .i64 q_26 1) == 1)then some (w64 (s_20 + x_17.Room))else some s_20).bind fun v_28=>some (.go v_28)
def ref_greatest_L2 (k_5:Nat) (x_33:Campaign) (k_42:Nat) (x_44:Spot) (s_47:Int):Option (Ctl (Int) (Unit)) :=
  ((shrO .i64 (k_5:Int) (k_42:Int)).bind fun q_55=>bif ((andI .i64 q_55 1) == 0)then (ref_SuitsOf x_33 x_44).bind fun r_58=>some r_58 else some false).bind fun v_53=>(bif v_53 then some (w64 (s_47 + x_33.Most))else some s_47).bind fun v_60=>some (.go v_60)
def ref_greatest_L3 (spots_1:(List Spot)) (k_5:Nat) (k_31:Nat) (x_33:Campaign) (s_36:Int):Option (Ctl (Int) (Unit)) :=
  (forL spots_1 0 (fun k x s=>ref_greatest_L2 k_5 x_33 k x s)).bind fun o_50=>thenC o_50 (fun s_47=>some (.go (w64 (s_36 + (minI x_33.Goal s_47))))) (fun _=>none)
def ref_greatest_L4 (spots_1:(List Spot)) (l_2:(List Campaign)) (k_5:Nat) (x_7:Nat) (s_10:Int):Option (Ctl (Int) (Unit)) :=
  (forL spots_1 0 (fun k x s=>ref_greatest_L1 k_5 k x s)).bind fun o_23=>thenC o_23 (fun s_20=>(forL l_2 s_20 (fun k x s=>ref_greatest_L3 spots_1 k_5 k x s)).bind fun o_39=>thenC o_39 (fun s_36=>(bif (decide (s_10 < 0))then some true else some (decide (s_36 < s_10))).bind fun v_63=>(bif v_63 then some s_36 else some s_10).bind fun v_66=>some (.go v_66)) (fun _=>none)) (fun _=>none)
def ref_greatest (spots_1:(List Spot)) (l_2:(List Campaign)):Option (Int) :=
  (shlO .i64 1 (spots_1.length:Int)).bind fun q_3=>(forL (List.range (q_3).toNat) (-1) (fun k x s=>ref_greatest_L4 spots_1 l_2 k x s)).bind fun o_13=>thenC o_13 (fun s_10=>some s_10) (fun _=>none)
def ref_goals_L1 (k_2:Nat) (x_4:Campaign) (s_7:Int):Option (Ctl (Int) (Unit)) :=
  some (.go (w64 (s_7 + x_4.Goal)))
def ref_goals (l_1:(List Campaign)):Option (Int) :=
  (forL l_1 0 (fun k x s=>ref_goals_L1 k x s)).bind fun o_10=>thenC o_10 (fun s_7=>some s_7) (fun _=>none)
def ref_CanOf (spots_1:(List Spot)) (l_2:(List Campaign)):Option (Bool) :=
  (ref_greatest spots_1 l_2).bind fun r_3=>(ref_goals l_2).bind fun r_5=>some (r_3 == r_5)
def ref_LeftOf (spots_1:(List Spot)) (l_2:(List Campaign)) (c_3:Campaign):Option (Int×Bool) :=
  (ref_CanOf spots_1 l_2).bind fun r_5=>bif (!r_5)then some (0,false)else (slices_Clone_api_Campaign_api_Campaign l_2).bind fun r_8=>(appL r_8 ([(⟨c_3.Key,c_3.Class,c_3.Time,c_3.Tags,1000000,c_3.Most,c_3.Cents⟩:Campaign)]:List Campaign)).bind fun a_11=>(ref_greatest spots_1 a_11).bind fun r_14=>(ref_goals l_2).bind fun r_16=>some ((w64 (r_14 - r_16)),true)
def kit_IsMoment (n_1:Int):Option (Bool) :=
  (bif (decide (n_1≥0))then some (decide (n_1 < 345686400000))else some false).bind fun v_2=>some v_2
def booking_due (c_1:Campaign) (atv_2:Int):Option (Int) :=
  bif (decide (atv_2 < c_1.Time.From))then some 0 else bif (decide (atv_2≥c_1.Time.To))then some c_1.Goal else (quoO .i64 (w64 (c_1.Goal * (w64 (atv_2 - c_1.Time.From)))) (w64 (c_1.Time.To - c_1.Time.From))).bind fun q_6=>some q_6
noncomputable def booking_Due (c_1:Campaign) (atv_2:Int):Option (Int×Int) :=
  (booking_CheckCampaigns ([c_1]:List Campaign)).bind fun r_4=>bif (r_4 != 0)then some (0,r_4)else (kit_IsMoment atv_2).bind fun r_7=>bif (!r_7)then some (0,1)else (booking_due c_1 atv_2).bind fun r_10=>some (r_10,0)
noncomputable def law_booked  : Option (Bool) :=
  (booking_Due (⟨(⟨#[97]⟩:ByteArray),(⟨#[]⟩:ByteArray),(⟨0,100⟩:Window),([]:List ByteArray),10,0,0⟩:Campaign) 50).bind fun r_1=>(bif (r_1.2 == 0)then some (r_1.1 == 5)else some false).bind fun v_3=>some v_3
def ref_TightOf_L1 (spots_1:(List Spot)) (l_2:(List Campaign)) (r_3:Int) (k_5:Nat) (x_7:Spot) (s_10:(List ByteArray)):Option (Ctl ((List ByteArray)) (Unit)) :=
  (slices_Clone_api_Spot_api_Spot spots_1).bind fun r_19=>(inR (k_5:Int) r_19).bind fun _=>(r_19[(0 + ((k_5:Int)).toNat)]?).bind fun e_24=>(inR (k_5:Int) r_19).bind fun _=>(r_19[(0 + ((k_5:Int)).toNat)]?).bind fun e_27=>(bif (decide (x_7.Room > 0))then (ref_greatest (r_19.set (0 + ((k_5:Int)).toNat) (⟨e_27.Key,e_27.Time,(w64 (e_24.Room - 1)),e_27.Tags⟩:Spot)) l_2).bind fun r_32=>some (decide (r_32 < r_3))else some false).bind fun v_29=>(bif v_29 then (appL s_10 ([x_7.Key]:List ByteArray)).bind fun a_38=>some a_38 else some s_10).bind fun v_34=>some (.go v_34)
def ref_TightOf (spots_1:(List Spot)) (l_2:(List Campaign)):Option ((List ByteArray)) :=
  (ref_greatest spots_1 l_2).bind fun r_3=>(forL spots_1 ([]:List ByteArray) (fun k x s=>ref_TightOf_L1 spots_1 l_2 r_3 k x s)).bind fun o_16=>thenC o_16 (fun s_10=>some s_10) (fun _=>none)
def slices_Equal_string_string_L1 (s2_2:(List ByteArray)) (k_4:Nat) (x_6:ByteArray) (s_9:Unit):Option (Ctl (Unit) (Bool)) :=
  (idx s2_2 (k_4:Int)).bind fun y_14=>bif (sNe x_6 y_14)then some (.ret false)else some (.go ())
def slices_Equal_string_string (s1_1:(List ByteArray)) (s2_2:(List ByteArray)):Option (Bool) :=
  bif ((s1_1.length:Int) != (s2_2.length:Int))then some false else (forL s1_1 () (fun k x s=>slices_Equal_string_string_L1 s2_2 k x s)).bind fun o_12=>thenC o_12 (fun s_9=>some true) (fun r=>some r)
def ref_RivalsOf_1 (s_1:Spot) (p_2:Campaign) (p_3:Campaign):Option (Bool) :=
  ((ref_SuitsOf p_2 s_1).bind fun r_7=>bif r_7 then (ref_SuitsOf p_3 s_1).bind fun r_10=>some r_10 else some false).bind fun v_5=>some v_5
def ref_RivalsOf_L1 (x_5:Campaign) (spots_1:(List Spot)) (k_19:Nat) (x_21:Campaign) (s_24:(List Pair)):Option (Ctl ((List Pair)) (Unit)) :=
  (bif (sNe x_5.Class (⟨#[]⟩:ByteArray))then bif (sEq x_5.Class x_21.Class)then (slices_ContainsFunc_api_Spot_api_Spot spots_1 (fun x0=>ref_RivalsOf_1 x0 x_5 x_21)).bind fun r_36=>some r_36 else some false else some false).bind fun v_32=>(bif v_32 then (appL s_24 ([(⟨x_5.Key,x_21.Key⟩:Pair)]:List Pair)).bind fun a_43=>some a_43 else some s_24).bind fun v_39=>some (.go v_39)
def ref_RivalsOf_L2 (l_2:(List Campaign)) (spots_1:(List Spot)) (k_3:Nat) (x_5:Campaign) (s_8:(List Pair)):Option (Ctl ((List Pair)) (Unit)) :=
  (subL l_2 (w64 ((k_3:Int) + 1)) l_2.length).bind fun y_17=>(forL y_17 s_8 (fun k x s=>ref_RivalsOf_L1 x_5 spots_1 k x s)).bind fun o_29=>thenC o_29 (fun s_24=>some (.go s_24)) (fun _=>none)
def ref_RivalsOf (spots_1:(List Spot)) (l_2:(List Campaign)):Option ((List Pair)) :=
  (forL l_2 ([]:List Pair) (fun k x s=>ref_RivalsOf_L2 l_2 spots_1 k x s)).bind fun o_14=>thenC o_14 (fun s_8=>some s_8) (fun _=>none)
def slices_Equal_api_Pair_api_Pair_L1 (s2_2:(List Pair)) (k_4:Nat) (x_6:Pair) (s_9:Unit):Option (Ctl (Unit) (Bool)) :=
  (idx s2_2 (k_4:Int)).bind fun y_14=>bif (!((x_6.Name.toList == y_14.Name.toList) && ((x_6.Value.toList == y_14.Value.toList) && true)))then some (.ret false)else some (.go ())
def slices_Equal_api_Pair_api_Pair (s1_1:(List Pair)) (s2_2:(List Pair)):Option (Bool) :=
  bif ((s1_1.length:Int) != (s2_2.length:Int))then some false else (forL s1_1 () (fun k x s=>slices_Equal_api_Pair_api_Pair_L1 s2_2 k x s)).bind fun o_12=>thenC o_12 (fun s_9=>some true) (fun r=>some r)
noncomputable def law_RoomLeft (l_1:(List Int)):Option (Bool) :=
  (law_office (⟨l_1,0⟩:Stream)).bind fun r_3=>(mk_Stream_Some r_3.2.2.2 ([(⟨#[99,101]⟩:ByteArray),(⟨#[99,101]⟩:ByteArray),(⟨#[99,101]⟩:ByteArray),(⟨#[99,97]⟩:ByteArray),(⟨#[]⟩:ByteArray)]:List ByteArray)).bind fun r_6=>(mk_Stream_Pick r_6.2 ([0,10]:List Int)).bind fun r_9=>(mk_Stream_Pick r_9.2 ([30,100,5]:List Int)).bind fun r_12=>(mk_Stream_Pick r_12.2 ([1,2,9]:List Int)).bind fun r_15=>(mk_Stream_Pick r_15.2 ([0,5]:List Int)).bind fun r_18=>(booking_Left r_3.1 r_3.2.1 (⟨r_6.1,(⟨#[]⟩:ByteArray),(⟨r_9.1,r_12.1⟩:Window),([]:List ByteArray),r_18.1,r_15.1,0⟩:Campaign)).bind fun r_22=>(booking_Tight r_3.1 r_3.2.1).bind fun r_24=>(booking_Rivals r_3.1 r_3.2.1).bind fun r_26=>(ref_CampaignsFault ([(⟨r_6.1,(⟨#[]⟩:ByteArray),(⟨r_9.1,r_12.1⟩:Window),([]:List ByteArray),r_18.1,r_15.1,0⟩:Campaign)]:List Campaign)).bind fun r_28=>(slices_ContainsFunc_api_Campaign_api_Campaign r_3.2.1 (fun x0=>law_RoomLeft_1 x0 (⟨r_6.1,(⟨#[]⟩:ByteArray),(⟨r_9.1,r_12.1⟩:Window),([]:List ByteArray),r_18.1,r_15.1,0⟩:Campaign))).bind fun r_30=>(law_when r_30 6).bind fun r_33=>(law_errs ([r_3.2.2.1,r_28,r_33]:List Int)).bind fun r_35=>(bif (r_35 == 0)then (ref_LeftOf r_3.1 r_3.2.1 (⟨r_6.1,(⟨#[]⟩:ByteArray),(⟨r_9.1,r_12.1⟩:Window),([]:List ByteArray),r_18.1,r_15.1,0⟩:Campaign)).bind fun r_40=>(law_when (!r_40.2) 12).bind fun r_42=>some (r_42,r_40.1)else some (r_35,0)).bind fun v_37=>(bif (r_22.2 != v_37.1)then some true else bif (r_22.1 != v_37.2)then some true else bif (r_24.2 != r_3.2.2.1)then some true else some (r_26.2 != r_3.2.2.1)).bind fun v_44=>bif v_44 then some false else bif (r_3.2.2.1 != 0)then (bif ((w64 ((r_24.1.length:Int) + (r_26.1.length:Int))) == 0)then (law_booked).bind fun r_54=>some r_54 else some false).bind fun v_51=>some v_51 else ((ref_TightOf r_3.1 r_3.2.1).bind fun r_58=>(slices_Equal_string_string r_24.1 r_58).bind fun r_60=>bif r_60 then (ref_RivalsOf r_3.1 r_3.2.1).bind fun r_63=>(slices_Equal_api_Pair_api_Pair r_26.1 r_63).bind fun r_65=>bif r_65 then (law_booked).bind fun r_68=>some r_68 else some false else some false).bind fun v_56=>some v_56
end Go.Proofs.Ytipjpkpmkijdoab.Law

