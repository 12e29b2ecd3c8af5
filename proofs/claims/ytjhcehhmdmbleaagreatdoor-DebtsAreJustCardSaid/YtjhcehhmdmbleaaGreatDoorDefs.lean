/-
  The functions of the program, as plain functions over data (written by a program of ours).
-/
import Derived.Test.YtjhcehhmdmbleaaGreatDoorEng5
open Go Go.Eng
namespace Go.Proofs.YtjhcehhmdmbleaaGreatDoor.Law
set_option maxRecDepth 100000
set_option linter.unusedVariables false
set_option maxHeartbeats 1000000
structure Stream where
  L:(List Int)
  f_at:Int
def Stream.enc (s:Stream):List D := [dl eI s.L,.int .i64 s.f_at]

structure Rect where
  X:Int
  Y:Int
  W:Int
  H:Int
def Rect.enc (s:Rect):List D := [.int .i64 s.X,.int .i64 s.Y,.int .i64 s.W,.int .i64 s.H]

structure Alert where
  Id:ByteArray
  Sender:ByteArray
  Kind:Int
  Refs:(List ByteArray)
  At:Int
  Until:Int
  Weight:Int
  Areas:(List Rect)
  Text:ByteArray
def Alert.enc (s:Alert):List D := [.str s.Id,.str s.Sender,.int .i64 s.Kind,dl eS s.Refs,.int .i64 s.At,.int .i64 s.Until,.int .i64 s.Weight,dl Rect.enc s.Areas,.str s.Text]

structure Post where
  Player:ByteArray
  X:Int
  Y:Int
def Post.enc (s:Post):List D := [.str s.Player,.int .i64 s.X,.int .i64 s.Y]

structure Receipt where
  Player:ByteArray
  Alert:ByteArray
  At:Int
  Seen:Bool
def Receipt.enc (s:Receipt):List D := [.str s.Player,.str s.Alert,.int .i64 s.At,.bool s.Seen]

structure Debt where
  Player:ByteArray
  Alert:ByteArray
  Due:Int
  Got:Int
def Debt.enc (s:Debt):List D := [.str s.Player,.str s.Alert,.int .i64 s.Due,.int .i64 s.Got]

structure Pair where
  f_player:ByteArray
  f_alert:ByteArray
def Pair.enc (s:Pair):List D := [.str s.f_player,.str s.f_alert]

structure Run where
  f_from:Int
  f_to:Int
def Run.enc (s:Run):List D := [.int .i64 s.f_from,.int .i64 s.f_to]

structure Entry where
  Key:ByteArray
  Item:ByteArray
  Version:Int
  First:Int
  Last:Int
  Every:Int
  Days:Int
  Except:(List Int)
  From:Int
  To:Int
  Prio:Int
  Tags:(List ByteArray)
  Gone:Bool
def Entry.enc (s:Entry):List D := [.str s.Key,.str s.Item,.int .i64 s.Version,.int .i64 s.First,.int .i64 s.Last,.int .i64 s.Every,.int .i64 s.Days,dl eI s.Except,.int .i64 s.From,.int .i64 s.To,.int .i64 s.Prio,dl eS s.Tags,.bool s.Gone]

structure Window where
  From:Int
  To:Int
def Window.enc (s:Window):List D := [.int .i64 s.From,.int .i64 s.To]

structure Campaign where
  Key:ByteArray
  Class:ByteArray
  Time:Window
  Tags:(List ByteArray)
  Goal:Int
  Most:Int
  Cents:Int
def Campaign.enc (s:Campaign):List D := [.str s.Key,.str s.Class,.int .i64 s.Time.From,.int .i64 s.Time.To,dl eS s.Tags,.int .i64 s.Goal,.int .i64 s.Most,.int .i64 s.Cents]

structure Beat where
  Player:ByteArray
  At:Int
  Clock:Int
def Beat.enc (s:Beat):List D := [.str s.Player,.int .i64 s.At,.int .i64 s.Clock]

structure Beat_ where
  f_from:Int
  f_to:Int
def Beat_.enc (s:Beat_):List D := [.int .i64 s.f_from,.int .i64 s.f_to]

structure Screen where
  Key:ByteArray
  On:Rect
def Screen.enc (s:Screen):List D := [.str s.Key,.int .i64 s.On.X,.int .i64 s.On.Y,.int .i64 s.On.W,.int .i64 s.On.H]

structure Zone where
  Key:ByteArray
  On:Rect
  Order:Int
def Zone.enc (s:Zone):List D := [.str s.Key,.int .i64 s.On.X,.int .i64 s.On.Y,.int .i64 s.On.W,.int .i64 s.On.H,.int .i64 s.Order]

structure Player where
  Key:ByteArray
  Screen:ByteArray
  Zone:Int
  Tags:(List ByteArray)
def Player.enc (s:Player):List D := [.str s.Key,.str s.Screen,.int .i64 s.Zone,dl eS s.Tags]

structure Slot_ where
  Time:Window
  Entry:ByteArray
def Slot_.enc (s:Slot_):List D := [.int .i64 s.Time.From,.int .i64 s.Time.To,.str s.Entry]

def qC (x_1:Int) (n_2:Int):Option (Int) :=
  bif (decide (n_2 < 1))then some 0 else (EX .i64 x_1 n_2).bind fun q_4=>(bif (decide (q_4 < 0))then some (w64 (q_4 + n_2))else some q_4).bind fun v_6=>some v_6
def gP (s_1:Stream) (n_2:Int):Option (Int×Stream) :=
  bif ((s_1.L.length:Int) == 0)then (qC (w64 ((w64 (s_1.f_at + 1)) * 7919)) n_2).bind fun r_4=>some (r_4,(⟨s_1.L,(w64 (s_1.f_at + 1))⟩:Stream))else (EX .i64 (w64 ((w64 (s_1.f_at + 1)) - 1)) (s_1.L.length:Int)).bind fun q_6=>(GD .i64 (w64 ((w64 (s_1.f_at + 1)) - 1)) (s_1.L.length:Int)).bind fun q_8=>(idx s_1.L q_6).bind fun y_10=>(qC y_10 1073741824).bind fun r_12=>(qC (w64 (r_12 + (w64 (q_8 * (w64 (7919 + q_6)))))) n_2).bind fun r_14=>some (r_14,(⟨s_1.L,(w64 (s_1.f_at + 1))⟩:Stream))
def bJ (s_1:Stream) (low_2:Int) (high_3:Int):Option (Int×Stream) :=
  bif (decide (high_3 < low_2))then some (low_2,s_1)else (gP s_1 (w64 ((w64 (high_3 - low_2)) + 1))).bind fun r_5=>some ((w64 (low_2 + r_5.1)),r_5.2)
def gU (s_1:Stream) (l_2:(List ByteArray)):Option (ByteArray×Stream) :=
  (gP s_1 (l_2.length:Int)).bind fun r_3=>(idx l_2 r_3.1).bind fun y_6=>some (y_6,r_3.2)
def iH (s_1:Stream) (l_2:(List Int)):Option (Int×Stream) :=
  (gP s_1 (l_2.length:Int)).bind fun r_3=>(idx l_2 r_3.1).bind fun y_6=>some (y_6,r_3.2)
def iO (s_1:Stream) (n_2:Int):Option (Bool×Stream) :=
  (gP s_1 n_2).bind fun r_3=>some ((r_3.1 == 0),r_3.2)
def iq (s_1:Stream):Option (Rect×Stream) :=
  (bJ s_1 (-2) 8).bind fun r_3=>(bJ r_3.2 (-2) 8).bind fun r_6=>(bJ r_6.2 1 5).bind fun r_9=>(bJ r_9.2 1 5).bind fun r_12=>some ((⟨r_3.1,r_6.1,r_9.1,r_12.1⟩:Rect),r_12.2)
def ko (a_1:Alert) (b_2:Alert):Option (Int) :=
  bif (a_1.At != b_2.At)then some (w64 (a_1.At - b_2.At))else bif (sLt a_1.Id b_2.Id)then some (-1)else some 1
def pg (x_1:Int):Option (Int) :=
  (bif (decide (x_1≥4294967296))then (IL .u64 x_1 32).bind fun q_5=>some (q_5,32)else some (x_1,0)).bind fun v_2=>(bif (decide (v_2.1≥65536))then (IL .u64 v_2.1 16).bind fun q_10=>some (q_10,(w64 (v_2.2 + 16)))else some (v_2.1,v_2.2)).bind fun v_7=>(bif (decide (v_7.1≥256))then (IL .u64 v_7.1 8).bind fun q_15=>some (q_15,(w64 (v_7.2 + 8)))else some (v_7.1,v_7.2)).bind fun v_12=>(oH (⟨#[0,1,2,2,3,3,3,3,4,4,4,4,4,4,4,4,5,5,5,5,5,5,5,5,5,5,5,5,5,5,5,5,6,6,6,6,6,6,6,6,6,6,6,6,6,6,6,6,6,6,6,6,6,6,6,6,6,6,6,6,6,6,6,6,7,7,7,7,7,7,7,7,7,7,7,7,7,7,7,7,7,7,7,7,7,7,7,7,7,7,7,7,7,7,7,7,7,7,7,7,7,7,7,7,7,7,7,7,7,7,7,7,7,7,7,7,7,7,7,7,7,7,7,7,7,7,7,7,8,8,8,8,8,8,8,8,8,8,8,8,8,8,8,8,8,8,8,8,8,8,8,8,8,8,8,8,8,8,8,8,8,8,8,8,8,8,8,8,8,8,8,8,8,8,8,8,8,8,8,8,8,8,8,8,8,8,8,8,8,8,8,8,8,8,8,8,8,8,8,8,8,8,8,8,8,8,8,8,8,8,8,8,8,8,8,8,8,8,8,8,8,8,8,8,8,8,8,8,8,8,8,8,8,8,8,8,8,8,8,8,8,8,8,8,8,8,8,8,8,8,8,8,8,8,8,8]⟩:ByteArray) (IntKind.u8.wrap v_12.1)).bind fun b_17=>some (w64 (v_12.2 + (w64 (b_17.toNat:Int))))
def iA (x_1:Int):Option (Int) :=
  (pg x_1).bind fun r_2=>some r_2
def dx (a_2:Int) (s_21:(List Alert)×Int):Option (Ctl ((List Alert)×Int) (Unit)) :=
  (bif (decide (s_21.2 > a_2))then (inR s_21.2 s_21.1).bind fun _=>(s_21.1[(0 + (s_21.2).toNat)]?).bind fun e_30=>(inR (w64 (s_21.2 - 1)) s_21.1).bind fun _=>(s_21.1[(0 + ((w64 (s_21.2 - 1))).toNat)]?).bind fun e_33=>(ko e_30 e_33).bind fun r_35=>some (decide (r_35 < 0))else some false).bind fun v_26=>bif v_26 then (inR (w64 (s_21.2 - 1)) s_21.1).bind fun _=>(s_21.1[(0 + ((w64 (s_21.2 - 1))).toNat)]?).bind fun e_39=>(inR s_21.2 s_21.1).bind fun _=>(s_21.1[(0 + (s_21.2).toNat)]?).bind fun e_42=>(inR s_21.2 s_21.1).bind fun _=>(s_21.1[(0 + (s_21.2).toNat)]?).bind fun e_45=>(inR (w64 (s_21.2 - 1)) (s_21.1.set (0 + (s_21.2).toNat) e_39)).bind fun _=>((s_21.1.set (0 + (s_21.2).toNat) e_39)[(0 + ((w64 (s_21.2 - 1))).toNat)]?).bind fun e_48=>some (.go (((s_21.1.set (0 + (s_21.2).toNat) e_39).set (0 + ((w64 (s_21.2 - 1))).toNat) e_42),(w64 (s_21.2 - 1))))else some (.brk (s_21.1,s_21.2))
noncomputable def dA (b_3:Int) (a_2:Int) (s_10:(List Alert)×Int):Option (Ctl ((List Alert)×Int) (Unit)) :=
  bif (decide (s_10.2 < b_3))then (iB (s_10.1,s_10.2) (fun s=>dx a_2 s)).bind fun o_24=>thenC o_24 (fun s_21=>some (.go (s_21.1,(w64 (s_10.2 + 1))))) (fun _=>none)else some (.brk (s_10.1,s_10.2))
noncomputable def dL (data_1:(List Alert)) (a_2:Int) (b_3:Int):Option ((List Alert)) :=
  (iB (data_1,(w64 (a_2 + 1))) (fun s=>dA b_3 a_2 s)).bind fun o_13=>thenC o_13 (fun s_10=>some s_10.1) (fun _=>none)
noncomputable def d9 (b_3:Int) (a_2:Int) (data_1:(List Alert)) (limit_4:Int) (s_11:Unit):Option (Ctl (Unit) ((List Alert))) :=
  bif (decide ((w64 (b_3 - a_2))≤12))then (dL data_1 a_2 b_3).bind fun r_17=>(kJ r_17 data_1).bind fun _=>some (.ret r_17)else bif (limit_4 == 0)then none else none
noncomputable def eY (data_1:(List Alert)) (a_2:Int) (b_3:Int) (limit_4:Int):Option ((List Alert)) :=
  (iB () (fun s=>d9 b_3 a_2 data_1 limit_4 s)).bind fun o_14=>thenC o_14 (fun s_11=>some data_1) (fun r=>some r)
noncomputable def bS (x_1:(List Alert)):Option ((List Alert)) :=
  (iA (IntKind.u64.wrap (x_1.length:Int))).bind fun r_3=>(eY x_1 0 (x_1.length:Int) r_3).bind fun r_5=>(kJ r_5 x_1).bind fun _=>some r_5
def cZ (x_10:ByteArray) (k_45:Nat) (x_47:ByteArray) (s_50:(List ByteArray)×(List Int)×Int):Option (Ctl ((List ByteArray)×(List Int)×Int) (Unit)) :=
  (bif (sNe x_47 x_10)then (iO (⟨s_50.2.1,s_50.2.2⟩:Stream) 3).bind fun r_61=>some (r_61.1,r_61.2.L,r_61.2.f_at)else some (false,s_50.2.1,s_50.2.2)).bind fun v_58=>(bif v_58.1 then (nJ s_50.1 ([x_47]:List ByteArray)).bind fun a_68=>some a_68 else some s_50.1).bind fun v_64=>some (.go (v_64,v_58.2.1,v_58.2.2))
def cO (k_85:Nat) (x_87:Nat) (s_90:(List Rect)×(List Int)×Int):Option (Ctl ((List Rect)×(List Int)×Int) (Unit)) :=
  (iq (⟨s_90.2.1,s_90.2.2⟩:Stream)).bind fun r_97=>(nJ s_90.1 ([r_97.1]:List Rect)).bind fun a_100=>some (.go (a_100,r_97.2.L,r_97.2.f_at))
def dK (k_8:Nat) (x_10:ByteArray) (s_13:(List Alert)×(List Int)×Int):Option (Ctl ((List Alert)×(List Int)×Int) (Unit)) :=
  (gU (⟨s_13.2.1,s_13.2.2⟩:Stream) ([(⟨#[119,120]⟩:ByteArray),(⟨#[119,120]⟩:ByteArray),(⟨#[102,105,114,101]⟩:ByteArray)]:List ByteArray)).bind fun r_21=>(iH r_21.2 ([1,1,2,2,3]:List Int)).bind fun r_24=>(bJ r_24.2 0 6).bind fun r_27=>(iH r_27.2 ([1,5,5,9]:List Int)).bind fun r_30=>(gU r_30.2 ([(⟨#[102,108,111,111,100]⟩:ByteArray),(⟨#[102,105,114,101,32,105,110,32,116,104,101,32,109,97,108,108]⟩:ByteArray)]:List ByteArray)).bind fun r_33=>(iH r_33.2 ([1,10,20,50]:List Int)).bind fun r_37=>(bif (r_24.1 != 1)then (forL ([(⟨#[97,97]⟩:ByteArray),(⟨#[97,98]⟩:ByteArray),(⟨#[97,99]⟩:ByteArray),(⟨#[97,100]⟩:ByteArray),(⟨#[122,122]⟩:ByteArray)]:List ByteArray) (([]:List ByteArray),r_37.2.L,r_37.2.f_at) (fun k x s=>cZ x_10 k x s)).bind fun o_56=>thenC o_56 (fun s_50=>bif ((s_50.1.length:Int) == 0)then some (s_50.2.1,s_50.2.2,([(⟨#[122,121]⟩:ByteArray)]:List ByteArray))else some (s_50.2.1,s_50.2.2,s_50.1)) (fun _=>none)else some (r_37.2.L,r_37.2.f_at,([]:List ByteArray))).bind fun v_42=>(bif (r_24.1 == 3)then (gU (⟨v_42.1,v_42.2.1⟩:Stream) ([(⟨#[]⟩:ByteArray),(⟨#[111,118,101,114]⟩:ByteArray)]:List ByteArray)).bind fun r_79=>some (([]:List Rect),r_79.2.L,r_79.2.f_at,r_79.1)else (bJ (⟨v_42.1,v_42.2.1⟩:Stream) 1 2).bind fun r_82=>(forL (List.range (r_82.1).toNat) (([]:List Rect),r_82.2.L,r_82.2.f_at) (fun k x s=>cO k x s)).bind fun o_95=>thenC o_95 (fun s_90=>some (s_90.1,s_90.2.1,s_90.2.2,r_33.1)) (fun _=>none)).bind fun v_75=>(nJ s_13.1 ([(⟨x_10,r_21.1,r_24.1,v_42.2.2,(w64 (r_27.1 * 5)),(w64 ((w64 (r_27.1 * 5)) + r_37.1)),r_30.1,v_75.1,v_75.2.2.2⟩:Alert)]:List Alert)).bind fun a_103=>some (.go (a_103,v_75.2.1,v_75.2.2.1))
noncomputable def gp (s_1:Stream) (most_2:Int):Option ((List Alert)×Stream) :=
  (bJ s_1 0 most_2).bind fun r_3=>(Dm ([(⟨#[97,97]⟩:ByteArray),(⟨#[97,98]⟩:ByteArray),(⟨#[97,99]⟩:ByteArray),(⟨#[97,100]⟩:ByteArray),(⟨#[97,101]⟩:ByteArray),(⟨#[97,102]⟩:ByteArray)]:List ByteArray) 0 r_3.1).bind fun y_6=>(forL y_6 (([]:List Alert),r_3.2.L,r_3.2.f_at) (fun k x s=>dK k x s)).bind fun o_19=>thenC o_19 (fun s_13=>(bS s_13.1).bind fun r_106=>(kJ r_106 s_13.1).bind fun _=>some (r_106,(⟨s_13.2.1,s_13.2.2⟩:Stream))) (fun _=>none)
def dS (k_2:Nat) (x_4:ByteArray) (s_7:(List Post)×(List Int)×Int):Option (Ctl ((List Post)×(List Int)×Int) (Unit)) :=
  (iO (⟨s_7.2.1,s_7.2.2⟩:Stream) 5).bind fun r_15=>(bif (!r_15.1)then (bJ r_15.2 (-2) 10).bind fun r_22=>(bJ r_22.2 (-2) 10).bind fun r_25=>(nJ s_7.1 ([(⟨x_4,r_22.1,r_25.1⟩:Post)]:List Post)).bind fun a_28=>some (a_28,r_25.2.L,r_25.2.f_at)else some (s_7.1,r_15.2.L,r_15.2.f_at)).bind fun v_18=>some (.go (v_18.1,v_18.2.1,v_18.2.2))
def gQ (s_1:Stream):Option ((List Post)×Stream) :=
  (forL ([(⟨#[112,97]⟩:ByteArray),(⟨#[112,98]⟩:ByteArray),(⟨#[112,99]⟩:ByteArray)]:List ByteArray) (([]:List Post),s_1.L,s_1.f_at) (fun k x s=>dS k x s)).bind fun o_13=>thenC o_13 (fun s_7=>some (s_7.1,(⟨s_7.2.1,s_7.2.2⟩:Stream))) (fun _=>none)
def jf (s_1:ByteArray) (s_7:Int):Option (Ctl (Int) (Bool)) :=
  bif (decide (s_7 < (s_1.size:Int)))then (oH s_1 s_7).bind fun b_13=>(bif (decide ((b_13.toNat:Int)≥97))then bif (decide ((b_13.toNat:Int)≤122))then some false else bif (decide (s_7 > 0))then bif (decide ((b_13.toNat:Int)≥48))then bif (decide ((b_13.toNat:Int)≤57))then some false else bif ((b_13.toNat:Int) == 45)then some false else some (!((b_13.toNat:Int) == 95))else bif ((b_13.toNat:Int) == 45)then some false else some (!((b_13.toNat:Int) == 95))else some true else bif (decide (s_7 > 0))then bif (decide ((b_13.toNat:Int)≥48))then bif (decide ((b_13.toNat:Int)≤57))then some false else bif ((b_13.toNat:Int) == 45)then some false else some (!((b_13.toNat:Int) == 95))else bif ((b_13.toNat:Int) == 45)then some false else some (!((b_13.toNat:Int) == 95))else some true).bind fun v_15=>bif v_15 then some (.ret false)else some (.go (w64 (s_7 + 1)))else some (.brk s_7)
noncomputable def kit_IsKey (s_1:ByteArray):Option (Bool) :=
  (iB 0 (fun s=>jf s_1 s)).bind fun o_10=>thenC o_10 (fun s_7=>(bif (sNe s_1 (⟨#[]⟩:ByteArray))then some (decide ((s_1.size:Int)≤40))else some false).bind fun v_30=>some v_30) (fun r=>some r)
def aN (n_1:Int) (low_2:Int) (high_3:Int):Option (Bool) :=
  (bif (decide (n_1 < low_2))then some true else some (decide (n_1 > high_3))).bind fun v_4=>some v_4
noncomputable def eZ (a_1:Alert) (k_4:Nat) (x_6:ByteArray) (s_9:Unit):Option (Ctl (Unit) (Int)) :=
  (kit_IsKey x_6).bind fun r_14=>bif (!r_14)then some (.ret 5)else (bif (decide ((k_4:Int) > 0))then (idx a_1.Refs (w64 ((k_4:Int) - 1))).bind fun y_20=>some (sLe x_6 y_20)else some false).bind fun v_17=>bif v_17 then some (.ret 7)else bif (sEq x_6 a_1.Id)then some (.ret 14)else some (.go ())
noncomputable def gZ (a_1:Alert):Option (Int) :=
  bif (decide ((a_1.Refs.length:Int) > 20))then some 2 else (forL a_1.Refs () (fun k x s=>eZ a_1 k x s)).bind fun o_12=>thenC o_12 (fun s_9=>bif (!((a_1.Kind == 1) == ((a_1.Refs.length:Int) == 0)))then some 3 else some 0) (fun r=>some r)
def bW (n_1:Int):Option (Bool) :=
  (bif (decide (n_1≥0))then some (decide (n_1 < 345686400000))else some false).bind fun v_2=>some v_2
def gu (r_1:Rect):Option (Int) :=
  ((aN r_1.X (-100000) 100000).bind fun r_5=>bif r_5 then some true else (aN r_1.Y (-100000) 100000).bind fun r_8=>some r_8).bind fun v_3=>bif v_3 then some 1 else ((aN r_1.W 1 (w64 (100000 - r_1.X))).bind fun r_13=>bif r_13 then some true else (aN r_1.H 1 (w64 (100000 - r_1.Y))).bind fun r_16=>some r_16).bind fun v_11=>bif v_11 then some 1 else some 0
def bf (s_1:ByteArray):Option (Int) :=
  (oH s_1 0).bind fun b_2=>(oH s_1 1).bind fun b_4=>(AY .u64 (IntKind.u64.wrap (b_4.toNat:Int)) 8).bind fun q_6=>(oH s_1 2).bind fun b_8=>(AY .u64 (IntKind.u64.wrap (b_8.toNat:Int)) 16).bind fun q_10=>(oH s_1 3).bind fun b_12=>(AY .u64 (IntKind.u64.wrap (b_12.toNat:Int)) 24).bind fun q_14=>(oH s_1 4).bind fun b_16=>(AY .u64 (IntKind.u64.wrap (b_16.toNat:Int)) 32).bind fun q_18=>(oH s_1 5).bind fun b_20=>(AY .u64 (IntKind.u64.wrap (b_20.toNat:Int)) 40).bind fun q_22=>(oH s_1 6).bind fun b_24=>(AY .u64 (IntKind.u64.wrap (b_24.toNat:Int)) 48).bind fun q_26=>(oH s_1 7).bind fun b_28=>(AY .u64 (IntKind.u64.wrap (b_28.toNat:Int)) 56).bind fun q_30=>some (orI .u64 (orI .u64 (orI .u64 (orI .u64 (orI .u64 (orI .u64 (orI .u64 (IntKind.u64.wrap (b_2.toNat:Int)) q_6) q_10) q_14) q_18) q_22) q_26) q_30)
def fF (s_45:ByteArray):Option (Ctl (ByteArray) (Unit)) :=
  (bif (decide ((s_45.size:Int) > 32))then (bf s_45).bind fun r_53=>(su s_45 8 s_45.size).bind fun y_55=>(bf y_55).bind fun r_57=>(su s_45 16 s_45.size).bind fun y_59=>(bf y_59).bind fun r_61=>(su s_45 24 s_45.size).bind fun y_63=>(bf y_63).bind fun r_65=>some ((tN .u64 (orI .u64 (orI .u64 r_53 r_57) (orI .u64 r_61 r_65)) 9259542123273814144) == 0)else some false).bind fun v_50=>bif v_50 then (su s_45 32 s_45.size).bind fun y_68=>some (.go y_68)else some (.brk s_45)
noncomputable def dM (s_7:ByteArray):Option (Ctl (ByteArray) (Unit)) :=
  bif (decide ((s_7.size:Int) > 0))then (oH s_7 0).bind fun b_13=>bif (decide ((b_13.toNat:Int) < 128))then (su s_7 1 s_7.size).bind fun y_16=>(bif (decide ((y_16.size:Int) > 8))then (bf y_16).bind fun r_21=>some ((tN .u64 r_21 9259542123273814144) == 0)else some false).bind fun v_18=>(bif v_18 then (su y_16 8 y_16.size).bind fun y_26=>(bif (decide ((y_26.size:Int) > 16))then (bf y_26).bind fun r_31=>(su y_26 8 y_26.size).bind fun y_33=>(bf y_33).bind fun r_35=>some ((tN .u64 (orI .u64 r_31 r_35) 9259542123273814144) == 0)else some false).bind fun v_28=>bif v_28 then (su y_26 16 y_26.size).bind fun y_38=>(iB y_38 (fun s=>fF s)).bind fun o_48=>thenC o_48 (fun s_45=>some s_45) (fun _=>none)else some y_26 else some y_16).bind fun v_23=>some (.go v_23)else none else some (.brk s_7)
noncomputable def eP (s_1:ByteArray):Option (Bool) :=
  (iB s_1 (fun s=>dM s)).bind fun o_10=>thenC o_10 (fun s_7=>some true) (fun _=>none)
def gK (c_2:Int) (s_8:ByteArray):Option (Ctl (ByteArray) (Unit)) :=
  (bif (decide ((s_8.size:Int) > 0))then (oH s_8 (w64 ((s_8.size:Int) - 1))).bind fun b_16=>some ((b_16.toNat:Int) == c_2)else some false).bind fun v_13=>bif v_13 then (su s_8 0 (w64 ((s_8.size:Int) - 1))).bind fun y_19=>some (.go y_19)else some (.brk s_8)
noncomputable def strings_trimRightByte (s_1:ByteArray) (c_2:Int):Option (ByteArray) :=
  (iB s_1 (fun s=>gK c_2 s)).bind fun o_11=>thenC o_11 (fun s_8=>some s_8) (fun _=>none)
def gY (c_2:Int) (s_8:ByteArray):Option (Ctl (ByteArray) (Unit)) :=
  (bif (decide ((s_8.size:Int) > 0))then (oH s_8 0).bind fun b_16=>some ((b_16.toNat:Int) == c_2)else some false).bind fun v_13=>bif v_13 then (su s_8 1 s_8.size).bind fun y_19=>some (.go y_19)else some (.brk s_8)
noncomputable def strings_trimLeftByte (s_1:ByteArray) (c_2:Int):Option (ByteArray) :=
  (iB s_1 (fun s=>gY c_2 s)).bind fun o_11=>thenC o_11 (fun s_8=>some s_8) (fun _=>none)
noncomputable def ni (s_1:ByteArray) (cutset_2:ByteArray):Option (ByteArray) :=
  (bif (sEq s_1 (⟨#[]⟩:ByteArray))then some true else some (sEq cutset_2 (⟨#[]⟩:ByteArray))).bind fun v_3=>bif v_3 then some s_1 else (bif ((cutset_2.size:Int) == 1)then (oH cutset_2 0).bind fun b_10=>some (decide ((b_10.toNat:Int) < 128))else some false).bind fun v_7=>bif v_7 then (oH cutset_2 0).bind fun b_13=>(strings_trimRightByte s_1 (b_13.toNat:Int)).bind fun r_15=>(oH cutset_2 0).bind fun b_17=>(strings_trimLeftByte r_15 (b_17.toNat:Int)).bind fun r_19=>some r_19 else none
def strings_Contains (x0:ByteArray) (x1:ByteArray):Option (Bool) :=
  yB x0 x1
def nD (s_1:ByteArray) (s_7:Int):Option (Ctl (Int) (Bool)) :=
  bif (decide (s_7 < (s_1.size:Int)))then ((oH s_1 s_7).bind fun b_15=>bif (decide ((b_15.toNat:Int) < 32))then some true else (oH s_1 s_7).bind fun b_18=>some ((b_18.toNat:Int) == 127)).bind fun v_13=>bif v_13 then some (.ret false)else some (.go (w64 (s_7 + 1)))else some (.brk s_7)
noncomputable def lu (s_1:ByteArray):Option (Bool) :=
  (iB 0 (fun s=>nD s_1 s)).bind fun o_10=>thenC o_10 (fun s_7=>((eP s_1).bind fun r_23=>bif r_23 then (ni s_1 (⟨#[32]⟩:ByteArray)).bind fun r_26=>bif (sEq r_26 s_1)then (strings_Contains s_1 (⟨#[32,32]⟩:ByteArray)).bind fun r_29=>some (!r_29)else some false else some false).bind fun v_21=>some v_21) (fun r=>some r)
def fO (k_29:Nat) (x_31:Rect) (s_34:Unit):Option (Ctl (Unit) (Int)) :=
  (gu x_31).bind fun r_40=>bif (r_40 != 0)then some (.ret r_40)else some (.go ())
noncomputable def gG (a_1:Alert):Option (Int) :=
  ((kit_IsKey a_1.Id).bind fun r_5=>bif (!r_5)then some true else (kit_IsKey a_1.Sender).bind fun r_8=>some (!r_8)).bind fun v_3=>bif v_3 then some 5 else (aN a_1.Kind 1 3).bind fun r_11=>bif r_11 then some 4 else (gZ a_1).bind fun r_14=>bif (r_14 != 0)then some r_14 else ((bW a_1.At).bind fun r_19=>bif (!r_19)then some true else (aN a_1.Until (w64 (a_1.At + 1)) (w64 (a_1.At + 2592000000))).bind fun r_22=>bif r_22 then some true else (aN a_1.Weight 1 9).bind fun r_25=>some r_25).bind fun v_17=>bif v_17 then some 1 else bif (decide ((a_1.Areas.length:Int) > 20))then some 2 else (forL a_1.Areas () (fun k x s=>fO k x s)).bind fun o_37=>thenC o_37 (fun s_34=>bif (!((a_1.Kind == 3) == ((a_1.Areas.length:Int) == 0)))then some 3 else bif (decide ((a_1.Text.size:Int) > 500))then some 2 else ((lu a_1.Text).bind fun r_47=>bif (!r_47)then some true else bif (sEq a_1.Text (⟨#[]⟩:ByteArray))then some (!(a_1.Kind == 3))else some false).bind fun v_45=>bif v_45 then some 3 else some 0) (fun r=>some r)
def cmp_isNaN_int (x_1:Int):Option (Bool) :=
  some (x_1 != x_1)
def cmp_Compare_int (x_1:Int) (y_2:Int):Option (Int) :=
  (cmp_isNaN_int x_1).bind fun r_3=>(cmp_isNaN_int y_2).bind fun r_5=>bif r_3 then bif r_5 then some 0 else some (-1)else bif r_5 then some 1 else bif (decide (x_1 < y_2))then some (-1)else bif (decide (x_1 > y_2))then some 1 else some 0
def gz (a_1:ByteArray) (b_2:ByteArray):Option (Int) :=
  some (vX a_1 b_2)
def strings_Compare (a_1:ByteArray) (b_2:ByteArray):Option (Int) :=
  (gz a_1 b_2).bind fun r_3=>some r_3
def l6 (k_2:Nat) (x_4:Int) (s_7:Unit):Option (Ctl (Unit) (Int)) :=
  bif (x_4 != 0)then some (.ret x_4)else some (.go ())
def jg (vals_1:(List Int)):Option (Int) :=
  (forL vals_1 () (fun k x s=>l6 k x s)).bind fun o_10=>thenC o_10 (fun s_7=>some 0) (fun r=>some r)
def gJ (a_1:Alert) (b_2:Alert):Option (Int) :=
  (cmp_Compare_int a_1.At b_2.At).bind fun r_5=>(strings_Compare a_1.Id b_2.Id).bind fun r_7=>(jg ([r_5,r_7]:List Int)).bind fun r_9=>some r_9
noncomputable def dX (l_1:(List Alert)) (k_3:Nat) (x_5:Alert) (s_8:Unit):Option (Ctl (Unit) (Int)) :=
  (gG x_5).bind fun r_14=>bif (r_14 != 0)then some (.ret r_14)else (bif (decide ((k_3:Int) > 0))then (idx l_1 (w64 ((k_3:Int) - 1))).bind fun y_20=>(gJ y_20 x_5).bind fun r_22=>some (decide (r_22≥0))else some false).bind fun v_17=>bif v_17 then some (.ret 7)else some (.go ())
def dW (k_26:Nat) (x_28:Alert) (s_31:(List (ByteArray×Bool))):Option (Ctl ((List (ByteArray×Bool))) (Int)) :=
  bif ((mGet eqS s_31 x_28.Id).getD false)then some (.ret 6)else some (.go (wQ eqS s_31 x_28.Id true))
noncomputable def fJ (l_1:(List Alert)):Option (Int) :=
  bif (decide ((l_1.length:Int) > 300))then some 2 else (forL l_1 () (fun k x s=>dX l_1 k x s)).bind fun o_11=>thenC o_11 (fun s_8=>(forL l_1 ([]:List (ByteArray×Bool)) (fun k x s=>dW k x s)).bind fun o_34=>thenC o_34 (fun s_31=>some 0) (fun r=>some r)) (fun r=>some r)
noncomputable def dn (l_1:(List Post)) (k_3:Nat) (x_5:Post) (s_8:Unit):Option (Ctl (Unit) (Int)) :=
  (kit_IsKey x_5.Player).bind fun r_14=>bif (!r_14)then some (.ret 5)else ((aN x_5.X (-100000) 100000).bind fun r_19=>bif r_19 then some true else (aN x_5.Y (-100000) 100000).bind fun r_22=>some r_22).bind fun v_17=>bif v_17 then some (.ret 1)else (bif (decide ((k_3:Int) > 0))then (idx l_1 (w64 ((k_3:Int) - 1))).bind fun y_28=>some (sLe x_5.Player y_28.Player)else some false).bind fun v_25=>bif v_25 then some (.ret 7)else some (.go ())
noncomputable def eu (l_1:(List Post)):Option (Int) :=
  bif (decide ((l_1.length:Int) > 500))then some 2 else (forL l_1 () (fun k x s=>dn l_1 k x s)).bind fun o_11=>thenC o_11 (fun s_8=>some 0) (fun r=>some r)
noncomputable def eX (l_1:(List Alert)) (posts_2:(List Post)):Option (Int) :=
  (fJ l_1).bind fun r_3=>bif (r_3 != 0)then some r_3 else (eu posts_2).bind fun r_6=>some r_6
def iC (b_1:Bool):Option (Int) :=
  bif b_1 then some 1 else some 0
def fZ (a_1:Receipt) (b_2:Receipt):Option (Int) :=
  (strings_Compare a_1.Player b_2.Player).bind fun r_5=>(strings_Compare a_1.Alert b_2.Alert).bind fun r_7=>(iC a_1.Seen).bind fun r_9=>(iC b_2.Seen).bind fun r_11=>(cmp_Compare_int r_9 r_11).bind fun r_13=>(jg ([r_5,r_7,r_13]:List Int)).bind fun r_15=>some r_15
noncomputable def fM (l_1:(List Receipt)) (k_3:Nat) (x_5:Receipt) (s_8:Unit):Option (Ctl (Unit) (Int)) :=
  ((kit_IsKey x_5.Player).bind fun r_16=>bif (!r_16)then some true else (kit_IsKey x_5.Alert).bind fun r_19=>some (!r_19)).bind fun v_14=>bif v_14 then some (.ret 5)else (bW x_5.At).bind fun r_22=>bif (!r_22)then some (.ret 1)else (bif (decide ((k_3:Int) > 0))then (idx l_1 (w64 ((k_3:Int) - 1))).bind fun y_28=>(fZ y_28 x_5).bind fun r_30=>some (decide (r_30≥0))else some false).bind fun v_25=>bif v_25 then some (.ret 7)else some (.go ())
noncomputable def iw (l_1:(List Receipt)):Option (Int) :=
  bif (decide ((l_1.length:Int) > 2000))then some 2 else (forL l_1 () (fun k x s=>fM l_1 k x s)).bind fun o_11=>thenC o_11 (fun s_8=>some 0) (fun r=>some r)
noncomputable def ll (l_1:(List Alert)) (posts_2:(List Post)) (r_3:(List Receipt)):Option (Int) :=
  (eX l_1 posts_2).bind fun r_4=>bif (r_4 != 0)then some r_4 else (iw r_3).bind fun r_7=>some r_7
def iI (atv_2:Int) (k_4:Nat) (x_6:Receipt) (s_9:(List (Pair×Int))):Option (Ctl ((List (Pair×Int))) (Unit)) :=
  (bif (decide (x_6.At≤atv_2))then bif (!((mGet (fun (a b:Pair)=>(eqS a.f_player b.f_player && (eqS a.f_alert b.f_alert && true))) s_9 (⟨x_6.Player,x_6.Alert⟩:Pair)).isSome))then some true else some (decide (x_6.At < ((mGet (fun (a b:Pair)=>(eqS a.f_player b.f_player && (eqS a.f_alert b.f_alert && true))) s_9 (⟨x_6.Player,x_6.Alert⟩:Pair)).getD 0)))else some false).bind fun v_16=>(bif v_16 then some (wQ (fun (a b:Pair)=>(eqS a.f_player b.f_player && (eqS a.f_alert b.f_alert && true))) s_9 (⟨x_6.Player,x_6.Alert⟩:Pair) x_6.At)else some s_9).bind fun v_20=>some (.go v_20)
def jK (r_1:(List Receipt)) (atv_2:Int):Option ((List (Pair×Int))) :=
  (forL r_1 ([]:List (Pair×Int)) (fun k x s=>iI atv_2 k x s)).bind fun o_12=>thenC o_12 (fun s_9=>some s_9) (fun _=>none)
def jS (o_1:Alert) (p_2:ByteArray) (p_3:Alert):Option (Bool) :=
  (bif (sEq o_1.Id p_2)then bif (sEq o_1.Sender p_3.Sender)then (gJ o_1 p_3).bind fun r_9=>some (decide (r_9 < 0))else some false else some false).bind fun v_5=>some v_5
def bP (f_2:Alert→Option Bool) (k_3:Nat) (x_5:Alert) (s_8:Unit):Option (Ctl (Unit) (Int)) :=
  (f_2 x_5).bind fun r_13=>bif r_13 then some (.ret (k_3:Int))else some (.go ())
def bE (s_1:(List Alert)) (f_2:Alert→Option Bool):Option (Int) :=
  (forL s_1 () (fun k x s=>bP f_2 k x s)).bind fun o_11=>thenC o_11 (fun s_8=>some (-1)) (fun r=>some r)
def nX (l_1:(List Alert)) (a_2:Alert) (ref_3:ByteArray):Option (Int) :=
  (bE l_1 (fun x0=>jS x0 ref_3 a_2)).bind fun r_6=>some r_6
def l8 (k_2:Nat) (x_4:Alert) (s_7:(List Int)):Option (Ctl ((List Int)) (Unit)) :=
  (nJ s_7 ([x_4.Until]:List Int)).bind fun a_16=>some (.go a_16)
def kg (l_1:(List Alert)) (x_21:Alert) (k_30:Nat) (x_32:ByteArray) (s_35:(List Int)):Option (Ctl ((List Int)) (Unit)) :=
  (nX l_1 x_21 x_32).bind fun r_40=>(bif (decide (r_40≥0))then (inR r_40 s_35).bind fun _=>(s_35[(0 + (r_40).toNat)]?).bind fun e_46=>(inR r_40 s_35).bind fun _=>(s_35[(0 + (r_40).toNat)]?).bind fun e_49=>some (s_35.set (0 + (r_40).toNat) (uX e_46 x_21.At))else some s_35).bind fun v_42=>some (.go v_42)
def lZ (l_1:(List Alert)) (k_19:Nat) (x_21:Alert) (s_24:(List Int)):Option (Ctl ((List Int)) (Unit)) :=
  (forL x_21.Refs s_24 (fun k x s=>kg l_1 x_21 k x s)).bind fun o_38=>thenC o_38 (fun s_35=>some (.go s_35)) (fun _=>none)
def qK (l_1:(List Alert)):Option ((List Int)) :=
  (forL l_1 ([]:List Int) (fun k x s=>l8 k x s)).bind fun o_13=>thenC o_13 (fun s_7=>(forL l_1 s_7 (fun k x s=>lZ l_1 k x s)).bind fun o_27=>thenC o_27 (fun s_24=>some s_24) (fun _=>none)) (fun _=>none)
def jV (r_1:Rect) (p_2:Post):Option (Bool) :=
  (bif (decide (r_1.X≤p_2.X))then bif (decide (p_2.X < (w64 (r_1.X + r_1.W))))then bif (decide (r_1.Y≤p_2.Y))then some (decide (p_2.Y < (w64 (r_1.Y + r_1.H))))else some false else some false else some false).bind fun v_4=>some v_4
def bg (f_2:Rect→Option Bool) (k_3:Nat) (x_5:Rect) (s_8:Unit):Option (Ctl (Unit) (Int)) :=
  (f_2 x_5).bind fun r_13=>bif r_13 then some (.ret (k_3:Int))else some (.go ())
def dF (s_1:(List Rect)) (f_2:Rect→Option Bool):Option (Int) :=
  (forL s_1 () (fun k x s=>bg f_2 k x s)).bind fun o_11=>thenC o_11 (fun s_8=>some (-1)) (fun r=>some r)
def bT (s_1:(List Rect)) (f_2:Rect→Option Bool):Option (Bool) :=
  (dF s_1 f_2).bind fun r_3=>some (decide (r_3≥0))
def jh (a_1:Alert) (p_2:Post):Option (Bool) :=
  (bT a_1.Areas (fun x0=>jV x0 p_2)).bind fun r_5=>some r_5
def mZ (a_1:Alert) (endv_2:Int) (p_3:Post) (atv_4:Int):Option (Bool) :=
  (bif (a_1.Kind != 3)then bif (decide (a_1.At≤atv_4))then bif (decide (a_1.At < endv_2))then (jh a_1 p_3).bind fun r_12=>some r_12 else some false else some false else some false).bind fun v_7=>some v_7
def kr (a_1:Debt) (b_2:Debt):Option (Int) :=
  (strings_Compare a_1.Player b_2.Player).bind fun r_5=>(strings_Compare a_1.Alert b_2.Alert).bind fun r_7=>(jg ([r_5,r_7]:List Int)).bind fun r_9=>some r_9
noncomputable def eT (x:(List Debt)):Option ((List Debt)) :=
  wF (fun a b=>kr a b) x
def jA (r_20:(List Int)) (x_24:Post) (atv_5:Int) (inv_4:Int) (r_17:(List (Pair×Int))) (k_36:Nat) (x_38:Alert) (s_41:(List Debt)):Option (Ctl ((List Debt)) (Unit)) :=
  ((idx r_20 (k_36:Int)).bind fun y_51=>(mZ x_38 y_51 x_24 atv_5).bind fun r_53=>bif (!r_53)then some true else bif (decide ((w64 (x_38.At + inv_4))≥atv_5))then some true else (idx r_20 (k_36:Int)).bind fun y_57=>some (decide (y_57 < (w64 (x_38.At + inv_4))))).bind fun v_49=>bif v_49 then some (.go s_41)else (bif (!((mGet (fun (a b:Pair)=>(eqS a.f_player b.f_player && (eqS a.f_alert b.f_alert && true))) r_17 (⟨x_24.Player,x_38.Id⟩:Pair)).isSome))then (nJ s_41 ([(⟨x_24.Player,x_38.Id,(w64 (x_38.At + inv_4)),(-1)⟩:Debt)]:List Debt)).bind fun a_64=>some a_64 else bif (decide (((mGet (fun (a b:Pair)=>(eqS a.f_player b.f_player && (eqS a.f_alert b.f_alert && true))) r_17 (⟨x_24.Player,x_38.Id⟩:Pair)).getD 0) > (w64 (x_38.At + inv_4))))then (nJ s_41 ([(⟨x_24.Player,x_38.Id,(w64 (x_38.At + inv_4)),((mGet (fun (a b:Pair)=>(eqS a.f_player b.f_player && (eqS a.f_alert b.f_alert && true))) r_17 (⟨x_24.Player,x_38.Id⟩:Pair)).getD 0)⟩:Debt)]:List Debt)).bind fun a_68=>some a_68 else some s_41).bind fun v_60=>some (.go v_60)
def kS (l_1:(List Alert)) (r_20:(List Int)) (atv_5:Int) (inv_4:Int) (r_17:(List (Pair×Int))) (k_22:Nat) (x_24:Post) (s_27:(List Debt)):Option (Ctl ((List Debt)) (Unit)) :=
  (forL l_1 s_27 (fun k x s=>jA r_20 x_24 atv_5 inv_4 r_17 k x s)).bind fun o_46=>thenC o_46 (fun s_41=>some (.go s_41)) (fun _=>none)
noncomputable def mF (l_1:(List Alert)) (posts_2:(List Post)) (r_3:(List Receipt)) (inv_4:Int) (atv_5:Int):Option ((List Debt)×Int) :=
  (ll l_1 posts_2 r_3).bind fun r_6=>bif (r_6 != 0)then some (([]:(List Debt)),r_6)else ((aN inv_4 0 2592000000).bind fun r_11=>bif r_11 then some true else (bW atv_5).bind fun r_14=>some (!r_14)).bind fun v_9=>bif v_9 then some (([]:(List Debt)),1)else (jK r_3 atv_5).bind fun r_17=>(qK l_1).bind fun r_20=>(forL posts_2 ([]:List Debt) (fun k x s=>kS l_1 r_20 atv_5 inv_4 r_17 k x s)).bind fun o_33=>thenC o_33 (fun s_27=>(eT s_27).bind fun r_71=>(kJ r_71 s_27).bind fun _=>some (r_71,0)) (fun _=>none)
def jl (y_1:Alert) (p_2:Debt):Option (Bool) :=
  some (sEq y_1.Id p_2.Alert)
def jm (y_1:Post) (p_2:Debt):Option (Bool) :=
  some (sEq y_1.Player p_2.Player)
def di (f_2:Post→Option Bool) (k_3:Nat) (x_5:Post) (s_8:Unit):Option (Ctl (Unit) (Int)) :=
  (f_2 x_5).bind fun r_13=>bif r_13 then some (.ret (k_3:Int))else some (.go ())
def dE (s_1:(List Post)) (f_2:Post→Option Bool):Option (Int) :=
  (forL s_1 () (fun k x s=>di f_2 k x s)).bind fun o_11=>thenC o_11 (fun s_8=>some (-1)) (fun r=>some r)
noncomputable def iy (a_1:Alert) (p_2:Post):Option (Bool×Int) :=
  (eX ([a_1]:List Alert) ([p_2]:List Post)).bind fun r_5=>bif (r_5 != 0)then some (false,r_5)else (jh a_1 p_2).bind fun r_8=>some (r_8,0)
def kY (k_3:Nat) (x_5:Rect) (s_8:Unit):Option (Ctl (Unit) (Int)) :=
  (gu x_5).bind fun r_14=>bif (r_14 != 0)then some (.ret r_14)else some (.go ())
def kG (l_1:(List Rect)):Option (Int) :=
  bif (decide ((l_1.length:Int) > 2000))then some 2 else (forL l_1 () (fun k x s=>kY k x s)).bind fun o_11=>thenC o_11 (fun s_8=>some 0) (fun r=>some r)
def fT (n_1:Int):Option Bool :=
  bif (decide (n_1 < 0))then none else bif (decide ((w64 (n_1 - (w64 (0 - 0)))) > 0))then (zN (w64 (n_1 - (w64 (0 - 0)))) 32).bind fun _=>some true else some false
def fe (k_2:Nat) (x_4:(List Rect)) (s_7:Int):Option (Ctl (Int) (Unit)) :=
  (bif (decide ((w64 (s_7 + (x_4.length:Int))) < 0))then none else some ()).bind fun v_12=>some (.go (w64 (s_7 + (x_4.length:Int))))
def fo (k_18:Nat) (x_20:(List Rect)) (s_23:(List Rect)):Option (Ctl ((List Rect)) (Unit)) :=
  (nJ s_23 x_20).bind fun a_30=>some (.go a_30)
def dU (slices_1:(List (List Rect))):Option ((List Rect)) :=
  (forL slices_1 0 (fun k x s=>fe k x s)).bind fun o_10=>thenC o_10 (fun s_7=>(fT s_7).bind fun b_15=>(forL slices_1 ([]:List Rect) (fun k x s=>fo k x s)).bind fun o_28=>thenC o_28 (fun s_23=>some s_23) (fun _=>none)) (fun _=>none)
def dG (x:(List Int)):Option ((List Int)) :=
  ES x
def bH (s_1:(List Int)) (s_8:Int) (s_28:(List Int)×Int×Int):Option (Ctl ((List Int)×Int×Int) (Unit)) :=
  bif (decide (s_28.2.2 < (((((s_1.length:Int)).toNat - (s_8).toNat):Nat):Int)))then (inN s_28.2.2 (((s_1.length:Int)).toNat - (s_8).toNat)).bind fun _=>(s_28.1[(((s_8).toNat) + (s_28.2.2).toNat)]?).bind fun e_35=>(inN (w64 (s_28.2.2 - 1)) (((s_1.length:Int)).toNat - (s_8).toNat)).bind fun _=>(s_28.1[(((s_8).toNat) + ((w64 (s_28.2.2 - 1))).toNat)]?).bind fun e_38=>(bif (e_35 != e_38)then (inN s_28.2.2 (((s_1.length:Int)).toNat - (s_8).toNat)).bind fun _=>(s_28.1[(((s_8).toNat) + (s_28.2.2).toNat)]?).bind fun e_44=>(inR s_28.2.1 s_28.1).bind fun _=>(s_28.1[(0 + (s_28.2.1).toNat)]?).bind fun e_47=>some ((s_28.1.set (0 + (s_28.2.1).toNat) e_44),(w64 (s_28.2.1 + 1)))else some (s_28.1,s_28.2.1)).bind fun v_40=>some (.go (v_40.1,v_40.2,(w64 (s_28.2.2 + 1))))else some (.brk (s_28.1,s_28.2.1,s_28.2.2))
noncomputable def aQ (s_1:(List Int)) (s_8:Int):Option (Ctl (Int) ((List Int))) :=
  bif (decide (s_8 < (s_1.length:Int)))then (inR s_8 s_1).bind fun _=>(s_1[(0 + (s_8).toNat)]?).bind fun e_15=>(inR (w64 (s_8 - 1)) s_1).bind fun _=>(s_1[(0 + ((w64 (s_8 - 1))).toNat)]?).bind fun e_18=>bif (e_15 == e_18)then (neL s_1).bind fun _=>(uy s_1 s_8 (s_1.length:Int)).bind fun _=>(iB (s_1,s_8,1) (fun s=>bH s_1 s_8 s)).bind fun o_31=>thenC o_31 (fun s_28=>(uy s_28.1 s_28.2.1 (s_28.1.length:Int)).bind fun _=>(uy (s_28.1.take ((s_28.2.1).toNat)++List.replicate (((s_28.1.length:Int)).toNat - (s_28.2.1).toNat) 0++s_28.1.drop (((s_28.2.1).toNat) + (((s_28.1.length:Int)).toNat - (s_28.2.1).toNat))) 0 s_28.2.1).bind fun _=>some (.ret (cutL (s_28.1.take ((s_28.2.1).toNat)++List.replicate (((s_28.1.length:Int)).toNat - (s_28.2.1).toNat) 0++s_28.1.drop (((s_28.2.1).toNat) + (((s_28.1.length:Int)).toNat - (s_28.2.1).toNat))) 0 ((s_28.2.1).toNat)))) (fun _=>none)else some (.go (w64 (s_8 + 1)))else some (.brk s_8)
noncomputable def bZ (s_1:(List Int)):Option ((List Int)) :=
  bif (decide ((s_1.length:Int) < 2))then some s_1 else (iB 1 (fun s=>aQ s_1 s)).bind fun o_11=>thenC o_11 (fun s_8=>some s_1) (fun r=>some r)
def qY (a_1:Run) (b_2:Run):Option (Int) :=
  some (w64 (a_1.f_from - b_2.f_from))
def bU (a_2:Int) (s_21:(List Run)×Int):Option (Ctl ((List Run)×Int) (Unit)) :=
  (bif (decide (s_21.2 > a_2))then (inR s_21.2 s_21.1).bind fun _=>(s_21.1[(0 + (s_21.2).toNat)]?).bind fun e_30=>(inR (w64 (s_21.2 - 1)) s_21.1).bind fun _=>(s_21.1[(0 + ((w64 (s_21.2 - 1))).toNat)]?).bind fun e_33=>(qY e_30 e_33).bind fun r_35=>some (decide (r_35 < 0))else some false).bind fun v_26=>bif v_26 then (inR (w64 (s_21.2 - 1)) s_21.1).bind fun _=>(s_21.1[(0 + ((w64 (s_21.2 - 1))).toNat)]?).bind fun e_39=>(inR s_21.2 s_21.1).bind fun _=>(s_21.1[(0 + (s_21.2).toNat)]?).bind fun e_42=>(inR s_21.2 s_21.1).bind fun _=>(s_21.1[(0 + (s_21.2).toNat)]?).bind fun e_45=>(inR (w64 (s_21.2 - 1)) (s_21.1.set (0 + (s_21.2).toNat) e_39)).bind fun _=>((s_21.1.set (0 + (s_21.2).toNat) e_39)[(0 + ((w64 (s_21.2 - 1))).toNat)]?).bind fun e_48=>some (.go (((s_21.1.set (0 + (s_21.2).toNat) e_39).set (0 + ((w64 (s_21.2 - 1))).toNat) e_42),(w64 (s_21.2 - 1))))else some (.brk (s_21.1,s_21.2))
noncomputable def bD (b_3:Int) (a_2:Int) (s_10:(List Run)×Int):Option (Ctl ((List Run)×Int) (Unit)) :=
  bif (decide (s_10.2 < b_3))then (iB (s_10.1,s_10.2) (fun s=>bU a_2 s)).bind fun o_24=>thenC o_24 (fun s_21=>some (.go (s_21.1,(w64 (s_10.2 + 1))))) (fun _=>none)else some (.brk (s_10.1,s_10.2))
noncomputable def bI (data_1:(List Run)) (a_2:Int) (b_3:Int):Option ((List Run)) :=
  (iB (data_1,(w64 (a_2 + 1))) (fun s=>bD b_3 a_2 s)).bind fun o_13=>thenC o_13 (fun s_10=>some s_10.1) (fun _=>none)
noncomputable def bR (b_3:Int) (a_2:Int) (data_1:(List Run)) (limit_4:Int) (s_11:Unit):Option (Ctl (Unit) ((List Run))) :=
  bif (decide ((w64 (b_3 - a_2))≤12))then (bI data_1 a_2 b_3).bind fun r_17=>(kJ r_17 data_1).bind fun _=>some (.ret r_17)else bif (limit_4 == 0)then none else none
noncomputable def cB (data_1:(List Run)) (a_2:Int) (b_3:Int) (limit_4:Int):Option ((List Run)) :=
  (iB () (fun s=>bR b_3 a_2 data_1 limit_4 s)).bind fun o_14=>thenC o_14 (fun s_11=>some data_1) (fun r=>some r)
noncomputable def bK (x_1:(List Run)):Option ((List Run)) :=
  (iA (IntKind.u64.wrap (x_1.length:Int))).bind fun r_3=>(cB x_1 0 (x_1.length:Int) r_3).bind fun r_5=>(kJ r_5 x_1).bind fun _=>some r_5
def mO (y_2:Int) (k_3:Nat) (x_5:Rect) (s_8:(List Run)):Option (Ctl ((List Run)) (Unit)) :=
  (bif (decide (x_5.Y≤y_2))then some (decide (y_2 < (w64 (x_5.Y + x_5.H))))else some false).bind fun v_17=>(bif v_17 then (nJ s_8 ([(⟨x_5.X,(w64 (x_5.X + x_5.W))⟩:Run)]:List Run)).bind fun a_24=>some a_24 else some s_8).bind fun v_20=>some (.go v_20)
def mX (k_30:Nat) (x_32:Run) (s_35:(List Run)):Option (Ctl ((List Run)) (Unit)) :=
  (bif (decide ((w64 ((s_35.length:Int) - 1))≥0))then (inR (w64 ((s_35.length:Int) - 1)) s_35).bind fun _=>(s_35[(0 + ((w64 ((s_35.length:Int) - 1))).toNat)]?).bind fun e_48=>some (decide (x_32.f_from≤e_48.f_to))else some false).bind fun v_44=>(bif v_44 then (inR (w64 ((s_35.length:Int) - 1)) s_35).bind fun _=>(s_35[(0 + ((w64 ((s_35.length:Int) - 1))).toNat)]?).bind fun e_55=>(inR (w64 ((s_35.length:Int) - 1)) s_35).bind fun _=>(s_35[(0 + ((w64 ((s_35.length:Int) - 1))).toNat)]?).bind fun e_58=>some (s_35.set (0 + ((w64 ((s_35.length:Int) - 1))).toNat) (⟨e_58.f_from,(sI e_55.f_to x_32.f_to)⟩:Run))else (nJ s_35 ([x_32]:List Run)).bind fun a_60=>some a_60).bind fun v_50=>some (.go v_50)
noncomputable def mI (l_1:(List Rect)) (y_2:Int):Option ((List Run)) :=
  (forL l_1 ([]:List Run) (fun k x s=>mO y_2 k x s)).bind fun o_14=>thenC o_14 (fun s_8=>(bK s_8).bind fun r_27=>(kJ r_27 s_8).bind fun _=>(forL r_27 ([]:List Run) (fun k x s=>mX k x s)).bind fun o_41=>thenC o_41 (fun s_35=>some s_35) (fun _=>none)) (fun _=>none)
def mM (m_2:(List Run)) (x_5:Run) (s_22:Int):Option (Ctl (Int) (Unit)) :=
  (bif (decide (s_22 < (m_2.length:Int)))then (idx m_2 s_22).bind fun y_30=>some (decide (y_30.f_to≤x_5.f_from))else some false).bind fun v_27=>bif v_27 then some (.go (w64 (s_22 + 1)))else some (.brk s_22)
def mY (m_2:(List Run)) (x_5:Run) (s_38:(List Run)×Int×Int):Option (Ctl ((List Run)×Int×Int) (Unit)) :=
  (bif (decide (s_38.2.1 < (m_2.length:Int)))then (idx m_2 s_38.2.1).bind fun y_48=>some (decide (y_48.f_from < x_5.f_to))else some false).bind fun v_45=>bif v_45 then (idx m_2 s_38.2.1).bind fun y_51=>(bif (decide (y_51.f_from > s_38.2.2))then (idx m_2 s_38.2.1).bind fun y_57=>(nJ s_38.1 ([(⟨s_38.2.2,y_57.f_from⟩:Run)]:List Run)).bind fun a_59=>some a_59 else some s_38.1).bind fun v_53=>(idx m_2 s_38.2.1).bind fun y_62=>some (.go (v_53,(w64 (s_38.2.1 + 1)),(sI s_38.2.2 y_62.f_to)))else some (.brk (s_38.1,s_38.2.1,s_38.2.2))
noncomputable def kT (m_2:(List Run)) (k_3:Nat) (x_5:Run) (s_8:(List Run)×Int):Option (Ctl ((List Run)×Int) (Unit)) :=
  (iB s_8.2 (fun s=>mM m_2 x_5 s)).bind fun o_25=>thenC o_25 (fun s_22=>(iB (s_8.1,s_22,x_5.f_from) (fun s=>mY m_2 x_5 s)).bind fun o_43=>thenC o_43 (fun s_38=>(bif (decide (s_38.2.2 < x_5.f_to))then (nJ s_38.1 ([(⟨s_38.2.2,x_5.f_to⟩:Run)]:List Run)).bind fun a_68=>some a_68 else some s_38.1).bind fun v_64=>some (.go (v_64,s_22))) (fun _=>none)) (fun _=>none)
noncomputable def oG (l_1:(List Run)) (m_2:(List Run)):Option ((List Run)) :=
  (forL l_1 (([]:List Run),0) (fun k x s=>kT m_2 k x s)).bind fun o_14=>thenC o_14 (fun s_8=>some s_8.1) (fun _=>none)
def ek (s2_2:(List Run)) (k_4:Nat) (x_6:Run) (s_9:Unit):Option (Ctl (Unit) (Bool)) :=
  (idx s2_2 (k_4:Int)).bind fun y_14=>bif (!((x_6.f_from == y_14.f_from) && ((x_6.f_to == y_14.f_to) && true)))then some (.ret false)else some (.go ())
def dC (s1_1:(List Run)) (s2_2:(List Run)):Option (Bool) :=
  bif ((s1_1.length:Int) != (s2_2.length:Int))then some false else (forL s1_1 () (fun k x s=>ek s2_2 k x s)).bind fun o_12=>thenC o_12 (fun s_9=>some true) (fun r=>some r)
def lH (k_5:Nat) (x_7:Rect) (s_10:(List Int)):Option (Ctl ((List Int)) (Unit)) :=
  (nJ s_10 ([x_7.Y,(w64 (x_7.Y + x_7.H))]:List Int)).bind fun a_19=>some (.go a_19)
def lM (s_32:(List Rect)×(List Run)×Int) (x_29:Int) (k_54:Nat) (x_56:Run) (s_59:(List Rect)):Option (Ctl ((List Rect)) (Unit)) :=
  (nJ s_59 ([(⟨x_56.f_from,s_32.2.2,(w64 (x_56.f_to - x_56.f_from)),(w64 (x_29 - s_32.2.2))⟩:Rect)]:List Rect)).bind fun a_67=>some (.go a_67)
noncomputable def jw (r_25:(List Int)) (l_1:(List Rect)) (m_2:(List Rect)) (k_27:Nat) (x_29:Int) (s_32:(List Rect)×(List Run)×Int):Option (Ctl ((List Rect)×(List Run)×Int) (Unit)) :=
  (bif (decide ((w64 ((k_27:Int) + 1)) < (r_25.length:Int)))then (mI l_1 x_29).bind fun r_45=>(mI m_2 x_29).bind fun r_47=>(oG r_45 r_47).bind fun r_49=>some r_49 else some ([]:List Run)).bind fun v_42=>(dC s_32.2.1 v_42).bind fun r_51=>bif r_51 then some (.go (s_32.1,s_32.2.1,s_32.2.2))else (forL s_32.2.1 s_32.1 (fun k x s=>lM s_32 x_29 k x s)).bind fun o_64=>thenC o_64 (fun s_59=>some (.go (s_59,v_42,x_29))) (fun _=>none)
noncomputable def lX (l_1:(List Rect)) (m_2:(List Rect)):Option ((List Rect)) :=
  (dU ([l_1,m_2]:List (List Rect))).bind fun r_3=>(forL r_3 ([]:List Int) (fun k x s=>lH k x s)).bind fun o_16=>thenC o_16 (fun s_10=>(dG s_10).bind fun r_22=>(kJ r_22 s_10).bind fun _=>(bZ r_22).bind fun r_25=>(forL r_25 (([]:List Rect),([]:List Run),0) (fun k x s=>jw r_25 l_1 m_2 k x s)).bind fun o_38=>thenC o_38 (fun s_32=>some s_32.1) (fun _=>none)) (fun _=>none)
def qz (k_2:Nat) (x_4:Rect) (s_7:Int):Option (Ctl (Int) (Unit)) :=
  some (.go (w64 (s_7 + (w64 (x_4.W * x_4.H)))))
def qQ (l_1:(List Rect)):Option (Int) :=
  (forL l_1 0 (fun k x s=>qz k x s)).bind fun o_10=>thenC o_10 (fun s_7=>some s_7) (fun _=>none)
noncomputable def oM (l_1:(List Rect)):Option (Int×Int) :=
  (kG l_1).bind fun r_2=>bif (r_2 != 0)then some (0,r_2)else (lX l_1 ([]:List Rect)).bind fun r_5=>(qQ r_5).bind fun r_7=>some (r_7,0)
def yG (n_1:Int):Option (Bool) :=
  (bif (decide (n_1≥0))then some (decide (n_1≤4000))else some false).bind fun v_2=>some v_2
def jy (l_1:(List Int)) (k_3:Nat) (x_5:Int) (s_8:Unit):Option (Ctl (Unit) (Int)) :=
  (yG x_5).bind fun r_13=>bif (!r_13)then some (.ret 1)else (bif (decide ((k_3:Int) > 0))then (idx l_1 (w64 ((k_3:Int) - 1))).bind fun y_19=>some (decide (x_5≤y_19))else some false).bind fun v_16=>bif v_16 then some (.ret 7)else some (.go ())
def jd (l_1:(List Int)):Option (Int) :=
  bif (decide ((l_1.length:Int) > 100))then some 2 else (forL l_1 () (fun k x s=>jy l_1 k x s)).bind fun o_11=>thenC o_11 (fun s_8=>some 0) (fun r=>some r)
noncomputable def iK (l_1:(List ByteArray)) (k_2:Nat) (x_4:ByteArray) (s_7:Unit):Option (Ctl (Unit) (Int)) :=
  (kit_IsKey x_4).bind fun r_12=>bif (!r_12)then some (.ret 5)else (bif (decide ((k_2:Int) > 0))then (idx l_1 (w64 ((k_2:Int) - 1))).bind fun y_18=>some (sLe x_4 y_18)else some false).bind fun v_15=>bif v_15 then some (.ret 7)else some (.go ())
noncomputable def iW (l_1:(List ByteArray)):Option (Int) :=
  (forL l_1 () (fun k x s=>iK l_1 k x s)).bind fun o_10=>thenC o_10 (fun s_7=>some 0) (fun r=>some r)
noncomputable def iP (l_1:(List ByteArray)):Option (Int) :=
  bif (decide ((l_1.length:Int) > 20))then some 2 else (iW l_1).bind fun r_3=>some r_3
noncomputable def ig (e_1:Entry):Option (Int) :=
  ((kit_IsKey e_1.Key).bind fun r_5=>bif (!r_5)then some true else (kit_IsKey e_1.Item).bind fun r_8=>some (!r_8)).bind fun v_3=>bif v_3 then some 5 else ((aN e_1.Version 0 1000000).bind fun r_13=>bif r_13 then some true else (aN e_1.First 0 e_1.Last).bind fun r_16=>bif r_16 then some true else bif (decide (e_1.Last > 4000))then some true else (aN e_1.Every 1 400).bind fun r_20=>bif r_20 then some true else (aN e_1.Days 1 127).bind fun r_23=>some r_23).bind fun v_11=>bif v_11 then some 1 else (jd e_1.Except).bind fun r_26=>bif (r_26 != 0)then some r_26 else ((aN e_1.From 0 1439).bind fun r_31=>bif r_31 then some true else (aN e_1.To 0 1439).bind fun r_34=>bif r_34 then some true else (aN e_1.Prio 0 9).bind fun r_37=>some r_37).bind fun v_29=>bif v_29 then some 1 else (iP e_1.Tags).bind fun r_40=>some r_40
noncomputable def eO (l_1:(List Entry)) (k_3:Nat) (x_5:Entry) (s_8:Unit):Option (Ctl (Unit) (Int)) :=
  (ig x_5).bind fun r_14=>bif (r_14 != 0)then some (.ret r_14)else (bif (decide ((k_3:Int) > 0))then (idx l_1 (w64 ((k_3:Int) - 1))).bind fun y_20=>some (sLe x_5.Key y_20.Key)else some false).bind fun v_17=>bif v_17 then some (.ret 7)else some (.go ())
noncomputable def gm (l_1:(List Entry)):Option (Int) :=
  bif (decide ((l_1.length:Int) > 200))then some 2 else (forL l_1 () (fun k x s=>eO l_1 k x s)).bind fun o_11=>thenC o_11 (fun s_8=>some 0) (fun r=>some r)
def iX (wv_1:Window):Option (Int) :=
  ((aN wv_1.From 0 wv_1.To).bind fun r_5=>bif r_5 then some true else some (decide (wv_1.To > 345686400000))).bind fun v_3=>bif v_3 then some 1 else bif (decide ((w64 (wv_1.To - wv_1.From)) > 34560000000))then some 2 else some 0
def cmp_Less_int (x_1:Int) (y_2:Int):Option (Bool) :=
  ((cmp_isNaN_int x_1).bind fun r_5=>bif r_5 then (cmp_isNaN_int y_2).bind fun r_8=>bif (!r_8)then some true else some (decide (x_1 < y_2))else some (decide (x_1 < y_2))).bind fun v_3=>some v_3
def iE (x_1:Int):Option (Bool) :=
  some (x_1 != x_1)
def dZ (x_1:(List Int)) (target_2:Int) (s_8:Int×Int):Option (Ctl (Int×Int) (Unit)) :=
  bif (decide (s_8.1 < s_8.2))then (IL .u64 (IntKind.u64.wrap (w64 (s_8.1 + s_8.2))) 1).bind fun q_14=>(idx x_1 (w64 q_14)).bind fun y_16=>(cmp_Less_int y_16 target_2).bind fun r_18=>bif r_18 then some (.go ((w64 ((w64 q_14) + 1)),s_8.2))else some (.go (s_8.1,(w64 q_14)))else some (.brk (s_8.1,s_8.2))
noncomputable def dN (x_1:(List Int)) (target_2:Int):Option (Int×Bool) :=
  (iB (0,(x_1.length:Int)) (fun s=>dZ x_1 target_2 s)).bind fun o_11=>thenC o_11 (fun s_8=>(bif (decide (s_8.1 < (x_1.length:Int)))then (idx x_1 s_8.1).bind fun y_24=>bif (y_24 == target_2)then some true else (idx x_1 s_8.1).bind fun y_27=>(iE y_27).bind fun r_29=>bif r_29 then (iE target_2).bind fun r_32=>some r_32 else some false else some false).bind fun v_21=>some (s_8.1,v_21)) (fun _=>none)
noncomputable def lg (e_1:Entry) (d_2:Int):Option (Bool) :=
  ((aN d_2 e_1.First e_1.Last).bind fun r_6=>bif r_6 then some true else (EX .i64 (w64 (d_2 - e_1.First)) e_1.Every).bind fun q_9=>bif (q_9 != 0)then some true else (AY .i64 1 (d_2.tmod 7)).bind fun q_12=>some ((tN .i64 e_1.Days q_12) == 0)).bind fun v_4=>bif v_4 then some false else (dN e_1.Except d_2).bind fun r_15=>some (!r_15.2)
def l9 (e_1:Entry) (zone_2:Int) (d_3:Int):Option (Window) :=
  (bif (decide ((w64 (e_1.To - e_1.From))≤0))then some (w64 ((w64 (e_1.To - e_1.From)) + 1440))else some (w64 (e_1.To - e_1.From))).bind fun v_6=>some (⟨(w64 ((w64 ((w64 ((w64 (d_3 * 1440)) + e_1.From)) - zone_2)) * 60000)),(w64 ((w64 ((w64 ((w64 ((w64 (d_3 * 1440)) + e_1.From)) - zone_2)) * 60000)) + (w64 (v_6 * 60000))))⟩:Window)
noncomputable def jc (wv_3:Window) (zone_2:Int) (e_1:Entry) (s_15:(List Window)×Int):Option (Ctl ((List Window)×Int) (Unit)) :=
  bif (decide (s_15.2≤(uX (w64 ((w64 ((w64 (wv_3.To + (w64 (zone_2 * 60000)))).tdiv 86400000)) + 1)) e_1.Last)))then (lg e_1 s_15.2).bind fun r_24=>bif (!r_24)then some (.go (s_15.1,(w64 (s_15.2 + 1))))else (l9 e_1 zone_2 s_15.2).bind fun r_27=>(bif (decide (r_27.From < wv_3.To))then some (decide (r_27.To > wv_3.From))else some false).bind fun v_30=>(bif v_30 then (nJ s_15.1 ([r_27]:List Window)).bind fun a_37=>some a_37 else some s_15.1).bind fun v_33=>some (.go (v_33,(w64 (s_15.2 + 1))))else some (.brk (s_15.1,s_15.2))
noncomputable def lq (e_1:Entry) (zone_2:Int) (wv_3:Window):Option ((List Window)) :=
  (bif e_1.Gone then some true else some (decide (wv_3.From≥wv_3.To))).bind fun v_6=>bif v_6 then some ([]:(List Window))else (iB (([]:List Window),(sI (w64 ((w64 ((w64 (wv_3.From + (w64 (zone_2 * 60000)))).tdiv 86400000)) - 2)) e_1.First)) (fun s=>jc wv_3 zone_2 e_1 s)).bind fun o_21=>thenC o_21 (fun s_15=>some s_15.1) (fun _=>none)
def tK (t_1:Window) (wv_2:Window):Option (Window) :=
  some (⟨(sI t_1.From wv_2.From),(uX t_1.To wv_2.To)⟩:Window)
def kK (wv_3:Window) (k_19:Nat) (x_21:Nat) (s_24:(List Window)):Option (Ctl ((List Window)) (Unit)) :=
  (inR (k_19:Int) s_24).bind fun _=>(s_24[(0 + ((k_19:Int)).toNat)]?).bind fun e_30=>(tK e_30 wv_3).bind fun r_33=>(inR (k_19:Int) s_24).bind fun _=>(s_24[(0 + ((k_19:Int)).toNat)]?).bind fun e_36=>some (.go (s_24.set (0 + ((k_19:Int)).toNat) r_33))
noncomputable def kX (e_1:Entry) (zone_2:Int) (wv_3:Window):Option ((List Window)×Int) :=
  (gm ([e_1]:List Entry)).bind fun r_6=>bif (r_6 != 0)then some (([]:(List Window)),r_6)else (aN zone_2 (-1440) 1440).bind fun r_9=>bif r_9 then some (([]:(List Window)),1)else (iX wv_3).bind fun r_12=>bif (r_12 != 0)then some (([]:(List Window)),r_12)else (lq e_1 zone_2 wv_3).bind fun r_15=>(forL (List.range ((r_15.length:Int)).toNat) r_15 (fun k x s=>kK wv_3 k x s)).bind fun o_27=>thenC o_27 (fun s_24=>some (s_24,0)) (fun _=>none)
def mV (wv_1:Window):Option (Bool) :=
  (bif (decide (wv_1.From≥0))then bif (decide (wv_1.From < wv_1.To))then some (decide (wv_1.To≤345686400000))else some false else some false).bind fun v_3=>some v_3
noncomputable def jb (l_1:(List ByteArray)):Option (Int) :=
  bif (decide ((l_1.length:Int) > 20))then some 2 else (iW l_1).bind fun r_3=>some r_3
noncomputable def eD (l_1:(List Campaign)) (k_3:Nat) (x_5:Campaign) (s_8:Unit):Option (Ctl (Unit) (Int)) :=
  ((kit_IsKey x_5.Key).bind fun r_16=>bif (!r_16)then some true else bif (sNe x_5.Class (⟨#[]⟩:ByteArray))then (kit_IsKey x_5.Class).bind fun r_20=>some (!r_20)else some false).bind fun v_14=>bif v_14 then some (.ret 5)else (bif (decide ((k_3:Int) > 0))then (idx l_1 (w64 ((k_3:Int) - 1))).bind fun y_26=>some (sLe x_5.Key y_26.Key)else some false).bind fun v_23=>bif v_23 then some (.ret 7)else ((mV x_5.Time).bind fun r_31=>bif (!r_31)then some true else (aN x_5.Goal 0 1000000).bind fun r_34=>bif r_34 then some true else (aN x_5.Most 0 1000000).bind fun r_37=>bif r_37 then some true else (aN x_5.Cents 0 1000000000).bind fun r_40=>some r_40).bind fun v_29=>bif v_29 then some (.ret 1)else (jb x_5.Tags).bind fun r_43=>bif (r_43 != 0)then some (.ret r_43)else some (.go ())
noncomputable def fH (l_1:(List Campaign)):Option (Int) :=
  bif (decide ((l_1.length:Int) > 30))then some 2 else (forL l_1 () (fun k x s=>eD l_1 k x s)).bind fun o_11=>thenC o_11 (fun s_8=>some 0) (fun r=>some r)
def qV (c_1:Campaign) (atv_2:Int):Option (Int) :=
  bif (decide (atv_2 < c_1.Time.From))then some 0 else bif (decide (atv_2≥c_1.Time.To))then some c_1.Goal else (GD .i64 (w64 (c_1.Goal * (w64 (atv_2 - c_1.Time.From)))) (w64 (c_1.Time.To - c_1.Time.From))).bind fun q_6=>some q_6
noncomputable def oI (c_1:Campaign) (atv_2:Int):Option (Int×Int) :=
  (fH ([c_1]:List Campaign)).bind fun r_4=>bif (r_4 != 0)then some (0,r_4)else (bW atv_2).bind fun r_7=>bif (!r_7)then some (0,1)else (qV c_1 atv_2).bind fun r_10=>some (r_10,0)
def jL (a_1:Beat) (b_2:Beat):Option (Int) :=
  (strings_Compare a_1.Player b_2.Player).bind fun r_5=>(cmp_Compare_int a_1.At b_2.At).bind fun r_7=>(jg ([r_5,r_7]:List Int)).bind fun r_9=>some r_9
noncomputable def ik (l_1:(List Beat)) (k_3:Nat) (x_5:Beat) (s_8:Unit):Option (Ctl (Unit) (Int)) :=
  (kit_IsKey x_5.Player).bind fun r_14=>bif (!r_14)then some (.ret 5)else ((bW x_5.At).bind fun r_19=>bif (!r_19)then some true else (aN x_5.Clock 0 345686399999).bind fun r_22=>some r_22).bind fun v_17=>bif v_17 then some (.ret 1)else (bif (decide ((k_3:Int) > 0))then (idx l_1 (w64 ((k_3:Int) - 1))).bind fun y_28=>(jL y_28 x_5).bind fun r_30=>some (decide (r_30≥0))else some false).bind fun v_25=>bif v_25 then some (.ret 7)else (bif (decide ((k_3:Int) > 0))then (idx l_1 (w64 ((k_3:Int) - 1))).bind fun y_36=>bif (sEq x_5.Player y_36.Player)then (idx l_1 (w64 ((k_3:Int) - 1))).bind fun y_39=>some (decide (x_5.Clock≤y_39.Clock))else some false else some false).bind fun v_33=>bif v_33 then some (.ret 16)else some (.go ())
noncomputable def jD (l_1:(List Beat)):Option (Int) :=
  bif (decide ((l_1.length:Int) > 500))then some 2 else (forL l_1 () (fun k x s=>ik l_1 k x s)).bind fun o_11=>thenC o_11 (fun s_8=>some 0) (fun r=>some r)
def nO (player_2:ByteArray) (back_3:Bool) (k_4:Nat) (x_6:Beat) (s_9:(List Beat_)):Option (Ctl ((List Beat_)) (Unit)) :=
  (bif (sNe x_6.Player player_2)then some s_9 else bif back_3 then (nJ s_9 ([(⟨x_6.At,x_6.Clock⟩:Beat_)]:List Beat_)).bind fun a_23=>some a_23 else (nJ s_9 ([(⟨x_6.Clock,x_6.At⟩:Beat_)]:List Beat_)).bind fun a_26=>some a_26).bind fun v_18=>some (.go v_18)
def oo (l_1:(List Beat)) (player_2:ByteArray) (back_3:Bool):Option ((List Beat_)) :=
  (forL l_1 ([]:List Beat_) (fun k x s=>nO player_2 back_3 k x s)).bind fun o_15=>thenC o_15 (fun s_9=>some s_9) (fun _=>none)
def mf (l_1:(List Beat_)) (n_2:Int) (s_9:Int):Option (Ctl (Int) (Unit)) :=
  (bif (decide (s_9 < (l_1.length:Int)))then (idx l_1 s_9).bind fun y_17=>some (decide (y_17.f_from≤n_2))else some false).bind fun v_14=>bif v_14 then some (.go (w64 (s_9 + 1)))else some (.brk s_9)
noncomputable def mQ (l_1:(List Beat_)) (n_2:Int):Option (Int×Int) :=
  bif ((l_1.length:Int) == 0)then some (0,8)else (iB 0 (fun s=>mf l_1 n_2 s)).bind fun o_12=>thenC o_12 (fun s_9=>bif (s_9 == 0)then (idx l_1 0).bind fun y_21=>(idx l_1 0).bind fun y_23=>(bW (w64 (y_21.f_to - (w64 (y_23.f_from - n_2))))).bind fun r_25=>bif (!r_25)then some (0,11)else some ((w64 (y_21.f_to - (w64 (y_23.f_from - n_2)))),0)else bif (s_9 == (l_1.length:Int))then (idx l_1 (w64 (s_9 - 1))).bind fun y_29=>(idx l_1 (w64 (s_9 - 1))).bind fun y_31=>(bW (w64 ((w64 (y_29.f_to + n_2)) - y_31.f_from))).bind fun r_33=>bif (!r_33)then some (0,11)else some ((w64 ((w64 (y_29.f_to + n_2)) - y_31.f_from)),0)else (idx l_1 (w64 (s_9 - 1))).bind fun y_36=>(idx l_1 s_9).bind fun y_38=>(bif (decide ((w64 (y_38.f_from - y_36.f_from)) > 2592000000))then some true else some (decide ((w64 (y_38.f_to - y_36.f_to)) > 2592000000))).bind fun v_42=>bif v_42 then some (0,2)else (GD .i64 (w64 ((w64 (n_2 - y_36.f_from)) * (w64 (y_38.f_to - y_36.f_to)))) (w64 (y_38.f_from - y_36.f_from))).bind fun q_46=>(bW (w64 (y_36.f_to + q_46))).bind fun r_48=>bif (!r_48)then some (0,11)else some ((w64 (y_36.f_to + q_46)),0)) (fun _=>none)
noncomputable def oz (l_1:(List Beat)) (player_2:ByteArray) (n_3:Int) (back_4:Bool):Option (Int×Int) :=
  (jD l_1).bind fun r_5=>bif (r_5 != 0)then some (0,r_5)else (kit_IsKey player_2).bind fun r_8=>bif (!r_8)then some (0,5)else (bW n_3).bind fun r_11=>bif (!r_11)then some (0,1)else (oo l_1 player_2 back_4).bind fun r_14=>(mQ r_14 n_3).bind fun r_16=>some (r_16.1,r_16.2)
noncomputable def oC (l_1:(List Beat)) (player_2:ByteArray) (clock_3:Int):Option (Int×Int) :=
  (oz l_1 player_2 clock_3 false).bind fun r_4=>some (r_4.1,r_4.2)
def tO (k_2:Nat) (x_4:Int) (s_7:Unit):Option (Ctl (Unit) (Int)) :=
  bif (x_4 != 0)then some (.ret x_4)else some (.go ())
def vQ (l_1:(List Int)):Option (Int) :=
  (forL l_1 () (fun k x s=>tO k x s)).bind fun o_10=>thenC o_10 (fun s_7=>some 0) (fun r=>some r)
noncomputable def nT  : Option (Bool) :=
  (oM ([(⟨0,0,2,2⟩:Rect),(⟨1,1,2,2⟩:Rect)]:List Rect)).bind fun r_1=>(kX (⟨(⟨#[97]⟩:ByteArray),(⟨#[98]⟩:ByteArray),0,0,0,1,127,([]:List Int),1,2,0,([]:List ByteArray),false⟩:Entry) 0 (⟨0,86400000⟩:Window)).bind fun r_3=>(oI (⟨(⟨#[97]⟩:ByteArray),(⟨#[]⟩:ByteArray),(⟨0,100⟩:Window),([]:List ByteArray),10,0,0⟩:Campaign) 50).bind fun r_5=>(oC ([(⟨(⟨#[112]⟩:ByteArray),0,100⟩:Beat),(⟨(⟨#[112]⟩:ByteArray),1000,1300⟩:Beat)]:List Beat) (⟨#[112]⟩:ByteArray) 700).bind fun r_7=>(iy (⟨(⟨#[97]⟩:ByteArray),(⟨#[115]⟩:ByteArray),1,([]:List ByteArray),0,5,1,([(⟨0,0,2,2⟩:Rect)]:List Rect),(⟨#[120]⟩:ByteArray)⟩:Alert) (⟨(⟨#[112]⟩:ByteArray),1,1⟩:Post)).bind fun r_10=>((vQ ([r_1.2,r_3.2,r_5.2,r_7.2,r_10.2]:List Int)).bind fun r_14=>bif (r_14 == 0)then bif (r_1.1 == 7)then bif ((r_3.1.length:Int) == 1)then bif (r_5.1 == 5)then bif (r_7.1 == 500)then some r_10.1 else some false else some false else some false else some false else some false).bind fun v_12=>some v_12
def fw (x_17:Post) (k_29:Nat) (x_31:ByteArray) (s_34:(List Receipt)×(List Int)×Int):Option (Ctl ((List Receipt)×(List Int)×Int) (Unit)) :=
  (iO (⟨s_34.2.1,s_34.2.2⟩:Stream) 2).bind fun r_41=>(bif r_41.1 then (bJ r_41.2 0 60).bind fun r_48=>(nJ s_34.1 ([(⟨x_17.Player,x_31,r_48.1,false⟩:Receipt)]:List Receipt)).bind fun a_51=>some (a_51,r_48.2.L,r_48.2.f_at)else some (s_34.1,r_41.2.L,r_41.2.f_at)).bind fun v_44=>some (.go (v_44.1,v_44.2.1,v_44.2.2))
def fq (k_15:Nat) (x_17:Post) (s_20:(List Receipt)×(List Int)×Int):Option (Ctl ((List Receipt)×(List Int)×Int) (Unit)) :=
  (forL ([(⟨#[97,97]⟩:ByteArray),(⟨#[97,98]⟩:ByteArray),(⟨#[97,99]⟩:ByteArray),(⟨#[97,100]⟩:ByteArray),(⟨#[97,101]⟩:ByteArray)]:List ByteArray) (s_20.1,s_20.2.1,s_20.2.2) (fun k x s=>fw x_17 k x s)).bind fun o_39=>thenC o_39 (fun s_34=>some (.go (s_34.1,s_34.2.1,s_34.2.2))) (fun _=>none)
def fE (x_59:Post) (k_71:Nat) (x_73:ByteArray) (s_76:(List Receipt)):Option (Ctl ((List Receipt)) (Unit)) :=
  (nJ s_76 ([(⟨x_59.Player,x_73,0,false⟩:Receipt)]:List Receipt)).bind fun a_83=>some (.go a_83)
def fA (k_57:Nat) (x_59:Post) (s_62:(List Receipt)):Option (Ctl ((List Receipt)) (Unit)) :=
  (forL ([(⟨#[97,97]⟩:ByteArray),(⟨#[97,98]⟩:ByteArray),(⟨#[97,99]⟩:ByteArray),(⟨#[97,100]⟩:ByteArray),(⟨#[97,101]⟩:ByteArray)]:List ByteArray) s_62 (fun k x s=>fE x_59 k x s)).bind fun o_81=>thenC o_81 (fun s_76=>some (.go s_76)) (fun _=>none)
noncomputable def fu (r_3:(List Alert)×Stream) (r_6:(List Post)×Stream) (r_9:Int×Stream) (r_12:Int×Stream) (k_88:Nat) (x_90:Debt) (s_93:Unit):Option (Ctl (Unit) (Bool)) :=
  (bE r_3.1 (fun x0=>jl x0 x_90)).bind fun r_99=>(dE r_6.1 (fun x0=>jm x0 x_90)).bind fun r_102=>(bif (decide (r_99 < 0))then some true else bif (decide (r_102 < 0))then some true else (idx r_3.1 r_99).bind fun y_109=>bif (x_90.Due != (w64 (y_109.At + r_9.1)))then some true else bif (decide (x_90.Due≥r_12.1))then some true else bif (decide (x_90.Got≥0))then some (decide (x_90.Got≤x_90.Due))else some false).bind fun v_105=>bif v_105 then some (.ret false)else (idx r_3.1 r_99).bind fun y_115=>(idx r_6.1 r_102).bind fun y_117=>(iy y_115 y_117).bind fun r_119=>(bif (r_119.2 != 0)then some true else some (!r_119.1)).bind fun v_121=>bif v_121 then some (.ret false)else some (.go ())
noncomputable def kH (l_1:(List Int)):Option (Bool) :=
  (gp (⟨l_1,0⟩:Stream) 5).bind fun r_3=>(gQ r_3.2).bind fun r_6=>(bJ r_6.2 0 20).bind fun r_9=>(bJ r_9.2 0 80).bind fun r_12=>(forL r_6.1 (([]:List Receipt),r_12.2.L,r_12.2.f_at) (fun k x s=>fq k x s)).bind fun o_26=>thenC o_26 (fun s_20=>(mF r_3.1 r_6.1 s_20.1 r_9.1 r_12.1).bind fun r_54=>bif (r_54.2 != 0)then some false else (forL r_6.1 ([]:List Receipt) (fun k x s=>fA k x s)).bind fun o_68=>thenC o_68 (fun s_62=>(mF r_3.1 r_6.1 s_62 r_9.1 r_12.1).bind fun r_86=>(forL r_54.1 () (fun k x s=>fu r_3 r_6 r_9 r_12 k x s)).bind fun o_96=>thenC o_96 (fun s_93=>(bif (r_86.2 == 0)then bif ((r_86.1.length:Int) == 0)then (nT).bind fun r_129=>some r_129 else some false else some false).bind fun v_125=>some v_125) (fun r=>some r)) (fun _=>none)) (fun _=>none)
end Go.Proofs.YtjhcehhmdmbleaaGreatDoor.Law

