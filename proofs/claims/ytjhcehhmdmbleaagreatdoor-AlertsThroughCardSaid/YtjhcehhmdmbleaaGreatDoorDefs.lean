/-
  The functions of the program, as plain functions over data (written by a program of ours).
-/
import Derived.Test.YtjhcehhmdmbleaaGreatDoorEng5
open Go Go.Eng
namespace Go.Proofs.YtjhcehhmdmbleaaGreatDoor.Law
set_option maxRecDepth 100000
set_option linter.unusedVariables false
set_option maxHeartbeats 1000000
structure Stream where
  L:(List Int)
  f_at:Int
def Stream.enc (s:Stream):List D := [dl eI s.L,.int .i64 s.f_at]

structure Rect where
  X:Int
  Y:Int
  W:Int
  H:Int
def Rect.enc (s:Rect):List D := [.int .i64 s.X,.int .i64 s.Y,.int .i64 s.W,.int .i64 s.H]

structure Alert where
  Id:ByteArray
  Sender:ByteArray
  Kind:Int
  Refs:(List ByteArray)
  At:Int
  Until:Int
  Weight:Int
  Areas:(List Rect)
  Text:ByteArray
def Alert.enc (s:Alert):List D := [.str s.Id,.str s.Sender,.int .i64 s.Kind,dl eS s.Refs,.int .i64 s.At,.int .i64 s.Until,.int .i64 s.Weight,dl Rect.enc s.Areas,.str s.Text]

structure Window where
  From:Int
  To:Int
def Window.enc (s:Window):List D := [.int .i64 s.From,.int .i64 s.To]

structure Post where
  Player:ByteArray
  X:Int
  Y:Int
def Post.enc (s:Post):List D := [.str s.Player,.int .i64 s.X,.int .i64 s.Y]

structure Slot_ where
  Time:Window
  Entry:ByteArray
def Slot_.enc (s:Slot_):List D := [.int .i64 s.Time.From,.int .i64 s.Time.To,.str s.Entry]

structure Run where
  f_from:Int
  f_to:Int
def Run.enc (s:Run):List D := [.int .i64 s.f_from,.int .i64 s.f_to]

structure Entry where
  Key:ByteArray
  Item:ByteArray
  Version:Int
  First:Int
  Last:Int
  Every:Int
  Days:Int
  Except:(List Int)
  From:Int
  To:Int
  Prio:Int
  Tags:(List ByteArray)
  Gone:Bool
def Entry.enc (s:Entry):List D := [.str s.Key,.str s.Item,.int .i64 s.Version,.int .i64 s.First,.int .i64 s.Last,.int .i64 s.Every,.int .i64 s.Days,dl eI s.Except,.int .i64 s.From,.int .i64 s.To,.int .i64 s.Prio,dl eS s.Tags,.bool s.Gone]

def o9 (x_1:Int) (n_2:Int):Option (Int) :=
  bif (decide (n_2 < 1))then some 0 else (IB .i64 x_1 n_2).bind fun q_4=>(bif (decide (q_4 < 0))then some (w64 (q_4 + n_2))else some q_4).bind fun v_6=>some v_6
def cZ (s_1:Stream) (n_2:Int):Option (Int×Stream) :=
  bif ((s_1.L.length:Int) == 0)then (o9 (w64 ((w64 (s_1.f_at + 1)) * 7919)) n_2).bind fun r_4=>some (r_4,(⟨s_1.L,(w64 (s_1.f_at + 1))⟩:Stream))else (IB .i64 (w64 ((w64 (s_1.f_at + 1)) - 1)) (s_1.L.length:Int)).bind fun q_6=>(quoO .i64 (w64 ((w64 (s_1.f_at + 1)) - 1)) (s_1.L.length:Int)).bind fun q_8=>(idx s_1.L q_6).bind fun y_10=>(o9 y_10 1073741824).bind fun r_12=>(o9 (w64 (r_12 + (w64 (q_8 * (w64 (7919 + q_6)))))) n_2).bind fun r_14=>some (r_14,(⟨s_1.L,(w64 (s_1.f_at + 1))⟩:Stream))
def bA (s_1:Stream) (low_2:Int) (high_3:Int):Option (Int×Stream) :=
  bif (decide (high_3 < low_2))then some (low_2,s_1)else (cZ s_1 (w64 ((w64 (high_3 - low_2)) + 1))).bind fun r_5=>some ((w64 (low_2 + r_5.1)),r_5.2)
def dH (s_1:Stream) (l_2:(List ByteArray)):Option (ByteArray×Stream) :=
  (cZ s_1 (l_2.length:Int)).bind fun r_3=>(idx l_2 r_3.1).bind fun y_6=>some (y_6,r_3.2)
def dI (s_1:Stream) (l_2:(List Int)):Option (Int×Stream) :=
  (cZ s_1 (l_2.length:Int)).bind fun r_3=>(idx l_2 r_3.1).bind fun y_6=>some (y_6,r_3.2)
def dJ (s_1:Stream) (n_2:Int):Option (Bool×Stream) :=
  (cZ s_1 n_2).bind fun r_3=>some ((r_3.1 == 0),r_3.2)
def cO (s_1:Stream):Option (Rect×Stream) :=
  (bA s_1 (-2) 8).bind fun r_3=>(bA r_3.2 (-2) 8).bind fun r_6=>(bA r_6.2 1 5).bind fun r_9=>(bA r_9.2 1 5).bind fun r_12=>some ((⟨r_3.1,r_6.1,r_9.1,r_12.1⟩:Rect),r_12.2)
def jY (a_1:Alert) (b_2:Alert):Option (Int) :=
  bif (a_1.At != b_2.At)then some (w64 (a_1.At - b_2.At))else bif (sLt a_1.Id b_2.Id)then some (-1)else some 1
def nV (x_1:Int):Option (Int) :=
  (bif (decide (x_1≥4294967296))then (Kg .u64 x_1 32).bind fun q_5=>some (q_5,32)else some (x_1,0)).bind fun v_2=>(bif (decide (v_2.1≥65536))then (Kg .u64 v_2.1 16).bind fun q_10=>some (q_10,(w64 (v_2.2 + 16)))else some (v_2.1,v_2.2)).bind fun v_7=>(bif (decide (v_7.1≥256))then (Kg .u64 v_7.1 8).bind fun q_15=>some (q_15,(w64 (v_7.2 + 8)))else some (v_7.1,v_7.2)).bind fun v_12=>(su (⟨#[0,1,2,2,3,3,3,3,4,4,4,4,4,4,4,4,5,5,5,5,5,5,5,5,5,5,5,5,5,5,5,5,6,6,6,6,6,6,6,6,6,6,6,6,6,6,6,6,6,6,6,6,6,6,6,6,6,6,6,6,6,6,6,6,7,7,7,7,7,7,7,7,7,7,7,7,7,7,7,7,7,7,7,7,7,7,7,7,7,7,7,7,7,7,7,7,7,7,7,7,7,7,7,7,7,7,7,7,7,7,7,7,7,7,7,7,7,7,7,7,7,7,7,7,7,7,7,7,8,8,8,8,8,8,8,8,8,8,8,8,8,8,8,8,8,8,8,8,8,8,8,8,8,8,8,8,8,8,8,8,8,8,8,8,8,8,8,8,8,8,8,8,8,8,8,8,8,8,8,8,8,8,8,8,8,8,8,8,8,8,8,8,8,8,8,8,8,8,8,8,8,8,8,8,8,8,8,8,8,8,8,8,8,8,8,8,8,8,8,8,8,8,8,8,8,8,8,8,8,8,8,8,8,8,8,8,8,8,8,8,8,8,8,8,8,8,8,8,8,8,8,8,8,8,8,8]⟩:ByteArray) (IntKind.u8.wrap v_12.1)).bind fun b_17=>some (w64 (v_12.2 + (w64 (b_17.toNat:Int))))
def iq (x_1:Int):Option (Int) :=
  (nV x_1).bind fun r_2=>some r_2
def dw (a_2:Int) (s_21:(List Alert)×Int):Option (Ctl ((List Alert)×Int) (Unit)) :=
  (bif (decide (s_21.2 > a_2))then (inR s_21.2 s_21.1).bind fun _=>(s_21.1[(0 + (s_21.2).toNat)]?).bind fun e_30=>(inR (w64 (s_21.2 - 1)) s_21.1).bind fun _=>(s_21.1[(0 + ((w64 (s_21.2 - 1))).toNat)]?).bind fun e_33=>(jY e_30 e_33).bind fun r_35=>some (decide (r_35 < 0))else some false).bind fun v_26=>bif v_26 then (inR (w64 (s_21.2 - 1)) s_21.1).bind fun _=>(s_21.1[(0 + ((w64 (s_21.2 - 1))).toNat)]?).bind fun e_39=>(inR s_21.2 s_21.1).bind fun _=>(s_21.1[(0 + (s_21.2).toNat)]?).bind fun e_42=>(inR s_21.2 s_21.1).bind fun _=>(s_21.1[(0 + (s_21.2).toNat)]?).bind fun e_45=>(inR (w64 (s_21.2 - 1)) (s_21.1.set (0 + (s_21.2).toNat) e_39)).bind fun _=>((s_21.1.set (0 + (s_21.2).toNat) e_39)[(0 + ((w64 (s_21.2 - 1))).toNat)]?).bind fun e_48=>some (.go (((s_21.1.set (0 + (s_21.2).toNat) e_39).set (0 + ((w64 (s_21.2 - 1))).toNat) e_42),(w64 (s_21.2 - 1))))else some (.brk (s_21.1,s_21.2))
noncomputable def dx (b_3:Int) (a_2:Int) (s_10:(List Alert)×Int):Option (Ctl ((List Alert)×Int) (Unit)) :=
  bif (decide (s_10.2 < b_3))then (ic (s_10.1,s_10.2) (fun s=>dw a_2 s)).bind fun o_24=>thenC o_24 (fun s_21=>some (.go (s_21.1,(w64 (s_10.2 + 1))))) (fun _=>none)else some (.brk (s_10.1,s_10.2))
noncomputable def dQ (data_1:(List Alert)) (a_2:Int) (b_3:Int):Option ((List Alert)) :=
  (ic (data_1,(w64 (a_2 + 1))) (fun s=>dx b_3 a_2 s)).bind fun o_13=>thenC o_13 (fun s_10=>some s_10.1) (fun _=>none)
noncomputable def eH (b_3:Int) (a_2:Int) (data_1:(List Alert)) (limit_4:Int) (s_11:Unit):Option (Ctl (Unit) ((List Alert))) :=
  bif (decide ((w64 (b_3 - a_2))≤12))then (dQ data_1 a_2 b_3).bind fun r_17=>(iO r_17 data_1).bind fun _=>some (.ret r_17)else bif (limit_4 == 0)then none else none
noncomputable def fw (data_1:(List Alert)) (a_2:Int) (b_3:Int) (limit_4:Int):Option ((List Alert)) :=
  (ic () (fun s=>eH b_3 a_2 data_1 limit_4 s)).bind fun o_14=>thenC o_14 (fun s_11=>some data_1) (fun r=>some r)
noncomputable def bG (x_1:(List Alert)):Option ((List Alert)) :=
  (iq (IntKind.u64.wrap (x_1.length:Int))).bind fun r_3=>(fw x_1 0 (x_1.length:Int) r_3).bind fun r_5=>(iO r_5 x_1).bind fun _=>some r_5
def cz (x_10:ByteArray) (k_45:Nat) (x_47:ByteArray) (s_50:(List ByteArray)×(List Int)×Int):Option (Ctl ((List ByteArray)×(List Int)×Int) (Unit)) :=
  (bif (sNe x_47 x_10)then (dJ (⟨s_50.2.1,s_50.2.2⟩:Stream) 3).bind fun r_61=>some (r_61.1,r_61.2.L,r_61.2.f_at)else some (false,s_50.2.1,s_50.2.2)).bind fun v_58=>(bif v_58.1 then (pJ s_50.1 ([x_47]:List ByteArray)).bind fun a_68=>some a_68 else some s_50.1).bind fun v_64=>some (.go (v_64,v_58.2.1,v_58.2.2))
def cB (k_85:Nat) (x_87:Nat) (s_90:(List Rect)×(List Int)×Int):Option (Ctl ((List Rect)×(List Int)×Int) (Unit)) :=
  (cO (⟨s_90.2.1,s_90.2.2⟩:Stream)).bind fun r_97=>(pJ s_90.1 ([r_97.1]:List Rect)).bind fun a_100=>some (.go (a_100,r_97.2.L,r_97.2.f_at))
def dM (k_8:Nat) (x_10:ByteArray) (s_13:(List Alert)×(List Int)×Int):Option (Ctl ((List Alert)×(List Int)×Int) (Unit)) :=
  (dH (⟨s_13.2.1,s_13.2.2⟩:Stream) ([(⟨#[119,120]⟩:ByteArray),(⟨#[119,120]⟩:ByteArray),(⟨#[102,105,114,101]⟩:ByteArray)]:List ByteArray)).bind fun r_21=>(dI r_21.2 ([1,1,2,2,3]:List Int)).bind fun r_24=>(bA r_24.2 0 6).bind fun r_27=>(dI r_27.2 ([1,5,5,9]:List Int)).bind fun r_30=>(dH r_30.2 ([(⟨#[102,108,111,111,100]⟩:ByteArray),(⟨#[102,105,114,101,32,105,110,32,116,104,101,32,109,97,108,108]⟩:ByteArray)]:List ByteArray)).bind fun r_33=>(dI r_33.2 ([1,10,20,50]:List Int)).bind fun r_37=>(bif (r_24.1 != 1)then (forL ([(⟨#[97,97]⟩:ByteArray),(⟨#[97,98]⟩:ByteArray),(⟨#[97,99]⟩:ByteArray),(⟨#[97,100]⟩:ByteArray),(⟨#[122,122]⟩:ByteArray)]:List ByteArray) (([]:List ByteArray),r_37.2.L,r_37.2.f_at) (fun k x s=>cz x_10 k x s)).bind fun o_56=>thenC o_56 (fun s_50=>bif ((s_50.1.length:Int) == 0)then some (s_50.2.1,s_50.2.2,([(⟨#[122,121]⟩:ByteArray)]:List ByteArray))else some (s_50.2.1,s_50.2.2,s_50.1)) (fun _=>none)else some (r_37.2.L,r_37.2.f_at,([]:List ByteArray))).bind fun v_42=>(bif (r_24.1 == 3)then (dH (⟨v_42.1,v_42.2.1⟩:Stream) ([(⟨#[]⟩:ByteArray),(⟨#[111,118,101,114]⟩:ByteArray)]:List ByteArray)).bind fun r_79=>some (([]:List Rect),r_79.2.L,r_79.2.f_at,r_79.1)else (bA (⟨v_42.1,v_42.2.1⟩:Stream) 1 2).bind fun r_82=>(forL (List.range (r_82.1).toNat) (([]:List Rect),r_82.2.L,r_82.2.f_at) (fun k x s=>cB k x s)).bind fun o_95=>thenC o_95 (fun s_90=>some (s_90.1,s_90.2.1,s_90.2.2,r_33.1)) (fun _=>none)).bind fun v_75=>(pJ s_13.1 ([(⟨x_10,r_21.1,r_24.1,v_42.2.2,(w64 (r_27.1 * 5)),(w64 ((w64 (r_27.1 * 5)) + r_37.1)),r_30.1,v_75.1,v_75.2.2.2⟩:Alert)]:List Alert)).bind fun a_103=>some (.go (a_103,v_75.2.1,v_75.2.2.1))
noncomputable def eZ (s_1:Stream) (most_2:Int):Option ((List Alert)×Stream) :=
  (bA s_1 0 most_2).bind fun r_3=>(Cq ([(⟨#[97,97]⟩:ByteArray),(⟨#[97,98]⟩:ByteArray),(⟨#[97,99]⟩:ByteArray),(⟨#[97,100]⟩:ByteArray),(⟨#[97,101]⟩:ByteArray),(⟨#[97,102]⟩:ByteArray)]:List ByteArray) 0 r_3.1).bind fun y_6=>(forL y_6 (([]:List Alert),r_3.2.L,r_3.2.f_at) (fun k x s=>dM k x s)).bind fun o_19=>thenC o_19 (fun s_13=>(bG s_13.1).bind fun r_106=>(iO r_106 s_13.1).bind fun _=>some (r_106,(⟨s_13.2.1,s_13.2.2⟩:Stream))) (fun _=>none)
def bQ (s_1:Stream) (low_2:Int) (high_3:Int):Option (Int×Stream) :=
  (dJ s_1 12).bind fun r_4=>bif r_4.1 then (dI r_4.2 ([(w64 (low_2 - 1)),(w64 (high_3 + 1)),low_2,high_3,(-1099511627776),1099511627776]:List Int)).bind fun r_8=>some (r_8.1,r_8.2)else (bA r_4.2 low_2 high_3).bind fun r_11=>some (r_11.1,r_11.2)
def kP (s_1:Stream):Option (Rect×Stream) :=
  (cO s_1).bind fun r_3=>(dJ r_3.2 20).bind fun r_7=>(bif r_7.1 then (cZ r_7.2 3).bind fun r_13=>bif (r_13.1 == 0)then (bQ r_13.2 (-100000) 99999).bind fun r_17=>some (r_17.2.L,r_17.2.f_at,r_17.1,r_3.1.Y,r_3.1.W,r_3.1.H)else bif (r_13.1 == 1)then (bQ r_13.2 1 200000).bind fun r_21=>(bQ r_21.2 1 5).bind fun r_24=>some (r_24.2.L,r_24.2.f_at,r_3.1.X,r_3.1.Y,r_21.1,r_24.1)else (dI r_13.2 ([(-100000),99999]:List Int)).bind fun r_27=>(dI r_27.2 ([1,2,200000]:List Int)).bind fun r_30=>some (r_30.2.L,r_30.2.f_at,r_3.1.X,r_27.1,r_3.1.W,r_30.1)else some (r_7.2.L,r_7.2.f_at,r_3.1.X,r_3.1.Y,r_3.1.W,r_3.1.H)).bind fun v_10=>some ((⟨v_10.2.2.1,v_10.2.2.2.1,v_10.2.2.2.2.1,v_10.2.2.2.2.2⟩:Rect),(⟨v_10.1,v_10.2.1⟩:Stream))
def iH (k_6:Nat) (x_8:Nat) (s_11:(List Rect)×(List Int)×Int):Option (Ctl ((List Rect)×(List Int)×Int) (Unit)) :=
  (cO (⟨s_11.2.1,s_11.2.2⟩:Stream)).bind fun r_19=>(dJ r_19.2 60).bind fun r_23=>(bif r_23.1 then (kP r_23.2).bind fun r_29=>some (r_29.2.L,r_29.2.f_at,r_29.1.X,r_29.1.Y,r_29.1.W,r_29.1.H)else some (r_23.2.L,r_23.2.f_at,r_19.1.X,r_19.1.Y,r_19.1.W,r_19.1.H)).bind fun v_26=>(pJ s_11.1 ([(⟨v_26.2.2.1,v_26.2.2.2.1,v_26.2.2.2.2.1,v_26.2.2.2.2.2⟩:Rect)]:List Rect)).bind fun a_32=>some (.go (a_32,v_26.1,v_26.2.1))
def jK (s_1:Stream) (most_2:Int):Option ((List Rect)×Stream) :=
  (bA s_1 0 most_2).bind fun r_3=>(forL (List.range (r_3.1).toNat) (([]:List Rect),r_3.2.L,r_3.2.f_at) (fun k x s=>iH k x s)).bind fun o_17=>thenC o_17 (fun s_11=>some (s_11.1,(⟨s_11.2.1,s_11.2.2⟩:Stream))) (fun _=>none)
noncomputable def jo (s_1:Stream) (most_2:Int):Option ((List Alert)×Stream) :=
  (eZ s_1 most_2).bind fun r_3=>(bif (decide ((r_3.1.length:Int) > 0))then (dJ r_3.2 10).bind fun r_10=>some (r_10.1,r_10.2.L,r_10.2.f_at)else some (false,r_3.2.L,r_3.2.f_at)).bind fun v_7=>(bif v_7.1 then (cZ (⟨v_7.2.1,v_7.2.2⟩:Stream) (r_3.1.length:Int)).bind fun r_16=>(inR r_16.1 r_3.1).bind fun _=>(cZ r_16.2 6).bind fun r_20=>bif (r_20.1 == 0)then (r_3.1[(0 + (r_16.1).toNat)]?).bind fun e_24=>(dH r_20.2 ([e_24.Id,(⟨#[]⟩:ByteArray),(⟨#[97,97]⟩:ByteArray)]:List ByteArray)).bind fun r_26=>(dH r_26.2 ([(⟨#[119,120]⟩:ByteArray),(⟨#[65]⟩:ByteArray)]:List ByteArray)).bind fun r_29=>(r_3.1[(0 + (r_16.1).toNat)]?).bind fun e_32=>((r_3.1.set (0 + (r_16.1).toNat) (⟨r_26.1,e_32.Sender,e_32.Kind,e_32.Refs,e_32.At,e_32.Until,e_32.Weight,e_32.Areas,e_32.Text⟩:Alert))[(0 + (r_16.1).toNat)]?).bind fun e_34=>some (((r_3.1.set (0 + (r_16.1).toNat) (⟨r_26.1,e_32.Sender,e_32.Kind,e_32.Refs,e_32.At,e_32.Until,e_32.Weight,e_32.Areas,e_32.Text⟩:Alert)).set (0 + (r_16.1).toNat) (⟨e_34.Id,r_29.1,e_34.Kind,e_34.Refs,e_34.At,e_34.Until,e_34.Weight,e_34.Areas,e_34.Text⟩:Alert)),r_29.2.L,r_29.2.f_at)else bif (r_20.1 == 1)then (bQ r_20.2 1 3).bind fun r_37=>(r_3.1[(0 + (r_16.1).toNat)]?).bind fun e_40=>some ((r_3.1.set (0 + (r_16.1).toNat) (⟨e_40.Id,e_40.Sender,r_37.1,e_40.Refs,e_40.At,e_40.Until,e_40.Weight,e_40.Areas,e_40.Text⟩:Alert)),r_37.2.L,r_37.2.f_at)else bif (r_20.1 == 2)then (r_3.1[(0 + (r_16.1).toNat)]?).bind fun e_43=>(cZ r_20.2 5).bind fun r_45=>(idx ([([]:List ByteArray),([(⟨#[97,98]⟩:ByteArray),(⟨#[97,97]⟩:ByteArray)]:List ByteArray),([e_43.Id]:List ByteArray),([(⟨#[65]⟩:ByteArray)]:List ByteArray),([(⟨#[97,97]⟩:ByteArray),(⟨#[122,122]⟩:ByteArray)]:List ByteArray)]:List (List ByteArray)) r_45.1).bind fun y_48=>(r_3.1[(0 + (r_16.1).toNat)]?).bind fun e_50=>some ((r_3.1.set (0 + (r_16.1).toNat) (⟨e_50.Id,e_50.Sender,e_50.Kind,y_48,e_50.At,e_50.Until,e_50.Weight,e_50.Areas,e_50.Text⟩:Alert)),r_45.2.L,r_45.2.f_at)else bif (r_20.1 == 3)then (bQ r_20.2 0 30).bind fun r_53=>(bQ r_53.2 0 60).bind fun r_56=>(r_3.1[(0 + (r_16.1).toNat)]?).bind fun e_59=>((r_3.1.set (0 + (r_16.1).toNat) (⟨e_59.Id,e_59.Sender,e_59.Kind,e_59.Refs,r_53.1,e_59.Until,e_59.Weight,e_59.Areas,e_59.Text⟩:Alert))[(0 + (r_16.1).toNat)]?).bind fun e_61=>some (((r_3.1.set (0 + (r_16.1).toNat) (⟨e_59.Id,e_59.Sender,e_59.Kind,e_59.Refs,r_53.1,e_59.Until,e_59.Weight,e_59.Areas,e_59.Text⟩:Alert)).set (0 + (r_16.1).toNat) (⟨e_61.Id,e_61.Sender,e_61.Kind,e_61.Refs,e_61.At,r_56.1,e_61.Weight,e_61.Areas,e_61.Text⟩:Alert)),r_56.2.L,r_56.2.f_at)else bif (r_20.1 == 4)then (jK r_20.2 2).bind fun r_64=>(bQ r_64.2 1 9).bind fun r_67=>(r_3.1[(0 + (r_16.1).toNat)]?).bind fun e_70=>((r_3.1.set (0 + (r_16.1).toNat) (⟨e_70.Id,e_70.Sender,e_70.Kind,e_70.Refs,e_70.At,e_70.Until,e_70.Weight,r_64.1,e_70.Text⟩:Alert))[(0 + (r_16.1).toNat)]?).bind fun e_72=>some (((r_3.1.set (0 + (r_16.1).toNat) (⟨e_70.Id,e_70.Sender,e_70.Kind,e_70.Refs,e_70.At,e_70.Until,e_70.Weight,r_64.1,e_70.Text⟩:Alert)).set (0 + (r_16.1).toNat) (⟨e_72.Id,e_72.Sender,e_72.Kind,e_72.Refs,e_72.At,e_72.Until,r_67.1,e_72.Areas,e_72.Text⟩:Alert)),r_67.2.L,r_67.2.f_at)else (dH r_20.2 ([(⟨#[]⟩:ByteArray),(⟨#[32,120]⟩:ByteArray),(⟨#[97,32,32,98]⟩:ByteArray),(⟨#[10]⟩:ByteArray),(⟨#[255]⟩:ByteArray)]:List ByteArray)).bind fun r_74=>(r_3.1[(0 + (r_16.1).toNat)]?).bind fun e_77=>some ((r_3.1.set (0 + (r_16.1).toNat) (⟨e_77.Id,e_77.Sender,e_77.Kind,e_77.Refs,e_77.At,e_77.Until,e_77.Weight,e_77.Areas,r_74.1⟩:Alert)),r_74.2.L,r_74.2.f_at)else some (r_3.1,v_7.2.1,v_7.2.2)).bind fun v_13=>some (v_13.1,(⟨v_13.2.1,v_13.2.2⟩:Stream))
def dX (k_2:Nat) (x_4:ByteArray) (s_7:(List Post)×(List Int)×Int):Option (Ctl ((List Post)×(List Int)×Int) (Unit)) :=
  (dJ (⟨s_7.2.1,s_7.2.2⟩:Stream) 5).bind fun r_15=>(bif (!r_15.1)then (bA r_15.2 (-2) 10).bind fun r_22=>(bA r_22.2 (-2) 10).bind fun r_25=>(pJ s_7.1 ([(⟨x_4,r_22.1,r_25.1⟩:Post)]:List Post)).bind fun a_28=>some (a_28,r_25.2.L,r_25.2.f_at)else some (s_7.1,r_15.2.L,r_15.2.f_at)).bind fun v_18=>some (.go (v_18.1,v_18.2.1,v_18.2.2))
def gP (s_1:Stream):Option ((List Post)×Stream) :=
  (forL ([(⟨#[112,97]⟩:ByteArray),(⟨#[112,98]⟩:ByteArray),(⟨#[112,99]⟩:ByteArray)]:List ByteArray) (([]:List Post),s_1.L,s_1.f_at) (fun k x s=>dX k x s)).bind fun o_13=>thenC o_13 (fun s_7=>some (s_7.1,(⟨s_7.2.1,s_7.2.2⟩:Stream))) (fun _=>none)
def iL (s_1:Stream):Option ((List Post)×Stream) :=
  (gP s_1).bind fun r_2=>(bif (decide ((r_2.1.length:Int) > 0))then (dJ r_2.2 15).bind fun r_9=>some (r_9.1,r_9.2.L,r_9.2.f_at)else some (false,r_2.2.L,r_2.2.f_at)).bind fun v_6=>(bif v_6.1 then (cZ (⟨v_6.2.1,v_6.2.2⟩:Stream) (r_2.1.length:Int)).bind fun r_15=>(inR r_15.1 r_2.1).bind fun _=>(r_2.1[(0 + (r_15.1).toNat)]?).bind fun e_19=>(dH r_15.2 ([e_19.Player,(⟨#[]⟩:ByteArray),(⟨#[112,97]⟩:ByteArray)]:List ByteArray)).bind fun r_21=>(bQ r_21.2 (-100000) 100000).bind fun r_24=>(r_2.1[(0 + (r_15.1).toNat)]?).bind fun e_27=>((r_2.1.set (0 + (r_15.1).toNat) (⟨r_21.1,e_27.X,e_27.Y⟩:Post))[(0 + (r_15.1).toNat)]?).bind fun e_29=>some (((r_2.1.set (0 + (r_15.1).toNat) (⟨r_21.1,e_27.X,e_27.Y⟩:Post)).set (0 + (r_15.1).toNat) (⟨e_29.Player,r_24.1,e_29.Y⟩:Post)),r_24.2.L,r_24.2.f_at)else some (r_2.1,v_6.2.1,v_6.2.2)).bind fun v_12=>some (v_12.1,(⟨v_12.2.1,v_12.2.2⟩:Stream))
def iQ (s_1:ByteArray) (s_7:Int):Option (Ctl (Int) (Bool)) :=
  bif (decide (s_7 < (s_1.size:Int)))then (su s_1 s_7).bind fun b_13=>(bif (decide ((b_13.toNat:Int)≥97))then bif (decide ((b_13.toNat:Int)≤122))then some false else bif (decide (s_7 > 0))then bif (decide ((b_13.toNat:Int)≥48))then bif (decide ((b_13.toNat:Int)≤57))then some false else bif ((b_13.toNat:Int) == 45)then some false else some (!((b_13.toNat:Int) == 95))else bif ((b_13.toNat:Int) == 45)then some false else some (!((b_13.toNat:Int) == 95))else some true else bif (decide (s_7 > 0))then bif (decide ((b_13.toNat:Int)≥48))then bif (decide ((b_13.toNat:Int)≤57))then some false else bif ((b_13.toNat:Int) == 45)then some false else some (!((b_13.toNat:Int) == 95))else bif ((b_13.toNat:Int) == 45)then some false else some (!((b_13.toNat:Int) == 95))else some true).bind fun v_15=>bif v_15 then some (.ret false)else some (.go (w64 (s_7 + 1)))else some (.brk s_7)
noncomputable def kit_IsKey (s_1:ByteArray):Option (Bool) :=
  (ic 0 (fun s=>iQ s_1 s)).bind fun o_10=>thenC o_10 (fun s_7=>(bif (sNe s_1 (⟨#[]⟩:ByteArray))then some (decide ((s_1.size:Int)≤40))else some false).bind fun v_30=>some v_30) (fun r=>some r)
def bW (n_1:Int) (low_2:Int) (high_3:Int):Option (Bool) :=
  (bif (decide (n_1 < low_2))then some true else some (decide (n_1 > high_3))).bind fun v_4=>some v_4
noncomputable def eB (a_1:Alert) (k_4:Nat) (x_6:ByteArray) (s_9:Unit):Option (Ctl (Unit) (Int)) :=
  (kit_IsKey x_6).bind fun r_14=>bif (!r_14)then some (.ret 5)else (bif (decide ((k_4:Int) > 0))then (idx a_1.Refs (w64 ((k_4:Int) - 1))).bind fun y_20=>some (sLe x_6 y_20)else some false).bind fun v_17=>bif v_17 then some (.ret 7)else bif (sEq x_6 a_1.Id)then some (.ret 14)else some (.go ())
noncomputable def ib (a_1:Alert):Option (Int) :=
  bif (decide ((a_1.Refs.length:Int) > 20))then some 2 else (forL a_1.Refs () (fun k x s=>eB a_1 k x s)).bind fun o_12=>thenC o_12 (fun s_9=>bif (!((a_1.Kind == 1) == ((a_1.Refs.length:Int) == 0)))then some 3 else some 0) (fun r=>some r)
def lc (n_1:Int):Option (Bool) :=
  (bif (decide (n_1≥0))then some (decide (n_1 < 345686400000))else some false).bind fun v_2=>some v_2
def ja (r_1:Rect):Option (Int) :=
  ((bW r_1.X (-100000) 100000).bind fun r_5=>bif r_5 then some true else (bW r_1.Y (-100000) 100000).bind fun r_8=>some r_8).bind fun v_3=>bif v_3 then some 1 else ((bW r_1.W 1 (w64 (100000 - r_1.X))).bind fun r_13=>bif r_13 then some true else (bW r_1.H 1 (w64 (100000 - r_1.Y))).bind fun r_16=>some r_16).bind fun v_11=>bif v_11 then some 1 else some 0
def fo (x0:ByteArray):Option (Bool) :=
  FV x0
def gM (c_2:Int) (s_8:ByteArray):Option (Ctl (ByteArray) (Unit)) :=
  (bif (decide ((s_8.size:Int) > 0))then (su s_8 (w64 ((s_8.size:Int) - 1))).bind fun b_16=>some ((b_16.toNat:Int) == c_2)else some false).bind fun v_13=>bif v_13 then (zP s_8 0 (w64 ((s_8.size:Int) - 1))).bind fun y_19=>some (.go y_19)else some (.brk s_8)
noncomputable def strings_trimRightByte (s_1:ByteArray) (c_2:Int):Option (ByteArray) :=
  (ic s_1 (fun s=>gM c_2 s)).bind fun o_11=>thenC o_11 (fun s_8=>some s_8) (fun _=>none)
def gW (c_2:Int) (s_8:ByteArray):Option (Ctl (ByteArray) (Unit)) :=
  (bif (decide ((s_8.size:Int) > 0))then (su s_8 0).bind fun b_16=>some ((b_16.toNat:Int) == c_2)else some false).bind fun v_13=>bif v_13 then (zP s_8 1 s_8.size).bind fun y_19=>some (.go y_19)else some (.brk s_8)
noncomputable def strings_trimLeftByte (s_1:ByteArray) (c_2:Int):Option (ByteArray) :=
  (ic s_1 (fun s=>gW c_2 s)).bind fun o_11=>thenC o_11 (fun s_8=>some s_8) (fun _=>none)
noncomputable def lh (s_1:ByteArray) (cutset_2:ByteArray):Option (ByteArray) :=
  (bif (sEq s_1 (⟨#[]⟩:ByteArray))then some true else some (sEq cutset_2 (⟨#[]⟩:ByteArray))).bind fun v_3=>bif v_3 then some s_1 else (bif ((cutset_2.size:Int) == 1)then (su cutset_2 0).bind fun b_10=>some (decide ((b_10.toNat:Int) < 128))else some false).bind fun v_7=>bif v_7 then (su cutset_2 0).bind fun b_13=>(strings_trimRightByte s_1 (b_13.toNat:Int)).bind fun r_15=>(su cutset_2 0).bind fun b_17=>(strings_trimLeftByte r_15 (b_17.toNat:Int)).bind fun r_19=>some r_19 else none
def strings_Contains (x0:ByteArray) (x1:ByteArray):Option (Bool) :=
  xO x0 x1
def mh (s_1:ByteArray) (s_7:Int):Option (Ctl (Int) (Bool)) :=
  bif (decide (s_7 < (s_1.size:Int)))then ((su s_1 s_7).bind fun b_15=>bif (decide ((b_15.toNat:Int) < 32))then some true else (su s_1 s_7).bind fun b_18=>some ((b_18.toNat:Int) == 127)).bind fun v_13=>bif v_13 then some (.ret false)else some (.go (w64 (s_7 + 1)))else some (.brk s_7)
noncomputable def kL (s_1:ByteArray):Option (Bool) :=
  (ic 0 (fun s=>mh s_1 s)).bind fun o_10=>thenC o_10 (fun s_7=>((fo s_1).bind fun r_23=>bif r_23 then (lh s_1 (⟨#[32]⟩:ByteArray)).bind fun r_26=>bif (sEq r_26 s_1)then (strings_Contains s_1 (⟨#[32,32]⟩:ByteArray)).bind fun r_29=>some (!r_29)else some false else some false).bind fun v_21=>some v_21) (fun r=>some r)
def eQ (k_29:Nat) (x_31:Rect) (s_34:Unit):Option (Ctl (Unit) (Int)) :=
  (ja x_31).bind fun r_40=>bif (r_40 != 0)then some (.ret r_40)else some (.go ())
noncomputable def gD (a_1:Alert):Option (Int) :=
  ((kit_IsKey a_1.Id).bind fun r_5=>bif (!r_5)then some true else (kit_IsKey a_1.Sender).bind fun r_8=>some (!r_8)).bind fun v_3=>bif v_3 then some 5 else (bW a_1.Kind 1 3).bind fun r_11=>bif r_11 then some 4 else (ib a_1).bind fun r_14=>bif (r_14 != 0)then some r_14 else ((lc a_1.At).bind fun r_19=>bif (!r_19)then some true else (bW a_1.Until (w64 (a_1.At + 1)) (w64 (a_1.At + 2592000000))).bind fun r_22=>bif r_22 then some true else (bW a_1.Weight 1 9).bind fun r_25=>some r_25).bind fun v_17=>bif v_17 then some 1 else bif (decide ((a_1.Areas.length:Int) > 20))then some 2 else (forL a_1.Areas () (fun k x s=>eQ k x s)).bind fun o_37=>thenC o_37 (fun s_34=>bif (!((a_1.Kind == 3) == ((a_1.Areas.length:Int) == 0)))then some 3 else bif (decide ((a_1.Text.size:Int) > 500))then some 2 else ((kL a_1.Text).bind fun r_47=>bif (!r_47)then some true else bif (sEq a_1.Text (⟨#[]⟩:ByteArray))then some (!(a_1.Kind == 3))else some false).bind fun v_45=>bif v_45 then some 3 else some 0) (fun r=>some r)
def cmp_isNaN_int (x_1:Int):Option (Bool) :=
  some (x_1 != x_1)
def cmp_Compare_int (x_1:Int) (y_2:Int):Option (Int) :=
  (cmp_isNaN_int x_1).bind fun r_3=>(cmp_isNaN_int y_2).bind fun r_5=>bif r_3 then bif r_5 then some 0 else some (-1)else bif r_5 then some 1 else bif (decide (x_1 < y_2))then some (-1)else bif (decide (x_1 > y_2))then some 1 else some 0
def gH (a_1:ByteArray) (b_2:ByteArray):Option (Int) :=
  some (xX a_1 b_2)
def strings_Compare (a_1:ByteArray) (b_2:ByteArray):Option (Int) :=
  (gH a_1 b_2).bind fun r_3=>some r_3
def lH (k_2:Nat) (x_4:Int) (s_7:Unit):Option (Ctl (Unit) (Int)) :=
  bif (x_4 != 0)then some (.ret x_4)else some (.go ())
def kH (vals_1:(List Int)):Option (Int) :=
  (forL vals_1 () (fun k x s=>lH k x s)).bind fun o_10=>thenC o_10 (fun s_7=>some 0) (fun r=>some r)
def ik (a_1:Alert) (b_2:Alert):Option (Int) :=
  (cmp_Compare_int a_1.At b_2.At).bind fun r_5=>(strings_Compare a_1.Id b_2.Id).bind fun r_7=>(kH ([r_5,r_7]:List Int)).bind fun r_9=>some r_9
noncomputable def dF (l_1:(List Alert)) (k_3:Nat) (x_5:Alert) (s_8:Unit):Option (Ctl (Unit) (Int)) :=
  (gD x_5).bind fun r_14=>bif (r_14 != 0)then some (.ret r_14)else (bif (decide ((k_3:Int) > 0))then (idx l_1 (w64 ((k_3:Int) - 1))).bind fun y_20=>(ik y_20 x_5).bind fun r_22=>some (decide (r_22≥0))else some false).bind fun v_17=>bif v_17 then some (.ret 7)else some (.go ())
def bK (k_26:Nat) (x_28:Alert) (s_31:(List (ByteArray×Bool))):Option (Ctl ((List (ByteArray×Bool))) (Int)) :=
  bif ((vk eqS s_31 x_28.Id).getD false)then some (.ret 6)else some (.go (rY eqS s_31 x_28.Id true))
noncomputable def fP (l_1:(List Alert)):Option (Int) :=
  bif (decide ((l_1.length:Int) > 300))then some 2 else (forL l_1 () (fun k x s=>dF l_1 k x s)).bind fun o_11=>thenC o_11 (fun s_8=>(forL l_1 ([]:List (ByteArray×Bool)) (fun k x s=>bK k x s)).bind fun o_34=>thenC o_34 (fun s_31=>some 0) (fun r=>some r)) (fun r=>some r)
noncomputable def dN (l_1:(List Post)) (k_3:Nat) (x_5:Post) (s_8:Unit):Option (Ctl (Unit) (Int)) :=
  (kit_IsKey x_5.Player).bind fun r_14=>bif (!r_14)then some (.ret 5)else ((bW x_5.X (-100000) 100000).bind fun r_19=>bif r_19 then some true else (bW x_5.Y (-100000) 100000).bind fun r_22=>some r_22).bind fun v_17=>bif v_17 then some (.ret 1)else (bif (decide ((k_3:Int) > 0))then (idx l_1 (w64 ((k_3:Int) - 1))).bind fun y_28=>some (sLe x_5.Player y_28.Player)else some false).bind fun v_25=>bif v_25 then some (.ret 7)else some (.go ())
noncomputable def gJ (l_1:(List Post)):Option (Int) :=
  bif (decide ((l_1.length:Int) > 500))then some 2 else (forL l_1 () (fun k x s=>dN l_1 k x s)).bind fun o_11=>thenC o_11 (fun s_8=>some 0) (fun r=>some r)
noncomputable def gm (l_1:(List Alert)) (posts_2:(List Post)):Option (Int) :=
  (fP l_1).bind fun r_3=>bif (r_3 != 0)then some r_3 else (gJ posts_2).bind fun r_6=>some r_6
def jH (o_1:Alert) (p_2:ByteArray) (p_3:Alert):Option (Bool) :=
  (bif (sEq o_1.Id p_2)then bif (sEq o_1.Sender p_3.Sender)then (ik o_1 p_3).bind fun r_9=>some (decide (r_9 < 0))else some false else some false).bind fun v_5=>some v_5
def bz (f_2:Alert→Option Bool) (k_3:Nat) (x_5:Alert) (s_8:Unit):Option (Ctl (Unit) (Int)) :=
  (f_2 x_5).bind fun r_13=>bif r_13 then some (.ret (k_3:Int))else some (.go ())
def bg (s_1:(List Alert)) (f_2:Alert→Option Bool):Option (Int) :=
  (forL s_1 () (fun k x s=>bz f_2 k x s)).bind fun o_11=>thenC o_11 (fun s_8=>some (-1)) (fun r=>some r)
def mU (l_1:(List Alert)) (a_2:Alert) (ref_3:ByteArray):Option (Int) :=
  (bg l_1 (fun x0=>jH x0 ref_3 a_2)).bind fun r_6=>some r_6
def lD (k_2:Nat) (x_4:Alert) (s_7:(List Int)):Option (Ctl ((List Int)) (Unit)) :=
  (pJ s_7 ([x_4.Until]:List Int)).bind fun a_16=>some (.go a_16)
def jX (l_1:(List Alert)) (x_21:Alert) (k_30:Nat) (x_32:ByteArray) (s_35:(List Int)):Option (Ctl ((List Int)) (Unit)) :=
  (mU l_1 x_21 x_32).bind fun r_40=>(bif (decide (r_40≥0))then (inR r_40 s_35).bind fun _=>(s_35[(0 + (r_40).toNat)]?).bind fun e_46=>(inR r_40 s_35).bind fun _=>(s_35[(0 + (r_40).toNat)]?).bind fun e_49=>some (s_35.set (0 + (r_40).toNat) (zl e_46 x_21.At))else some s_35).bind fun v_42=>some (.go v_42)
def lu (l_1:(List Alert)) (k_19:Nat) (x_21:Alert) (s_24:(List Int)):Option (Ctl ((List Int)) (Unit)) :=
  (forL x_21.Refs s_24 (fun k x s=>jX l_1 x_21 k x s)).bind fun o_38=>thenC o_38 (fun s_35=>some (.go s_35)) (fun _=>none)
def pg (l_1:(List Alert)):Option ((List Int)) :=
  (forL l_1 ([]:List Int) (fun k x s=>lD k x s)).bind fun o_13=>thenC o_13 (fun s_7=>(forL l_1 s_7 (fun k x s=>lu l_1 k x s)).bind fun o_27=>thenC o_27 (fun s_24=>some s_24) (fun _=>none)) (fun _=>none)
def eO (x:(List Int)):Option ((List Int)) :=
  Ia x
def bH (s_1:(List Int)) (s_8:Int) (s_28:(List Int)×Int×Int):Option (Ctl ((List Int)×Int×Int) (Unit)) :=
  bif (decide (s_28.2.2 < (((((s_1.length:Int)).toNat - (s_8).toNat):Nat):Int)))then (inN s_28.2.2 (((s_1.length:Int)).toNat - (s_8).toNat)).bind fun _=>(s_28.1[(((s_8).toNat) + (s_28.2.2).toNat)]?).bind fun e_35=>(inN (w64 (s_28.2.2 - 1)) (((s_1.length:Int)).toNat - (s_8).toNat)).bind fun _=>(s_28.1[(((s_8).toNat) + ((w64 (s_28.2.2 - 1))).toNat)]?).bind fun e_38=>(bif (e_35 != e_38)then (inN s_28.2.2 (((s_1.length:Int)).toNat - (s_8).toNat)).bind fun _=>(s_28.1[(((s_8).toNat) + (s_28.2.2).toNat)]?).bind fun e_44=>(inR s_28.2.1 s_28.1).bind fun _=>(s_28.1[(0 + (s_28.2.1).toNat)]?).bind fun e_47=>some ((s_28.1.set (0 + (s_28.2.1).toNat) e_44),(w64 (s_28.2.1 + 1)))else some (s_28.1,s_28.2.1)).bind fun v_40=>some (.go (v_40.1,v_40.2,(w64 (s_28.2.2 + 1))))else some (.brk (s_28.1,s_28.2.1,s_28.2.2))
noncomputable def aN (s_1:(List Int)) (s_8:Int):Option (Ctl (Int) ((List Int))) :=
  bif (decide (s_8 < (s_1.length:Int)))then (inR s_8 s_1).bind fun _=>(s_1[(0 + (s_8).toNat)]?).bind fun e_15=>(inR (w64 (s_8 - 1)) s_1).bind fun _=>(s_1[(0 + ((w64 (s_8 - 1))).toNat)]?).bind fun e_18=>bif (e_15 == e_18)then (neL s_1).bind fun _=>(vz s_1 s_8 (s_1.length:Int)).bind fun _=>(ic (s_1,s_8,1) (fun s=>bH s_1 s_8 s)).bind fun o_31=>thenC o_31 (fun s_28=>(vz s_28.1 s_28.2.1 (s_28.1.length:Int)).bind fun _=>(vz (s_28.1.take ((s_28.2.1).toNat)++List.replicate (((s_28.1.length:Int)).toNat - (s_28.2.1).toNat) 0++s_28.1.drop (((s_28.2.1).toNat) + (((s_28.1.length:Int)).toNat - (s_28.2.1).toNat))) 0 s_28.2.1).bind fun _=>some (.ret (cutL (s_28.1.take ((s_28.2.1).toNat)++List.replicate (((s_28.1.length:Int)).toNat - (s_28.2.1).toNat) 0++s_28.1.drop (((s_28.2.1).toNat) + (((s_28.1.length:Int)).toNat - (s_28.2.1).toNat))) 0 ((s_28.2.1).toNat)))) (fun _=>none)else some (.go (w64 (s_8 + 1)))else some (.brk s_8)
noncomputable def bS (s_1:(List Int)):Option ((List Int)) :=
  bif (decide ((s_1.length:Int) < 2))then some s_1 else (ic 1 (fun s=>aN s_1 s)).bind fun o_11=>thenC o_11 (fun s_8=>some s_1) (fun r=>some r)
def o7 (a_1:Alert) (endv_2:Int) (atv_3:Int):Option (Bool) :=
  (bif (a_1.Kind != 3)then bif (decide (a_1.At≤atv_3))then some (decide (atv_3 < endv_2))else some false else some false).bind fun v_5=>some v_5
def jU (r_1:Rect) (p_2:Post):Option (Bool) :=
  (bif (decide (r_1.X≤p_2.X))then bif (decide (p_2.X < (w64 (r_1.X + r_1.W))))then bif (decide (r_1.Y≤p_2.Y))then some (decide (p_2.Y < (w64 (r_1.Y + r_1.H))))else some false else some false else some false).bind fun v_4=>some v_4
def aP (f_2:Rect→Option Bool) (k_3:Nat) (x_5:Rect) (s_8:Unit):Option (Ctl (Unit) (Int)) :=
  (f_2 x_5).bind fun r_13=>bif r_13 then some (.ret (k_3:Int))else some (.go ())
def dG (s_1:(List Rect)) (f_2:Rect→Option Bool):Option (Int) :=
  (forL s_1 () (fun k x s=>aP f_2 k x s)).bind fun o_11=>thenC o_11 (fun s_8=>some (-1)) (fun r=>some r)
def bf (s_1:(List Rect)) (f_2:Rect→Option Bool):Option (Bool) :=
  (dG s_1 f_2).bind fun r_3=>some (decide (r_3≥0))
def iT (a_1:Alert) (p_2:Post):Option (Bool) :=
  (bf a_1.Areas (fun x0=>jU x0 p_2)).bind fun r_5=>some r_5
def kQ (a_1:Alert) (b_2:Alert):Option (Int) :=
  (cmp_Compare_int b_2.Weight a_1.Weight).bind fun r_5=>(cmp_Compare_int b_2.At a_1.At).bind fun r_7=>(strings_Compare a_1.Id b_2.Id).bind fun r_9=>(kH ([r_5,r_7,r_9]:List Int)).bind fun r_11=>some r_11
def dB (a_2:Int) (s_21:(List Alert)×Int):Option (Ctl ((List Alert)×Int) (Unit)) :=
  (bif (decide (s_21.2 > a_2))then (inR s_21.2 s_21.1).bind fun _=>(s_21.1[(0 + (s_21.2).toNat)]?).bind fun e_30=>(inR (w64 (s_21.2 - 1)) s_21.1).bind fun _=>(s_21.1[(0 + ((w64 (s_21.2 - 1))).toNat)]?).bind fun e_33=>(kQ e_30 e_33).bind fun r_35=>some (decide (r_35 < 0))else some false).bind fun v_26=>bif v_26 then (inR (w64 (s_21.2 - 1)) s_21.1).bind fun _=>(s_21.1[(0 + ((w64 (s_21.2 - 1))).toNat)]?).bind fun e_39=>(inR s_21.2 s_21.1).bind fun _=>(s_21.1[(0 + (s_21.2).toNat)]?).bind fun e_42=>(inR s_21.2 s_21.1).bind fun _=>(s_21.1[(0 + (s_21.2).toNat)]?).bind fun e_45=>(inR (w64 (s_21.2 - 1)) (s_21.1.set (0 + (s_21.2).toNat) e_39)).bind fun _=>((s_21.1.set (0 + (s_21.2).toNat) e_39)[(0 + ((w64 (s_21.2 - 1))).toNat)]?).bind fun e_48=>some (.go (((s_21.1.set (0 + (s_21.2).toNat) e_39).set (0 + ((w64 (s_21.2 - 1))).toNat) e_42),(w64 (s_21.2 - 1))))else some (.brk (s_21.1,s_21.2))
noncomputable def dD (b_3:Int) (a_2:Int) (s_10:(List Alert)×Int):Option (Ctl ((List Alert)×Int) (Unit)) :=
  bif (decide (s_10.2 < b_3))then (ic (s_10.1,s_10.2) (fun s=>dB a_2 s)).bind fun o_24=>thenC o_24 (fun s_21=>some (.go (s_21.1,(w64 (s_10.2 + 1))))) (fun _=>none)else some (.brk (s_10.1,s_10.2))
noncomputable def dR (data_1:(List Alert)) (a_2:Int) (b_3:Int):Option ((List Alert)) :=
  (ic (data_1,(w64 (a_2 + 1))) (fun s=>dD b_3 a_2 s)).bind fun o_13=>thenC o_13 (fun s_10=>some s_10.1) (fun _=>none)
noncomputable def eG (b_3:Int) (a_2:Int) (data_1:(List Alert)) (limit_4:Int) (s_11:Unit):Option (Ctl (Unit) ((List Alert))) :=
  bif (decide ((w64 (b_3 - a_2))≤12))then (dR data_1 a_2 b_3).bind fun r_17=>(iO r_17 data_1).bind fun _=>some (.ret r_17)else bif (limit_4 == 0)then none else none
noncomputable def fC (data_1:(List Alert)) (a_2:Int) (b_3:Int) (limit_4:Int):Option ((List Alert)) :=
  (ic () (fun s=>eG b_3 a_2 data_1 limit_4 s)).bind fun o_14=>thenC o_14 (fun s_11=>some data_1) (fun r=>some r)
noncomputable def bE (x_1:(List Alert)):Option ((List Alert)) :=
  (iq (IntKind.u64.wrap (x_1.length:Int))).bind fun r_3=>(fC x_1 0 (x_1.length:Int) r_3).bind fun r_5=>(iO r_5 x_1).bind fun _=>some r_5
def jW (endv_2:(List Int)) (atv_4:Int) (p_3:Post) (k_6:Nat) (x_8:Alert) (s_11:(List Alert)):Option (Ctl ((List Alert)) (Unit)) :=
  ((idx endv_2 (k_6:Int)).bind fun y_22=>(o7 x_8 y_22 atv_4).bind fun r_24=>bif r_24 then (iT x_8 p_3).bind fun r_27=>some r_27 else some false).bind fun v_20=>(bif v_20 then (pJ s_11 ([x_8]:List Alert)).bind fun a_33=>some a_33 else some s_11).bind fun v_29=>some (.go v_29)
noncomputable def mG (l_1:(List Alert)) (endv_2:(List Int)) (p_3:Post) (atv_4:Int):Option ((List Alert)) :=
  (forL l_1 ([]:List Alert) (fun k x s=>jW endv_2 atv_4 p_3 k x s)).bind fun o_17=>thenC o_17 (fun s_11=>(bE s_11).bind fun r_36=>(iO r_36 s_11).bind fun _=>some r_36) (fun _=>none)
def iZ (x_11:Alert) (y_22:Int) (wv_3:Window) (k_24:Nat) (x_26:Nat) (s_29:(List Int)):Option (Ctl ((List Int)) (Unit)) :=
  (idx ([x_11.At,y_22]:List Int) (k_24:Int)).bind fun y_36=>(bif (decide (wv_3.From < y_36))then some (decide (y_36 < wv_3.To))else some false).bind fun v_38=>(bif v_38 then (pJ s_29 ([y_36]:List Int)).bind fun a_45=>some a_45 else some s_29).bind fun v_41=>some (.go v_41)
def iy (r_6:(List Int)) (wv_3:Window) (k_9:Nat) (x_11:Alert) (s_14:(List Int)):Option (Ctl ((List Int)) (Unit)) :=
  (idx r_6 (k_9:Int)).bind fun y_22=>(forL (List.range (2:Int).toNat) s_14 (fun k x s=>iZ x_11 y_22 wv_3 k x s)).bind fun o_34=>thenC o_34 (fun s_29=>some (.go s_29)) (fun _=>none)
noncomputable def iw (r_52:(List Int)) (l_1:(List Alert)) (r_6:(List Int)) (p_2:Post) (s_59:(List Slot_)×Int):Option (Ctl ((List Slot_)×Int) (Unit)) :=
  bif (decide ((w64 (s_59.2 + 1)) < (r_52.length:Int)))then (idx r_52 s_59.2).bind fun y_68=>(mG l_1 r_6 p_2 y_68).bind fun r_70=>(bif (decide ((r_70.length:Int) > 0))then (idx r_70 0).bind fun y_75=>some y_75.Id else some (⟨#[]⟩:ByteArray)).bind fun v_72=>(bif (decide ((w64 ((s_59.1.length:Int) - 1))≥0))then (inR (w64 ((s_59.1.length:Int) - 1)) s_59.1).bind fun _=>(s_59.1[(0 + ((w64 ((s_59.1.length:Int) - 1))).toNat)]?).bind fun e_81=>some (sEq e_81.Entry v_72)else some false).bind fun v_77=>(bif v_77 then (idx r_52 (w64 (s_59.2 + 1))).bind fun y_87=>(inR (w64 ((s_59.1.length:Int) - 1)) s_59.1).bind fun _=>(s_59.1[(0 + ((w64 ((s_59.1.length:Int) - 1))).toNat)]?).bind fun e_90=>some (s_59.1.set (0 + ((w64 ((s_59.1.length:Int) - 1))).toNat) (⟨(⟨e_90.Time.From,y_87⟩:Window),e_90.Entry⟩:Slot_))else (idx r_52 s_59.2).bind fun y_92=>(idx r_52 (w64 (s_59.2 + 1))).bind fun y_94=>(pJ s_59.1 ([(⟨(⟨y_92,y_94⟩:Window),v_72⟩:Slot_)]:List Slot_)).bind fun a_96=>some a_96).bind fun v_83=>some (.go (v_83,(w64 (s_59.2 + 1))))else some (.brk (s_59.1,s_59.2))
noncomputable def jZ (l_1:(List Alert)) (p_2:Post) (wv_3:Window):Option ((List Slot_)) :=
  (pg l_1).bind fun r_6=>(forL l_1 ([wv_3.From,wv_3.To]:List Int) (fun k x s=>iy r_6 wv_3 k x s)).bind fun o_19=>thenC o_19 (fun s_14=>(neL s_14).bind fun _=>(eO s_14).bind fun r_49=>(iO r_49 s_14).bind fun _=>(bS r_49).bind fun r_52=>(ic (([]:List Slot_),0) (fun s=>iw r_52 l_1 r_6 p_2 s)).bind fun o_65=>thenC o_65 (fun s_59=>some s_59.1) (fun _=>none)) (fun _=>none)
noncomputable def lC (l_1:(List Alert)) (p_2:Post) (wv_3:Window):Option ((List Slot_)×Int) :=
  (gm l_1 ([p_2]:List Post)).bind fun r_6=>bif (r_6 != 0)then some (([]:(List Slot_)),r_6)else ((bW wv_3.From 0 wv_3.To).bind fun r_11=>bif r_11 then some true else some (decide (wv_3.To > 345686400000))).bind fun v_9=>bif v_9 then some (([]:(List Slot_)),1)else (jZ l_1 p_2 wv_3).bind fun r_15=>some (r_15,0)
def jg (n_1:Int) (low_2:Int) (high_3:Int):Option (Bool) :=
  (bif (decide (low_2≤n_1))then some (decide (n_1≤high_3))else some false).bind fun v_4=>some v_4
def eF (s_1:ByteArray) (c_2:Int):Option (Int) :=
  some (ixB s_1 c_2)
def strings_IndexByte (s_1:ByteArray) (c_2:Int):Option (Int) :=
  (eF s_1 c_2).bind fun r_3=>some r_3
def l5 (s_1:ByteArray) (somev_2:ByteArray) (k_3:Nat) (x_5:Nat) (s_8:Unit):Option (Ctl (Unit) (Bool)) :=
  (su s_1 (k_3:Int)).bind fun b_13=>(strings_IndexByte somev_2 (b_13.toNat:Int)).bind fun r_15=>bif (decide (r_15 < 0))then some (.ret false)else some (.go ())
def qj (s_1:ByteArray) (somev_2:ByteArray):Option (Bool) :=
  (forL (List.range ((s_1.size:Int)).toNat) () (fun k x s=>l5 s_1 somev_2 k x s)).bind fun o_11=>thenC o_11 (fun s_8=>some true) (fun r=>some r)
def pU (s_1:ByteArray):Option (Bool) :=
  ((jg (s_1.size:Int) 1 40).bind fun r_4=>bif r_4 then (zP s_1 0 1).bind fun y_7=>(qj y_7 (⟨#[97,98,99,100,101,102,103,104,105,106,107,108,109,110,111,112,113,114,115,116,117,118,119,120,121,122]⟩:ByteArray)).bind fun r_9=>bif r_9 then (qj s_1 (⟨#[97,98,99,100,101,102,103,104,105,106,107,108,109,110,111,112,113,114,115,116,117,118,119,120,121,122,48,49,50,51,52,53,54,55,56,57,45,95]⟩:ByteArray)).bind fun r_12=>some r_12 else some false else some false).bind fun v_2=>some v_2
def oF (atv_1:Int):Option (Bool) :=
  (jg atv_1 0 345686399999).bind fun r_2=>some r_2
def lK (r_1:Rect):Option (Int) :=
  ((jg r_1.X (-100000) 100000).bind fun r_5=>bif (!r_5)then some true else (jg r_1.Y (-100000) 100000).bind fun r_8=>bif (!r_8)then some true else (jg r_1.W 1 (w64 (100000 - r_1.X))).bind fun r_11=>bif (!r_11)then some true else (jg r_1.H 1 (w64 (100000 - r_1.Y))).bind fun r_14=>some (!r_14)).bind fun v_3=>bif v_3 then some 1 else some 0
def nG (r_1:Int):Option (Bool) :=
  (bif (decide (r_1 < 32))then some true else some (r_1 == 127)).bind fun v_2=>some v_2
noncomputable def iB (x:ByteArray):Option (Bool) :=
  oP (fun a=>nG a) x
noncomputable def oC (s_1:ByteArray):Option (Bool) :=
  ((fo s_1).bind fun r_4=>bif r_4 then (iB s_1).bind fun r_7=>bif (!r_7)then (lh s_1 (⟨#[32]⟩:ByteArray)).bind fun r_10=>bif (sEq r_10 s_1)then (strings_Contains s_1 (⟨#[32,32]⟩:ByteArray)).bind fun r_13=>some (!r_13)else some false else some false else some false).bind fun v_2=>some v_2
def gZ (a_1:Alert) (k_15:Nat) (x_17:ByteArray) (s_20:Unit):Option (Ctl (Unit) (Int)) :=
  (pU x_17).bind fun r_25=>bif (!r_25)then some (.ret 5)else (bif (decide ((k_15:Int) > 0))then (idx a_1.Refs (w64 ((k_15:Int) - 1))).bind fun y_31=>some (sLe x_17 y_31)else some false).bind fun v_28=>bif v_28 then some (.ret 7)else bif (sEq x_17 a_1.Id)then some (.ret 14)else some (.go ())
def gX (k_48:Nat) (x_50:Rect) (s_53:Unit):Option (Ctl (Unit) (Int)) :=
  (lK x_50).bind fun r_59=>bif (r_59 != 0)then some (.ret r_59)else some (.go ())
noncomputable def kC (a_1:Alert):Option (Int) :=
  ((pU a_1.Id).bind fun r_5=>bif (!r_5)then some true else (pU a_1.Sender).bind fun r_8=>some (!r_8)).bind fun v_3=>bif v_3 then some 5 else (jg a_1.Kind 1 3).bind fun r_11=>bif (!r_11)then some 4 else bif (decide ((a_1.Refs.length:Int) > 20))then some 2 else (forL a_1.Refs () (fun k x s=>gZ a_1 k x s)).bind fun o_23=>thenC o_23 (fun s_20=>bif (!((a_1.Kind == 1) == ((a_1.Refs.length:Int) == 0)))then some 3 else ((oF a_1.At).bind fun r_38=>bif (!r_38)then some true else (jg a_1.Until (w64 (a_1.At + 1)) (w64 (a_1.At + 2592000000))).bind fun r_41=>bif (!r_41)then some true else (jg a_1.Weight 1 9).bind fun r_44=>some (!r_44)).bind fun v_36=>bif v_36 then some 1 else bif (decide ((a_1.Areas.length:Int) > 20))then some 2 else (forL a_1.Areas () (fun k x s=>gX k x s)).bind fun o_56=>thenC o_56 (fun s_53=>bif (!((a_1.Kind == 3) == ((a_1.Areas.length:Int) == 0)))then some 3 else bif (decide ((a_1.Text.size:Int) > 500))then some 2 else ((oC a_1.Text).bind fun r_66=>bif (!r_66)then some true else bif (sEq a_1.Text (⟨#[]⟩:ByteArray))then some (a_1.Kind != 3)else some false).bind fun v_64=>bif v_64 then some 3 else some 0) (fun r=>some r)) (fun r=>some r)
def wQ (n_1:Int):Option (Int) :=
  bif (decide (n_1 < 0))then some (-1)else bif (decide (n_1 > 0))then some 1 else some 0
def iG (a_1:Alert) (b_2:Alert):Option (Int) :=
  bif (a_1.At != b_2.At)then (wQ (w64 (a_1.At - b_2.At))).bind fun r_6=>some r_6 else (strings_Compare a_1.Id b_2.Id).bind fun r_8=>some r_8
noncomputable def gG (l_1:(List Alert)) (k_3:Nat) (x_5:Alert) (s_8:Unit):Option (Ctl (Unit) (Int)) :=
  (kC x_5).bind fun r_14=>bif (r_14 != 0)then some (.ret r_14)else (bif (decide ((k_3:Int) > 0))then (idx l_1 (w64 ((k_3:Int) - 1))).bind fun y_20=>(iG y_20 x_5).bind fun r_22=>some (decide (r_22≥0))else some false).bind fun v_17=>bif v_17 then some (.ret 7)else some (.go ())
def iE (k_26:Nat) (x_28:Alert) (s_31:(List (ByteArray×Bool))):Option (Ctl ((List (ByteArray×Bool))) (Unit)) :=
  some (.go (rY eqS s_31 x_28.Id true))
noncomputable def jM (l_1:(List Alert)):Option (Int) :=
  bif (decide ((l_1.length:Int) > 300))then some 2 else (forL l_1 () (fun k x s=>gG l_1 k x s)).bind fun o_11=>thenC o_11 (fun s_8=>(forL l_1 ([]:List (ByteArray×Bool)) (fun k x s=>iE k x s)).bind fun o_34=>thenC o_34 (fun s_31=>bif (decide ((s_31.length:Int) < (l_1.length:Int)))then some 6 else some 0) (fun _=>none)) (fun r=>some r)
def fT (k_3:Nat) (x_5:Post) (s_8:ByteArray):Option (Ctl (ByteArray) (Int)) :=
  (pU x_5.Player).bind fun r_14=>bif (!r_14)then some (.ret 5)else ((jg x_5.X (-100000) 100000).bind fun r_19=>bif (!r_19)then some true else (jg x_5.Y (-100000) 100000).bind fun r_22=>some (!r_22)).bind fun v_17=>bif v_17 then some (.ret 1)else bif (sLe x_5.Player s_8)then some (.ret 7)else some (.go x_5.Player)
def kz (l_1:(List Post)):Option (Int) :=
  bif (decide ((l_1.length:Int) > 500))then some 2 else (forL l_1 (⟨#[]⟩:ByteArray) (fun k x s=>fT k x s)).bind fun o_11=>thenC o_11 (fun s_8=>some 0) (fun r=>some r)
def jR (wv_1:Window):Option (Int) :=
  ((jg wv_1.From 0 wv_1.To).bind fun r_5=>bif (!r_5)then some true else some (decide (wv_1.To > 345686400000))).bind fun v_3=>bif v_3 then some 1 else some 0
def pQ (k_2:Nat) (x_4:Int) (s_7:Unit):Option (Ctl (Unit) (Int)) :=
  bif (x_4 != 0)then some (.ret x_4)else some (.go ())
def tO (l_1:(List Int)):Option (Int) :=
  (forL l_1 () (fun k x s=>pQ k x s)).bind fun o_10=>thenC o_10 (fun s_7=>some 0) (fun r=>some r)
def eU (v_2:ByteArray) (k_3:Nat) (x_5:ByteArray) (s_8:Unit):Option (Ctl (Unit) (Int)) :=
  bif (sEq v_2 x_5)then some (.ret (k_3:Int))else some (.go ())
def fJ (s_1:(List ByteArray)) (v_2:ByteArray):Option (Int) :=
  (forL s_1 () (fun k x s=>eU v_2 k x s)).bind fun o_11=>thenC o_11 (fun s_8=>some (-1)) (fun r=>some r)
def dE (s_1:(List ByteArray)) (v_2:ByteArray):Option (Bool) :=
  (fJ s_1 v_2).bind fun r_3=>some (decide (r_3≥0))
def kN (o_1:Alert) (p_2:ByteArray) (p_3:Alert):Option (Bool) :=
  (bif (sEq o_1.Id p_2)then bif (sEq o_1.Sender p_3.Sender)then (iG o_1 p_3).bind fun r_9=>some (decide (r_9 < 0))else some false else some false).bind fun v_5=>some v_5
def bR (s_1:(List Alert)) (f_2:Alert→Option Bool):Option (Bool) :=
  (bg s_1 f_2).bind fun r_3=>some (decide (r_3≥0))
def qH (l_1:(List Alert)) (a_2:Alert) (ref_3:ByteArray):Option (Bool) :=
  (bR l_1 (fun x0=>kN x0 ref_3 a_2)).bind fun r_6=>some r_6
def mJ (a_2:Alert) (l_1:(List Alert)) (k_4:Nat) (x_6:Alert) (s_9:Int):Option (Ctl (Int) (Unit)) :=
  ((dE x_6.Refs a_2.Id).bind fun r_17=>bif r_17 then (qH l_1 x_6 a_2.Id).bind fun r_20=>some r_20 else some false).bind fun v_15=>(bif v_15 then some (zl s_9 x_6.At)else some s_9).bind fun v_22=>some (.go v_22)
def qK (l_1:(List Alert)) (a_2:Alert):Option (Int) :=
  (forL l_1 a_2.Until (fun k x s=>mJ a_2 l_1 k x s)).bind fun o_12=>thenC o_12 (fun s_9=>some s_9) (fun _=>none)
def oZ (l_1:(List Alert)) (a_2:Alert) (atv_3:Int):Option (Bool) :=
  (bif (a_2.Kind != 3)then bif (decide (a_2.At≤atv_3))then (qK l_1 a_2).bind fun r_9=>some (decide (atv_3 < r_9))else some false else some false).bind fun v_5=>some v_5
def wM (r_1:Rect) (x_2:Int) (y_3:Int):Option (Bool) :=
  ((jg x_2 r_1.X (w64 ((w64 (r_1.X + r_1.W)) - 1))).bind fun r_7=>bif r_7 then (jg y_3 r_1.Y (w64 ((w64 (r_1.Y + r_1.H)) - 1))).bind fun r_10=>some r_10 else some false).bind fun v_5=>some v_5
def oI (r_1:Rect) (p_2:Int) (p_3:Int):Option (Bool) :=
  (wM r_1 p_2 p_3).bind fun r_5=>some r_5
def wy (l_1:(List Rect)) (x_2:Int) (y_3:Int):Option (Bool) :=
  (bf l_1 (fun x0=>oI x0 x_2 y_3)).bind fun r_6=>some r_6
def lI (a_1:Alert) (p_2:Post):Option (Bool) :=
  (wy a_1.Areas p_2.X p_2.Y).bind fun r_5=>some r_5
def bT (s2_2:(List Int)) (k_3:Nat) (x_5:Int) (s_8:Unit):Option (Ctl (Unit) (Int)) :=
  bif (decide ((k_3:Int)≥(s2_2.length:Int)))then some (.ret 1)else (idx s2_2 (k_3:Int)).bind fun y_14=>(cmp_Compare_int x_5 y_14).bind fun r_16=>bif (r_16 != 0)then some (.ret r_16)else some (.go ())
def fI (s1_1:(List Int)) (s2_2:(List Int)):Option (Int) :=
  (forL s1_1 () (fun k x s=>bT s2_2 k x s)).bind fun o_11=>thenC o_11 (fun s_8=>bif (decide ((s1_1.length:Int) < (s2_2.length:Int)))then some (-1)else some 0) (fun r=>some r)
def ji (a_1:Alert) (b_2:Alert):Option (Int) :=
  (fI ([b_2.Weight,b_2.At]:List Int) ([a_1.Weight,a_1.At]:List Int)).bind fun r_5=>bif (r_5 != 0)then some r_5 else (strings_Compare a_1.Id b_2.Id).bind fun r_8=>some r_8
def dA (a_2:Int) (s_21:(List Alert)×Int):Option (Ctl ((List Alert)×Int) (Unit)) :=
  (bif (decide (s_21.2 > a_2))then (inR s_21.2 s_21.1).bind fun _=>(s_21.1[(0 + (s_21.2).toNat)]?).bind fun e_30=>(inR (w64 (s_21.2 - 1)) s_21.1).bind fun _=>(s_21.1[(0 + ((w64 (s_21.2 - 1))).toNat)]?).bind fun e_33=>(ji e_30 e_33).bind fun r_35=>some (decide (r_35 < 0))else some false).bind fun v_26=>bif v_26 then (inR (w64 (s_21.2 - 1)) s_21.1).bind fun _=>(s_21.1[(0 + ((w64 (s_21.2 - 1))).toNat)]?).bind fun e_39=>(inR s_21.2 s_21.1).bind fun _=>(s_21.1[(0 + (s_21.2).toNat)]?).bind fun e_42=>(inR s_21.2 s_21.1).bind fun _=>(s_21.1[(0 + (s_21.2).toNat)]?).bind fun e_45=>(inR (w64 (s_21.2 - 1)) (s_21.1.set (0 + (s_21.2).toNat) e_39)).bind fun _=>((s_21.1.set (0 + (s_21.2).toNat) e_39)[(0 + ((w64 (s_21.2 - 1))).toNat)]?).bind fun e_48=>some (.go (((s_21.1.set (0 + (s_21.2).toNat) e_39).set (0 + ((w64 (s_21.2 - 1))).toNat) e_42),(w64 (s_21.2 - 1))))else some (.brk (s_21.1,s_21.2))
noncomputable def dz (b_3:Int) (a_2:Int) (s_10:(List Alert)×Int):Option (Ctl ((List Alert)×Int) (Unit)) :=
  bif (decide (s_10.2 < b_3))then (ic (s_10.1,s_10.2) (fun s=>dA a_2 s)).bind fun o_24=>thenC o_24 (fun s_21=>some (.go (s_21.1,(w64 (s_10.2 + 1))))) (fun _=>none)else some (.brk (s_10.1,s_10.2))
noncomputable def dP (data_1:(List Alert)) (a_2:Int) (b_3:Int):Option ((List Alert)) :=
  (ic (data_1,(w64 (a_2 + 1))) (fun s=>dz b_3 a_2 s)).bind fun o_13=>thenC o_13 (fun s_10=>some s_10.1) (fun _=>none)
noncomputable def eP (b_3:Int) (a_2:Int) (data_1:(List Alert)) (limit_4:Int) (s_11:Unit):Option (Ctl (Unit) ((List Alert))) :=
  bif (decide ((w64 (b_3 - a_2))≤12))then (dP data_1 a_2 b_3).bind fun r_17=>(iO r_17 data_1).bind fun _=>some (.ret r_17)else bif (limit_4 == 0)then none else none
noncomputable def fB (data_1:(List Alert)) (a_2:Int) (b_3:Int) (limit_4:Int):Option ((List Alert)) :=
  (ic () (fun s=>eP b_3 a_2 data_1 limit_4 s)).bind fun o_14=>thenC o_14 (fun s_11=>some data_1) (fun r=>some r)
noncomputable def bX (x_1:(List Alert)):Option ((List Alert)) :=
  (iq (IntKind.u64.wrap (x_1.length:Int))).bind fun r_3=>(fB x_1 0 (x_1.length:Int) r_3).bind fun r_5=>(iO r_5 x_1).bind fun _=>some r_5
def jP (l_1:(List Alert)) (atv_3:Int) (p_2:Post) (k_5:Nat) (x_7:Alert) (s_10:(List Alert)):Option (Ctl ((List Alert)) (Unit)) :=
  ((oZ l_1 x_7 atv_3).bind fun r_21=>bif r_21 then (lI x_7 p_2).bind fun r_24=>some r_24 else some false).bind fun v_19=>(bif v_19 then (pJ s_10 ([x_7]:List Alert)).bind fun a_30=>some a_30 else some s_10).bind fun v_26=>some (.go v_26)
def jN (k_36:Nat) (x_38:Alert) (s_41:(List ByteArray)):Option (Ctl ((List ByteArray)) (Unit)) :=
  (pJ s_41 ([x_38.Id]:List ByteArray)).bind fun a_50=>some (.go a_50)
noncomputable def mH (l_1:(List Alert)) (p_2:Post) (atv_3:Int):Option ((List ByteArray)) :=
  (forL l_1 ([]:List Alert) (fun k x s=>jP l_1 atv_3 p_2 k x s)).bind fun o_16=>thenC o_16 (fun s_10=>(bX s_10).bind fun r_33=>(iO r_33 s_10).bind fun _=>(forL r_33 ([]:List ByteArray) (fun k x s=>jN k x s)).bind fun o_47=>thenC o_47 (fun s_41=>some s_41) (fun _=>none)) (fun _=>none)
noncomputable def kJ (l_1:(List Alert)) (p_2:Post) (atv_3:Int):Option (ByteArray×Bool) :=
  (mH l_1 p_2 atv_3).bind fun r_5=>bif ((r_5.length:Int) == 0)then some ((⟨#[]⟩:ByteArray),false)else (idx r_5 0).bind fun y_8=>some (y_8,true)
def gU (wv_3:Window) (k_20:Nat) (x_22:Int) (s_25:(List Int)):Option (Ctl ((List Int)) (Unit)) :=
  (bif (decide (wv_3.From < x_22))then some (decide (x_22 < wv_3.To))else some false).bind fun v_32=>(bif v_32 then (pJ s_25 ([x_22]:List Int)).bind fun a_39=>some a_39 else some s_25).bind fun v_35=>some (.go v_35)
def fG (wv_3:Window) (k_7:Nat) (x_9:Alert) (s_12:(List Int)):Option (Ctl ((List Int)) (Unit)) :=
  (forL ([x_9.At,x_9.Until]:List Int) s_12 (fun k x s=>gU wv_3 k x s)).bind fun o_30=>thenC o_30 (fun s_25=>some (.go s_25)) (fun _=>none)
noncomputable def fD (r_46:(List Int)) (l_1:(List Alert)) (p_2:Post) (s_53:(List Slot_)×Int):Option (Ctl ((List Slot_)×Int) (Unit)) :=
  bif (decide (s_53.2 < (r_46.length:Int)))then (idx r_46 (w64 (s_53.2 - 1))).bind fun y_62=>(kJ l_1 p_2 y_62).bind fun r_64=>(bif (decide ((w64 ((s_53.1.length:Int) - 1))≥0))then (inR (w64 ((s_53.1.length:Int) - 1)) s_53.1).bind fun _=>(s_53.1[(0 + ((w64 ((s_53.1.length:Int) - 1))).toNat)]?).bind fun e_70=>some (sEq e_70.Entry r_64.1)else some false).bind fun v_66=>bif v_66 then (idx r_46 s_53.2).bind fun y_73=>(inR (w64 ((s_53.1.length:Int) - 1)) s_53.1).bind fun _=>(s_53.1[(0 + ((w64 ((s_53.1.length:Int) - 1))).toNat)]?).bind fun e_76=>some (.go ((s_53.1.set (0 + ((w64 ((s_53.1.length:Int) - 1))).toNat) (⟨(⟨e_76.Time.From,y_73⟩:Window),e_76.Entry⟩:Slot_)),(w64 (s_53.2 + 1))))else (idx r_46 (w64 (s_53.2 - 1))).bind fun y_78=>(idx r_46 s_53.2).bind fun y_80=>(pJ s_53.1 ([(⟨(⟨y_78,y_80⟩:Window),r_64.1⟩:Slot_)]:List Slot_)).bind fun a_82=>some (.go (a_82,(w64 (s_53.2 + 1))))else some (.brk (s_53.1,s_53.2))
noncomputable def iM (l_1:(List Alert)) (p_2:Post) (wv_3:Window):Option ((List Slot_)) :=
  (forL l_1 ([wv_3.From,wv_3.To]:List Int) (fun k x s=>fG wv_3 k x s)).bind fun o_17=>thenC o_17 (fun s_12=>(neL s_12).bind fun _=>(eO s_12).bind fun r_43=>(iO r_43 s_12).bind fun _=>(bS r_43).bind fun r_46=>(ic (([]:List Slot_),1) (fun s=>fD r_46 l_1 p_2 s)).bind fun o_59=>thenC o_59 (fun s_53=>some s_53.1) (fun _=>none)) (fun _=>none)
def bD (s2_2:(List Slot_)) (k_4:Nat) (x_6:Slot_) (s_9:Unit):Option (Ctl (Unit) (Bool)) :=
  (idx s2_2 (k_4:Int)).bind fun y_14=>bif (!(((x_6.Time.From == y_14.Time.From) && ((x_6.Time.To == y_14.Time.To) && true)) && ((x_6.Entry.toList == y_14.Entry.toList) && true)))then some (.ret false)else some (.go ())
def dh (s1_1:(List Slot_)) (s2_2:(List Slot_)):Option (Bool) :=
  bif ((s1_1.length:Int) != (s2_2.length:Int))then some false else (forL s1_1 () (fun k x s=>bD s2_2 k x s)).bind fun o_12=>thenC o_12 (fun s_9=>some true) (fun r=>some r)
noncomputable def lF (a_1:Alert) (p_2:Post):Option (Bool×Int) :=
  (gm ([a_1]:List Alert) ([p_2]:List Post)).bind fun r_5=>bif (r_5 != 0)then some (false,r_5)else (iT a_1 p_2).bind fun r_8=>some (r_8,0)
noncomputable def lV  : Option (Bool) :=
  (lF (⟨(⟨#[97]⟩:ByteArray),(⟨#[115]⟩:ByteArray),1,([]:List ByteArray),0,5,1,([(⟨0,0,2,2⟩:Rect)]:List Rect),(⟨#[120]⟩:ByteArray)⟩:Alert) (⟨(⟨#[112]⟩:ByteArray),1,1⟩:Post)).bind fun r_2=>(bif (r_2.2 == 0)then some r_2.1 else some false).bind fun v_4=>some v_4
noncomputable def d9 (r_3:(List Alert)×Stream) (v_16:(List Int)×Int×Int×Int) (k_28:Nat) (x_30:Post) (s_33:Unit):Option (Ctl (Unit) (Bool)) :=
  (lC r_3.1 x_30 (⟨v_16.2.2.1,v_16.2.2.2⟩:Window)).bind fun r_39=>(jM r_3.1).bind fun r_41=>(kz ([x_30]:List Post)).bind fun r_43=>(jR (⟨v_16.2.2.1,v_16.2.2.2⟩:Window)).bind fun r_45=>(tO ([r_41,r_43,r_45]:List Int)).bind fun r_47=>(bif (r_47 == 0)then (iM r_3.1 x_30 (⟨v_16.2.2.1,v_16.2.2.2⟩:Window)).bind fun r_54=>some r_54 else some ([]:List Slot_)).bind fun v_51=>(bif (r_39.2 != r_47)then some true else (dh r_39.1 v_51).bind fun r_59=>some (!r_59)).bind fun v_56=>bif v_56 then some (.ret false)else some (.go ())
noncomputable def kr (l_1:(List Int)):Option (Bool) :=
  (jo (⟨l_1,0⟩:Stream) 6).bind fun r_3=>(dI r_3.2 ([0,3,10,20]:List Int)).bind fun r_6=>(dI r_6.2 ([10,30,100]:List Int)).bind fun r_9=>(dJ r_9.2 12).bind fun r_13=>(bif r_13.1 then (bQ r_13.2 0 50).bind fun r_19=>(bQ r_19.2 0 100).bind fun r_22=>some (r_22.2.L,r_22.2.f_at,r_19.1,r_22.1)else some (r_13.2.L,r_13.2.f_at,r_6.1,r_9.1)).bind fun v_16=>(iL (⟨v_16.1,v_16.2.1⟩:Stream)).bind fun r_25=>(forL r_25.1 () (fun k x s=>d9 r_3 v_16 k x s)).bind fun o_36=>thenC o_36 (fun s_33=>(lV).bind fun r_62=>some r_62) (fun r=>some r)
end Go.Proofs.YtjhcehhmdmbleaaGreatDoor.Law

