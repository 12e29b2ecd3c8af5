/-
  The functions of the program, as plain functions over data (written by a program of ours).
-/
import Derived.Test.YtjhcehhmdmbleaaGreatDoorEng5
open Go Go.Eng
namespace Go.Proofs.YtjhcehhmdmbleaaGreatDoor.Law
set_option maxRecDepth 100000
set_option linter.unusedVariables false
set_option maxHeartbeats 1000000
structure Stream where
  L:(List Int)
  f_at:Int
def Stream.enc (s:Stream):List D := [dl eI s.L,.int .i64 s.f_at]

structure Entry where
  Key:ByteArray
  Item:ByteArray
  Version:Int
  First:Int
  Last:Int
  Every:Int
  Days:Int
  Except:(List Int)
  From:Int
  To:Int
  Prio:Int
  Tags:(List ByteArray)
  Gone:Bool
def Entry.enc (s:Entry):List D := [.str s.Key,.str s.Item,.int .i64 s.Version,.int .i64 s.First,.int .i64 s.Last,.int .i64 s.Every,.int .i64 s.Days,dl eI s.Except,.int .i64 s.From,.int .i64 s.To,.int .i64 s.Prio,dl eS s.Tags,.bool s.Gone]

structure Player where
  Key:ByteArray
  Screen:ByteArray
  Zone:Int
  Tags:(List ByteArray)
def Player.enc (s:Player):List D := [.str s.Key,.str s.Screen,.int .i64 s.Zone,dl eS s.Tags]

structure Window where
  From:Int
  To:Int
def Window.enc (s:Window):List D := [.int .i64 s.From,.int .i64 s.To]

structure Slot_ where
  Time:Window
  Entry:ByteArray
def Slot_.enc (s:Slot_):List D := [.int .i64 s.Time.From,.int .i64 s.Time.To,.str s.Entry]

structure Span where
  f_e:(Option Entry)
  f_time:Window
def Span.enc (s:Span):List D := [dP Entry.enc s.f_e,.int .i64 s.f_time.From,.int .i64 s.f_time.To]

structure Rect where
  X:Int
  Y:Int
  W:Int
  H:Int
def Rect.enc (s:Rect):List D := [.int .i64 s.X,.int .i64 s.Y,.int .i64 s.W,.int .i64 s.H]

structure Run where
  f_from:Int
  f_to:Int
def Run.enc (s:Run):List D := [.int .i64 s.f_from,.int .i64 s.f_to]

structure Campaign where
  Key:ByteArray
  Class:ByteArray
  Time:Window
  Tags:(List ByteArray)
  Goal:Int
  Most:Int
  Cents:Int
def Campaign.enc (s:Campaign):List D := [.str s.Key,.str s.Class,.int .i64 s.Time.From,.int .i64 s.Time.To,dl eS s.Tags,.int .i64 s.Goal,.int .i64 s.Most,.int .i64 s.Cents]

structure Beat where
  Player:ByteArray
  At:Int
  Clock:Int
def Beat.enc (s:Beat):List D := [.str s.Player,.int .i64 s.At,.int .i64 s.Clock]

structure Beat_ where
  f_from:Int
  f_to:Int
def Beat_.enc (s:Beat_):List D := [.int .i64 s.f_from,.int .i64 s.f_to]

structure Alert where
  Id:ByteArray
  Sender:ByteArray
  Kind:Int
  Refs:(List ByteArray)
  At:Int
  Until:Int
  Weight:Int
  Areas:(List Rect)
  Text:ByteArray
def Alert.enc (s:Alert):List D := [.str s.Id,.str s.Sender,.int .i64 s.Kind,dl eS s.Refs,.int .i64 s.At,.int .i64 s.Until,.int .i64 s.Weight,dl Rect.enc s.Areas,.str s.Text]

structure Post where
  Player:ByteArray
  X:Int
  Y:Int
def Post.enc (s:Post):List D := [.str s.Player,.int .i64 s.X,.int .i64 s.Y]

def rD (x_1:Int) (n_2:Int):Option (Int) :=
  bif (decide (n_2 < 1))then some 0 else (F6 .i64 x_1 n_2).bind fun q_4=>(bif (decide (q_4 < 0))then some (w64 (q_4 + n_2))else some q_4).bind fun v_6=>some v_6
def gH (s_1:Stream) (n_2:Int):Option (Int×Stream) :=
  bif ((s_1.L.length:Int) == 0)then (rD (w64 ((w64 (s_1.f_at + 1)) * 7919)) n_2).bind fun r_4=>some (r_4,(⟨s_1.L,(w64 (s_1.f_at + 1))⟩:Stream))else (F6 .i64 (w64 ((w64 (s_1.f_at + 1)) - 1)) (s_1.L.length:Int)).bind fun q_6=>(Jf .i64 (w64 ((w64 (s_1.f_at + 1)) - 1)) (s_1.L.length:Int)).bind fun q_8=>(idx s_1.L q_6).bind fun y_10=>(rD y_10 1073741824).bind fun r_12=>(rD (w64 (r_12 + (w64 (q_8 * (w64 (7919 + q_6)))))) n_2).bind fun r_14=>some (r_14,(⟨s_1.L,(w64 (s_1.f_at + 1))⟩:Stream))
def gy (s_1:Stream) (n_2:Int):Option (Bool×Stream) :=
  (gH s_1 n_2).bind fun r_3=>some ((r_3.1 == 0),r_3.2)
def lL (s_1:Stream) (l_2:(List ByteArray)):Option (ByteArray×Stream) :=
  (gH s_1 (l_2.length:Int)).bind fun r_3=>(idx l_2 r_3.1).bind fun y_6=>some (y_6,r_3.2)
def gM (s_1:Stream) (low_2:Int) (high_3:Int):Option (Int×Stream) :=
  bif (decide (high_3 < low_2))then some (low_2,s_1)else (gH s_1 (w64 ((w64 (high_3 - low_2)) + 1))).bind fun r_5=>some ((w64 (low_2 + r_5.1)),r_5.2)
def dL (s_1:Stream) (l_2:(List Int)):Option (Int×Stream) :=
  (gH s_1 (l_2.length:Int)).bind fun r_3=>(idx l_2 r_3.1).bind fun y_6=>some (y_6,r_3.2)
def gQ (k_50:Nat) (x_52:Int) (s_55:(List Int)×(List Int)×Int):Option (Ctl ((List Int)×(List Int)×Int) (Unit)) :=
  (gy (⟨s_55.2.1,s_55.2.2⟩:Stream) 4).bind fun r_63=>(bif r_63.1 then (oo s_55.1 ([x_52]:List Int)).bind fun a_70=>some a_70 else some s_55.1).bind fun v_66=>some (.go (v_66,r_63.2.L,r_63.2.f_at))
def gU (k_73:Nat) (x_75:ByteArray) (s_78:(List ByteArray)×(List Int)×Int):Option (Ctl ((List ByteArray)×(List Int)×Int) (Unit)) :=
  (gy (⟨s_78.2.1,s_78.2.2⟩:Stream) 4).bind fun r_86=>(bif r_86.1 then (oo s_78.1 ([x_75]:List ByteArray)).bind fun a_93=>some a_93 else some s_78.1).bind fun v_89=>some (.go (v_89,r_86.2.L,r_86.2.f_at))
def dR (k_2:Nat) (x_4:ByteArray) (s_7:(List Entry)×(List Int)×Int):Option (Ctl ((List Entry)×(List Int)×Int) (Unit)) :=
  (gy (⟨s_7.2.1,s_7.2.2⟩:Stream) 4).bind fun r_15=>bif r_15.1 then some (.go (s_7.1,r_15.2.L,r_15.2.f_at))else (lL r_15.2 ([(⟨#[105,97]⟩:ByteArray),(⟨#[105,98]⟩:ByteArray),(⟨#[105,99]⟩:ByteArray)]:List ByteArray)).bind fun r_19=>(gM r_19.2 0 2).bind fun r_22=>(dL r_22.2 ([0,0,1,3]:List Int)).bind fun r_25=>(dL r_25.2 ([1,1,2,3,7]:List Int)).bind fun r_28=>(dL r_28.2 ([127,127,31,96,1,2]:List Int)).bind fun r_31=>(dL r_31.2 ([0,0,60,600,1380]:List Int)).bind fun r_34=>(dL r_34.2 ([0,60,120,600,720,1439]:List Int)).bind fun r_37=>(dL r_37.2 ([0,0,1,5]:List Int)).bind fun r_40=>(gy r_40.2 8).bind fun r_43=>(dL r_43.2 ([0,1,5,10,30]:List Int)).bind fun r_47=>(forL ([1,2,8]:List Int) (([]:List Int),r_47.2.L,r_47.2.f_at) (fun k x s=>gQ k x s)).bind fun o_61=>thenC o_61 (fun s_55=>(forL ([(⟨#[99,105,116,121]⟩:ByteArray),(⟨#[109,97,108,108]⟩:ByteArray)]:List ByteArray) (([]:List ByteArray),s_55.2.1,s_55.2.2) (fun k x s=>gU k x s)).bind fun o_84=>thenC o_84 (fun s_78=>(oo s_7.1 ([(⟨x_4,r_19.1,r_22.1,r_25.1,(w64 (r_25.1 + r_47.1)),r_28.1,r_31.1,s_55.1,r_34.1,r_37.1,r_40.1,s_78.1,r_43.1⟩:Entry)]:List Entry)).bind fun a_96=>some (.go (a_96,s_78.2.1,s_78.2.2))) (fun _=>none)) (fun _=>none)
def gz (s_1:Stream):Option ((List Entry)×Stream) :=
  (forL ([(⟨#[101,97]⟩:ByteArray),(⟨#[101,98]⟩:ByteArray),(⟨#[101,99]⟩:ByteArray),(⟨#[101,100]⟩:ByteArray)]:List ByteArray) (([]:List Entry),s_1.L,s_1.f_at) (fun k x s=>dR k x s)).bind fun o_13=>thenC o_13 (fun s_7=>some (s_7.1,(⟨s_7.2.1,s_7.2.2⟩:Stream))) (fun _=>none)
def gW (s_1:Stream):Option (Player×Stream) :=
  (dL s_1 ([0,0,60,(-90),1440]:List Int)).bind fun r_3=>(gH r_3.2 3).bind fun r_6=>(idx ([([]:List ByteArray),([(⟨#[99,105,116,121]⟩:ByteArray)]:List ByteArray),([(⟨#[99,105,116,121]⟩:ByteArray),(⟨#[109,97,108,108]⟩:ByteArray)]:List ByteArray)]:List (List ByteArray)) r_6.1).bind fun y_9=>some ((⟨(⟨#[112]⟩:ByteArray),(⟨#[115,97]⟩:ByteArray),r_3.1,y_9⟩:Player),r_6.2)
def jr (s_1:ByteArray) (s_7:Int):Option (Ctl (Int) (Bool)) :=
  bif (decide (s_7 < (s_1.size:Int)))then (pM s_1 s_7).bind fun b_13=>(bif (decide ((b_13.toNat:Int)≥97))then bif (decide ((b_13.toNat:Int)≤122))then some false else bif (decide (s_7 > 0))then bif (decide ((b_13.toNat:Int)≥48))then bif (decide ((b_13.toNat:Int)≤57))then some false else bif ((b_13.toNat:Int) == 45)then some false else some (!((b_13.toNat:Int) == 95))else bif ((b_13.toNat:Int) == 45)then some false else some (!((b_13.toNat:Int) == 95))else some true else bif (decide (s_7 > 0))then bif (decide ((b_13.toNat:Int)≥48))then bif (decide ((b_13.toNat:Int)≤57))then some false else bif ((b_13.toNat:Int) == 45)then some false else some (!((b_13.toNat:Int) == 95))else bif ((b_13.toNat:Int) == 45)then some false else some (!((b_13.toNat:Int) == 95))else some true).bind fun v_15=>bif v_15 then some (.ret false)else some (.go (w64 (s_7 + 1)))else some (.brk s_7)
noncomputable def fq (s_1:ByteArray):Option (Bool) :=
  (fD 0 (fun s=>jr s_1 s)).bind fun o_10=>thenC o_10 (fun s_7=>(bif (sNe s_1 (⟨#[]⟩:ByteArray))then some (decide ((s_1.size:Int)≤40))else some false).bind fun v_30=>some v_30) (fun r=>some r)
def aN (n_1:Int) (low_2:Int) (high_3:Int):Option (Bool) :=
  (bif (decide (n_1 < low_2))then some true else some (decide (n_1 > high_3))).bind fun v_4=>some v_4
def tO (n_1:Int):Option (Bool) :=
  (bif (decide (n_1≥0))then some (decide (n_1≤4000))else some false).bind fun v_2=>some v_2
def iA (l_1:(List Int)) (k_3:Nat) (x_5:Int) (s_8:Unit):Option (Ctl (Unit) (Int)) :=
  (tO x_5).bind fun r_13=>bif (!r_13)then some (.ret 1)else (bif (decide ((k_3:Int) > 0))then (idx l_1 (w64 ((k_3:Int) - 1))).bind fun y_19=>some (decide (x_5≤y_19))else some false).bind fun v_16=>bif v_16 then some (.ret 7)else some (.go ())
def fP (l_1:(List Int)):Option (Int) :=
  bif (decide ((l_1.length:Int) > 100))then some 2 else (forL l_1 () (fun k x s=>iA l_1 k x s)).bind fun o_11=>thenC o_11 (fun s_8=>some 0) (fun r=>some r)
noncomputable def gZ (l_1:(List ByteArray)) (k_2:Nat) (x_4:ByteArray) (s_7:Unit):Option (Ctl (Unit) (Int)) :=
  (fq x_4).bind fun r_12=>bif (!r_12)then some (.ret 5)else (bif (decide ((k_2:Int) > 0))then (idx l_1 (w64 ((k_2:Int) - 1))).bind fun y_18=>some (sLe x_4 y_18)else some false).bind fun v_15=>bif v_15 then some (.ret 7)else some (.go ())
noncomputable def iG (l_1:(List ByteArray)):Option (Int) :=
  (forL l_1 () (fun k x s=>gZ l_1 k x s)).bind fun o_10=>thenC o_10 (fun s_7=>some 0) (fun r=>some r)
noncomputable def eQ (l_1:(List ByteArray)):Option (Int) :=
  bif (decide ((l_1.length:Int) > 20))then some 2 else (iG l_1).bind fun r_3=>some r_3
noncomputable def fw (e_1:Entry):Option (Int) :=
  ((fq e_1.Key).bind fun r_5=>bif (!r_5)then some true else (fq e_1.Item).bind fun r_8=>some (!r_8)).bind fun v_3=>bif v_3 then some 5 else ((aN e_1.Version 0 1000000).bind fun r_13=>bif r_13 then some true else (aN e_1.First 0 e_1.Last).bind fun r_16=>bif r_16 then some true else bif (decide (e_1.Last > 4000))then some true else (aN e_1.Every 1 400).bind fun r_20=>bif r_20 then some true else (aN e_1.Days 1 127).bind fun r_23=>some r_23).bind fun v_11=>bif v_11 then some 1 else (fP e_1.Except).bind fun r_26=>bif (r_26 != 0)then some r_26 else ((aN e_1.From 0 1439).bind fun r_31=>bif r_31 then some true else (aN e_1.To 0 1439).bind fun r_34=>bif r_34 then some true else (aN e_1.Prio 0 9).bind fun r_37=>some r_37).bind fun v_29=>bif v_29 then some 1 else (eQ e_1.Tags).bind fun r_40=>some r_40
noncomputable def d9 (l_1:(List Entry)) (k_3:Nat) (x_5:Entry) (s_8:Unit):Option (Ctl (Unit) (Int)) :=
  (fw x_5).bind fun r_14=>bif (r_14 != 0)then some (.ret r_14)else (bif (decide ((k_3:Int) > 0))then (idx l_1 (w64 ((k_3:Int) - 1))).bind fun y_20=>some (sLe x_5.Key y_20.Key)else some false).bind fun v_17=>bif v_17 then some (.ret 7)else some (.go ())
noncomputable def dJ (l_1:(List Entry)):Option (Int) :=
  bif (decide ((l_1.length:Int) > 200))then some 2 else (forL l_1 () (fun k x s=>d9 l_1 k x s)).bind fun o_11=>thenC o_11 (fun s_8=>some 0) (fun r=>some r)
noncomputable def iy (p_1:Player):Option (Int) :=
  ((fq p_1.Key).bind fun r_5=>bif (!r_5)then some true else (fq p_1.Screen).bind fun r_8=>some (!r_8)).bind fun v_3=>bif v_3 then some 5 else (aN p_1.Zone (-1440) 1440).bind fun r_11=>bif r_11 then some 1 else (eQ p_1.Tags).bind fun r_14=>some r_14
def jo (wv_1:Window):Option (Int) :=
  ((aN wv_1.From 0 wv_1.To).bind fun r_5=>bif r_5 then some true else some (decide (wv_1.To > 345686400000))).bind fun v_3=>bif v_3 then some 1 else bif (decide ((w64 (wv_1.To - wv_1.From)) > 34560000000))then some 2 else some 0
def cmp_isNaN_string (x_1:ByteArray):Option (Bool) :=
  some (sNe x_1 x_1)
def cmp_Less_string (x_1:ByteArray) (y_2:ByteArray):Option (Bool) :=
  ((cmp_isNaN_string x_1).bind fun r_5=>bif r_5 then (cmp_isNaN_string y_2).bind fun r_8=>bif (!r_8)then some true else some (sLt x_1 y_2)else some (sLt x_1 y_2)).bind fun v_3=>some v_3
def slices_isNaN_string (x_1:ByteArray):Option (Bool) :=
  some (sNe x_1 x_1)
def aS (x_1:(List ByteArray)) (target_2:ByteArray) (s_8:Int×Int):Option (Ctl (Int×Int) (Unit)) :=
  bif (decide (s_8.1 < s_8.2))then (Ae .u64 (IntKind.u64.wrap (w64 (s_8.1 + s_8.2))) 1).bind fun q_14=>(idx x_1 (w64 q_14)).bind fun y_16=>(cmp_Less_string y_16 target_2).bind fun r_18=>bif r_18 then some (.go ((w64 ((w64 q_14) + 1)),s_8.2))else some (.go (s_8.1,(w64 q_14)))else some (.brk (s_8.1,s_8.2))
noncomputable def dA (x_1:(List ByteArray)) (target_2:ByteArray):Option (Int×Bool) :=
  (fD (0,(x_1.length:Int)) (fun s=>aS x_1 target_2 s)).bind fun o_11=>thenC o_11 (fun s_8=>(bif (decide (s_8.1 < (x_1.length:Int)))then (idx x_1 s_8.1).bind fun y_24=>bif (sEq y_24 target_2)then some true else (idx x_1 s_8.1).bind fun y_27=>(slices_isNaN_string y_27).bind fun r_29=>bif r_29 then (slices_isNaN_string target_2).bind fun r_32=>some r_32 else some false else some false).bind fun v_21=>some (s_8.1,v_21)) (fun _=>none)
noncomputable def iR (p_2:Player) (k_5:Nat) (x_7:ByteArray) (s_10:Unit):Option (Ctl (Unit) (Bool)) :=
  (dA p_2.Tags x_7).bind fun r_15=>bif (!r_15.2)then some (.ret false)else some (.go ())
noncomputable def mF (e_1:Entry) (p_2:Player):Option (Bool) :=
  (forL e_1.Tags () (fun k x s=>iR p_2 k x s)).bind fun o_13=>thenC o_13 (fun s_10=>some true) (fun r=>some r)
def cmp_isNaN_int (x_1:Int):Option (Bool) :=
  some (x_1 != x_1)
def cmp_Less_int (x_1:Int) (y_2:Int):Option (Bool) :=
  ((cmp_isNaN_int x_1).bind fun r_5=>bif r_5 then (cmp_isNaN_int y_2).bind fun r_8=>bif (!r_8)then some true else some (decide (x_1 < y_2))else some (decide (x_1 < y_2))).bind fun v_3=>some v_3
def fQ (x_1:Int):Option (Bool) :=
  some (x_1 != x_1)
def aY (x_1:(List Int)) (target_2:Int) (s_8:Int×Int):Option (Ctl (Int×Int) (Unit)) :=
  bif (decide (s_8.1 < s_8.2))then (Ae .u64 (IntKind.u64.wrap (w64 (s_8.1 + s_8.2))) 1).bind fun q_14=>(idx x_1 (w64 q_14)).bind fun y_16=>(cmp_Less_int y_16 target_2).bind fun r_18=>bif r_18 then some (.go ((w64 ((w64 q_14) + 1)),s_8.2))else some (.go (s_8.1,(w64 q_14)))else some (.brk (s_8.1,s_8.2))
noncomputable def cZ (x_1:(List Int)) (target_2:Int):Option (Int×Bool) :=
  (fD (0,(x_1.length:Int)) (fun s=>aY x_1 target_2 s)).bind fun o_11=>thenC o_11 (fun s_8=>(bif (decide (s_8.1 < (x_1.length:Int)))then (idx x_1 s_8.1).bind fun y_24=>bif (y_24 == target_2)then some true else (idx x_1 s_8.1).bind fun y_27=>(fQ y_27).bind fun r_29=>bif r_29 then (fQ target_2).bind fun r_32=>some r_32 else some false else some false).bind fun v_21=>some (s_8.1,v_21)) (fun _=>none)
noncomputable def ja (e_1:Entry) (d_2:Int):Option (Bool) :=
  ((aN d_2 e_1.First e_1.Last).bind fun r_6=>bif r_6 then some true else (F6 .i64 (w64 (d_2 - e_1.First)) e_1.Every).bind fun q_9=>bif (q_9 != 0)then some true else (zU .i64 1 (d_2.tmod 7)).bind fun q_12=>some ((pq .i64 e_1.Days q_12) == 0)).bind fun v_4=>bif v_4 then some false else (cZ e_1.Except d_2).bind fun r_15=>some (!r_15.2)
def jk (e_1:Entry) (zone_2:Int) (d_3:Int):Option (Window) :=
  (bif (decide ((w64 (e_1.To - e_1.From))≤0))then some (w64 ((w64 (e_1.To - e_1.From)) + 1440))else some (w64 (e_1.To - e_1.From))).bind fun v_6=>some (⟨(w64 ((w64 ((w64 ((w64 (d_3 * 1440)) + e_1.From)) - zone_2)) * 60000)),(w64 ((w64 ((w64 ((w64 ((w64 (d_3 * 1440)) + e_1.From)) - zone_2)) * 60000)) + (w64 (v_6 * 60000))))⟩:Window)
noncomputable def dM (wv_3:Window) (zone_2:Int) (e_1:Entry) (s_15:(List Window)×Int):Option (Ctl ((List Window)×Int) (Unit)) :=
  bif (decide (s_15.2≤(p9 (w64 ((w64 ((w64 (wv_3.To + (w64 (zone_2 * 60000)))).tdiv 86400000)) + 1)) e_1.Last)))then (ja e_1 s_15.2).bind fun r_24=>bif (!r_24)then some (.go (s_15.1,(w64 (s_15.2 + 1))))else (jk e_1 zone_2 s_15.2).bind fun r_27=>(bif (decide (r_27.From < wv_3.To))then some (decide (r_27.To > wv_3.From))else some false).bind fun v_30=>(bif v_30 then (oo s_15.1 ([r_27]:List Window)).bind fun a_37=>some a_37 else some s_15.1).bind fun v_33=>some (.go (v_33,(w64 (s_15.2 + 1))))else some (.brk (s_15.1,s_15.2))
noncomputable def fG (e_1:Entry) (zone_2:Int) (wv_3:Window):Option ((List Window)) :=
  (bif e_1.Gone then some true else some (decide (wv_3.From≥wv_3.To))).bind fun v_6=>bif v_6 then some ([]:(List Window))else (fD (([]:List Window),(ma (w64 ((w64 ((w64 (wv_3.From + (w64 (zone_2 * 60000)))).tdiv 86400000)) - 2)) e_1.First)) (fun s=>dM wv_3 zone_2 e_1 s)).bind fun o_21=>thenC o_21 (fun s_15=>some s_15.1) (fun _=>none)
def gq (l_1:(List Entry)) (k_6:Nat) (k_24:Nat) (x_26:Window) (s_29:(List Span)):Option (Ctl ((List Span)) (Unit)) :=
  (idx l_1 (k_6:Int)).bind fun y_37=>(oo s_29 ([(⟨(some y_37),x_26⟩:Span)]:List Span)).bind fun a_39=>some (.go a_39)
noncomputable def gu (p_2:Player) (wv_3:Window) (l_1:(List Entry)) (k_6:Nat) (x_8:Entry) (s_11:(List Span)):Option (Ctl ((List Span)) (Unit)) :=
  (mF x_8 p_2).bind fun r_19=>bif (!r_19)then some (.go s_11)else (fG x_8 p_2.Zone wv_3).bind fun r_22=>(forL r_22 s_11 (fun k x s=>gq l_1 k_6 k x s)).bind fun o_34=>thenC o_34 (fun s_29=>some (.go s_29)) (fun _=>none)
noncomputable def gp (l_1:(List Entry)) (p_2:Player) (wv_3:Window):Option ((List Span)) :=
  (forL l_1 ([]:List Span) (fun k x s=>gu p_2 wv_3 l_1 k x s)).bind fun o_17=>thenC o_17 (fun s_11=>some s_11) (fun _=>none)
def cmp_Compare_int (x_1:Int) (y_2:Int):Option (Int) :=
  (cmp_isNaN_int x_1).bind fun r_3=>(cmp_isNaN_int y_2).bind fun r_5=>bif r_3 then bif r_5 then some 0 else some (-1)else bif r_5 then some 1 else bif (decide (x_1 < y_2))then some (-1)else bif (decide (x_1 > y_2))then some 1 else some 0
def ib (a_1:Span) (b_2:Span):Option (Int) :=
  (cmp_Compare_int a_1.f_time.From b_2.f_time.From).bind fun r_5=>some r_5
noncomputable def fZ (x:(List Span)):Option ((List Span)) :=
  yw (fun a b=>ib a b) x
def qB (t_1:Window) (wv_2:Window):Option (Window) :=
  some (⟨(ma t_1.From wv_2.From),(p9 t_1.To wv_2.To)⟩:Window)
def dC (x:(List Int)):Option ((List Int)) :=
  He x
def bQ (s_1:(List Int)) (s_8:Int) (s_28:(List Int)×Int×Int):Option (Ctl ((List Int)×Int×Int) (Unit)) :=
  bif (decide (s_28.2.2 < (((((s_1.length:Int)).toNat - (s_8).toNat):Nat):Int)))then (inN s_28.2.2 (((s_1.length:Int)).toNat - (s_8).toNat)).bind fun _=>(s_28.1[(((s_8).toNat) + (s_28.2.2).toNat)]?).bind fun e_35=>(inN (w64 (s_28.2.2 - 1)) (((s_1.length:Int)).toNat - (s_8).toNat)).bind fun _=>(s_28.1[(((s_8).toNat) + ((w64 (s_28.2.2 - 1))).toNat)]?).bind fun e_38=>(bif (e_35 != e_38)then (inN s_28.2.2 (((s_1.length:Int)).toNat - (s_8).toNat)).bind fun _=>(s_28.1[(((s_8).toNat) + (s_28.2.2).toNat)]?).bind fun e_44=>(inR s_28.2.1 s_28.1).bind fun _=>(s_28.1[(0 + (s_28.2.1).toNat)]?).bind fun e_47=>some ((s_28.1.set (0 + (s_28.2.1).toNat) e_44),(w64 (s_28.2.1 + 1)))else some (s_28.1,s_28.2.1)).bind fun v_40=>some (.go (v_40.1,v_40.2,(w64 (s_28.2.2 + 1))))else some (.brk (s_28.1,s_28.2.1,s_28.2.2))
noncomputable def aU (s_1:(List Int)) (s_8:Int):Option (Ctl (Int) ((List Int))) :=
  bif (decide (s_8 < (s_1.length:Int)))then (inR s_8 s_1).bind fun _=>(s_1[(0 + (s_8).toNat)]?).bind fun e_15=>(inR (w64 (s_8 - 1)) s_1).bind fun _=>(s_1[(0 + ((w64 (s_8 - 1))).toNat)]?).bind fun e_18=>bif (e_15 == e_18)then (neL s_1).bind fun _=>(pG s_1 s_8 (s_1.length:Int)).bind fun _=>(fD (s_1,s_8,1) (fun s=>bQ s_1 s_8 s)).bind fun o_31=>thenC o_31 (fun s_28=>(pG s_28.1 s_28.2.1 (s_28.1.length:Int)).bind fun _=>(pG (s_28.1.take ((s_28.2.1).toNat)++List.replicate (((s_28.1.length:Int)).toNat - (s_28.2.1).toNat) 0++s_28.1.drop (((s_28.2.1).toNat) + (((s_28.1.length:Int)).toNat - (s_28.2.1).toNat))) 0 s_28.2.1).bind fun _=>some (.ret (cutL (s_28.1.take ((s_28.2.1).toNat)++List.replicate (((s_28.1.length:Int)).toNat - (s_28.2.1).toNat) 0++s_28.1.drop (((s_28.2.1).toNat) + (((s_28.1.length:Int)).toNat - (s_28.2.1).toNat))) 0 ((s_28.2.1).toNat)))) (fun _=>none)else some (.go (w64 (s_8 + 1)))else some (.brk s_8)
noncomputable def bS (s_1:(List Int)):Option ((List Int)) :=
  bif (decide ((s_1.length:Int) < 2))then some s_1 else (fD 1 (fun s=>aU s_1 s)).bind fun o_11=>thenC o_11 (fun s_8=>some s_1) (fun r=>some r)
def jw (wv_3:Window) (k_9:Nat) (x_11:Span) (s_14:(List Int)):Option (Ctl ((List Int)) (Unit)) :=
  (qB x_11.f_time wv_3).bind fun r_22=>(oo s_14 ([r_22.From,r_22.To]:List Int)).bind fun a_25=>some (.go a_25)
noncomputable def lQ (l_1:(List Entry)) (p_2:Player) (wv_3:Window):Option ((List Int)) :=
  (gp l_1 p_2 wv_3).bind fun r_7=>(forL r_7 ([wv_3.From,wv_3.To]:List Int) (fun k x s=>jw wv_3 k x s)).bind fun o_19=>thenC o_19 (fun s_14=>(neL s_14).bind fun _=>(dC s_14).bind fun r_29=>(jN r_29 s_14).bind fun _=>(bS r_29).bind fun r_32=>some r_32) (fun _=>none)
def eT (s_1:Span) (p_2:(List Int)) (p_3:Int):Option (Bool) :=
  (idx p_2 p_3).bind fun y_5=>some (decide (s_1.f_time.To≤y_5))
def dz (s_1:(List Span)) (f2_3:(List Int)) (f2_4:Int) (k_5:Nat) (x_7:Nat) (s_10:Unit):Option (Ctl (Unit) (Int)) :=
  (inR (k_5:Int) s_1).bind fun _=>(s_1[(0 + ((k_5:Int)).toNat)]?).bind fun e_16=>(eT e_16 f2_3 f2_4).bind fun r_18=>bif r_18 then some (.ret (k_5:Int))else some (.go ())
def dF (s_1:(List Span)) (f2_3:(List Int)) (f2_4:Int):Option (Int) :=
  (forL (List.range ((s_1.length:Int)).toNat) () (fun k x s=>dz s_1 f2_3 f2_4 k x s)).bind fun o_13=>thenC o_13 (fun s_10=>some (-1)) (fun r=>some r)
def dx (del2_3:(List Int)) (del2_4:Int) (s_13:(List Span)×Int×Int):Option (Ctl ((List Span)×Int×Int) (Unit)) :=
  bif (decide (s_13.2.2 < (s_13.1.length:Int)))then (inR s_13.2.2 s_13.1).bind fun _=>(s_13.1[(0 + (s_13.2.2).toNat)]?).bind fun e_20=>(eT e_20 del2_3 del2_4).bind fun r_23=>(bif (!r_23)then (inR s_13.2.1 s_13.1).bind fun _=>(s_13.1[(0 + (s_13.2.1).toNat)]?).bind fun e_30=>some ((s_13.1.set (0 + (s_13.2.1).toNat) e_20),(w64 (s_13.2.1 + 1)))else some (s_13.1,s_13.2.1)).bind fun v_26=>some (.go (v_26.1,v_26.2,(w64 (s_13.2.2 + 1))))else some (.brk (s_13.1,s_13.2.1,s_13.2.2))
noncomputable def bB (s_1:(List Span)) (del2_3:(List Int)) (del2_4:Int):Option ((List Span)) :=
  (dF s_1 del2_3 del2_4).bind fun r_5=>bif (r_5 == (-1))then some s_1 else (fD (s_1,r_5,(w64 (r_5 + 1))) (fun s=>dx del2_3 del2_4 s)).bind fun o_16=>thenC o_16 (fun s_13=>(pG s_13.1 s_13.2.1 (s_13.1.length:Int)).bind fun _=>(pG (s_13.1.take ((s_13.2.1).toNat)++List.replicate (((s_13.1.length:Int)).toNat - (s_13.2.1).toNat) (⟨none,(⟨0,0⟩:Window)⟩:Span)++s_13.1.drop (((s_13.2.1).toNat) + (((s_13.1.length:Int)).toNat - (s_13.2.1).toNat))) 0 s_13.2.1).bind fun _=>some ((s_13.1.take ((s_13.2.1).toNat)++List.replicate (((s_13.1.length:Int)).toNat - (s_13.2.1).toNat) (⟨none,(⟨0,0⟩:Window)⟩:Span)++s_13.1.drop (((s_13.2.1).toNat) + (((s_13.1.length:Int)).toNat - (s_13.2.1).toNat))).take ((s_13.2.1).toNat))) (fun _=>none)
def dH (f_2:Span→Option Bool) (k_3:Nat) (x_5:Span) (s_8:Unit):Option (Ctl (Unit) (Int)) :=
  (f_2 x_5).bind fun r_13=>bif r_13 then some (.ret (k_3:Int))else some (.go ())
def bK (s_1:(List Span)) (f_2:Span→Option Bool):Option (Int) :=
  (forL s_1 () (fun k x s=>dH f_2 k x s)).bind fun o_11=>thenC o_11 (fun s_8=>some (-1)) (fun r=>some r)
def dw (r_5:Int) (s_14:Unit):Option (Ctl (Unit) (Unit)) :=
  bif (decide ((w64 (r_5 + 1)) < 0))then none else some (.brk ())
noncomputable def bA (del2_3:(List Int)) (del2_4:Int):Option (Unit) :=
  (bK ([]:List Span) (fun x0=>eT x0 del2_3 del2_4)).bind fun r_5=>bif (r_5 == (-1))then some ()else (fD () (fun s=>dw r_5 s)).bind fun o_17=>thenC o_17 (fun s_14=>none) (fun _=>none)
def ic (a_1:ByteArray) (b_2:ByteArray):Option (Int) :=
  some (BB a_1 b_2)
def strings_Compare (a_1:ByteArray) (b_2:ByteArray):Option (Int) :=
  (ic a_1 b_2).bind fun r_3=>some r_3
def oW (k_2:Nat) (x_4:Int) (s_7:Unit):Option (Ctl (Unit) (Int)) :=
  bif (x_4 != 0)then some (.ret x_4)else some (.go ())
def ni (vals_1:(List Int)):Option (Int) :=
  (forL vals_1 () (fun k x s=>oW k x s)).bind fun o_10=>thenC o_10 (fun s_7=>some 0) (fun r=>some r)
def eX (a_1:Span) (b_2:Span):Option (Int) :=
  (b_2.f_e).bind fun y_5=>(a_1.f_e).bind fun y_7=>(cmp_Compare_int y_5.Prio y_7.Prio).bind fun r_9=>(cmp_Compare_int b_2.f_time.From a_1.f_time.From).bind fun r_11=>(b_2.f_e).bind fun y_13=>(a_1.f_e).bind fun y_15=>(strings_Compare y_13.Key y_15.Key).bind fun r_17=>(ni ([r_9,r_11,r_17]:List Int)).bind fun r_19=>some r_19
def aX (x_1:(List Span)) (s_16:Int×(Option Entry)×Int×Int):Option (Ctl (Int×(Option Entry)×Int×Int) (Unit)) :=
  bif (decide (s_16.1 < (x_1.length:Int)))then (inR s_16.1 x_1).bind fun _=>(x_1[(0 + (s_16.1).toNat)]?).bind fun e_23=>(eX e_23 (⟨s_16.2.1,(⟨s_16.2.2.1,s_16.2.2.2⟩:Window)⟩:Span)).bind fun r_25=>(bif (decide (r_25 < 0))then (inR s_16.1 x_1).bind fun _=>(x_1[(0 + (s_16.1).toNat)]?).bind fun e_31=>some (e_31.f_e,e_31.f_time.From,e_31.f_time.To)else some (s_16.2.1,s_16.2.2.1,s_16.2.2.2)).bind fun v_27=>some (.go ((w64 (s_16.1 + 1)),v_27.1,v_27.2.1,v_27.2.2))else some (.brk (s_16.1,s_16.2.1,s_16.2.2.1,s_16.2.2.2))
noncomputable def aZ (x_1:(List Span)):Option (Span) :=
  (bif (decide ((x_1.length:Int) < 1))then none else some ()).bind fun v_4=>(inR 0 x_1).bind fun _=>(x_1[(0 + (0:Int).toNat)]?).bind fun e_8=>(fD (1,e_8.f_e,e_8.f_time.From,e_8.f_time.To) (fun s=>aX x_1 s)).bind fun o_19=>thenC o_19 (fun s_16=>some (⟨s_16.2.1,(⟨s_16.2.2.1,s_16.2.2.2⟩:Window)⟩:Span)) (fun _=>none)
def fB (r_10:(List Span)) (r_13:(List Int)) (s_22:(List Slot_)×(List Span)×Int×Int) (s_43:(List Span)×Int):Option (Ctl ((List Span)×Int) (Unit)) :=
  (bif (decide (s_43.2 < (r_10.length:Int)))then (inR s_43.2 r_10).bind fun _=>(r_10[(0 + (s_43.2).toNat)]?).bind fun e_54=>(idx r_13 s_22.2.2.2).bind fun y_56=>some (decide (e_54.f_time.From≤y_56))else some false).bind fun v_50=>bif v_50 then (inR s_43.2 r_10).bind fun _=>(r_10[(0 + (s_43.2).toNat)]?).bind fun e_60=>(oo s_43.1 ([e_60]:List Span)).bind fun a_62=>some (.go (a_62,(w64 (s_43.2 + 1))))else some (.brk (s_43.1,s_43.2))
noncomputable def fC (r_13:(List Int)) (r_10:(List Span)) (s_22:(List Slot_)×(List Span)×Int×Int):Option (Ctl ((List Slot_)×(List Span)×Int×Int) (Unit)) :=
  bif (decide ((w64 (s_22.2.2.2 + 1)) < (r_13.length:Int)))then (fD (s_22.2.1,s_22.2.2.1) (fun s=>fB r_10 r_13 s_22 s)).bind fun o_48=>thenC o_48 (fun s_43=>(bB s_43.1 r_13 s_22.2.2.2).bind fun r_65=>(leL r_65 s_43.1).bind fun _=>(bA r_13 s_22.2.2.2).bind fun _=>(bif (decide ((r_65.length:Int) > 0))then (neL r_65).bind fun _=>(aZ r_65).bind fun r_73=>(r_73.f_e).bind fun y_75=>some y_75.Key else some (⟨#[]⟩:ByteArray)).bind fun v_69=>(bif (decide ((w64 ((s_22.1.length:Int) - 1))≥0))then (inR (w64 ((s_22.1.length:Int) - 1)) s_22.1).bind fun _=>(s_22.1[(0 + ((w64 ((s_22.1.length:Int) - 1))).toNat)]?).bind fun e_81=>some (sEq e_81.Entry v_69)else some false).bind fun v_77=>(bif v_77 then (idx r_13 (w64 (s_22.2.2.2 + 1))).bind fun y_87=>(inR (w64 ((s_22.1.length:Int) - 1)) s_22.1).bind fun _=>(s_22.1[(0 + ((w64 ((s_22.1.length:Int) - 1))).toNat)]?).bind fun e_90=>some (s_22.1.set (0 + ((w64 ((s_22.1.length:Int) - 1))).toNat) (⟨(⟨e_90.Time.From,y_87⟩:Window),e_90.Entry⟩:Slot_))else (idx r_13 s_22.2.2.2).bind fun y_92=>(idx r_13 (w64 (s_22.2.2.2 + 1))).bind fun y_94=>(oo s_22.1 ([(⟨(⟨y_92,y_94⟩:Window),v_69⟩:Slot_)]:List Slot_)).bind fun a_96=>some a_96).bind fun v_83=>some (.go (v_83,r_65,s_43.2,(w64 (s_22.2.2.2 + 1))))) (fun _=>none)else some (.brk (s_22.1,s_22.2.1,s_22.2.2.1,s_22.2.2.2))
noncomputable def jS (l_1:(List Entry)) (p_2:Player) (wv_3:Window):Option ((List Slot_)) :=
  (gp l_1 p_2 wv_3).bind fun r_6=>(fZ r_6).bind fun r_10=>(jN r_10 r_6).bind fun _=>(lQ l_1 p_2 wv_3).bind fun r_13=>(fD (([]:List Slot_),([]:List Span),0,0) (fun s=>fC r_13 r_10 s)).bind fun o_35=>thenC o_35 (fun s_22=>some s_22.1) (fun _=>none)
def di (n_1:Int):Option (Bool) :=
  (bif (decide (n_1≥0))then some (decide (n_1 < 345686400000))else some false).bind fun v_2=>some v_2
noncomputable def dD (l_1:(List Entry)) (p_2:Player) (atv_3:Int):Option (Int) :=
  (dJ l_1).bind fun r_5=>bif (r_5 != 0)then some r_5 else (iy p_2).bind fun r_8=>bif (r_8 != 0)then some r_8 else (di atv_3).bind fun r_11=>bif (!r_11)then some 1 else some 0
def qd (x_1:Int):Option (Int) :=
  (bif (decide (x_1≥4294967296))then (Ae .u64 x_1 32).bind fun q_5=>some (q_5,32)else some (x_1,0)).bind fun v_2=>(bif (decide (v_2.1≥65536))then (Ae .u64 v_2.1 16).bind fun q_10=>some (q_10,(w64 (v_2.2 + 16)))else some (v_2.1,v_2.2)).bind fun v_7=>(bif (decide (v_7.1≥256))then (Ae .u64 v_7.1 8).bind fun q_15=>some (q_15,(w64 (v_7.2 + 8)))else some (v_7.1,v_7.2)).bind fun v_12=>(pM (⟨#[0,1,2,2,3,3,3,3,4,4,4,4,4,4,4,4,5,5,5,5,5,5,5,5,5,5,5,5,5,5,5,5,6,6,6,6,6,6,6,6,6,6,6,6,6,6,6,6,6,6,6,6,6,6,6,6,6,6,6,6,6,6,6,6,7,7,7,7,7,7,7,7,7,7,7,7,7,7,7,7,7,7,7,7,7,7,7,7,7,7,7,7,7,7,7,7,7,7,7,7,7,7,7,7,7,7,7,7,7,7,7,7,7,7,7,7,7,7,7,7,7,7,7,7,7,7,7,7,8,8,8,8,8,8,8,8,8,8,8,8,8,8,8,8,8,8,8,8,8,8,8,8,8,8,8,8,8,8,8,8,8,8,8,8,8,8,8,8,8,8,8,8,8,8,8,8,8,8,8,8,8,8,8,8,8,8,8,8,8,8,8,8,8,8,8,8,8,8,8,8,8,8,8,8,8,8,8,8,8,8,8,8,8,8,8,8,8,8,8,8,8,8,8,8,8,8,8,8,8,8,8,8,8,8,8,8,8,8,8,8,8,8,8,8,8,8,8,8,8,8,8,8,8,8,8,8]⟩:ByteArray) (IntKind.u8.wrap v_12.1)).bind fun b_17=>some (w64 (v_12.2 + (w64 (b_17.toNat:Int))))
def iM (x_1:Int):Option (Int) :=
  (qd x_1).bind fun r_2=>some r_2
def dG (a_2:Int) (s_21:(List Span)×Int):Option (Ctl ((List Span)×Int) (Unit)) :=
  (bif (decide (s_21.2 > a_2))then (inR s_21.2 s_21.1).bind fun _=>(s_21.1[(0 + (s_21.2).toNat)]?).bind fun e_30=>(inR (w64 (s_21.2 - 1)) s_21.1).bind fun _=>(s_21.1[(0 + ((w64 (s_21.2 - 1))).toNat)]?).bind fun e_33=>(eX e_30 e_33).bind fun r_35=>some (decide (r_35 < 0))else some false).bind fun v_26=>bif v_26 then (inR (w64 (s_21.2 - 1)) s_21.1).bind fun _=>(s_21.1[(0 + ((w64 (s_21.2 - 1))).toNat)]?).bind fun e_39=>(inR s_21.2 s_21.1).bind fun _=>(s_21.1[(0 + (s_21.2).toNat)]?).bind fun e_42=>(inR s_21.2 s_21.1).bind fun _=>(s_21.1[(0 + (s_21.2).toNat)]?).bind fun e_45=>(inR (w64 (s_21.2 - 1)) (s_21.1.set (0 + (s_21.2).toNat) e_39)).bind fun _=>((s_21.1.set (0 + (s_21.2).toNat) e_39)[(0 + ((w64 (s_21.2 - 1))).toNat)]?).bind fun e_48=>some (.go (((s_21.1.set (0 + (s_21.2).toNat) e_39).set (0 + ((w64 (s_21.2 - 1))).toNat) e_42),(w64 (s_21.2 - 1))))else some (.brk (s_21.1,s_21.2))
noncomputable def dE (b_3:Int) (a_2:Int) (s_10:(List Span)×Int):Option (Ctl ((List Span)×Int) (Unit)) :=
  bif (decide (s_10.2 < b_3))then (fD (s_10.1,s_10.2) (fun s=>dG a_2 s)).bind fun o_24=>thenC o_24 (fun s_21=>some (.go (s_21.1,(w64 (s_10.2 + 1))))) (fun _=>none)else some (.brk (s_10.1,s_10.2))
noncomputable def dK (data_1:(List Span)) (a_2:Int) (b_3:Int):Option ((List Span)) :=
  (fD (data_1,(w64 (a_2 + 1))) (fun s=>dE b_3 a_2 s)).bind fun o_13=>thenC o_13 (fun s_10=>some s_10.1) (fun _=>none)
noncomputable def dY (b_3:Int) (a_2:Int) (data_1:(List Span)) (limit_4:Int) (s_11:Unit):Option (Ctl (Unit) ((List Span))) :=
  bif (decide ((w64 (b_3 - a_2))≤12))then (dK data_1 a_2 b_3).bind fun r_17=>(jN r_17 data_1).bind fun _=>some (.ret r_17)else bif (limit_4 == 0)then none else none
noncomputable def eP (data_1:(List Span)) (a_2:Int) (b_3:Int) (limit_4:Int):Option ((List Span)) :=
  (fD () (fun s=>dY b_3 a_2 data_1 limit_4 s)).bind fun o_14=>thenC o_14 (fun s_11=>some data_1) (fun r=>some r)
noncomputable def bZ (x_1:(List Span)):Option ((List Span)) :=
  (iM (IntKind.u64.wrap (x_1.length:Int))).bind fun r_3=>(eP x_1 0 (x_1.length:Int) r_3).bind fun r_5=>(jN r_5 x_1).bind fun _=>some r_5
noncomputable def pz (l_1:(List Entry)) (p_2:Player) (atv_3:Int):Option ((List Span)) :=
  (gp l_1 p_2 (⟨atv_3,(w64 (atv_3 + 1))⟩:Window)).bind fun r_5=>(bZ r_5).bind fun r_9=>(jN r_9 r_5).bind fun _=>some r_9
noncomputable def jB (l_1:(List Entry)) (p_2:Player) (atv_3:Int):Option (ByteArray×Bool×Int) :=
  (dD l_1 p_2 atv_3).bind fun r_5=>bif (r_5 != 0)then some ((⟨#[]⟩:ByteArray),false,r_5)else (pz l_1 p_2 atv_3).bind fun r_8=>bif ((r_8.length:Int) == 0)then some ((⟨#[]⟩:ByteArray),false,0)else (idx r_8 0).bind fun y_11=>(y_11.f_e).bind fun y_13=>some (y_13.Key,true,0)
def vw (k_2:Nat) (x_4:Int) (s_7:Unit):Option (Ctl (Unit) (Int)) :=
  bif (x_4 != 0)then some (.ret x_4)else some (.go ())
def xB (l_1:(List Int)):Option (Int) :=
  (forL l_1 () (fun k x s=>vw k x s)).bind fun o_10=>thenC o_10 (fun s_7=>some 0) (fun r=>some r)
def lZ (r_1:Rect):Option (Int) :=
  ((aN r_1.X (-100000) 100000).bind fun r_5=>bif r_5 then some true else (aN r_1.Y (-100000) 100000).bind fun r_8=>some r_8).bind fun v_3=>bif v_3 then some 1 else ((aN r_1.W 1 (w64 (100000 - r_1.X))).bind fun r_13=>bif r_13 then some true else (aN r_1.H 1 (w64 (100000 - r_1.Y))).bind fun r_16=>some r_16).bind fun v_11=>bif v_11 then some 1 else some 0
def lh (k_3:Nat) (x_5:Rect) (s_8:Unit):Option (Ctl (Unit) (Int)) :=
  (lZ x_5).bind fun r_14=>bif (r_14 != 0)then some (.ret r_14)else some (.go ())
def kT (l_1:(List Rect)):Option (Int) :=
  bif (decide ((l_1.length:Int) > 2000))then some 2 else (forL l_1 () (fun k x s=>lh k x s)).bind fun o_11=>thenC o_11 (fun s_8=>some 0) (fun r=>some r)
def gP (n_1:Int):Option Bool :=
  bif (decide (n_1 < 0))then none else bif (decide ((w64 (n_1 - (w64 (0 - 0)))) > 0))then (zN (w64 (n_1 - (w64 (0 - 0)))) 32).bind fun _=>some true else some false
def fM (k_2:Nat) (x_4:(List Rect)) (s_7:Int):Option (Ctl (Int) (Unit)) :=
  (bif (decide ((w64 (s_7 + (x_4.length:Int))) < 0))then none else some ()).bind fun v_12=>some (.go (w64 (s_7 + (x_4.length:Int))))
def fK (k_18:Nat) (x_20:(List Rect)) (s_23:(List Rect)):Option (Ctl ((List Rect)) (Unit)) :=
  (oo s_23 x_20).bind fun a_30=>some (.go a_30)
def eO (slices_1:(List (List Rect))):Option ((List Rect)) :=
  (forL slices_1 0 (fun k x s=>fM k x s)).bind fun o_10=>thenC o_10 (fun s_7=>(gP s_7).bind fun b_15=>(forL slices_1 ([]:List Rect) (fun k x s=>fK k x s)).bind fun o_28=>thenC o_28 (fun s_23=>some s_23) (fun _=>none)) (fun _=>none)
def sP (a_1:Run) (b_2:Run):Option (Int) :=
  some (w64 (a_1.f_from - b_2.f_from))
def cK (a_2:Int) (s_21:(List Run)×Int):Option (Ctl ((List Run)×Int) (Unit)) :=
  (bif (decide (s_21.2 > a_2))then (inR s_21.2 s_21.1).bind fun _=>(s_21.1[(0 + (s_21.2).toNat)]?).bind fun e_30=>(inR (w64 (s_21.2 - 1)) s_21.1).bind fun _=>(s_21.1[(0 + ((w64 (s_21.2 - 1))).toNat)]?).bind fun e_33=>(sP e_30 e_33).bind fun r_35=>some (decide (r_35 < 0))else some false).bind fun v_26=>bif v_26 then (inR (w64 (s_21.2 - 1)) s_21.1).bind fun _=>(s_21.1[(0 + ((w64 (s_21.2 - 1))).toNat)]?).bind fun e_39=>(inR s_21.2 s_21.1).bind fun _=>(s_21.1[(0 + (s_21.2).toNat)]?).bind fun e_42=>(inR s_21.2 s_21.1).bind fun _=>(s_21.1[(0 + (s_21.2).toNat)]?).bind fun e_45=>(inR (w64 (s_21.2 - 1)) (s_21.1.set (0 + (s_21.2).toNat) e_39)).bind fun _=>((s_21.1.set (0 + (s_21.2).toNat) e_39)[(0 + ((w64 (s_21.2 - 1))).toNat)]?).bind fun e_48=>some (.go (((s_21.1.set (0 + (s_21.2).toNat) e_39).set (0 + ((w64 (s_21.2 - 1))).toNat) e_42),(w64 (s_21.2 - 1))))else some (.brk (s_21.1,s_21.2))
noncomputable def bJ (b_3:Int) (a_2:Int) (s_10:(List Run)×Int):Option (Ctl ((List Run)×Int) (Unit)) :=
  bif (decide (s_10.2 < b_3))then (fD (s_10.1,s_10.2) (fun s=>cK a_2 s)).bind fun o_24=>thenC o_24 (fun s_21=>some (.go (s_21.1,(w64 (s_10.2 + 1))))) (fun _=>none)else some (.brk (s_10.1,s_10.2))
noncomputable def bP (data_1:(List Run)) (a_2:Int) (b_3:Int):Option ((List Run)) :=
  (fD (data_1,(w64 (a_2 + 1))) (fun s=>bJ b_3 a_2 s)).bind fun o_13=>thenC o_13 (fun s_10=>some s_10.1) (fun _=>none)
noncomputable def cB (b_3:Int) (a_2:Int) (data_1:(List Run)) (limit_4:Int) (s_11:Unit):Option (Ctl (Unit) ((List Run))) :=
  bif (decide ((w64 (b_3 - a_2))≤12))then (bP data_1 a_2 b_3).bind fun r_17=>(jN r_17 data_1).bind fun _=>some (.ret r_17)else bif (limit_4 == 0)then none else none
noncomputable def dm (data_1:(List Run)) (a_2:Int) (b_3:Int) (limit_4:Int):Option ((List Run)) :=
  (fD () (fun s=>cB b_3 a_2 data_1 limit_4 s)).bind fun o_14=>thenC o_14 (fun s_11=>some data_1) (fun r=>some r)
noncomputable def bU (x_1:(List Run)):Option ((List Run)) :=
  (iM (IntKind.u64.wrap (x_1.length:Int))).bind fun r_3=>(dm x_1 0 (x_1.length:Int) r_3).bind fun r_5=>(jN r_5 x_1).bind fun _=>some r_5
def om (y_2:Int) (k_3:Nat) (x_5:Rect) (s_8:(List Run)):Option (Ctl ((List Run)) (Unit)) :=
  (bif (decide (x_5.Y≤y_2))then some (decide (y_2 < (w64 (x_5.Y + x_5.H))))else some false).bind fun v_17=>(bif v_17 then (oo s_8 ([(⟨x_5.X,(w64 (x_5.X + x_5.W))⟩:Run)]:List Run)).bind fun a_24=>some a_24 else some s_8).bind fun v_20=>some (.go v_20)
def og (k_30:Nat) (x_32:Run) (s_35:(List Run)):Option (Ctl ((List Run)) (Unit)) :=
  (bif (decide ((w64 ((s_35.length:Int) - 1))≥0))then (inR (w64 ((s_35.length:Int) - 1)) s_35).bind fun _=>(s_35[(0 + ((w64 ((s_35.length:Int) - 1))).toNat)]?).bind fun e_48=>some (decide (x_32.f_from≤e_48.f_to))else some false).bind fun v_44=>(bif v_44 then (inR (w64 ((s_35.length:Int) - 1)) s_35).bind fun _=>(s_35[(0 + ((w64 ((s_35.length:Int) - 1))).toNat)]?).bind fun e_55=>(inR (w64 ((s_35.length:Int) - 1)) s_35).bind fun _=>(s_35[(0 + ((w64 ((s_35.length:Int) - 1))).toNat)]?).bind fun e_58=>some (s_35.set (0 + ((w64 ((s_35.length:Int) - 1))).toNat) (⟨e_58.f_from,(ma e_55.f_to x_32.f_to)⟩:Run))else (oo s_35 ([x_32]:List Run)).bind fun a_60=>some a_60).bind fun v_50=>some (.go v_50)
noncomputable def nC (l_1:(List Rect)) (y_2:Int):Option ((List Run)) :=
  (forL l_1 ([]:List Run) (fun k x s=>om y_2 k x s)).bind fun o_14=>thenC o_14 (fun s_8=>(bU s_8).bind fun r_27=>(jN r_27 s_8).bind fun _=>(forL r_27 ([]:List Run) (fun k x s=>og k x s)).bind fun o_41=>thenC o_41 (fun s_35=>some s_35) (fun _=>none)) (fun _=>none)
def nO (m_2:(List Run)) (x_5:Run) (s_22:Int):Option (Ctl (Int) (Unit)) :=
  (bif (decide (s_22 < (m_2.length:Int)))then (idx m_2 s_22).bind fun y_30=>some (decide (y_30.f_to≤x_5.f_from))else some false).bind fun v_27=>bif v_27 then some (.go (w64 (s_22 + 1)))else some (.brk s_22)
def nV (m_2:(List Run)) (x_5:Run) (s_38:(List Run)×Int×Int):Option (Ctl ((List Run)×Int×Int) (Unit)) :=
  (bif (decide (s_38.2.1 < (m_2.length:Int)))then (idx m_2 s_38.2.1).bind fun y_48=>some (decide (y_48.f_from < x_5.f_to))else some false).bind fun v_45=>bif v_45 then (idx m_2 s_38.2.1).bind fun y_51=>(bif (decide (y_51.f_from > s_38.2.2))then (idx m_2 s_38.2.1).bind fun y_57=>(oo s_38.1 ([(⟨s_38.2.2,y_57.f_from⟩:Run)]:List Run)).bind fun a_59=>some a_59 else some s_38.1).bind fun v_53=>(idx m_2 s_38.2.1).bind fun y_62=>some (.go (v_53,(w64 (s_38.2.1 + 1)),(ma s_38.2.2 y_62.f_to)))else some (.brk (s_38.1,s_38.2.1,s_38.2.2))
noncomputable def lC (m_2:(List Run)) (k_3:Nat) (x_5:Run) (s_8:(List Run)×Int):Option (Ctl ((List Run)×Int) (Unit)) :=
  (fD s_8.2 (fun s=>nO m_2 x_5 s)).bind fun o_25=>thenC o_25 (fun s_22=>(fD (s_8.1,s_22,x_5.f_from) (fun s=>nV m_2 x_5 s)).bind fun o_43=>thenC o_43 (fun s_38=>(bif (decide (s_38.2.2 < x_5.f_to))then (oo s_38.1 ([(⟨s_38.2.2,x_5.f_to⟩:Run)]:List Run)).bind fun a_68=>some a_68 else some s_38.1).bind fun v_64=>some (.go (v_64,s_22))) (fun _=>none)) (fun _=>none)
noncomputable def pE (l_1:(List Run)) (m_2:(List Run)):Option ((List Run)) :=
  (forL l_1 (([]:List Run),0) (fun k x s=>lC m_2 k x s)).bind fun o_14=>thenC o_14 (fun s_8=>some s_8.1) (fun _=>none)
def eZ (s2_2:(List Run)) (k_4:Nat) (x_6:Run) (s_9:Unit):Option (Ctl (Unit) (Bool)) :=
  (idx s2_2 (k_4:Int)).bind fun y_14=>bif (!((x_6.f_from == y_14.f_from) && ((x_6.f_to == y_14.f_to) && true)))then some (.ret false)else some (.go ())
def dW (s1_1:(List Run)) (s2_2:(List Run)):Option (Bool) :=
  bif ((s1_1.length:Int) != (s2_2.length:Int))then some false else (forL s1_1 () (fun k x s=>eZ s2_2 k x s)).bind fun o_12=>thenC o_12 (fun s_9=>some true) (fun r=>some r)
def lT (k_5:Nat) (x_7:Rect) (s_10:(List Int)):Option (Ctl ((List Int)) (Unit)) :=
  (oo s_10 ([x_7.Y,(w64 (x_7.Y + x_7.H))]:List Int)).bind fun a_19=>some (.go a_19)
def lU (s_32:(List Rect)×(List Run)×Int) (x_29:Int) (k_54:Nat) (x_56:Run) (s_59:(List Rect)):Option (Ctl ((List Rect)) (Unit)) :=
  (oo s_59 ([(⟨x_56.f_from,s_32.2.2,(w64 (x_56.f_to - x_56.f_from)),(w64 (x_29 - s_32.2.2))⟩:Rect)]:List Rect)).bind fun a_67=>some (.go a_67)
noncomputable def jX (r_25:(List Int)) (l_1:(List Rect)) (m_2:(List Rect)) (k_27:Nat) (x_29:Int) (s_32:(List Rect)×(List Run)×Int):Option (Ctl ((List Rect)×(List Run)×Int) (Unit)) :=
  (bif (decide ((w64 ((k_27:Int) + 1)) < (r_25.length:Int)))then (nC l_1 x_29).bind fun r_45=>(nC m_2 x_29).bind fun r_47=>(pE r_45 r_47).bind fun r_49=>some r_49 else some ([]:List Run)).bind fun v_42=>(dW s_32.2.1 v_42).bind fun r_51=>bif r_51 then some (.go (s_32.1,s_32.2.1,s_32.2.2))else (forL s_32.2.1 s_32.1 (fun k x s=>lU s_32 x_29 k x s)).bind fun o_64=>thenC o_64 (fun s_59=>some (.go (s_59,v_42,x_29))) (fun _=>none)
noncomputable def mM (l_1:(List Rect)) (m_2:(List Rect)):Option ((List Rect)) :=
  (eO ([l_1,m_2]:List (List Rect))).bind fun r_3=>(forL r_3 ([]:List Int) (fun k x s=>lT k x s)).bind fun o_16=>thenC o_16 (fun s_10=>(dC s_10).bind fun r_22=>(jN r_22 s_10).bind fun _=>(bS r_22).bind fun r_25=>(forL r_25 (([]:List Rect),([]:List Run),0) (fun k x s=>jX r_25 l_1 m_2 k x s)).bind fun o_38=>thenC o_38 (fun s_32=>some s_32.1) (fun _=>none)) (fun _=>none)
def rq (k_2:Nat) (x_4:Rect) (s_7:Int):Option (Ctl (Int) (Unit)) :=
  some (.go (w64 (s_7 + (w64 (x_4.W * x_4.H)))))
def rO (l_1:(List Rect)):Option (Int) :=
  (forL l_1 0 (fun k x s=>rq k x s)).bind fun o_10=>thenC o_10 (fun s_7=>some s_7) (fun _=>none)
noncomputable def pJ (l_1:(List Rect)):Option (Int×Int) :=
  (kT l_1).bind fun r_2=>bif (r_2 != 0)then some (0,r_2)else (mM l_1 ([]:List Rect)).bind fun r_5=>(rO r_5).bind fun r_7=>some (r_7,0)
def kR (wv_3:Window) (k_19:Nat) (x_21:Nat) (s_24:(List Window)):Option (Ctl ((List Window)) (Unit)) :=
  (inR (k_19:Int) s_24).bind fun _=>(s_24[(0 + ((k_19:Int)).toNat)]?).bind fun e_30=>(qB e_30 wv_3).bind fun r_33=>(inR (k_19:Int) s_24).bind fun _=>(s_24[(0 + ((k_19:Int)).toNat)]?).bind fun e_36=>some (.go (s_24.set (0 + ((k_19:Int)).toNat) r_33))
noncomputable def lq (e_1:Entry) (zone_2:Int) (wv_3:Window):Option ((List Window)×Int) :=
  (dJ ([e_1]:List Entry)).bind fun r_6=>bif (r_6 != 0)then some (([]:(List Window)),r_6)else (aN zone_2 (-1440) 1440).bind fun r_9=>bif r_9 then some (([]:(List Window)),1)else (jo wv_3).bind fun r_12=>bif (r_12 != 0)then some (([]:(List Window)),r_12)else (fG e_1 zone_2 wv_3).bind fun r_15=>(forL (List.range ((r_15.length:Int)).toNat) r_15 (fun k x s=>kR wv_3 k x s)).bind fun o_27=>thenC o_27 (fun s_24=>some (s_24,0)) (fun _=>none)
def ol (wv_1:Window):Option (Bool) :=
  (bif (decide (wv_1.From≥0))then bif (decide (wv_1.From < wv_1.To))then some (decide (wv_1.To≤345686400000))else some false else some false).bind fun v_3=>some v_3
noncomputable def jl (l_1:(List ByteArray)):Option (Int) :=
  bif (decide ((l_1.length:Int) > 20))then some 2 else (iG l_1).bind fun r_3=>some r_3
noncomputable def fu (l_1:(List Campaign)) (k_3:Nat) (x_5:Campaign) (s_8:Unit):Option (Ctl (Unit) (Int)) :=
  ((fq x_5.Key).bind fun r_16=>bif (!r_16)then some true else bif (sNe x_5.Class (⟨#[]⟩:ByteArray))then (fq x_5.Class).bind fun r_20=>some (!r_20)else some false).bind fun v_14=>bif v_14 then some (.ret 5)else (bif (decide ((k_3:Int) > 0))then (idx l_1 (w64 ((k_3:Int) - 1))).bind fun y_26=>some (sLe x_5.Key y_26.Key)else some false).bind fun v_23=>bif v_23 then some (.ret 7)else ((ol x_5.Time).bind fun r_31=>bif (!r_31)then some true else (aN x_5.Goal 0 1000000).bind fun r_34=>bif r_34 then some true else (aN x_5.Most 0 1000000).bind fun r_37=>bif r_37 then some true else (aN x_5.Cents 0 1000000000).bind fun r_40=>some r_40).bind fun v_29=>bif v_29 then some (.ret 1)else (jl x_5.Tags).bind fun r_43=>bif (r_43 != 0)then some (.ret r_43)else some (.go ())
noncomputable def gJ (l_1:(List Campaign)):Option (Int) :=
  bif (decide ((l_1.length:Int) > 30))then some 2 else (forL l_1 () (fun k x s=>fu l_1 k x s)).bind fun o_11=>thenC o_11 (fun s_8=>some 0) (fun r=>some r)
def rU (c_1:Campaign) (atv_2:Int):Option (Int) :=
  bif (decide (atv_2 < c_1.Time.From))then some 0 else bif (decide (atv_2≥c_1.Time.To))then some c_1.Goal else (Jf .i64 (w64 (c_1.Goal * (w64 (atv_2 - c_1.Time.From)))) (w64 (c_1.Time.To - c_1.Time.From))).bind fun q_6=>some q_6
noncomputable def pF (c_1:Campaign) (atv_2:Int):Option (Int×Int) :=
  (gJ ([c_1]:List Campaign)).bind fun r_4=>bif (r_4 != 0)then some (0,r_4)else (di atv_2).bind fun r_7=>bif (!r_7)then some (0,1)else (rU c_1 atv_2).bind fun r_10=>some (r_10,0)
def kg (a_1:Beat) (b_2:Beat):Option (Int) :=
  (strings_Compare a_1.Player b_2.Player).bind fun r_5=>(cmp_Compare_int a_1.At b_2.At).bind fun r_7=>(ni ([r_5,r_7]:List Int)).bind fun r_9=>some r_9
noncomputable def iJ (l_1:(List Beat)) (k_3:Nat) (x_5:Beat) (s_8:Unit):Option (Ctl (Unit) (Int)) :=
  (fq x_5.Player).bind fun r_14=>bif (!r_14)then some (.ret 5)else ((di x_5.At).bind fun r_19=>bif (!r_19)then some true else (aN x_5.Clock 0 345686399999).bind fun r_22=>some r_22).bind fun v_17=>bif v_17 then some (.ret 1)else (bif (decide ((k_3:Int) > 0))then (idx l_1 (w64 ((k_3:Int) - 1))).bind fun y_28=>(kg y_28 x_5).bind fun r_30=>some (decide (r_30≥0))else some false).bind fun v_25=>bif v_25 then some (.ret 7)else (bif (decide ((k_3:Int) > 0))then (idx l_1 (w64 ((k_3:Int) - 1))).bind fun y_36=>bif (sEq x_5.Player y_36.Player)then (idx l_1 (w64 ((k_3:Int) - 1))).bind fun y_39=>some (decide (x_5.Clock≤y_39.Clock))else some false else some false).bind fun v_33=>bif v_33 then some (.ret 16)else some (.go ())
noncomputable def jU (l_1:(List Beat)):Option (Int) :=
  bif (decide ((l_1.length:Int) > 500))then some 2 else (forL l_1 () (fun k x s=>iJ l_1 k x s)).bind fun o_11=>thenC o_11 (fun s_8=>some 0) (fun r=>some r)
def oG (player_2:ByteArray) (back_3:Bool) (k_4:Nat) (x_6:Beat) (s_9:(List Beat_)):Option (Ctl ((List Beat_)) (Unit)) :=
  (bif (sNe x_6.Player player_2)then some s_9 else bif back_3 then (oo s_9 ([(⟨x_6.At,x_6.Clock⟩:Beat_)]:List Beat_)).bind fun a_23=>some a_23 else (oo s_9 ([(⟨x_6.Clock,x_6.At⟩:Beat_)]:List Beat_)).bind fun a_26=>some a_26).bind fun v_18=>some (.go v_18)
def oZ (l_1:(List Beat)) (player_2:ByteArray) (back_3:Bool):Option ((List Beat_)) :=
  (forL l_1 ([]:List Beat_) (fun k x s=>oG player_2 back_3 k x s)).bind fun o_15=>thenC o_15 (fun s_9=>some s_9) (fun _=>none)
def mR (l_1:(List Beat_)) (n_2:Int) (s_9:Int):Option (Ctl (Int) (Unit)) :=
  (bif (decide (s_9 < (l_1.length:Int)))then (idx l_1 s_9).bind fun y_17=>some (decide (y_17.f_from≤n_2))else some false).bind fun v_14=>bif v_14 then some (.go (w64 (s_9 + 1)))else some (.brk s_9)
noncomputable def oh (l_1:(List Beat_)) (n_2:Int):Option (Int×Int) :=
  bif ((l_1.length:Int) == 0)then some (0,8)else (fD 0 (fun s=>mR l_1 n_2 s)).bind fun o_12=>thenC o_12 (fun s_9=>bif (s_9 == 0)then (idx l_1 0).bind fun y_21=>(idx l_1 0).bind fun y_23=>(di (w64 (y_21.f_to - (w64 (y_23.f_from - n_2))))).bind fun r_25=>bif (!r_25)then some (0,11)else some ((w64 (y_21.f_to - (w64 (y_23.f_from - n_2)))),0)else bif (s_9 == (l_1.length:Int))then (idx l_1 (w64 (s_9 - 1))).bind fun y_29=>(idx l_1 (w64 (s_9 - 1))).bind fun y_31=>(di (w64 ((w64 (y_29.f_to + n_2)) - y_31.f_from))).bind fun r_33=>bif (!r_33)then some (0,11)else some ((w64 ((w64 (y_29.f_to + n_2)) - y_31.f_from)),0)else (idx l_1 (w64 (s_9 - 1))).bind fun y_36=>(idx l_1 s_9).bind fun y_38=>(bif (decide ((w64 (y_38.f_from - y_36.f_from)) > 2592000000))then some true else some (decide ((w64 (y_38.f_to - y_36.f_to)) > 2592000000))).bind fun v_42=>bif v_42 then some (0,2)else (Jf .i64 (w64 ((w64 (n_2 - y_36.f_from)) * (w64 (y_38.f_to - y_36.f_to)))) (w64 (y_38.f_from - y_36.f_from))).bind fun q_46=>(di (w64 (y_36.f_to + q_46))).bind fun r_48=>bif (!r_48)then some (0,11)else some ((w64 (y_36.f_to + q_46)),0)) (fun _=>none)
noncomputable def pI (l_1:(List Beat)) (player_2:ByteArray) (n_3:Int) (back_4:Bool):Option (Int×Int) :=
  (jU l_1).bind fun r_5=>bif (r_5 != 0)then some (0,r_5)else (fq player_2).bind fun r_8=>bif (!r_8)then some (0,5)else (di n_3).bind fun r_11=>bif (!r_11)then some (0,1)else (oZ l_1 player_2 back_4).bind fun r_14=>(oh r_14 n_3).bind fun r_16=>some (r_16.1,r_16.2)
noncomputable def o8 (l_1:(List Beat)) (player_2:ByteArray) (clock_3:Int):Option (Int×Int) :=
  (pI l_1 player_2 clock_3 false).bind fun r_4=>some (r_4.1,r_4.2)
noncomputable def iW (a_1:Alert) (k_4:Nat) (x_6:ByteArray) (s_9:Unit):Option (Ctl (Unit) (Int)) :=
  (fq x_6).bind fun r_14=>bif (!r_14)then some (.ret 5)else (bif (decide ((k_4:Int) > 0))then (idx a_1.Refs (w64 ((k_4:Int) - 1))).bind fun y_20=>some (sLe x_6 y_20)else some false).bind fun v_17=>bif v_17 then some (.ret 7)else bif (sEq x_6 a_1.Id)then some (.ret 14)else some (.go ())
noncomputable def kv (a_1:Alert):Option (Int) :=
  bif (decide ((a_1.Refs.length:Int) > 20))then some 2 else (forL a_1.Refs () (fun k x s=>iW a_1 k x s)).bind fun o_12=>thenC o_12 (fun s_9=>bif (!((a_1.Kind == 1) == ((a_1.Refs.length:Int) == 0)))then some 3 else some 0) (fun r=>some r)
def bu (s_1:ByteArray):Option (Int) :=
  (pM s_1 0).bind fun b_2=>(pM s_1 1).bind fun b_4=>(zU .u64 (IntKind.u64.wrap (b_4.toNat:Int)) 8).bind fun q_6=>(pM s_1 2).bind fun b_8=>(zU .u64 (IntKind.u64.wrap (b_8.toNat:Int)) 16).bind fun q_10=>(pM s_1 3).bind fun b_12=>(zU .u64 (IntKind.u64.wrap (b_12.toNat:Int)) 24).bind fun q_14=>(pM s_1 4).bind fun b_16=>(zU .u64 (IntKind.u64.wrap (b_16.toNat:Int)) 32).bind fun q_18=>(pM s_1 5).bind fun b_20=>(zU .u64 (IntKind.u64.wrap (b_20.toNat:Int)) 40).bind fun q_22=>(pM s_1 6).bind fun b_24=>(zU .u64 (IntKind.u64.wrap (b_24.toNat:Int)) 48).bind fun q_26=>(pM s_1 7).bind fun b_28=>(zU .u64 (IntKind.u64.wrap (b_28.toNat:Int)) 56).bind fun q_30=>some (orI .u64 (orI .u64 (orI .u64 (orI .u64 (orI .u64 (orI .u64 (orI .u64 (IntKind.u64.wrap (b_2.toNat:Int)) q_6) q_10) q_14) q_18) q_22) q_26) q_30)
def fU (s_45:ByteArray):Option (Ctl (ByteArray) (Unit)) :=
  (bif (decide ((s_45.size:Int) > 32))then (bu s_45).bind fun r_53=>(uq s_45 8 s_45.size).bind fun y_55=>(bu y_55).bind fun r_57=>(uq s_45 16 s_45.size).bind fun y_59=>(bu y_59).bind fun r_61=>(uq s_45 24 s_45.size).bind fun y_63=>(bu y_63).bind fun r_65=>some ((pq .u64 (orI .u64 (orI .u64 r_53 r_57) (orI .u64 r_61 r_65)) 9259542123273814144) == 0)else some false).bind fun v_50=>bif v_50 then (uq s_45 32 s_45.size).bind fun y_68=>some (.go y_68)else some (.brk s_45)
noncomputable def eF (s_7:ByteArray):Option (Ctl (ByteArray) (Unit)) :=
  bif (decide ((s_7.size:Int) > 0))then (pM s_7 0).bind fun b_13=>bif (decide ((b_13.toNat:Int) < 128))then (uq s_7 1 s_7.size).bind fun y_16=>(bif (decide ((y_16.size:Int) > 8))then (bu y_16).bind fun r_21=>some ((pq .u64 r_21 9259542123273814144) == 0)else some false).bind fun v_18=>(bif v_18 then (uq y_16 8 y_16.size).bind fun y_26=>(bif (decide ((y_26.size:Int) > 16))then (bu y_26).bind fun r_31=>(uq y_26 8 y_26.size).bind fun y_33=>(bu y_33).bind fun r_35=>some ((pq .u64 (orI .u64 r_31 r_35) 9259542123273814144) == 0)else some false).bind fun v_28=>bif v_28 then (uq y_26 16 y_26.size).bind fun y_38=>(fD y_38 (fun s=>fU s)).bind fun o_48=>thenC o_48 (fun s_45=>some s_45) (fun _=>none)else some y_26 else some y_16).bind fun v_23=>some (.go v_23)else none else some (.brk s_7)
noncomputable def fI (s_1:ByteArray):Option (Bool) :=
  (fD s_1 (fun s=>eF s)).bind fun o_10=>thenC o_10 (fun s_7=>some true) (fun _=>none)
def ig (c_2:Int) (s_8:ByteArray):Option (Ctl (ByteArray) (Unit)) :=
  (bif (decide ((s_8.size:Int) > 0))then (pM s_8 (w64 ((s_8.size:Int) - 1))).bind fun b_16=>some ((b_16.toNat:Int) == c_2)else some false).bind fun v_13=>bif v_13 then (uq s_8 0 (w64 ((s_8.size:Int) - 1))).bind fun y_19=>some (.go y_19)else some (.brk s_8)
noncomputable def strings_trimRightByte (s_1:ByteArray) (c_2:Int):Option (ByteArray) :=
  (fD s_1 (fun s=>ig c_2 s)).bind fun o_11=>thenC o_11 (fun s_8=>some s_8) (fun _=>none)
def iB (c_2:Int) (s_8:ByteArray):Option (Ctl (ByteArray) (Unit)) :=
  (bif (decide ((s_8.size:Int) > 0))then (pM s_8 0).bind fun b_16=>some ((b_16.toNat:Int) == c_2)else some false).bind fun v_13=>bif v_13 then (uq s_8 1 s_8.size).bind fun y_19=>some (.go y_19)else some (.brk s_8)
noncomputable def strings_trimLeftByte (s_1:ByteArray) (c_2:Int):Option (ByteArray) :=
  (fD s_1 (fun s=>iB c_2 s)).bind fun o_11=>thenC o_11 (fun s_8=>some s_8) (fun _=>none)
noncomputable def nX (s_1:ByteArray) (cutset_2:ByteArray):Option (ByteArray) :=
  (bif (sEq s_1 (⟨#[]⟩:ByteArray))then some true else some (sEq cutset_2 (⟨#[]⟩:ByteArray))).bind fun v_3=>bif v_3 then some s_1 else (bif ((cutset_2.size:Int) == 1)then (pM cutset_2 0).bind fun b_10=>some (decide ((b_10.toNat:Int) < 128))else some false).bind fun v_7=>bif v_7 then (pM cutset_2 0).bind fun b_13=>(strings_trimRightByte s_1 (b_13.toNat:Int)).bind fun r_15=>(pM cutset_2 0).bind fun b_17=>(strings_trimLeftByte r_15 (b_17.toNat:Int)).bind fun r_19=>some r_19 else none
def strings_Contains (x0:ByteArray) (x1:ByteArray):Option (Bool) :=
  AZ x0 x1
def nQ (s_1:ByteArray) (s_7:Int):Option (Ctl (Int) (Bool)) :=
  bif (decide (s_7 < (s_1.size:Int)))then ((pM s_1 s_7).bind fun b_15=>bif (decide ((b_15.toNat:Int) < 32))then some true else (pM s_1 s_7).bind fun b_18=>some ((b_18.toNat:Int) == 127)).bind fun v_13=>bif v_13 then some (.ret false)else some (.go (w64 (s_7 + 1)))else some (.brk s_7)
noncomputable def o9 (s_1:ByteArray):Option (Bool) :=
  (fD 0 (fun s=>nQ s_1 s)).bind fun o_10=>thenC o_10 (fun s_7=>((fI s_1).bind fun r_23=>bif r_23 then (nX s_1 (⟨#[32]⟩:ByteArray)).bind fun r_26=>bif (sEq r_26 s_1)then (strings_Contains s_1 (⟨#[32,32]⟩:ByteArray)).bind fun r_29=>some (!r_29)else some false else some false).bind fun v_21=>some v_21) (fun r=>some r)
def jJ (k_29:Nat) (x_31:Rect) (s_34:Unit):Option (Ctl (Unit) (Int)) :=
  (lZ x_31).bind fun r_40=>bif (r_40 != 0)then some (.ret r_40)else some (.go ())
noncomputable def jP (a_1:Alert):Option (Int) :=
  ((fq a_1.Id).bind fun r_5=>bif (!r_5)then some true else (fq a_1.Sender).bind fun r_8=>some (!r_8)).bind fun v_3=>bif v_3 then some 5 else (aN a_1.Kind 1 3).bind fun r_11=>bif r_11 then some 4 else (kv a_1).bind fun r_14=>bif (r_14 != 0)then some r_14 else ((di a_1.At).bind fun r_19=>bif (!r_19)then some true else (aN a_1.Until (w64 (a_1.At + 1)) (w64 (a_1.At + 2592000000))).bind fun r_22=>bif r_22 then some true else (aN a_1.Weight 1 9).bind fun r_25=>some r_25).bind fun v_17=>bif v_17 then some 1 else bif (decide ((a_1.Areas.length:Int) > 20))then some 2 else (forL a_1.Areas () (fun k x s=>jJ k x s)).bind fun o_37=>thenC o_37 (fun s_34=>bif (!((a_1.Kind == 3) == ((a_1.Areas.length:Int) == 0)))then some 3 else bif (decide ((a_1.Text.size:Int) > 500))then some 2 else ((o9 a_1.Text).bind fun r_47=>bif (!r_47)then some true else bif (sEq a_1.Text (⟨#[]⟩:ByteArray))then some (!(a_1.Kind == 3))else some false).bind fun v_45=>bif v_45 then some 3 else some 0) (fun r=>some r)
def oP (a_1:Alert) (b_2:Alert):Option (Int) :=
  (cmp_Compare_int a_1.At b_2.At).bind fun r_5=>(strings_Compare a_1.Id b_2.Id).bind fun r_7=>(ni ([r_5,r_7]:List Int)).bind fun r_9=>some r_9
noncomputable def iq (l_1:(List Alert)) (k_3:Nat) (x_5:Alert) (s_8:Unit):Option (Ctl (Unit) (Int)) :=
  (jP x_5).bind fun r_14=>bif (r_14 != 0)then some (.ret r_14)else (bif (decide ((k_3:Int) > 0))then (idx l_1 (w64 ((k_3:Int) - 1))).bind fun y_20=>(oP y_20 x_5).bind fun r_22=>some (decide (r_22≥0))else some false).bind fun v_17=>bif v_17 then some (.ret 7)else some (.go ())
def jD (k_26:Nat) (x_28:Alert) (s_31:(List (ByteArray×Bool))):Option (Ctl ((List (ByteArray×Bool))) (Int)) :=
  bif ((Ir eqS s_31 x_28.Id).getD false)then some (.ret 6)else some (.go (Mh eqS s_31 x_28.Id true))
noncomputable def jv (l_1:(List Alert)):Option (Int) :=
  bif (decide ((l_1.length:Int) > 300))then some 2 else (forL l_1 () (fun k x s=>iq l_1 k x s)).bind fun o_11=>thenC o_11 (fun s_8=>(forL l_1 ([]:List (ByteArray×Bool)) (fun k x s=>jD k x s)).bind fun o_34=>thenC o_34 (fun s_31=>some 0) (fun r=>some r)) (fun r=>some r)
noncomputable def iI (l_1:(List Post)) (k_3:Nat) (x_5:Post) (s_8:Unit):Option (Ctl (Unit) (Int)) :=
  (fq x_5.Player).bind fun r_14=>bif (!r_14)then some (.ret 5)else ((aN x_5.X (-100000) 100000).bind fun r_19=>bif r_19 then some true else (aN x_5.Y (-100000) 100000).bind fun r_22=>some r_22).bind fun v_17=>bif v_17 then some (.ret 1)else (bif (decide ((k_3:Int) > 0))then (idx l_1 (w64 ((k_3:Int) - 1))).bind fun y_28=>some (sLe x_5.Player y_28.Player)else some false).bind fun v_25=>bif v_25 then some (.ret 7)else some (.go ())
noncomputable def jV (l_1:(List Post)):Option (Int) :=
  bif (decide ((l_1.length:Int) > 500))then some 2 else (forL l_1 () (fun k x s=>iI l_1 k x s)).bind fun o_11=>thenC o_11 (fun s_8=>some 0) (fun r=>some r)
noncomputable def kH (l_1:(List Alert)) (posts_2:(List Post)):Option (Int) :=
  (jv l_1).bind fun r_3=>bif (r_3 != 0)then some r_3 else (jV posts_2).bind fun r_6=>some r_6
def pW (r_1:Rect) (p_2:Post):Option (Bool) :=
  (bif (decide (r_1.X≤p_2.X))then bif (decide (p_2.X < (w64 (r_1.X + r_1.W))))then bif (decide (r_1.Y≤p_2.Y))then some (decide (p_2.Y < (w64 (r_1.Y + r_1.H))))else some false else some false else some false).bind fun v_4=>some v_4
def fo (f_2:Rect→Option Bool) (k_3:Nat) (x_5:Rect) (s_8:Unit):Option (Ctl (Unit) (Int)) :=
  (f_2 x_5).bind fun r_13=>bif r_13 then some (.ret (k_3:Int))else some (.go ())
def fO (s_1:(List Rect)) (f_2:Rect→Option Bool):Option (Int) :=
  (forL s_1 () (fun k x s=>fo f_2 k x s)).bind fun o_11=>thenC o_11 (fun s_8=>some (-1)) (fun r=>some r)
def fe (s_1:(List Rect)) (f_2:Rect→Option Bool):Option (Bool) :=
  (fO s_1 f_2).bind fun r_3=>some (decide (r_3≥0))
def oV (a_1:Alert) (p_2:Post):Option (Bool) :=
  (fe a_1.Areas (fun x0=>pW x0 p_2)).bind fun r_5=>some r_5
noncomputable def mO (a_1:Alert) (p_2:Post):Option (Bool×Int) :=
  (kH ([a_1]:List Alert) ([p_2]:List Post)).bind fun r_5=>bif (r_5 != 0)then some (false,r_5)else (oV a_1 p_2).bind fun r_8=>some (r_8,0)
noncomputable def mY  : Option (Bool) :=
  (pJ ([(⟨0,0,2,2⟩:Rect),(⟨1,1,2,2⟩:Rect)]:List Rect)).bind fun r_1=>(lq (⟨(⟨#[97]⟩:ByteArray),(⟨#[98]⟩:ByteArray),0,0,0,1,127,([]:List Int),1,2,0,([]:List ByteArray),false⟩:Entry) 0 (⟨0,86400000⟩:Window)).bind fun r_3=>(pF (⟨(⟨#[97]⟩:ByteArray),(⟨#[]⟩:ByteArray),(⟨0,100⟩:Window),([]:List ByteArray),10,0,0⟩:Campaign) 50).bind fun r_5=>(o8 ([(⟨(⟨#[112]⟩:ByteArray),0,100⟩:Beat),(⟨(⟨#[112]⟩:ByteArray),1000,1300⟩:Beat)]:List Beat) (⟨#[112]⟩:ByteArray) 700).bind fun r_7=>(mO (⟨(⟨#[97]⟩:ByteArray),(⟨#[115]⟩:ByteArray),1,([]:List ByteArray),0,5,1,([(⟨0,0,2,2⟩:Rect)]:List Rect),(⟨#[120]⟩:ByteArray)⟩:Alert) (⟨(⟨#[112]⟩:ByteArray),1,1⟩:Post)).bind fun r_10=>((xB ([r_1.2,r_3.2,r_5.2,r_7.2,r_10.2]:List Int)).bind fun r_14=>bif (r_14 == 0)then bif (r_1.1 == 7)then bif ((r_3.1.length:Int) == 1)then bif (r_5.1 == 5)then bif (r_7.1 == 500)then some r_10.1 else some false else some false else some false else some false else some false).bind fun v_12=>some v_12
noncomputable def mK (l_1:(List Entry)) (p_2:Player) (atv_3:Int):Option (Int×Int) :=
  (dD l_1 p_2 atv_3).bind fun r_5=>bif (r_5 != 0)then some (0,r_5)else (jS l_1 p_2 (⟨atv_3,(p9 (w64 ((w64 (atv_3 + 34560000000)) + 1)) 345686400000)⟩:Window)).bind fun r_8=>bif (decide ((r_8.length:Int) < 2))then some ((-1),0)else (idx r_8 1).bind fun y_11=>some (y_11.Time.From,0)
noncomputable def jb (r_3:(List Entry)×Stream) (r_6:Player×Stream) (r_9:Int×Stream) (r_12:Int×Stream) (r_16:Int×Int) (r_18:ByteArray×Bool×Int) (k_33:Nat) (x_35:Nat) (s_38:(List Int)×Int):Option (Ctl ((List Int)×Int) (Bool)) :=
  (gM (⟨s_38.1,s_38.2⟩:Stream) 0 1000).bind fun r_43=>(jB r_3.1 r_6.1 (w64 ((w64 ((w64 (r_9.1 * 86400000)) + r_12.1)) + (w64 ((w64 ((w64 ((w64 (r_16.1 - 1)) - (w64 ((w64 (r_9.1 * 86400000)) + r_12.1)))).tdiv 1000)) * r_43.1))))).bind fun r_46=>(bif (r_46.2.2 != 0)then some true else some (sNe r_46.1 r_18.1)).bind fun v_48=>bif v_48 then some (.ret false)else some (.go (r_43.2.L,r_43.2.f_at))
noncomputable def iU (r_3:(List Entry)×Stream) (r_6:Player×Stream) (r_9:Int×Stream) (r_12:Int×Stream) (r_18:ByteArray×Bool×Int) (k_54:Nat) (x_56:Nat) (s_59:(List Int)×Int):Option (Ctl ((List Int)×Int) (Bool)) :=
  (gM (⟨s_59.1,s_59.2⟩:Stream) 0 1000).bind fun r_64=>(jB r_3.1 r_6.1 (w64 ((w64 ((w64 (r_9.1 * 86400000)) + r_12.1)) + (w64 ((w64 ((w64 ((w64 ((w64 ((w64 ((w64 (r_9.1 * 86400000)) + r_12.1)) + 34560000000)) - 1)) - (w64 ((w64 (r_9.1 * 86400000)) + r_12.1)))).tdiv 1000)) * r_64.1))))).bind fun r_67=>(bif (r_67.2.2 != 0)then some true else some (sNe r_67.1 r_18.1)).bind fun v_69=>bif v_69 then some (.ret false)else some (.go (r_64.2.L,r_64.2.f_at))
noncomputable def mU (l_1:(List Int)):Option (Bool) :=
  (gz (⟨l_1,0⟩:Stream)).bind fun r_3=>(gW r_3.2).bind fun r_6=>(gM r_6.2 0 9).bind fun r_9=>(dL r_9.2 ([0,1,36000000]:List Int)).bind fun r_12=>(mK r_3.1 r_6.1 (w64 ((w64 (r_9.1 * 86400000)) + r_12.1))).bind fun r_16=>(jB r_3.1 r_6.1 (w64 ((w64 (r_9.1 * 86400000)) + r_12.1))).bind fun r_18=>(bif (r_16.2 != 0)then some true else bif (r_18.2.2 != 0)then some true else bif (r_16.1 != (-1))then some (decide (r_16.1≤(w64 ((w64 (r_9.1 * 86400000)) + r_12.1))))else some false).bind fun v_20=>bif v_20 then some false else bif (decide (r_16.1≥0))then (jB r_3.1 r_6.1 r_16.1).bind fun r_27=>(bif (r_27.2.2 != 0)then some true else some (sEq r_27.1 r_18.1)).bind fun v_29=>bif v_29 then some false else (forL (List.range (4:Int).toNat) (r_12.2.L,r_12.2.f_at) (fun k x s=>jb r_3 r_6 r_9 r_12 r_16 r_18 k x s)).bind fun o_41=>thenC o_41 (fun s_38=>(mY).bind fun r_52=>some r_52) (fun r=>some r)else (forL (List.range (4:Int).toNat) (r_12.2.L,r_12.2.f_at) (fun k x s=>iU r_3 r_6 r_9 r_12 r_18 k x s)).bind fun o_62=>thenC o_62 (fun s_59=>(mY).bind fun r_73=>some r_73) (fun r=>some r)
end Go.Proofs.YtjhcehhmdmbleaaGreatDoor.Law

