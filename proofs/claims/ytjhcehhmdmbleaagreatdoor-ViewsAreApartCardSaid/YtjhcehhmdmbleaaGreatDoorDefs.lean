/-
  The functions of the program, as plain functions over data (written by a program of ours).
-/
import Derived.Test.YtjhcehhmdmbleaaGreatDoorEng4
open Go Go.Eng
namespace Go.Proofs.YtjhcehhmdmbleaaGreatDoor.Law
set_option maxRecDepth 100000
set_option linter.unusedVariables false
set_option maxHeartbeats 1000000
structure Stream where
  L:(List Int)
  f_at:Int
def Stream.enc (s:Stream):List D := [dl eI s.L,.int .i64 s.f_at]

structure Rect where
  X:Int
  Y:Int
  W:Int
  H:Int
def Rect.enc (s:Rect):List D := [.int .i64 s.X,.int .i64 s.Y,.int .i64 s.W,.int .i64 s.H]

structure Screen where
  Key:ByteArray
  On:Rect
def Screen.enc (s:Screen):List D := [.str s.Key,.int .i64 s.On.X,.int .i64 s.On.Y,.int .i64 s.On.W,.int .i64 s.On.H]

structure Wall where
  Key:ByteArray
  W:Int
  H:Int
  Screens:(List Screen)
def Wall.enc (s:Wall):List D := [.str s.Key,.int .i64 s.W,.int .i64 s.H,dl Screen.enc s.Screens]

structure Zone where
  Key:ByteArray
  On:Rect
  Order:Int
def Zone.enc (s:Zone):List D := [.str s.Key,.int .i64 s.On.X,.int .i64 s.On.Y,.int .i64 s.On.W,.int .i64 s.On.H,.int .i64 s.Order]

structure Layout where
  Key:ByteArray
  W:Int
  H:Int
  Zones:(List Zone)
def Layout.enc (s:Layout):List D := [.str s.Key,.int .i64 s.W,.int .i64 s.H,dl Zone.enc s.Zones]

structure View where
  Screen:ByteArray
  Zone:ByteArray
  On:Rect
def View.enc (s:View):List D := [.str s.Screen,.str s.Zone,.int .i64 s.On.X,.int .i64 s.On.Y,.int .i64 s.On.W,.int .i64 s.On.H]

structure Piece where
  Zone:ByteArray
  On:Rect
def Piece.enc (s:Piece):List D := [.str s.Zone,.int .i64 s.On.X,.int .i64 s.On.Y,.int .i64 s.On.W,.int .i64 s.On.H]

structure Run where
  f_from:Int
  f_to:Int
def Run.enc (s:Run):List D := [.int .i64 s.f_from,.int .i64 s.f_to]

structure Entry where
  Key:ByteArray
  Item:ByteArray
  Version:Int
  First:Int
  Last:Int
  Every:Int
  Days:Int
  Except:(List Int)
  From:Int
  To:Int
  Prio:Int
  Tags:(List ByteArray)
  Gone:Bool
def Entry.enc (s:Entry):List D := [.str s.Key,.str s.Item,.int .i64 s.Version,.int .i64 s.First,.int .i64 s.Last,.int .i64 s.Every,.int .i64 s.Days,dl eI s.Except,.int .i64 s.From,.int .i64 s.To,.int .i64 s.Prio,dl eS s.Tags,.bool s.Gone]

structure Window where
  From:Int
  To:Int
def Window.enc (s:Window):List D := [.int .i64 s.From,.int .i64 s.To]

structure Campaign where
  Key:ByteArray
  Class:ByteArray
  Time:Window
  Tags:(List ByteArray)
  Goal:Int
  Most:Int
  Cents:Int
def Campaign.enc (s:Campaign):List D := [.str s.Key,.str s.Class,.int .i64 s.Time.From,.int .i64 s.Time.To,dl eS s.Tags,.int .i64 s.Goal,.int .i64 s.Most,.int .i64 s.Cents]

structure Beat where
  Player:ByteArray
  At:Int
  Clock:Int
def Beat.enc (s:Beat):List D := [.str s.Player,.int .i64 s.At,.int .i64 s.Clock]

structure Beat_ where
  f_from:Int
  f_to:Int
def Beat_.enc (s:Beat_):List D := [.int .i64 s.f_from,.int .i64 s.f_to]

structure Alert where
  Id:ByteArray
  Sender:ByteArray
  Kind:Int
  Refs:(List ByteArray)
  At:Int
  Until:Int
  Weight:Int
  Areas:(List Rect)
  Text:ByteArray
def Alert.enc (s:Alert):List D := [.str s.Id,.str s.Sender,.int .i64 s.Kind,dl eS s.Refs,.int .i64 s.At,.int .i64 s.Until,.int .i64 s.Weight,dl Rect.enc s.Areas,.str s.Text]

structure Post where
  Player:ByteArray
  X:Int
  Y:Int
def Post.enc (s:Post):List D := [.str s.Player,.int .i64 s.X,.int .i64 s.Y]

def rz (x_1:Int) (n_2:Int):Option (Int) :=
  bif (decide (n_2 < 1))then some 0 else (Ht .i64 x_1 n_2).bind fun q_4=>(bif (decide (q_4 < 0))then some (w64 (q_4 + n_2))else some q_4).bind fun v_6=>some v_6
def iL (s_1:Stream) (n_2:Int):Option (Int×Stream) :=
  bif ((s_1.L.length:Int) == 0)then (rz (w64 ((w64 (s_1.f_at + 1)) * 7919)) n_2).bind fun r_4=>some (r_4,(⟨s_1.L,(w64 (s_1.f_at + 1))⟩:Stream))else (Ht .i64 (w64 ((w64 (s_1.f_at + 1)) - 1)) (s_1.L.length:Int)).bind fun q_6=>(Ad .i64 (w64 ((w64 (s_1.f_at + 1)) - 1)) (s_1.L.length:Int)).bind fun q_8=>(idx s_1.L q_6).bind fun y_10=>(rz y_10 1073741824).bind fun r_12=>(rz (w64 (r_12 + (w64 (q_8 * (w64 (7919 + q_6)))))) n_2).bind fun r_14=>some (r_14,(⟨s_1.L,(w64 (s_1.f_at + 1))⟩:Stream))
def fQ (s_1:Stream) (l_2:(List Int)):Option (Int×Stream) :=
  (iL s_1 (l_2.length:Int)).bind fun r_3=>(idx l_2 r_3.1).bind fun y_6=>some (y_6,r_3.2)
def dG (s_1:Stream) (low_2:Int) (high_3:Int):Option (Int×Stream) :=
  bif (decide (high_3 < low_2))then some (low_2,s_1)else (iL s_1 (w64 ((w64 (high_3 - low_2)) + 1))).bind fun r_5=>some ((w64 (low_2 + r_5.1)),r_5.2)
def dn (s_1:(List Screen)):Option ((List Screen)) :=
  (ma [] s_1).bind fun a_4=>some a_4
def jM (s_1:Stream) (n_2:Int):Option (Bool×Stream) :=
  (iL s_1 n_2).bind fun r_3=>some ((r_3.1 == 0),r_3.2)
def qN (n_1:Int) (low_2:Int) (high_3:Int):Option (Bool) :=
  (bif (decide (low_2≤n_1))then some (decide (n_1≤high_3))else some false).bind fun v_4=>some v_4
def dH (s_1:ByteArray) (c_2:Int):Option (Int) :=
  some (ixB s_1 c_2)
def strings_IndexByte (s_1:ByteArray) (c_2:Int):Option (Int) :=
  (dH s_1 c_2).bind fun r_3=>some r_3
def mY (s_1:ByteArray) (somev_2:ByteArray) (k_3:Nat) (x_5:Nat) (s_8:Unit):Option (Ctl (Unit) (Bool)) :=
  (nU s_1 (k_3:Int)).bind fun b_13=>(strings_IndexByte somev_2 (b_13.toNat:Int)).bind fun r_15=>bif (decide (r_15 < 0))then some (.ret false)else some (.go ())
def tF (s_1:ByteArray) (somev_2:ByteArray):Option (Bool) :=
  (forL (List.range ((s_1.size:Int)).toNat) () (fun k x s=>mY s_1 somev_2 k x s)).bind fun o_11=>thenC o_11 (fun s_8=>some true) (fun r=>some r)
def wW (s_1:ByteArray):Option (Bool) :=
  ((qN (s_1.size:Int) 1 40).bind fun r_4=>bif r_4 then (qZ s_1 0 1).bind fun y_7=>(tF y_7 (⟨#[97,98,99,100,101,102,103,104,105,106,107,108,109,110,111,112,113,114,115,116,117,118,119,120,121,122]⟩:ByteArray)).bind fun r_9=>bif r_9 then (tF s_1 (⟨#[97,98,99,100,101,102,103,104,105,106,107,108,109,110,111,112,113,114,115,116,117,118,119,120,121,122,48,49,50,51,52,53,54,55,56,57,45,95]⟩:ByteArray)).bind fun r_12=>some r_12 else some false else some false).bind fun v_2=>some v_2
def sK (n_1:Int):Option (Bool) :=
  (qN n_1 1 20000).bind fun r_2=>some r_2
def mg (r_1:Rect):Option (Int) :=
  ((qN r_1.X (-100000) 100000).bind fun r_5=>bif (!r_5)then some true else (qN r_1.Y (-100000) 100000).bind fun r_8=>bif (!r_8)then some true else (qN r_1.W 1 (w64 (100000 - r_1.X))).bind fun r_11=>bif (!r_11)then some true else (qN r_1.H 1 (w64 (100000 - r_1.Y))).bind fun r_14=>some (!r_14)).bind fun v_3=>bif v_3 then some 1 else some 0
def uO (r_1:Rect) (wv_2:Int) (h_3:Int):Option (Bool) :=
  (bif (decide (r_1.X≥0))then bif (decide (r_1.Y≥0))then bif (decide ((w64 (r_1.X + r_1.W))≤wv_2))then some (decide ((w64 (r_1.Y + r_1.H))≤h_3))else some false else some false else some false).bind fun v_5=>some v_5
def x8 (a_1:Rect) (b_2:Rect):Option (Rect×Bool) :=
  (bif (decide ((w64 ((eZ (w64 (a_1.X + a_1.W)) (w64 (b_2.X + b_2.W))) - (bS a_1.X b_2.X)))≤0))then some true else some (decide ((w64 ((eZ (w64 (a_1.Y + a_1.H)) (w64 (b_2.Y + b_2.H))) - (bS a_1.Y b_2.Y)))≤0))).bind fun v_6=>bif v_6 then some ((⟨0,0,0,0⟩:Rect),false)else some ((⟨(bS a_1.X b_2.X),(bS a_1.Y b_2.Y),(w64 ((eZ (w64 (a_1.X + a_1.W)) (w64 (b_2.X + b_2.W))) - (bS a_1.X b_2.X))),(w64 ((eZ (w64 (a_1.Y + a_1.H)) (w64 (b_2.Y + b_2.H))) - (bS a_1.Y b_2.Y)))⟩:Rect),true)
def jP (wv_1:Wall) (k_15:Nat) (x_17:Screen) (s_20:ByteArray):Option (Ctl (ByteArray) (Int)) :=
  (wW x_17.Key).bind fun r_26=>bif (!r_26)then some (.ret 5)else (mg x_17.On).bind fun r_29=>bif (r_29 != 0)then some (.ret r_29)else (uO x_17.On wv_1.W wv_1.H).bind fun r_32=>bif (!r_32)then some (.ret 3)else bif (sLe x_17.Key s_20)then some (.ret 7)else some (.go x_17.Key)
def om (x_38:Screen) (k_49:Nat) (x_51:Screen) (s_54:Unit):Option (Ctl (Unit) (Int)) :=
  (x8 x_38.On x_51.On).bind fun r_60=>bif r_60.2 then some (.ret 13)else some (.go ())
def lT (wv_1:Wall) (k_36:Nat) (x_38:Screen) (s_41:Unit):Option (Ctl (Unit) (Int)) :=
  (zf wv_1.Screens 0 (k_36:Int)).bind fun y_47=>(forL y_47 () (fun k x s=>om x_38 k x s)).bind fun o_57=>thenC o_57 (fun s_54=>some (.go ())) (fun r=>some (.ret r))
def mo (wv_1:Wall):Option (Int) :=
  (wW wv_1.Key).bind fun r_3=>bif (!r_3)then some 5 else ((sK wv_1.W).bind fun r_8=>bif (!r_8)then some true else (sK wv_1.H).bind fun r_11=>some (!r_11)).bind fun v_6=>bif v_6 then some 1 else bif (decide ((wv_1.Screens.length:Int) > 50))then some 2 else (forL wv_1.Screens (⟨#[]⟩:ByteArray) (fun k x s=>jP wv_1 k x s)).bind fun o_23=>thenC o_23 (fun s_20=>(forL wv_1.Screens () (fun k x s=>lT wv_1 k x s)).bind fun o_44=>thenC o_44 (fun s_41=>some 0) (fun r=>some r)) (fun r=>some r)
def fO (r_3:Int×Stream) (r_6:Int×Stream) (k_10:Nat) (x_12:ByteArray) (s_15:(List Int)×Int×(List Screen)):Option (Ctl ((List Int)×Int×(List Screen)) (Unit)) :=
  (dG (⟨s_15.1,s_15.2.1⟩:Stream) 0 (w64 (r_3.1 - 1))).bind fun r_20=>(dG r_20.2 0 (w64 (r_6.1 - 1))).bind fun r_23=>(dG r_23.2 1 (w64 (r_3.1 - r_20.1))).bind fun r_27=>(dG r_27.2 1 (w64 (r_6.1 - r_23.1))).bind fun r_30=>(dn s_15.2.2).bind fun r_33=>(ma r_33 ([(⟨x_12,(⟨r_20.1,r_23.1,r_27.1,r_30.1⟩:Rect)⟩:Screen)]:List Screen)).bind fun a_36=>(jM r_30.2 4).bind fun r_40=>(bif (!r_40.1)then (mo (⟨(⟨#[119]⟩:ByteArray),r_3.1,r_6.1,a_36⟩:Wall)).bind fun r_46=>bif (r_46 == 0)then some (a_36,a_36)else some (s_15.2.2,a_36)else some (s_15.2.2,s_15.2.2)).bind fun v_43=>some (.go (r_40.2.L,r_40.2.f_at,v_43.1))
def iw (s_1:Stream):Option (Wall×Stream) :=
  (fQ s_1 ([10,20,24,100]:List Int)).bind fun r_3=>(fQ r_3.2 ([6,10,30]:List Int)).bind fun r_6=>(forL ([(⟨#[115,97]⟩:ByteArray),(⟨#[115,98]⟩:ByteArray),(⟨#[115,99]⟩:ByteArray),(⟨#[115,100]⟩:ByteArray)]:List ByteArray) (r_6.2.L,r_6.2.f_at,([]:List Screen)) (fun k x s=>fO r_3 r_6 k x s)).bind fun o_18=>thenC o_18 (fun s_15=>some ((⟨(⟨#[119]⟩:ByteArray),r_3.1,r_6.1,s_15.2.2⟩:Wall),(⟨s_15.1,s_15.2.1⟩:Stream))) (fun _=>none)
def fw (r_3:Int×Stream) (r_6:Int×Stream) (k_10:Nat) (x_12:ByteArray) (s_15:(List Zone)×(List Int)×Int):Option (Ctl ((List Zone)×(List Int)×Int) (Unit)) :=
  (jM (⟨s_15.2.1,s_15.2.2⟩:Stream) 5).bind fun r_23=>bif r_23.1 then some (.go (s_15.1,r_23.2.L,r_23.2.f_at))else (dG r_23.2 0 (w64 (r_3.1 - 1))).bind fun r_27=>(dG r_27.2 0 (w64 (r_6.1 - 1))).bind fun r_30=>(fQ r_30.2 ([0,0,1,2]:List Int)).bind fun r_33=>(dG r_33.2 1 (w64 (r_3.1 - r_27.1))).bind fun r_37=>(dG r_37.2 1 (w64 (r_6.1 - r_30.1))).bind fun r_40=>(ma s_15.1 ([(⟨x_12,(⟨r_27.1,r_30.1,r_37.1,r_40.1⟩:Rect),r_33.1⟩:Zone)]:List Zone)).bind fun a_43=>some (.go (a_43,r_40.2.L,r_40.2.f_at))
def gy (s_1:Stream):Option (Layout×Stream) :=
  (fQ s_1 ([5,8,10,16]:List Int)).bind fun r_3=>(fQ r_3.2 ([4,6,9]:List Int)).bind fun r_6=>(forL ([(⟨#[122,97]⟩:ByteArray),(⟨#[122,98]⟩:ByteArray),(⟨#[122,99]⟩:ByteArray),(⟨#[122,100]⟩:ByteArray)]:List ByteArray) (([]:List Zone),r_6.2.L,r_6.2.f_at) (fun k x s=>fw r_3 r_6 k x s)).bind fun o_21=>thenC o_21 (fun s_15=>some ((⟨(⟨#[108]⟩:ByteArray),r_3.1,r_6.1,s_15.1⟩:Layout),(⟨s_15.2.1,s_15.2.2⟩:Stream))) (fun _=>none)
def jo (s_1:ByteArray) (s_7:Int):Option (Ctl (Int) (Bool)) :=
  bif (decide (s_7 < (s_1.size:Int)))then (nU s_1 s_7).bind fun b_13=>(bif (decide ((b_13.toNat:Int)≥97))then bif (decide ((b_13.toNat:Int)≤122))then some false else bif (decide (s_7 > 0))then bif (decide ((b_13.toNat:Int)≥48))then bif (decide ((b_13.toNat:Int)≤57))then some false else bif ((b_13.toNat:Int) == 45)then some false else some (!((b_13.toNat:Int) == 95))else bif ((b_13.toNat:Int) == 45)then some false else some (!((b_13.toNat:Int) == 95))else some true else bif (decide (s_7 > 0))then bif (decide ((b_13.toNat:Int)≥48))then bif (decide ((b_13.toNat:Int)≤57))then some false else bif ((b_13.toNat:Int) == 45)then some false else some (!((b_13.toNat:Int) == 95))else bif ((b_13.toNat:Int) == 45)then some false else some (!((b_13.toNat:Int) == 95))else some true).bind fun v_15=>bif v_15 then some (.ret false)else some (.go (w64 (s_7 + 1)))else some (.brk s_7)
noncomputable def dU (s_1:ByteArray):Option (Bool) :=
  (jr 0 (fun s=>jo s_1 s)).bind fun o_10=>thenC o_10 (fun s_7=>(bif (sNe s_1 (⟨#[]⟩:ByteArray))then some (decide ((s_1.size:Int)≤40))else some false).bind fun v_30=>some v_30) (fun r=>some r)
def aO (n_1:Int) (low_2:Int) (high_3:Int):Option (Bool) :=
  (bif (decide (n_1 < low_2))then some true else some (decide (n_1 > high_3))).bind fun v_4=>some v_4
def jC (n_1:Int):Option (Bool) :=
  (aO n_1 1 20000).bind fun r_2=>some (!r_2)
def gN (k_2:Nat) (x_4:Int) (s_7:Unit):Option (Ctl (Unit) (Int)) :=
  (jC x_4).bind fun r_12=>bif (!r_12)then some (.ret 1)else some (.go ())
def dY (l_1:(List Int)):Option (Int) :=
  (forL l_1 () (fun k x s=>gN k x s)).bind fun o_10=>thenC o_10 (fun s_7=>some 0) (fun r=>some r)
def dW (r_1:Rect):Option (Int) :=
  ((aO r_1.X (-100000) 100000).bind fun r_5=>bif r_5 then some true else (aO r_1.Y (-100000) 100000).bind fun r_8=>some r_8).bind fun v_3=>bif v_3 then some 1 else ((aO r_1.W 1 (w64 (100000 - r_1.X))).bind fun r_13=>bif r_13 then some true else (aO r_1.H 1 (w64 (100000 - r_1.Y))).bind fun r_16=>some r_16).bind fun v_11=>bif v_11 then some 1 else some 0
def gK (r_1:Rect) (wv_2:Int) (h_3:Int):Option (Bool) :=
  (bif (decide (r_1.X≥0))then bif (decide (r_1.Y≥0))then bif (decide ((w64 (r_1.X + r_1.W))≤wv_2))then some (decide ((w64 (r_1.Y + r_1.H))≤h_3))else some false else some false else some false).bind fun v_5=>some v_5
def jf (a_1:Rect) (b_2:Rect):Option (Rect×Bool) :=
  (bif (decide ((w64 ((eZ (w64 (a_1.X + a_1.W)) (w64 (b_2.X + b_2.W))) - (bS a_1.X b_2.X)))≤0))then some true else some (decide ((w64 ((eZ (w64 (a_1.Y + a_1.H)) (w64 (b_2.Y + b_2.H))) - (bS a_1.Y b_2.Y)))≤0))).bind fun v_6=>bif v_6 then some ((⟨0,0,0,0⟩:Rect),false)else some ((⟨(bS a_1.X b_2.X),(bS a_1.Y b_2.Y),(w64 ((eZ (w64 (a_1.X + a_1.W)) (w64 (b_2.X + b_2.W))) - (bS a_1.X b_2.X))),(w64 ((eZ (w64 (a_1.Y + a_1.H)) (w64 (b_2.Y + b_2.H))) - (bS a_1.Y b_2.Y)))⟩:Rect),true)
noncomputable def iC (wv_1:Wall) (k_10:Nat) (x_12:Screen) (s_15:Unit):Option (Ctl (Unit) (Int)) :=
  (dU x_12.Key).bind fun r_21=>bif (!r_21)then some (.ret 5)else (dW x_12.On).bind fun r_24=>bif (r_24 != 0)then some (.ret r_24)else (gK x_12.On wv_1.W wv_1.H).bind fun r_27=>bif (!r_27)then some (.ret 3)else (bif (decide ((k_10:Int) > 0))then (idx wv_1.Screens (w64 ((k_10:Int) - 1))).bind fun y_33=>some (sLe x_12.Key y_33.Key)else some false).bind fun v_30=>bif v_30 then some (.ret 7)else some (.go ())
def cB (x_38:Screen) (k_49:Nat) (x_51:Screen) (s_54:Unit):Option (Ctl (Unit) (Int)) :=
  (jf x_38.On x_51.On).bind fun r_60=>bif r_60.2 then some (.ret 13)else some (.go ())
def bH (wv_1:Wall) (k_36:Nat) (x_38:Screen) (s_41:Unit):Option (Ctl (Unit) (Int)) :=
  (zf wv_1.Screens 0 (k_36:Int)).bind fun y_47=>(forL y_47 () (fun k x s=>cB x_38 k x s)).bind fun o_57=>thenC o_57 (fun s_54=>some (.go ())) (fun r=>some (.ret r))
noncomputable def dI (wv_1:Wall):Option (Int) :=
  (dU wv_1.Key).bind fun r_3=>bif (!r_3)then some 5 else (dY ([wv_1.W,wv_1.H]:List Int)).bind fun r_6=>bif (r_6 != 0)then some r_6 else bif (decide ((wv_1.Screens.length:Int) > 50))then some 2 else (forL wv_1.Screens () (fun k x s=>iC wv_1 k x s)).bind fun o_18=>thenC o_18 (fun s_15=>(forL wv_1.Screens () (fun k x s=>bH wv_1 k x s)).bind fun o_44=>thenC o_44 (fun s_41=>some 0) (fun r=>some r)) (fun r=>some r)
noncomputable def gp (l_1:Layout) (k_10:Nat) (x_12:Zone) (s_15:Unit):Option (Ctl (Unit) (Int)) :=
  (dU x_12.Key).bind fun r_21=>bif (!r_21)then some (.ret 5)else (dW x_12.On).bind fun r_24=>bif (r_24 != 0)then some (.ret r_24)else (gK x_12.On l_1.W l_1.H).bind fun r_27=>bif (!r_27)then some (.ret 3)else (aO x_12.Order 0 1000).bind fun r_30=>bif r_30 then some (.ret 1)else (bif (decide ((k_10:Int) > 0))then (idx l_1.Zones (w64 ((k_10:Int) - 1))).bind fun y_36=>some (sLe x_12.Key y_36.Key)else some false).bind fun v_33=>bif v_33 then some (.ret 7)else some (.go ())
noncomputable def eB (l_1:Layout):Option (Int) :=
  (dU l_1.Key).bind fun r_3=>bif (!r_3)then some 5 else (dY ([l_1.W,l_1.H]:List Int)).bind fun r_6=>bif (r_6 != 0)then some r_6 else bif (decide ((l_1.Zones.length:Int) > 30))then some 2 else (forL l_1.Zones () (fun k x s=>gp l_1 k x s)).bind fun o_18=>thenC o_18 (fun s_15=>some 0) (fun r=>some r)
def mf (l_1:(List Zone)) (i_2:Int) (k_3:Int):Option (Bool) :=
  ((idx l_1 i_2).bind fun y_6=>(idx l_1 k_3).bind fun y_8=>bif (decide (y_6.Order > y_8.Order))then some true else (idx l_1 i_2).bind fun y_11=>(idx l_1 k_3).bind fun y_13=>bif (y_11.Order == y_13.Order)then some (decide (i_2 > k_3))else some false).bind fun v_4=>some v_4
def dC (n_1:Int):Option Bool :=
  bif (decide (n_1 < 0))then none else bif (decide ((w64 (n_1 - (w64 (0 - 0)))) > 0))then (zN (w64 (n_1 - (w64 (0 - 0)))) 32).bind fun _=>some true else some false
def dm (k_2:Nat) (x_4:(List Rect)) (s_7:Int):Option (Ctl (Int) (Unit)) :=
  (bif (decide ((w64 (s_7 + (x_4.length:Int))) < 0))then none else some ()).bind fun v_12=>some (.go (w64 (s_7 + (x_4.length:Int))))
def di (k_18:Nat) (x_20:(List Rect)) (s_23:(List Rect)):Option (Ctl ((List Rect)) (Unit)) :=
  (ma s_23 x_20).bind fun a_30=>some (.go a_30)
def cK (slices_1:(List (List Rect))):Option ((List Rect)) :=
  (forL slices_1 0 (fun k x s=>dm k x s)).bind fun o_10=>thenC o_10 (fun s_7=>(dC s_7).bind fun b_15=>(forL slices_1 ([]:List Rect) (fun k x s=>di k x s)).bind fun o_28=>thenC o_28 (fun s_23=>some s_23) (fun _=>none)) (fun _=>none)
def dA (x:(List Int)):Option ((List Int)) :=
  Ik x
def bQ (s_1:(List Int)) (s_8:Int) (s_28:(List Int)×Int×Int):Option (Ctl ((List Int)×Int×Int) (Unit)) :=
  bif (decide (s_28.2.2 < (((((s_1.length:Int)).toNat - (s_8).toNat):Nat):Int)))then (inN s_28.2.2 (((s_1.length:Int)).toNat - (s_8).toNat)).bind fun _=>(s_28.1[(((s_8).toNat) + (s_28.2.2).toNat)]?).bind fun e_35=>(inN (w64 (s_28.2.2 - 1)) (((s_1.length:Int)).toNat - (s_8).toNat)).bind fun _=>(s_28.1[(((s_8).toNat) + ((w64 (s_28.2.2 - 1))).toNat)]?).bind fun e_38=>(bif (e_35 != e_38)then (inN s_28.2.2 (((s_1.length:Int)).toNat - (s_8).toNat)).bind fun _=>(s_28.1[(((s_8).toNat) + (s_28.2.2).toNat)]?).bind fun e_44=>(inR s_28.2.1 s_28.1).bind fun _=>(s_28.1[(0 + (s_28.2.1).toNat)]?).bind fun e_47=>some ((s_28.1.set (0 + (s_28.2.1).toNat) e_44),(w64 (s_28.2.1 + 1)))else some (s_28.1,s_28.2.1)).bind fun v_40=>some (.go (v_40.1,v_40.2,(w64 (s_28.2.2 + 1))))else some (.brk (s_28.1,s_28.2.1,s_28.2.2))
noncomputable def aV (s_1:(List Int)) (s_8:Int):Option (Ctl (Int) ((List Int))) :=
  bif (decide (s_8 < (s_1.length:Int)))then (inR s_8 s_1).bind fun _=>(s_1[(0 + (s_8).toNat)]?).bind fun e_15=>(inR (w64 (s_8 - 1)) s_1).bind fun _=>(s_1[(0 + ((w64 (s_8 - 1))).toNat)]?).bind fun e_18=>bif (e_15 == e_18)then (neL s_1).bind fun _=>(vo s_1 s_8 (s_1.length:Int)).bind fun _=>(jr (s_1,s_8,1) (fun s=>bQ s_1 s_8 s)).bind fun o_31=>thenC o_31 (fun s_28=>(vo s_28.1 s_28.2.1 (s_28.1.length:Int)).bind fun _=>(vo (s_28.1.take ((s_28.2.1).toNat)++List.replicate (((s_28.1.length:Int)).toNat - (s_28.2.1).toNat) 0++s_28.1.drop (((s_28.2.1).toNat) + (((s_28.1.length:Int)).toNat - (s_28.2.1).toNat))) 0 s_28.2.1).bind fun _=>some (.ret (cutL (s_28.1.take ((s_28.2.1).toNat)++List.replicate (((s_28.1.length:Int)).toNat - (s_28.2.1).toNat) 0++s_28.1.drop (((s_28.2.1).toNat) + (((s_28.1.length:Int)).toNat - (s_28.2.1).toNat))) 0 ((s_28.2.1).toNat)))) (fun _=>none)else some (.go (w64 (s_8 + 1)))else some (.brk s_8)
noncomputable def bU (s_1:(List Int)):Option ((List Int)) :=
  bif (decide ((s_1.length:Int) < 2))then some s_1 else (jr 1 (fun s=>aV s_1 s)).bind fun o_11=>thenC o_11 (fun s_8=>some s_1) (fun r=>some r)
def l8 (a_1:Run) (b_2:Run):Option (Int) :=
  some (w64 (a_1.f_from - b_2.f_from))
def pK (x_1:Int):Option (Int) :=
  (bif (decide (x_1≥4294967296))then (Lb .u64 x_1 32).bind fun q_5=>some (q_5,32)else some (x_1,0)).bind fun v_2=>(bif (decide (v_2.1≥65536))then (Lb .u64 v_2.1 16).bind fun q_10=>some (q_10,(w64 (v_2.2 + 16)))else some (v_2.1,v_2.2)).bind fun v_7=>(bif (decide (v_7.1≥256))then (Lb .u64 v_7.1 8).bind fun q_15=>some (q_15,(w64 (v_7.2 + 8)))else some (v_7.1,v_7.2)).bind fun v_12=>(nU (⟨#[0,1,2,2,3,3,3,3,4,4,4,4,4,4,4,4,5,5,5,5,5,5,5,5,5,5,5,5,5,5,5,5,6,6,6,6,6,6,6,6,6,6,6,6,6,6,6,6,6,6,6,6,6,6,6,6,6,6,6,6,6,6,6,6,7,7,7,7,7,7,7,7,7,7,7,7,7,7,7,7,7,7,7,7,7,7,7,7,7,7,7,7,7,7,7,7,7,7,7,7,7,7,7,7,7,7,7,7,7,7,7,7,7,7,7,7,7,7,7,7,7,7,7,7,7,7,7,7,8,8,8,8,8,8,8,8,8,8,8,8,8,8,8,8,8,8,8,8,8,8,8,8,8,8,8,8,8,8,8,8,8,8,8,8,8,8,8,8,8,8,8,8,8,8,8,8,8,8,8,8,8,8,8,8,8,8,8,8,8,8,8,8,8,8,8,8,8,8,8,8,8,8,8,8,8,8,8,8,8,8,8,8,8,8,8,8,8,8,8,8,8,8,8,8,8,8,8,8,8,8,8,8,8,8,8,8,8,8,8,8,8,8,8,8,8,8,8,8,8,8,8,8,8,8,8,8]⟩:ByteArray) (IntKind.u8.wrap v_12.1)).bind fun b_17=>some (w64 (v_12.2 + (w64 (b_17.toNat:Int))))
def kJ (x_1:Int):Option (Int) :=
  (pK x_1).bind fun r_2=>some r_2
def cz (a_2:Int) (s_21:(List Run)×Int):Option (Ctl ((List Run)×Int) (Unit)) :=
  (bif (decide (s_21.2 > a_2))then (inR s_21.2 s_21.1).bind fun _=>(s_21.1[(0 + (s_21.2).toNat)]?).bind fun e_30=>(inR (w64 (s_21.2 - 1)) s_21.1).bind fun _=>(s_21.1[(0 + ((w64 (s_21.2 - 1))).toNat)]?).bind fun e_33=>(l8 e_30 e_33).bind fun r_35=>some (decide (r_35 < 0))else some false).bind fun v_26=>bif v_26 then (inR (w64 (s_21.2 - 1)) s_21.1).bind fun _=>(s_21.1[(0 + ((w64 (s_21.2 - 1))).toNat)]?).bind fun e_39=>(inR s_21.2 s_21.1).bind fun _=>(s_21.1[(0 + (s_21.2).toNat)]?).bind fun e_42=>(inR s_21.2 s_21.1).bind fun _=>(s_21.1[(0 + (s_21.2).toNat)]?).bind fun e_45=>(inR (w64 (s_21.2 - 1)) (s_21.1.set (0 + (s_21.2).toNat) e_39)).bind fun _=>((s_21.1.set (0 + (s_21.2).toNat) e_39)[(0 + ((w64 (s_21.2 - 1))).toNat)]?).bind fun e_48=>some (.go (((s_21.1.set (0 + (s_21.2).toNat) e_39).set (0 + ((w64 (s_21.2 - 1))).toNat) e_42),(w64 (s_21.2 - 1))))else some (.brk (s_21.1,s_21.2))
noncomputable def bI (b_3:Int) (a_2:Int) (s_10:(List Run)×Int):Option (Ctl ((List Run)×Int) (Unit)) :=
  bif (decide (s_10.2 < b_3))then (jr (s_10.1,s_10.2) (fun s=>cz a_2 s)).bind fun o_24=>thenC o_24 (fun s_21=>some (.go (s_21.1,(w64 (s_10.2 + 1))))) (fun _=>none)else some (.brk (s_10.1,s_10.2))
noncomputable def bO (data_1:(List Run)) (a_2:Int) (b_3:Int):Option ((List Run)) :=
  (jr (data_1,(w64 (a_2 + 1))) (fun s=>bI b_3 a_2 s)).bind fun o_13=>thenC o_13 (fun s_10=>some s_10.1) (fun _=>none)
noncomputable def bZ (b_3:Int) (a_2:Int) (data_1:(List Run)) (limit_4:Int) (s_11:Unit):Option (Ctl (Unit) ((List Run))) :=
  bif (decide ((w64 (b_3 - a_2))≤12))then (bO data_1 a_2 b_3).bind fun r_17=>(jE r_17 data_1).bind fun _=>some (.ret r_17)else bif (limit_4 == 0)then none else none
noncomputable def bR (data_1:(List Run)) (a_2:Int) (b_3:Int) (limit_4:Int):Option ((List Run)) :=
  (jr () (fun s=>bZ b_3 a_2 data_1 limit_4 s)).bind fun o_14=>thenC o_14 (fun s_11=>some data_1) (fun r=>some r)
noncomputable def bn (x_1:(List Run)):Option ((List Run)) :=
  (kJ (IntKind.u64.wrap (x_1.length:Int))).bind fun r_3=>(bR x_1 0 (x_1.length:Int) r_3).bind fun r_5=>(jE r_5 x_1).bind fun _=>some r_5
def iX (y_2:Int) (k_3:Nat) (x_5:Rect) (s_8:(List Run)):Option (Ctl ((List Run)) (Unit)) :=
  (bif (decide (x_5.Y≤y_2))then some (decide (y_2 < (w64 (x_5.Y + x_5.H))))else some false).bind fun v_17=>(bif v_17 then (ma s_8 ([(⟨x_5.X,(w64 (x_5.X + x_5.W))⟩:Run)]:List Run)).bind fun a_24=>some a_24 else some s_8).bind fun v_20=>some (.go v_20)
def fM (k_30:Nat) (x_32:Run) (s_35:(List Run)):Option (Ctl ((List Run)) (Unit)) :=
  (bif (decide ((w64 ((s_35.length:Int) - 1))≥0))then (inR (w64 ((s_35.length:Int) - 1)) s_35).bind fun _=>(s_35[(0 + ((w64 ((s_35.length:Int) - 1))).toNat)]?).bind fun e_48=>some (decide (x_32.f_from≤e_48.f_to))else some false).bind fun v_44=>(bif v_44 then (inR (w64 ((s_35.length:Int) - 1)) s_35).bind fun _=>(s_35[(0 + ((w64 ((s_35.length:Int) - 1))).toNat)]?).bind fun e_55=>(inR (w64 ((s_35.length:Int) - 1)) s_35).bind fun _=>(s_35[(0 + ((w64 ((s_35.length:Int) - 1))).toNat)]?).bind fun e_58=>some (s_35.set (0 + ((w64 ((s_35.length:Int) - 1))).toNat) (⟨e_58.f_from,(bS e_55.f_to x_32.f_to)⟩:Run))else (ma s_35 ([x_32]:List Run)).bind fun a_60=>some a_60).bind fun v_50=>some (.go v_50)
noncomputable def dE (l_1:(List Rect)) (y_2:Int):Option ((List Run)) :=
  (forL l_1 ([]:List Run) (fun k x s=>iX y_2 k x s)).bind fun o_14=>thenC o_14 (fun s_8=>(bn s_8).bind fun r_27=>(jE r_27 s_8).bind fun _=>(forL r_27 ([]:List Run) (fun k x s=>fM k x s)).bind fun o_41=>thenC o_41 (fun s_35=>some s_35) (fun _=>none)) (fun _=>none)
def fA (m_2:(List Run)) (x_5:Run) (s_22:Int):Option (Ctl (Int) (Unit)) :=
  (bif (decide (s_22 < (m_2.length:Int)))then (idx m_2 s_22).bind fun y_30=>some (decide (y_30.f_to≤x_5.f_from))else some false).bind fun v_27=>bif v_27 then some (.go (w64 (s_22 + 1)))else some (.brk s_22)
def dR (m_2:(List Run)) (x_5:Run) (s_38:(List Run)×Int×Int):Option (Ctl ((List Run)×Int×Int) (Unit)) :=
  (bif (decide (s_38.2.1 < (m_2.length:Int)))then (idx m_2 s_38.2.1).bind fun y_48=>some (decide (y_48.f_from < x_5.f_to))else some false).bind fun v_45=>bif v_45 then (idx m_2 s_38.2.1).bind fun y_51=>(bif (decide (y_51.f_from > s_38.2.2))then (idx m_2 s_38.2.1).bind fun y_57=>(ma s_38.1 ([(⟨s_38.2.2,y_57.f_from⟩:Run)]:List Run)).bind fun a_59=>some a_59 else some s_38.1).bind fun v_53=>(idx m_2 s_38.2.1).bind fun y_62=>some (.go (v_53,(w64 (s_38.2.1 + 1)),(bS s_38.2.2 y_62.f_to)))else some (.brk (s_38.1,s_38.2.1,s_38.2.2))
noncomputable def gW (m_2:(List Run)) (k_3:Nat) (x_5:Run) (s_8:(List Run)×Int):Option (Ctl ((List Run)×Int) (Unit)) :=
  (jr s_8.2 (fun s=>fA m_2 x_5 s)).bind fun o_25=>thenC o_25 (fun s_22=>(jr (s_8.1,s_22,x_5.f_from) (fun s=>dR m_2 x_5 s)).bind fun o_43=>thenC o_43 (fun s_38=>(bif (decide (s_38.2.2 < x_5.f_to))then (ma s_38.1 ([(⟨s_38.2.2,x_5.f_to⟩:Run)]:List Run)).bind fun a_68=>some a_68 else some s_38.1).bind fun v_64=>some (.go (v_64,s_22))) (fun _=>none)) (fun _=>none)
noncomputable def iG (l_1:(List Run)) (m_2:(List Run)):Option ((List Run)) :=
  (forL l_1 (([]:List Run),0) (fun k x s=>gW m_2 k x s)).bind fun o_14=>thenC o_14 (fun s_8=>some s_8.1) (fun _=>none)
def bD (s2_2:(List Run)) (k_4:Nat) (x_6:Run) (s_9:Unit):Option (Ctl (Unit) (Bool)) :=
  (idx s2_2 (k_4:Int)).bind fun y_14=>bif (!((x_6.f_from == y_14.f_from) && ((x_6.f_to == y_14.f_to) && true)))then some (.ret false)else some (.go ())
def aZ (s1_1:(List Run)) (s2_2:(List Run)):Option (Bool) :=
  bif ((s1_1.length:Int) != (s2_2.length:Int))then some false else (forL s1_1 () (fun k x s=>bD s2_2 k x s)).bind fun o_12=>thenC o_12 (fun s_9=>some true) (fun r=>some r)
def fE (k_5:Nat) (x_7:Rect) (s_10:(List Int)):Option (Ctl ((List Int)) (Unit)) :=
  (ma s_10 ([x_7.Y,(w64 (x_7.Y + x_7.H))]:List Int)).bind fun a_19=>some (.go a_19)
def eP (s_32:(List Rect)×(List Run)×Int) (x_29:Int) (k_54:Nat) (x_56:Run) (s_59:(List Rect)):Option (Ctl ((List Rect)) (Unit)) :=
  (ma s_59 ([(⟨x_56.f_from,s_32.2.2,(w64 (x_56.f_to - x_56.f_from)),(w64 (x_29 - s_32.2.2))⟩:Rect)]:List Rect)).bind fun a_67=>some (.go a_67)
noncomputable def dz (r_25:(List Int)) (l_1:(List Rect)) (m_2:(List Rect)) (k_27:Nat) (x_29:Int) (s_32:(List Rect)×(List Run)×Int):Option (Ctl ((List Rect)×(List Run)×Int) (Unit)) :=
  (bif (decide ((w64 ((k_27:Int) + 1)) < (r_25.length:Int)))then (dE l_1 x_29).bind fun r_45=>(dE m_2 x_29).bind fun r_47=>(iG r_45 r_47).bind fun r_49=>some r_49 else some ([]:List Run)).bind fun v_42=>(aZ s_32.2.1 v_42).bind fun r_51=>bif r_51 then some (.go (s_32.1,s_32.2.1,s_32.2.2))else (forL s_32.2.1 s_32.1 (fun k x s=>eP s_32 x_29 k x s)).bind fun o_64=>thenC o_64 (fun s_59=>some (.go (s_59,v_42,x_29))) (fun _=>none)
noncomputable def dw (l_1:(List Rect)) (m_2:(List Rect)):Option ((List Rect)) :=
  (cK ([l_1,m_2]:List (List Rect))).bind fun r_3=>(forL r_3 ([]:List Int) (fun k x s=>fE k x s)).bind fun o_16=>thenC o_16 (fun s_10=>(dA s_10).bind fun r_22=>(jE r_22 s_10).bind fun _=>(bU r_22).bind fun r_25=>(forL r_25 (([]:List Rect),([]:List Run),0) (fun k x s=>dz r_25 l_1 m_2 k x s)).bind fun o_38=>thenC o_38 (fun s_32=>some s_32.1) (fun _=>none)) (fun _=>none)
def iH (l_1:Layout) (k_2:Int) (k_4:Nat) (x_6:Zone) (s_9:(List Rect)):Option (Ctl ((List Rect)) (Unit)) :=
  (mf l_1.Zones (k_4:Int) k_2).bind fun r_18=>(bif r_18 then (ma s_9 ([x_6.On]:List Rect)).bind fun a_24=>some a_24 else some s_9).bind fun v_20=>some (.go v_20)
noncomputable def gM (l_1:Layout) (k_2:Int):Option ((List Rect)) :=
  (forL l_1.Zones ([]:List Rect) (fun k x s=>iH l_1 k_2 k x s)).bind fun o_15=>thenC o_15 (fun s_9=>(idx l_1.Zones k_2).bind fun y_27=>(dw ([y_27.On]:List Rect) s_9).bind fun r_29=>some r_29) (fun _=>none)
def nN (x_5:Zone) (k_19:Nat) (x_21:Rect) (s_24:(List Piece)):Option (Ctl ((List Piece)) (Unit)) :=
  (ma s_24 ([(⟨x_5.Key,x_21⟩:Piece)]:List Piece)).bind fun a_32=>some (.go a_32)
noncomputable def jW (l_1:Layout) (k_3:Nat) (x_5:Zone) (s_8:(List Piece)):Option (Ctl ((List Piece)) (Unit)) :=
  (gM l_1 (k_3:Int)).bind fun r_17=>(forL r_17 s_8 (fun k x s=>nN x_5 k x s)).bind fun o_29=>thenC o_29 (fun s_24=>some (.go s_24)) (fun _=>none)
noncomputable def ll (l_1:Layout):Option ((List Piece)×Int) :=
  (forL l_1.Zones ([]:List Piece) (fun k x s=>jW l_1 k x s)).bind fun o_14=>thenC o_14 (fun s_8=>bif (decide ((s_8.length:Int) > 2000))then some (([]:(List Piece)),2)else some (s_8,0)) (fun _=>none)
def jl (r_1:Rect) (wv_2:Int) (h_3:Int) (toW_4:Int) (toH_5:Int):Option (Rect) :=
  (Ad .i64 (w64 (r_1.X * toW_4)) wv_2).bind fun q_8=>(Ad .i64 (w64 (r_1.Y * toH_5)) h_3).bind fun q_10=>(Ad .i64 (w64 ((w64 (r_1.X + r_1.W)) * toW_4)) wv_2).bind fun q_12=>(Ad .i64 (w64 ((w64 (r_1.Y + r_1.H)) * toH_5)) h_3).bind fun q_14=>(bif ((w64 (q_12 - q_8)) == 0)then some true else some ((w64 (q_14 - q_10)) == 0)).bind fun v_17=>bif v_17 then some (⟨0,0,0,0⟩:Rect)else some (⟨q_8,q_10,(w64 (q_12 - q_8)),(w64 (q_14 - q_10))⟩:Rect)
def iJ (l_2:Layout) (wv_1:Wall) (k_14:Nat) (x_16:Piece) (s_19:(List Piece)):Option (Ctl ((List Piece)) (Unit)) :=
  (jl x_16.On l_2.W l_2.H wv_1.W wv_1.H).bind fun r_28=>(bif (decide (r_28.W > 0))then (ma s_19 ([(⟨x_16.Zone,r_28⟩:Piece)]:List Piece)).bind fun a_35=>some a_35 else some s_19).bind fun v_31=>some (.go v_31)
noncomputable def kI (wv_1:Wall) (l_2:Layout):Option ((List Piece)×Int) :=
  (dI wv_1).bind fun r_5=>bif (r_5 != 0)then some (([]:(List Piece)),r_5)else (eB l_2).bind fun r_8=>bif (r_8 != 0)then some (([]:(List Piece)),r_8)else (ll l_2).bind fun r_11=>bif (r_11.2 != 0)then some (([]:(List Piece)),r_11.2)else (forL r_11.1 ([]:List Piece) (fun k x s=>iJ l_2 wv_1 k x s)).bind fun o_25=>thenC o_25 (fun s_19=>some (s_19,0)) (fun _=>none)
def ql (r_1:Rect) (byv_2:Rect):Option (Rect) :=
  some (⟨(w64 (r_1.X - byv_2.X)),(w64 (r_1.Y - byv_2.Y)),r_1.W,r_1.H⟩:Rect)
def jd (x_10:Screen) (k_22:Nat) (x_24:Piece) (s_27:(List View)):Option (Ctl ((List View)) (Unit)) :=
  (jf x_10.On x_24.On).bind fun r_35=>(bif r_35.2 then (ql r_35.1 x_10.On).bind fun r_42=>(ma s_27 ([(⟨x_10.Key,x_24.Zone,r_42⟩:View)]:List View)).bind fun a_44=>some a_44 else some s_27).bind fun v_38=>some (.go v_38)
def mH (r_5:(List Piece)×Int) (k_8:Nat) (x_10:Screen) (s_13:(List View)):Option (Ctl ((List View)) (Unit)) :=
  (forL r_5.1 s_13 (fun k x s=>jd x_10 k x s)).bind fun o_32=>thenC o_32 (fun s_27=>some (.go s_27)) (fun _=>none)
noncomputable def lN (wv_1:Wall) (l_2:Layout):Option ((List View)×Int) :=
  (kI wv_1 l_2).bind fun r_5=>bif (r_5.2 != 0)then some (([]:(List View)),r_5.2)else (forL wv_1.Screens ([]:List View) (fun k x s=>mH r_5 k x s)).bind fun o_19=>thenC o_19 (fun s_13=>some (s_13,0)) (fun _=>none)
def oP (k_3:Nat) (x_5:Screen) (s_8:(List Rect)):Option (Ctl ((List Rect)) (Unit)) :=
  (ma s_8 ([x_5.On]:List Rect)).bind fun a_17=>some (.go a_17)
def qJ (wv_1:Wall):Option ((List Rect)) :=
  (forL wv_1.Screens ([]:List Rect) (fun k x s=>oP k x s)).bind fun o_14=>thenC o_14 (fun s_8=>some s_8) (fun _=>none)
def nC (k_2:Nat) (x_4:Rect) (s_7:Int):Option (Ctl (Int) (Unit)) :=
  some (.go (w64 (s_7 + (w64 (x_4.W * x_4.H)))))
def lH (l_1:(List Rect)):Option (Int) :=
  (forL l_1 0 (fun k x s=>nC k x s)).bind fun o_10=>thenC o_10 (fun s_7=>some s_7) (fun _=>none)
def nD (k_8:Nat) (x_10:Piece) (s_13:(List Rect)):Option (Ctl ((List Rect)) (Unit)) :=
  (ma s_13 ([x_10.On]:List Rect)).bind fun a_22=>some (.go a_22)
noncomputable def mZ (wv_1:Wall) (l_2:Layout):Option (Int×Int) :=
  (kI wv_1 l_2).bind fun r_5=>bif (r_5.2 != 0)then some (0,r_5.2)else (forL r_5.1 ([]:List Rect) (fun k x s=>nD k x s)).bind fun o_19=>thenC o_19 (fun s_13=>(qJ wv_1).bind fun r_25=>(dw s_13 r_25).bind fun r_27=>(lH r_27).bind fun r_29=>some (r_29,0)) (fun _=>none)
noncomputable def pF (l_1:Layout):Option ((List Piece)×Int) :=
  (eB l_1).bind fun r_3=>bif (r_3 != 0)then some (([]:(List Piece)),r_3)else (ll l_1).bind fun r_6=>some (r_6.1,r_6.2)
def tQ (k_2:Nat) (x_4:Int) (s_7:Unit):Option (Ctl (Unit) (Int)) :=
  bif (x_4 != 0)then some (.ret x_4)else some (.go ())
def qz (l_1:(List Int)):Option (Int) :=
  (forL l_1 () (fun k x s=>tQ k x s)).bind fun o_10=>thenC o_10 (fun s_7=>some 0) (fun r=>some r)
def lF (a_1:Rect) (b_2:Rect) (k_6:Nat) (x_8:Nat) (s_11:Unit):Option (Ctl (Unit) (Rect×Bool×Int)) :=
  (idx ([a_1,b_2]:List Rect) (k_6:Int)).bind fun y_16=>(dW y_16).bind fun r_19=>bif (r_19 != 0)then some (.ret ((⟨0,0,0,0⟩:Rect),false,r_19))else some (.go ())
def pz (a_1:Rect) (b_2:Rect):Option (Rect×Bool×Int) :=
  (forL (List.range (2:Int).toNat) () (fun k x s=>lF a_1 b_2 k x s)).bind fun o_14=>thenC o_14 (fun s_11=>(jf a_1 b_2).bind fun r_22=>some (r_22.1,r_22.2,0)) (fun r=>some r)
def lV (r_1:Rect) (wv_2:Int) (h_3:Int) (toW_4:Int) (toH_5:Int):Option (Rect×Int) :=
  (dW r_1).bind fun r_8=>bif (r_8 != 0)then some ((⟨0,0,0,0⟩:Rect),r_8)else (dY ([wv_2,h_3,toW_4,toH_5]:List Int)).bind fun r_11=>bif (r_11 != 0)then some ((⟨0,0,0,0⟩:Rect),r_11)else (gK r_1 wv_2 h_3).bind fun r_14=>bif (!r_14)then some ((⟨0,0,0,0⟩:Rect),3)else (jl r_1 wv_2 h_3 toW_4 toH_5).bind fun r_17=>some (r_17,0)
def lm (k_3:Nat) (x_5:Rect) (s_8:Unit):Option (Ctl (Unit) (Int)) :=
  (dW x_5).bind fun r_14=>bif (r_14 != 0)then some (.ret r_14)else some (.go ())
def kR (l_1:(List Rect)):Option (Int) :=
  bif (decide ((l_1.length:Int) > 2000))then some 2 else (forL l_1 () (fun k x s=>lm k x s)).bind fun o_11=>thenC o_11 (fun s_8=>some 0) (fun r=>some r)
noncomputable def pq (l_1:(List Rect)):Option (Int×Int) :=
  (kR l_1).bind fun r_2=>bif (r_2 != 0)then some (0,r_2)else (dw l_1 ([]:List Rect)).bind fun r_5=>(lH r_5).bind fun r_7=>some (r_7,0)
def Ao (n_1:Int):Option (Bool) :=
  (bif (decide (n_1≥0))then some (decide (n_1≤4000))else some false).bind fun v_2=>some v_2
def jT (l_1:(List Int)) (k_3:Nat) (x_5:Int) (s_8:Unit):Option (Ctl (Unit) (Int)) :=
  (Ao x_5).bind fun r_13=>bif (!r_13)then some (.ret 1)else (bif (decide ((k_3:Int) > 0))then (idx l_1 (w64 ((k_3:Int) - 1))).bind fun y_19=>some (decide (x_5≤y_19))else some false).bind fun v_16=>bif v_16 then some (.ret 7)else some (.go ())
def jA (l_1:(List Int)):Option (Int) :=
  bif (decide ((l_1.length:Int) > 100))then some 2 else (forL l_1 () (fun k x s=>jT l_1 k x s)).bind fun o_11=>thenC o_11 (fun s_8=>some 0) (fun r=>some r)
noncomputable def iM (l_1:(List ByteArray)) (k_2:Nat) (x_4:ByteArray) (s_7:Unit):Option (Ctl (Unit) (Int)) :=
  (dU x_4).bind fun r_12=>bif (!r_12)then some (.ret 5)else (bif (decide ((k_2:Int) > 0))then (idx l_1 (w64 ((k_2:Int) - 1))).bind fun y_18=>some (sLe x_4 y_18)else some false).bind fun v_15=>bif v_15 then some (.ret 7)else some (.go ())
noncomputable def jc (l_1:(List ByteArray)):Option (Int) :=
  (forL l_1 () (fun k x s=>iM l_1 k x s)).bind fun o_10=>thenC o_10 (fun s_7=>some 0) (fun r=>some r)
noncomputable def iQ (l_1:(List ByteArray)):Option (Int) :=
  bif (decide ((l_1.length:Int) > 20))then some 2 else (jc l_1).bind fun r_3=>some r_3
noncomputable def iB (e_1:Entry):Option (Int) :=
  ((dU e_1.Key).bind fun r_5=>bif (!r_5)then some true else (dU e_1.Item).bind fun r_8=>some (!r_8)).bind fun v_3=>bif v_3 then some 5 else ((aO e_1.Version 0 1000000).bind fun r_13=>bif r_13 then some true else (aO e_1.First 0 e_1.Last).bind fun r_16=>bif r_16 then some true else bif (decide (e_1.Last > 4000))then some true else (aO e_1.Every 1 400).bind fun r_20=>bif r_20 then some true else (aO e_1.Days 1 127).bind fun r_23=>some r_23).bind fun v_11=>bif v_11 then some 1 else (jA e_1.Except).bind fun r_26=>bif (r_26 != 0)then some r_26 else ((aO e_1.From 0 1439).bind fun r_31=>bif r_31 then some true else (aO e_1.To 0 1439).bind fun r_34=>bif r_34 then some true else (aO e_1.Prio 0 9).bind fun r_37=>some r_37).bind fun v_29=>bif v_29 then some 1 else (iQ e_1.Tags).bind fun r_40=>some r_40
noncomputable def fu (l_1:(List Entry)) (k_3:Nat) (x_5:Entry) (s_8:Unit):Option (Ctl (Unit) (Int)) :=
  (iB x_5).bind fun r_14=>bif (r_14 != 0)then some (.ret r_14)else (bif (decide ((k_3:Int) > 0))then (idx l_1 (w64 ((k_3:Int) - 1))).bind fun y_20=>some (sLe x_5.Key y_20.Key)else some false).bind fun v_17=>bif v_17 then some (.ret 7)else some (.go ())
noncomputable def gu (l_1:(List Entry)):Option (Int) :=
  bif (decide ((l_1.length:Int) > 200))then some 2 else (forL l_1 () (fun k x s=>fu l_1 k x s)).bind fun o_11=>thenC o_11 (fun s_8=>some 0) (fun r=>some r)
def jh (wv_1:Window):Option (Int) :=
  ((aO wv_1.From 0 wv_1.To).bind fun r_5=>bif r_5 then some true else some (decide (wv_1.To > 345686400000))).bind fun v_3=>bif v_3 then some 1 else bif (decide ((w64 (wv_1.To - wv_1.From)) > 34560000000))then some 2 else some 0
def cmp_isNaN_int (x_1:Int):Option (Bool) :=
  some (x_1 != x_1)
def cmp_Less_int (x_1:Int) (y_2:Int):Option (Bool) :=
  ((cmp_isNaN_int x_1).bind fun r_5=>bif r_5 then (cmp_isNaN_int y_2).bind fun r_8=>bif (!r_8)then some true else some (decide (x_1 < y_2))else some (decide (x_1 < y_2))).bind fun v_3=>some v_3
def iI (x_1:Int):Option (Bool) :=
  some (x_1 != x_1)
def eG (x_1:(List Int)) (target_2:Int) (s_8:Int×Int):Option (Ctl (Int×Int) (Unit)) :=
  bif (decide (s_8.1 < s_8.2))then (Lb .u64 (IntKind.u64.wrap (w64 (s_8.1 + s_8.2))) 1).bind fun q_14=>(idx x_1 (w64 q_14)).bind fun y_16=>(cmp_Less_int y_16 target_2).bind fun r_18=>bif r_18 then some (.go ((w64 ((w64 q_14) + 1)),s_8.2))else some (.go (s_8.1,(w64 q_14)))else some (.brk (s_8.1,s_8.2))
noncomputable def dZ (x_1:(List Int)) (target_2:Int):Option (Int×Bool) :=
  (jr (0,(x_1.length:Int)) (fun s=>eG x_1 target_2 s)).bind fun o_11=>thenC o_11 (fun s_8=>(bif (decide (s_8.1 < (x_1.length:Int)))then (idx x_1 s_8.1).bind fun y_24=>bif (y_24 == target_2)then some true else (idx x_1 s_8.1).bind fun y_27=>(iI y_27).bind fun r_29=>bif r_29 then (iI target_2).bind fun r_32=>some r_32 else some false else some false).bind fun v_21=>some (s_8.1,v_21)) (fun _=>none)
noncomputable def lv (e_1:Entry) (d_2:Int):Option (Bool) :=
  ((aO d_2 e_1.First e_1.Last).bind fun r_6=>bif r_6 then some true else (Ht .i64 (w64 (d_2 - e_1.First)) e_1.Every).bind fun q_9=>bif (q_9 != 0)then some true else (Dz .i64 1 (d_2.tmod 7)).bind fun q_12=>some ((uj .i64 e_1.Days q_12) == 0)).bind fun v_4=>bif v_4 then some false else (dZ e_1.Except d_2).bind fun r_15=>some (!r_15.2)
def mD (e_1:Entry) (zone_2:Int) (d_3:Int):Option (Window) :=
  (bif (decide ((w64 (e_1.To - e_1.From))≤0))then some (w64 ((w64 (e_1.To - e_1.From)) + 1440))else some (w64 (e_1.To - e_1.From))).bind fun v_6=>some (⟨(w64 ((w64 ((w64 ((w64 (d_3 * 1440)) + e_1.From)) - zone_2)) * 60000)),(w64 ((w64 ((w64 ((w64 ((w64 (d_3 * 1440)) + e_1.From)) - zone_2)) * 60000)) + (w64 (v_6 * 60000))))⟩:Window)
noncomputable def jw (wv_3:Window) (zone_2:Int) (e_1:Entry) (s_15:(List Window)×Int):Option (Ctl ((List Window)×Int) (Unit)) :=
  bif (decide (s_15.2≤(eZ (w64 ((w64 ((w64 (wv_3.To + (w64 (zone_2 * 60000)))).tdiv 86400000)) + 1)) e_1.Last)))then (lv e_1 s_15.2).bind fun r_24=>bif (!r_24)then some (.go (s_15.1,(w64 (s_15.2 + 1))))else (mD e_1 zone_2 s_15.2).bind fun r_27=>(bif (decide (r_27.From < wv_3.To))then some (decide (r_27.To > wv_3.From))else some false).bind fun v_30=>(bif v_30 then (ma s_15.1 ([r_27]:List Window)).bind fun a_37=>some a_37 else some s_15.1).bind fun v_33=>some (.go (v_33,(w64 (s_15.2 + 1))))else some (.brk (s_15.1,s_15.2))
noncomputable def lh (e_1:Entry) (zone_2:Int) (wv_3:Window):Option ((List Window)) :=
  (bif e_1.Gone then some true else some (decide (wv_3.From≥wv_3.To))).bind fun v_6=>bif v_6 then some ([]:(List Window))else (jr (([]:List Window),(bS (w64 ((w64 ((w64 (wv_3.From + (w64 (zone_2 * 60000)))).tdiv 86400000)) - 2)) e_1.First)) (fun s=>jw wv_3 zone_2 e_1 s)).bind fun o_21=>thenC o_21 (fun s_15=>some s_15.1) (fun _=>none)
def ut (t_1:Window) (wv_2:Window):Option (Window) :=
  some (⟨(bS t_1.From wv_2.From),(eZ t_1.To wv_2.To)⟩:Window)
def kS (wv_3:Window) (k_19:Nat) (x_21:Nat) (s_24:(List Window)):Option (Ctl ((List Window)) (Unit)) :=
  (inR (k_19:Int) s_24).bind fun _=>(s_24[(0 + ((k_19:Int)).toNat)]?).bind fun e_30=>(ut e_30 wv_3).bind fun r_33=>(inR (k_19:Int) s_24).bind fun _=>(s_24[(0 + ((k_19:Int)).toNat)]?).bind fun e_36=>some (.go (s_24.set (0 + ((k_19:Int)).toNat) r_33))
noncomputable def lC (e_1:Entry) (zone_2:Int) (wv_3:Window):Option ((List Window)×Int) :=
  (gu ([e_1]:List Entry)).bind fun r_6=>bif (r_6 != 0)then some (([]:(List Window)),r_6)else (aO zone_2 (-1440) 1440).bind fun r_9=>bif r_9 then some (([]:(List Window)),1)else (jh wv_3).bind fun r_12=>bif (r_12 != 0)then some (([]:(List Window)),r_12)else (lh e_1 zone_2 wv_3).bind fun r_15=>(forL (List.range ((r_15.length:Int)).toNat) r_15 (fun k x s=>kS wv_3 k x s)).bind fun o_27=>thenC o_27 (fun s_24=>some (s_24,0)) (fun _=>none)
def nJ (wv_1:Window):Option (Bool) :=
  (bif (decide (wv_1.From≥0))then bif (decide (wv_1.From < wv_1.To))then some (decide (wv_1.To≤345686400000))else some false else some false).bind fun v_3=>some v_3
noncomputable def jB (l_1:(List ByteArray)):Option (Int) :=
  bif (decide ((l_1.length:Int) > 20))then some 2 else (jc l_1).bind fun r_3=>some r_3
noncomputable def eU (l_1:(List Campaign)) (k_3:Nat) (x_5:Campaign) (s_8:Unit):Option (Ctl (Unit) (Int)) :=
  ((dU x_5.Key).bind fun r_16=>bif (!r_16)then some true else bif (sNe x_5.Class (⟨#[]⟩:ByteArray))then (dU x_5.Class).bind fun r_20=>some (!r_20)else some false).bind fun v_14=>bif v_14 then some (.ret 5)else (bif (decide ((k_3:Int) > 0))then (idx l_1 (w64 ((k_3:Int) - 1))).bind fun y_26=>some (sLe x_5.Key y_26.Key)else some false).bind fun v_23=>bif v_23 then some (.ret 7)else ((nJ x_5.Time).bind fun r_31=>bif (!r_31)then some true else (aO x_5.Goal 0 1000000).bind fun r_34=>bif r_34 then some true else (aO x_5.Most 0 1000000).bind fun r_37=>bif r_37 then some true else (aO x_5.Cents 0 1000000000).bind fun r_40=>some r_40).bind fun v_29=>bif v_29 then some (.ret 1)else (jB x_5.Tags).bind fun r_43=>bif (r_43 != 0)then some (.ret r_43)else some (.go ())
noncomputable def fP (l_1:(List Campaign)):Option (Int) :=
  bif (decide ((l_1.length:Int) > 30))then some 2 else (forL l_1 () (fun k x s=>eU l_1 k x s)).bind fun o_11=>thenC o_11 (fun s_8=>some 0) (fun r=>some r)
def dF (n_1:Int):Option (Bool) :=
  (bif (decide (n_1≥0))then some (decide (n_1 < 345686400000))else some false).bind fun v_2=>some v_2
def rO (c_1:Campaign) (atv_2:Int):Option (Int) :=
  bif (decide (atv_2 < c_1.Time.From))then some 0 else bif (decide (atv_2≥c_1.Time.To))then some c_1.Goal else (Ad .i64 (w64 (c_1.Goal * (w64 (atv_2 - c_1.Time.From)))) (w64 (c_1.Time.To - c_1.Time.From))).bind fun q_6=>some q_6
noncomputable def o8 (c_1:Campaign) (atv_2:Int):Option (Int×Int) :=
  (fP ([c_1]:List Campaign)).bind fun r_4=>bif (r_4 != 0)then some (0,r_4)else (dF atv_2).bind fun r_7=>bif (!r_7)then some (0,1)else (rO c_1 atv_2).bind fun r_10=>some (r_10,0)
def gG (a_1:ByteArray) (b_2:ByteArray):Option (Int) :=
  some (Mq a_1 b_2)
def strings_Compare (a_1:ByteArray) (b_2:ByteArray):Option (Int) :=
  (gG a_1 b_2).bind fun r_3=>some r_3
def cmp_Compare_int (x_1:Int) (y_2:Int):Option (Int) :=
  (cmp_isNaN_int x_1).bind fun r_3=>(cmp_isNaN_int y_2).bind fun r_5=>bif r_3 then bif r_5 then some 0 else some (-1)else bif r_5 then some 1 else bif (decide (x_1 < y_2))then some (-1)else bif (decide (x_1 > y_2))then some 1 else some 0
def rX (k_2:Nat) (x_4:Int) (s_7:Unit):Option (Ctl (Unit) (Int)) :=
  bif (x_4 != 0)then some (.ret x_4)else some (.go ())
def tT (vals_1:(List Int)):Option (Int) :=
  (forL vals_1 () (fun k x s=>rX k x s)).bind fun o_10=>thenC o_10 (fun s_7=>some 0) (fun r=>some r)
def j5 (a_1:Beat) (b_2:Beat):Option (Int) :=
  (strings_Compare a_1.Player b_2.Player).bind fun r_5=>(cmp_Compare_int a_1.At b_2.At).bind fun r_7=>(tT ([r_5,r_7]:List Int)).bind fun r_9=>some r_9
noncomputable def iA (l_1:(List Beat)) (k_3:Nat) (x_5:Beat) (s_8:Unit):Option (Ctl (Unit) (Int)) :=
  (dU x_5.Player).bind fun r_14=>bif (!r_14)then some (.ret 5)else ((dF x_5.At).bind fun r_19=>bif (!r_19)then some true else (aO x_5.Clock 0 345686399999).bind fun r_22=>some r_22).bind fun v_17=>bif v_17 then some (.ret 1)else (bif (decide ((k_3:Int) > 0))then (idx l_1 (w64 ((k_3:Int) - 1))).bind fun y_28=>(j5 y_28 x_5).bind fun r_30=>some (decide (r_30≥0))else some false).bind fun v_25=>bif v_25 then some (.ret 7)else (bif (decide ((k_3:Int) > 0))then (idx l_1 (w64 ((k_3:Int) - 1))).bind fun y_36=>bif (sEq x_5.Player y_36.Player)then (idx l_1 (w64 ((k_3:Int) - 1))).bind fun y_39=>some (decide (x_5.Clock≤y_39.Clock))else some false else some false).bind fun v_33=>bif v_33 then some (.ret 16)else some (.go ())
noncomputable def jX (l_1:(List Beat)):Option (Int) :=
  bif (decide ((l_1.length:Int) > 500))then some 2 else (forL l_1 () (fun k x s=>iA l_1 k x s)).bind fun o_11=>thenC o_11 (fun s_8=>some 0) (fun r=>some r)
def oz (player_2:ByteArray) (back_3:Bool) (k_4:Nat) (x_6:Beat) (s_9:(List Beat_)):Option (Ctl ((List Beat_)) (Unit)) :=
  (bif (sNe x_6.Player player_2)then some s_9 else bif back_3 then (ma s_9 ([(⟨x_6.At,x_6.Clock⟩:Beat_)]:List Beat_)).bind fun a_23=>some a_23 else (ma s_9 ([(⟨x_6.Clock,x_6.At⟩:Beat_)]:List Beat_)).bind fun a_26=>some a_26).bind fun v_18=>some (.go v_18)
def oL (l_1:(List Beat)) (player_2:ByteArray) (back_3:Bool):Option ((List Beat_)) :=
  (forL l_1 ([]:List Beat_) (fun k x s=>oz player_2 back_3 k x s)).bind fun o_15=>thenC o_15 (fun s_9=>some s_9) (fun _=>none)
def mE (l_1:(List Beat_)) (n_2:Int) (s_9:Int):Option (Ctl (Int) (Unit)) :=
  (bif (decide (s_9 < (l_1.length:Int)))then (idx l_1 s_9).bind fun y_17=>some (decide (y_17.f_from≤n_2))else some false).bind fun v_14=>bif v_14 then some (.go (w64 (s_9 + 1)))else some (.brk s_9)
noncomputable def nQ (l_1:(List Beat_)) (n_2:Int):Option (Int×Int) :=
  bif ((l_1.length:Int) == 0)then some (0,8)else (jr 0 (fun s=>mE l_1 n_2 s)).bind fun o_12=>thenC o_12 (fun s_9=>bif (s_9 == 0)then (idx l_1 0).bind fun y_21=>(idx l_1 0).bind fun y_23=>(dF (w64 (y_21.f_to - (w64 (y_23.f_from - n_2))))).bind fun r_25=>bif (!r_25)then some (0,11)else some ((w64 (y_21.f_to - (w64 (y_23.f_from - n_2)))),0)else bif (s_9 == (l_1.length:Int))then (idx l_1 (w64 (s_9 - 1))).bind fun y_29=>(idx l_1 (w64 (s_9 - 1))).bind fun y_31=>(dF (w64 ((w64 (y_29.f_to + n_2)) - y_31.f_from))).bind fun r_33=>bif (!r_33)then some (0,11)else some ((w64 ((w64 (y_29.f_to + n_2)) - y_31.f_from)),0)else (idx l_1 (w64 (s_9 - 1))).bind fun y_36=>(idx l_1 s_9).bind fun y_38=>(bif (decide ((w64 (y_38.f_from - y_36.f_from)) > 2592000000))then some true else some (decide ((w64 (y_38.f_to - y_36.f_to)) > 2592000000))).bind fun v_42=>bif v_42 then some (0,2)else (Ad .i64 (w64 ((w64 (n_2 - y_36.f_from)) * (w64 (y_38.f_to - y_36.f_to)))) (w64 (y_38.f_from - y_36.f_from))).bind fun q_46=>(dF (w64 (y_36.f_to + q_46))).bind fun r_48=>bif (!r_48)then some (0,11)else some ((w64 (y_36.f_to + q_46)),0)) (fun _=>none)
noncomputable def oW (l_1:(List Beat)) (player_2:ByteArray) (n_3:Int) (back_4:Bool):Option (Int×Int) :=
  (jX l_1).bind fun r_5=>bif (r_5 != 0)then some (0,r_5)else (dU player_2).bind fun r_8=>bif (!r_8)then some (0,5)else (dF n_3).bind fun r_11=>bif (!r_11)then some (0,1)else (oL l_1 player_2 back_4).bind fun r_14=>(nQ r_14 n_3).bind fun r_16=>some (r_16.1,r_16.2)
noncomputable def o5 (l_1:(List Beat)) (player_2:ByteArray) (clock_3:Int):Option (Int×Int) :=
  (oW l_1 player_2 clock_3 false).bind fun r_4=>some (r_4.1,r_4.2)
noncomputable def iW (a_1:Alert) (k_4:Nat) (x_6:ByteArray) (s_9:Unit):Option (Ctl (Unit) (Int)) :=
  (dU x_6).bind fun r_14=>bif (!r_14)then some (.ret 5)else (bif (decide ((k_4:Int) > 0))then (idx a_1.Refs (w64 ((k_4:Int) - 1))).bind fun y_20=>some (sLe x_6 y_20)else some false).bind fun v_17=>bif v_17 then some (.ret 7)else bif (sEq x_6 a_1.Id)then some (.ret 14)else some (.go ())
noncomputable def kG (a_1:Alert):Option (Int) :=
  bif (decide ((a_1.Refs.length:Int) > 20))then some 2 else (forL a_1.Refs () (fun k x s=>iW a_1 k x s)).bind fun o_12=>thenC o_12 (fun s_9=>bif (!((a_1.Kind == 1) == ((a_1.Refs.length:Int) == 0)))then some 3 else some 0) (fun r=>some r)
def bA (s_1:ByteArray):Option (Int) :=
  (nU s_1 0).bind fun b_2=>(nU s_1 1).bind fun b_4=>(Dz .u64 (IntKind.u64.wrap (b_4.toNat:Int)) 8).bind fun q_6=>(nU s_1 2).bind fun b_8=>(Dz .u64 (IntKind.u64.wrap (b_8.toNat:Int)) 16).bind fun q_10=>(nU s_1 3).bind fun b_12=>(Dz .u64 (IntKind.u64.wrap (b_12.toNat:Int)) 24).bind fun q_14=>(nU s_1 4).bind fun b_16=>(Dz .u64 (IntKind.u64.wrap (b_16.toNat:Int)) 32).bind fun q_18=>(nU s_1 5).bind fun b_20=>(Dz .u64 (IntKind.u64.wrap (b_20.toNat:Int)) 40).bind fun q_22=>(nU s_1 6).bind fun b_24=>(Dz .u64 (IntKind.u64.wrap (b_24.toNat:Int)) 48).bind fun q_26=>(nU s_1 7).bind fun b_28=>(Dz .u64 (IntKind.u64.wrap (b_28.toNat:Int)) 56).bind fun q_30=>some (orI .u64 (orI .u64 (orI .u64 (orI .u64 (orI .u64 (orI .u64 (orI .u64 (IntKind.u64.wrap (b_2.toNat:Int)) q_6) q_10) q_14) q_18) q_22) q_26) q_30)
def fF (s_45:ByteArray):Option (Ctl (ByteArray) (Unit)) :=
  (bif (decide ((s_45.size:Int) > 32))then (bA s_45).bind fun r_53=>(qZ s_45 8 s_45.size).bind fun y_55=>(bA y_55).bind fun r_57=>(qZ s_45 16 s_45.size).bind fun y_59=>(bA y_59).bind fun r_61=>(qZ s_45 24 s_45.size).bind fun y_63=>(bA y_63).bind fun r_65=>some ((uj .u64 (orI .u64 (orI .u64 r_53 r_57) (orI .u64 r_61 r_65)) 9259542123273814144) == 0)else some false).bind fun v_50=>bif v_50 then (qZ s_45 32 s_45.size).bind fun y_68=>some (.go y_68)else some (.brk s_45)
noncomputable def ek (s_7:ByteArray):Option (Ctl (ByteArray) (Unit)) :=
  bif (decide ((s_7.size:Int) > 0))then (nU s_7 0).bind fun b_13=>bif (decide ((b_13.toNat:Int) < 128))then (qZ s_7 1 s_7.size).bind fun y_16=>(bif (decide ((y_16.size:Int) > 8))then (bA y_16).bind fun r_21=>some ((uj .u64 r_21 9259542123273814144) == 0)else some false).bind fun v_18=>(bif v_18 then (qZ y_16 8 y_16.size).bind fun y_26=>(bif (decide ((y_26.size:Int) > 16))then (bA y_26).bind fun r_31=>(qZ y_26 8 y_26.size).bind fun y_33=>(bA y_33).bind fun r_35=>some ((uj .u64 (orI .u64 r_31 r_35) 9259542123273814144) == 0)else some false).bind fun v_28=>bif v_28 then (qZ y_26 16 y_26.size).bind fun y_38=>(jr y_38 (fun s=>fF s)).bind fun o_48=>thenC o_48 (fun s_45=>some s_45) (fun _=>none)else some y_26 else some y_16).bind fun v_23=>some (.go v_23)else none else some (.brk s_7)
noncomputable def fB (s_1:ByteArray):Option (Bool) :=
  (jr s_1 (fun s=>ek s)).bind fun o_10=>thenC o_10 (fun s_7=>some true) (fun _=>none)
def gH (c_2:Int) (s_8:ByteArray):Option (Ctl (ByteArray) (Unit)) :=
  (bif (decide ((s_8.size:Int) > 0))then (nU s_8 (w64 ((s_8.size:Int) - 1))).bind fun b_16=>some ((b_16.toNat:Int) == c_2)else some false).bind fun v_13=>bif v_13 then (qZ s_8 0 (w64 ((s_8.size:Int) - 1))).bind fun y_19=>some (.go y_19)else some (.brk s_8)
noncomputable def strings_trimRightByte (s_1:ByteArray) (c_2:Int):Option (ByteArray) :=
  (jr s_1 (fun s=>gH c_2 s)).bind fun o_11=>thenC o_11 (fun s_8=>some s_8) (fun _=>none)
def ib (c_2:Int) (s_8:ByteArray):Option (Ctl (ByteArray) (Unit)) :=
  (bif (decide ((s_8.size:Int) > 0))then (nU s_8 0).bind fun b_16=>some ((b_16.toNat:Int) == c_2)else some false).bind fun v_13=>bif v_13 then (qZ s_8 1 s_8.size).bind fun y_19=>some (.go y_19)else some (.brk s_8)
noncomputable def strings_trimLeftByte (s_1:ByteArray) (c_2:Int):Option (ByteArray) :=
  (jr s_1 (fun s=>ib c_2 s)).bind fun o_11=>thenC o_11 (fun s_8=>some s_8) (fun _=>none)
noncomputable def nG (s_1:ByteArray) (cutset_2:ByteArray):Option (ByteArray) :=
  (bif (sEq s_1 (⟨#[]⟩:ByteArray))then some true else some (sEq cutset_2 (⟨#[]⟩:ByteArray))).bind fun v_3=>bif v_3 then some s_1 else (bif ((cutset_2.size:Int) == 1)then (nU cutset_2 0).bind fun b_10=>some (decide ((b_10.toNat:Int) < 128))else some false).bind fun v_7=>bif v_7 then (nU cutset_2 0).bind fun b_13=>(strings_trimRightByte s_1 (b_13.toNat:Int)).bind fun r_15=>(nU cutset_2 0).bind fun b_17=>(strings_trimLeftByte r_15 (b_17.toNat:Int)).bind fun r_19=>some r_19 else none
def iT (s_1:ByteArray) (substr_2:ByteArray):Option (Int) :=
  (bif ((substr_2.size:Int) == 0)then some true else some (sEq substr_2 s_1)).bind fun v_3=>bif v_3 then some 0 else bif ((substr_2.size:Int) == 1)then (nU substr_2 0).bind fun b_8=>(dH s_1 (b_8.toNat:Int)).bind fun r_10=>some r_10 else bif (decide ((substr_2.size:Int)≥(s_1.size:Int)))then some (-1)else none
def strings_Index (s_1:ByteArray) (substr_2:ByteArray):Option (Int) :=
  (iT s_1 substr_2).bind fun r_3=>some r_3
def strings_Contains (s_1:ByteArray) (substr_2:ByteArray):Option (Bool) :=
  (strings_Index s_1 substr_2).bind fun r_3=>some (decide (r_3≥0))
def nP (s_1:ByteArray) (s_7:Int):Option (Ctl (Int) (Bool)) :=
  bif (decide (s_7 < (s_1.size:Int)))then ((nU s_1 s_7).bind fun b_15=>bif (decide ((b_15.toNat:Int) < 32))then some true else (nU s_1 s_7).bind fun b_18=>some ((b_18.toNat:Int) == 127)).bind fun v_13=>bif v_13 then some (.ret false)else some (.go (w64 (s_7 + 1)))else some (.brk s_7)
noncomputable def o7 (s_1:ByteArray):Option (Bool) :=
  (jr 0 (fun s=>nP s_1 s)).bind fun o_10=>thenC o_10 (fun s_7=>((fB s_1).bind fun r_23=>bif r_23 then (nG s_1 (⟨#[32]⟩:ByteArray)).bind fun r_26=>bif (sEq r_26 s_1)then (strings_Contains s_1 (⟨#[32,32]⟩:ByteArray)).bind fun r_29=>some (!r_29)else some false else some false).bind fun v_21=>some v_21) (fun r=>some r)
def jH (k_29:Nat) (x_31:Rect) (s_34:Unit):Option (Ctl (Unit) (Int)) :=
  (dW x_31).bind fun r_40=>bif (r_40 != 0)then some (.ret r_40)else some (.go ())
noncomputable def jY (a_1:Alert):Option (Int) :=
  ((dU a_1.Id).bind fun r_5=>bif (!r_5)then some true else (dU a_1.Sender).bind fun r_8=>some (!r_8)).bind fun v_3=>bif v_3 then some 5 else (aO a_1.Kind 1 3).bind fun r_11=>bif r_11 then some 4 else (kG a_1).bind fun r_14=>bif (r_14 != 0)then some r_14 else ((dF a_1.At).bind fun r_19=>bif (!r_19)then some true else (aO a_1.Until (w64 (a_1.At + 1)) (w64 (a_1.At + 2592000000))).bind fun r_22=>bif r_22 then some true else (aO a_1.Weight 1 9).bind fun r_25=>some r_25).bind fun v_17=>bif v_17 then some 1 else bif (decide ((a_1.Areas.length:Int) > 20))then some 2 else (forL a_1.Areas () (fun k x s=>jH k x s)).bind fun o_37=>thenC o_37 (fun s_34=>bif (!((a_1.Kind == 3) == ((a_1.Areas.length:Int) == 0)))then some 3 else bif (decide ((a_1.Text.size:Int) > 500))then some 2 else ((o7 a_1.Text).bind fun r_47=>bif (!r_47)then some true else bif (sEq a_1.Text (⟨#[]⟩:ByteArray))then some (!(a_1.Kind == 3))else some false).bind fun v_45=>bif v_45 then some 3 else some 0) (fun r=>some r)
def oM (a_1:Alert) (b_2:Alert):Option (Int) :=
  (cmp_Compare_int a_1.At b_2.At).bind fun r_5=>(strings_Compare a_1.Id b_2.Id).bind fun r_7=>(tT ([r_5,r_7]:List Int)).bind fun r_9=>some r_9
noncomputable def gX (l_1:(List Alert)) (k_3:Nat) (x_5:Alert) (s_8:Unit):Option (Ctl (Unit) (Int)) :=
  (jY x_5).bind fun r_14=>bif (r_14 != 0)then some (.ret r_14)else (bif (decide ((k_3:Int) > 0))then (idx l_1 (w64 ((k_3:Int) - 1))).bind fun y_20=>(oM y_20 x_5).bind fun r_22=>some (decide (r_22≥0))else some false).bind fun v_17=>bif v_17 then some (.ret 7)else some (.go ())
def je (k_26:Nat) (x_28:Alert) (s_31:(List (ByteArray×Bool))):Option (Ctl ((List (ByteArray×Bool))) (Int)) :=
  bif ((Jj eqS s_31 x_28.Id).getD false)then some (.ret 6)else some (.go (MM eqS s_31 x_28.Id true))
noncomputable def jk (l_1:(List Alert)):Option (Int) :=
  bif (decide ((l_1.length:Int) > 300))then some 2 else (forL l_1 () (fun k x s=>gX l_1 k x s)).bind fun o_11=>thenC o_11 (fun s_8=>(forL l_1 ([]:List (ByteArray×Bool)) (fun k x s=>je k x s)).bind fun o_34=>thenC o_34 (fun s_31=>some 0) (fun r=>some r)) (fun r=>some r)
noncomputable def iy (l_1:(List Post)) (k_3:Nat) (x_5:Post) (s_8:Unit):Option (Ctl (Unit) (Int)) :=
  (dU x_5.Player).bind fun r_14=>bif (!r_14)then some (.ret 5)else ((aO x_5.X (-100000) 100000).bind fun r_19=>bif r_19 then some true else (aO x_5.Y (-100000) 100000).bind fun r_22=>some r_22).bind fun v_17=>bif v_17 then some (.ret 1)else (bif (decide ((k_3:Int) > 0))then (idx l_1 (w64 ((k_3:Int) - 1))).bind fun y_28=>some (sLe x_5.Player y_28.Player)else some false).bind fun v_25=>bif v_25 then some (.ret 7)else some (.go ())
noncomputable def jS (l_1:(List Post)):Option (Int) :=
  bif (decide ((l_1.length:Int) > 500))then some 2 else (forL l_1 () (fun k x s=>iy l_1 k x s)).bind fun o_11=>thenC o_11 (fun s_8=>some 0) (fun r=>some r)
noncomputable def kC (l_1:(List Alert)) (posts_2:(List Post)):Option (Int) :=
  (jk l_1).bind fun r_3=>bif (r_3 != 0)then some r_3 else (jS posts_2).bind fun r_6=>some r_6
def pR (r_1:Rect) (p_2:Post):Option (Bool) :=
  (bif (decide (r_1.X≤p_2.X))then bif (decide (p_2.X < (w64 (r_1.X + r_1.W))))then bif (decide (r_1.Y≤p_2.Y))then some (decide (p_2.Y < (w64 (r_1.Y + r_1.H))))else some false else some false else some false).bind fun v_4=>some v_4
def eT (f_2:Rect→Option Bool) (k_3:Nat) (x_5:Rect) (s_8:Unit):Option (Ctl (Unit) (Int)) :=
  (f_2 x_5).bind fun r_13=>bif r_13 then some (.ret (k_3:Int))else some (.go ())
def fD (s_1:(List Rect)) (f_2:Rect→Option Bool):Option (Int) :=
  (forL s_1 () (fun k x s=>eT f_2 k x s)).bind fun o_11=>thenC o_11 (fun s_8=>some (-1)) (fun r=>some r)
def eO (s_1:(List Rect)) (f_2:Rect→Option Bool):Option (Bool) :=
  (fD s_1 f_2).bind fun r_3=>some (decide (r_3≥0))
def oN (a_1:Alert) (p_2:Post):Option (Bool) :=
  (eO a_1.Areas (fun x0=>pR x0 p_2)).bind fun r_5=>some r_5
noncomputable def mr (a_1:Alert) (p_2:Post):Option (Bool×Int) :=
  (kC ([a_1]:List Alert) ([p_2]:List Post)).bind fun r_5=>bif (r_5 != 0)then some (false,r_5)else (oN a_1 p_2).bind fun r_8=>some (r_8,0)
noncomputable def oG  : Option (Bool) :=
  (pq ([(⟨0,0,2,2⟩:Rect),(⟨1,1,2,2⟩:Rect)]:List Rect)).bind fun r_1=>(lC (⟨(⟨#[97]⟩:ByteArray),(⟨#[98]⟩:ByteArray),0,0,0,1,127,([]:List Int),1,2,0,([]:List ByteArray),false⟩:Entry) 0 (⟨0,86400000⟩:Window)).bind fun r_3=>(o8 (⟨(⟨#[97]⟩:ByteArray),(⟨#[]⟩:ByteArray),(⟨0,100⟩:Window),([]:List ByteArray),10,0,0⟩:Campaign) 50).bind fun r_5=>(o5 ([(⟨(⟨#[112]⟩:ByteArray),0,100⟩:Beat),(⟨(⟨#[112]⟩:ByteArray),1000,1300⟩:Beat)]:List Beat) (⟨#[112]⟩:ByteArray) 700).bind fun r_7=>(mr (⟨(⟨#[97]⟩:ByteArray),(⟨#[115]⟩:ByteArray),1,([]:List ByteArray),0,5,1,([(⟨0,0,2,2⟩:Rect)]:List Rect),(⟨#[120]⟩:ByteArray)⟩:Alert) (⟨(⟨#[112]⟩:ByteArray),1,1⟩:Post)).bind fun r_10=>((qz ([r_1.2,r_3.2,r_5.2,r_7.2,r_10.2]:List Int)).bind fun r_14=>bif (r_14 == 0)then bif (r_1.1 == 7)then bif ((r_3.1.length:Int) == 1)then bif (r_5.1 == 5)then bif (r_7.1 == 500)then some r_10.1 else some false else some false else some false else some false else some false).bind fun v_12=>some v_12
def fe (x_22:View) (k_33:Nat) (x_35:View) (s_38:Unit):Option (Ctl (Unit) (Bool)) :=
  (pz x_22.On x_35.On).bind fun r_44=>(bif (r_44.2.2 != 0)then some true else bif r_44.2.1 then some (sEq x_22.Screen x_35.Screen)else some false).bind fun v_47=>bif v_47 then some (.ret false)else some (.go ())
def fo (r_11:(List View)×Int) (k_20:Nat) (x_22:View) (s_25:Int):Option (Ctl (Int) (Bool)) :=
  (zf r_11.1 0 (k_20:Int)).bind fun y_31=>(forL y_31 () (fun k x s=>fe x_22 k x s)).bind fun o_41=>thenC o_41 (fun s_38=>some (.go (w64 (s_25 + (w64 (x_22.On.W * x_22.On.H)))))) (fun r=>some (.ret r))
def gz (r_6:Layout×Stream) (r_3:Wall×Stream) (k_52:Nat) (x_54:Piece) (s_57:Int):Option (Ctl (Int) (Bool)) :=
  (lV x_54.On r_6.1.W r_6.1.H r_3.1.W r_3.1.H).bind fun r_63=>bif (r_63.2 != 0)then some (.ret false)else some (.go (w64 (s_57 + (w64 (r_63.1.W * r_63.1.H)))))
noncomputable def ko (l_1:(List Int)):Option (Bool) :=
  (iw (⟨l_1,0⟩:Stream)).bind fun r_3=>(gy r_3.2).bind fun r_6=>(lN r_3.1 r_6.1).bind fun r_11=>(mZ r_3.1 r_6.1).bind fun r_13=>(pF r_6.1).bind fun r_15=>(qz ([r_11.2,r_13.2,r_15.2]:List Int)).bind fun r_17=>bif (r_17 != 0)then some false else (forL r_11.1 r_13.1 (fun k x s=>fo r_11 k x s)).bind fun o_28=>thenC o_28 (fun s_25=>(forL r_15.1 0 (fun k x s=>gz r_6 r_3 k x s)).bind fun o_60=>thenC o_60 (fun s_57=>(bif (s_25 == s_57)then bif (decide (r_13.1≥0))then (oG).bind fun r_71=>some r_71 else some false else some false).bind fun v_67=>some v_67) (fun r=>some r)) (fun r=>some r)
end Go.Proofs.YtjhcehhmdmbleaaGreatDoor.Law

