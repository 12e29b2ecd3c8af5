/-
  The functions of the program, as plain functions over data (written by a program of ours).
-/
import Derived.Test.YtnkgapmhkhcanaaGreatDoorEng5
open Go Go.Eng
namespace Go.Proofs.YtnkgapmhkhcanaaGreatDoor.Law
set_option maxRecDepth 100000
set_option linter.unusedVariables false
set_option maxHeartbeats 1000000
structure Stream where
  L:(List Int)
  f_at:Int
def Stream.enc (s:Stream):List D:=[dl eI s.L,.int .i64 s.f_at]

structure Rect where
  X:Int
  Y:Int
  W:Int
  H:Int
def Rect.enc (s:Rect):List D:=[.int .i64 s.X,.int .i64 s.Y,.int .i64 s.W,.int .i64 s.H]
abbrev Rect.v (s:Rect):List V:=[(vI s.X),(vI s.Y),(vI s.W),(vI s.H)]

structure Screen where
  Key:ByteArray
  On:Rect
def Screen.enc (s:Screen):List D:=[.str s.Key,.int .i64 s.On.X,.int .i64 s.On.Y,.int .i64 s.On.W,.int .i64 s.On.H]
abbrev Screen.v (s:Screen):List V:=[(vS s.Key),(vI s.On.X),(vI s.On.Y),(vI s.On.W),(vI s.On.H)]

structure Wall where
  Key:ByteArray
  W:Int
  H:Int
  Screens:(List Screen)
def Wall.enc (s:Wall):List D:=[.str s.Key,.int .i64 s.W,.int .i64 s.H,dl Screen.enc s.Screens]
abbrev Wall.v (s:Wall):List V:=[(vS s.Key),(vI s.W),(vI s.H),(vL Screen.enc s.Screens)]

structure Zone where
  Key:ByteArray
  On:Rect
  Order:Int
def Zone.enc (s:Zone):List D:=[.str s.Key,.int .i64 s.On.X,.int .i64 s.On.Y,.int .i64 s.On.W,.int .i64 s.On.H,.int .i64 s.Order]
abbrev Zone.v (s:Zone):List V:=[(vS s.Key),(vI s.On.X),(vI s.On.Y),(vI s.On.W),(vI s.On.H),(vI s.Order)]

structure Layout where
  Key:ByteArray
  W:Int
  H:Int
  Zones:(List Zone)
def Layout.enc (s:Layout):List D:=[.str s.Key,.int .i64 s.W,.int .i64 s.H,dl Zone.enc s.Zones]
abbrev Layout.v (s:Layout):List V:=[(vS s.Key),(vI s.W),(vI s.H),(vL Zone.enc s.Zones)]

structure Run where
  f_from:Int
  f_to:Int
def Run.enc (s:Run):List D:=[.int .i64 s.f_from,.int .i64 s.f_to]

structure Piece where
  Zone:ByteArray
  On:Rect
def Piece.enc (s:Piece):List D:=[.str s.Zone,.int .i64 s.On.X,.int .i64 s.On.Y,.int .i64 s.On.W,.int .i64 s.On.H]
abbrev Piece.v (s:Piece):List V:=[(vS s.Zone),(vI s.On.X),(vI s.On.Y),(vI s.On.W),(vI s.On.H)]

structure View where
  Screen:ByteArray
  Zone:ByteArray
  On:Rect
def View.enc (s:View):List D:=[.str s.Screen,.str s.Zone,.int .i64 s.On.X,.int .i64 s.On.Y,.int .i64 s.On.W,.int .i64 s.On.H]
abbrev View.v (s:View):List V:=[(vS s.Screen),(vS s.Zone),(vI s.On.X),(vI s.On.Y),(vI s.On.W),(vI s.On.H)]

structure Entry where
  Key:ByteArray
  Item:ByteArray
  Version:Int
  First:Int
  Last:Int
  Every:Int
  Days:Int
  Except:(List Int)
  From:Int
  To:Int
  Prio:Int
  Tags:(List ByteArray)
  Gone:Bool
def Entry.enc (s:Entry):List D:=[.str s.Key,.str s.Item,.int .i64 s.Version,.int .i64 s.First,.int .i64 s.Last,.int .i64 s.Every,.int .i64 s.Days,dl eI s.Except,.int .i64 s.From,.int .i64 s.To,.int .i64 s.Prio,dl eS s.Tags,.bool s.Gone]
abbrev Entry.v (s:Entry):List V:=[(vS s.Key),(vS s.Item),(vI s.Version),(vI s.First),(vI s.Last),(vI s.Every),(vI s.Days),(vL eI s.Except),(vI s.From),(vI s.To),(vI s.Prio),(vL eS s.Tags),(vB s.Gone)]

structure Window where
  From:Int
  To:Int
def Window.enc (s:Window):List D:=[.int .i64 s.From,.int .i64 s.To]

structure Campaign where
  Key:ByteArray
  Class:ByteArray
  Time:Window
  Tags:(List ByteArray)
  Goal:Int
  Most:Int
  Cents:Int
def Campaign.enc (s:Campaign):List D:=[.str s.Key,.str s.Class,.int .i64 s.Time.From,.int .i64 s.Time.To,dl eS s.Tags,.int .i64 s.Goal,.int .i64 s.Most,.int .i64 s.Cents]
abbrev Campaign.v (s:Campaign):List V:=[(vS s.Key),(vS s.Class),(vI s.Time.From),(vI s.Time.To),(vL eS s.Tags),(vI s.Goal),(vI s.Most),(vI s.Cents)]

structure Beat where
  Player:ByteArray
  At:Int
  Clock:Int
def Beat.enc (s:Beat):List D:=[.str s.Player,.int .i64 s.At,.int .i64 s.Clock]
abbrev Beat.v (s:Beat):List V:=[(vS s.Player),(vI s.At),(vI s.Clock)]

structure Beat_ where
  f_from:Int
  f_to:Int
def Beat_.enc (s:Beat_):List D:=[.int .i64 s.f_from,.int .i64 s.f_to]

structure Alert where
  Id:ByteArray
  Sender:ByteArray
  Kind:Int
  Refs:(List ByteArray)
  At:Int
  Until:Int
  Weight:Int
  Areas:(List Rect)
  Text:ByteArray
def Alert.enc (s:Alert):List D:=[.str s.Id,.str s.Sender,.int .i64 s.Kind,dl eS s.Refs,.int .i64 s.At,.int .i64 s.Until,.int .i64 s.Weight,dl Rect.enc s.Areas,.str s.Text]
abbrev Alert.v (s:Alert):List V:=[(vS s.Id),(vS s.Sender),(vI s.Kind),(vL eS s.Refs),(vI s.At),(vI s.Until),(vI s.Weight),(vL Rect.enc s.Areas),(vS s.Text)]

structure Post where
  Player:ByteArray
  X:Int
  Y:Int
def Post.enc (s:Post):List D:=[.str s.Player,.int .i64 s.X,.int .i64 s.Y]
abbrev Post.v (s:Post):List V:=[(vS s.Player),(vI s.X),(vI s.Y)]

def sO (x_1:Int) (n_2:Int):Option (Int) :=
  bif (decide (n_2<1))then some 0 else (Jk .i64 x_1 n_2).bind λq_4=>(bif (decide (q_4<0))then some (w64 (q_4+n_2))else some q_4).bind λv_6=>some v_6
def jq (s_1:Stream) (n_2:Int):Option (Int×Stream) :=
  bif ((s_1.L.length:Int)==0)then (sO (w64 ((w64 (s_1.f_at+1))*7919)) n_2).bind λr_4=>some (r_4,(⟨s_1.L,(w64 (s_1.f_at+1))⟩:Stream))else (Jk .i64 (w64 ((w64 (s_1.f_at+1))-1)) (s_1.L.length:Int)).bind λq_6=>(BL .i64 (w64 ((w64 (s_1.f_at+1))-1)) (s_1.L.length:Int)).bind λq_8=>(idx s_1.L q_6).bind λy_10=>(sO y_10 1073741824).bind λr_12=>(sO (w64 (r_12+(w64 (q_8*(w64 (7919+q_6)))))) n_2).bind λr_14=>some (r_14,(⟨s_1.L,(w64 (s_1.f_at+1))⟩:Stream))
def cB (s_1:Stream) (low_2:Int) (high_3:Int):Option (Int×Stream) :=
  bif (decide (high_3<low_2))then some (low_2,s_1)else (jq s_1 (w64 ((w64 (high_3-low_2))+1))).bind λr_5=>some ((w64 (low_2+r_5.1)),r_5.2)
def eH (s_1:Stream):Option (Rect×Stream) :=
  (cB s_1 (-2) 8).bind λr_3=>(cB r_3.2 (-2) 8).bind λr_6=>(cB r_6.2 1 5).bind λr_9=>(cB r_9.2 1 5).bind λr_12=>some ((⟨r_3.1,r_6.1,r_9.1,r_12.1⟩:Rect),r_12.2)
def gG (s_1:Stream) (l_2:(List Int)):Option (Int×Stream) :=
  (jq s_1 (l_2.length:Int)).bind λr_3=>(idx l_2 r_3.1).bind λy_6=>some (y_6,r_3.2)
def dE (s_1:(List Screen)):Option ((List Screen)) :=
  (nE [] s_1).bind λa_4=>some a_4
def kz (s_1:Stream) (n_2:Int):Option (Bool×Stream) :=
  (jq s_1 n_2).bind λr_3=>some ((r_3.1==0),r_3.2)
def rY (n_1:Int) (low_2:Int) (high_3:Int):Option (Bool) :=
  (bif (decide (low_2<=n_1))then some (decide (n_1<=high_3))else some false).bind λv_4=>some v_4
def dS (s_1:ByteArray) (c_2:Int):Option (Int) :=
  some (ixB s_1 c_2)
def strings_IndexByte (s_1:ByteArray) (c_2:Int):Option (Int) :=
  (dS s_1 c_2).bind λr_3=>some r_3
def ou (s_1:ByteArray) (somev_2:ByteArray) (k_3:Nat) (x_5:Nat) (s_8:Unit):Option (Ctl (Unit) (Bool)) :=
  (pg s_1 (k_3:Int)).bind λb_13=>(strings_IndexByte somev_2 (b_13.toNat:Int)).bind λr_15=>bif (decide (r_15<0))then some (.ret false)else some (.go ())
def uS (s_1:ByteArray) (somev_2:ByteArray):Option (Bool) :=
  (forL (List.range ((s_1.size:Int)).toNat) () (λk x s=>ou s_1 somev_2 k x s)).bind λo_11=>thenC o_11 (λs_8=>some true) (λr=>some r)
def x8 (s_1:ByteArray):Option (Bool) :=
  ((rY (s_1.size:Int) 1 40).bind λr_4=>bif r_4 then (sH s_1 0 1).bind λy_7=>(uS y_7 (⟨#[97,98,99,100,101,102,103,104,105,106,107,108,109,110,111,112,113,114,115,116,117,118,119,120,121,122]⟩:ByteArray)).bind λr_9=>bif r_9 then (uS s_1 (⟨#[97,98,99,100,101,102,103,104,105,106,107,108,109,110,111,112,113,114,115,116,117,118,119,120,121,122,48,49,50,51,52,53,54,55,56,57,45,95]⟩:ByteArray)).bind λr_12=>some r_12 else some false else some false).bind λv_2=>some v_2
def uL (n_1:Int):Option (Bool) :=
  (rY n_1 1 20000).bind λr_2=>some r_2
def nH (r_1:Rect):Option (Int) :=
  ((rY r_1.X (-100000) 100000).bind λr_5=>bif (!r_5)then some true else (rY r_1.Y (-100000) 100000).bind λr_8=>bif (!r_8)then some true else (rY r_1.W 1 (w64 (100000-r_1.X))).bind λr_11=>bif (!r_11)then some true else (rY r_1.H 1 (w64 (100000-r_1.Y))).bind λr_14=>some (!r_14)).bind λv_3=>bif v_3 then some 1 else some 0
def vM (r_1:Rect) (wv_2:Int) (h_3:Int):Option (Bool) :=
  (bif (decide (r_1.X>=0))then bif (decide (r_1.Y>=0))then bif (decide ((w64 (r_1.X+r_1.W))<=wv_2))then some (decide ((w64 (r_1.Y+r_1.H))<=h_3))else some false else some false else some false).bind λv_5=>some v_5
def zg (a_1:Rect) (b_2:Rect):Option (Rect×Bool) :=
  (bif (decide ((w64 ((fD (w64 (a_1.X+a_1.W)) (w64 (b_2.X+b_2.W)))-(bW a_1.X b_2.X)))<=0))then some true else some (decide ((w64 ((fD (w64 (a_1.Y+a_1.H)) (w64 (b_2.Y+b_2.H)))-(bW a_1.Y b_2.Y)))<=0))).bind λv_6=>bif v_6 then some ((⟨0,0,0,0⟩:Rect),false)else some ((⟨(bW a_1.X b_2.X),(bW a_1.Y b_2.Y),(w64 ((fD (w64 (a_1.X+a_1.W)) (w64 (b_2.X+b_2.W)))-(bW a_1.X b_2.X))),(w64 ((fD (w64 (a_1.Y+a_1.H)) (w64 (b_2.Y+b_2.H)))-(bW a_1.Y b_2.Y)))⟩:Rect),true)
def kP (wv_1:Wall) (k_15:Nat) (x_17:Screen) (s_20:ByteArray):Option (Ctl (ByteArray) (Int)) :=
  (x8 x_17.Key).bind λr_26=>bif (!r_26)then some (.ret 5)else (nH x_17.On).bind λr_29=>bif (r_29 != 0)then some (.ret r_29)else (vM x_17.On wv_1.W wv_1.H).bind λr_32=>bif (!r_32)then some (.ret 3)else bif (sLe x_17.Key s_20)then some (.ret 7)else some (.go x_17.Key)
def pO (x_38:Screen) (k_49:Nat) (x_51:Screen) (s_54:Unit):Option (Ctl (Unit) (Int)) :=
  (zg x_38.On x_51.On).bind λr_60=>bif r_60.2 then some (.ret 13)else some (.go ())
def mO (wv_1:Wall) (k_36:Nat) (x_38:Screen) (s_41:Unit):Option (Ctl (Unit) (Int)) :=
  (FC wv_1.Screens 0 (k_36:Int)).bind λy_47=>(forL y_47 () (λk x s=>pO x_38 k x s)).bind λo_57=>thenC o_57 (λs_54=>some (.go ())) (λr=>some (.ret r))
def nJ (wv_1:Wall):Option (Int) :=
  (x8 wv_1.Key).bind λr_3=>bif (!r_3)then some 5 else ((uL wv_1.W).bind λr_8=>bif (!r_8)then some true else (uL wv_1.H).bind λr_11=>some (!r_11)).bind λv_6=>bif v_6 then some 1 else bif (decide ((wv_1.Screens.length:Int)>50))then some 2 else (forL wv_1.Screens (⟨#[]⟩:ByteArray) (λk x s=>kP wv_1 k x s)).bind λo_23=>thenC o_23 (λs_20=>(forL wv_1.Screens () (λk x s=>mO wv_1 k x s)).bind λo_44=>thenC o_44 (λs_41=>some 0) (λr=>some r)) (λr=>some r)
def gy (r_3:Int×Stream) (r_6:Int×Stream) (k_10:Nat) (x_12:ByteArray) (s_15:(List Int)×Int×(List Screen)):Option (Ctl ((List Int)×Int×(List Screen)) (Unit)) :=
  (cB (⟨s_15.1,s_15.2.1⟩:Stream) 0 (w64 (r_3.1-1))).bind λr_20=>(cB r_20.2 0 (w64 (r_6.1-1))).bind λr_23=>(cB r_23.2 1 (w64 (r_3.1-r_20.1))).bind λr_27=>(cB r_27.2 1 (w64 (r_6.1-r_23.1))).bind λr_30=>(dE s_15.2.2).bind λr_33=>(nE r_33 ([(⟨x_12,(⟨r_20.1,r_23.1,r_27.1,r_30.1⟩:Rect)⟩:Screen)]:List Screen)).bind λa_36=>(kz r_30.2 4).bind λr_40=>(bif (!r_40.1)then (nJ (⟨(⟨#[119]⟩:ByteArray),r_3.1,r_6.1,a_36⟩:Wall)).bind λr_46=>bif (r_46==0)then some (a_36,a_36)else some (s_15.2.2,a_36)else some (s_15.2.2,s_15.2.2)).bind λv_43=>some (.go (r_40.2.L,r_40.2.f_at,v_43.1))
def gL (s_1:Stream):Option (Wall×Stream) :=
  (gG s_1 ([10,20,24,100]:List Int)).bind λr_3=>(gG r_3.2 ([6,10,30]:List Int)).bind λr_6=>(forL ([(⟨#[115,97]⟩:ByteArray),(⟨#[115,98]⟩:ByteArray),(⟨#[115,99]⟩:ByteArray),(⟨#[115,100]⟩:ByteArray)]:List ByteArray) (r_6.2.L,r_6.2.f_at,([]:List Screen)) (λk x s=>gy r_3 r_6 k x s)).bind λo_18=>thenC o_18 (λs_15=>some ((⟨(⟨#[119]⟩:ByteArray),r_3.1,r_6.1,s_15.2.2⟩:Wall),(⟨s_15.1,s_15.2.1⟩:Stream))) (λ_=>none)
def fO (r_3:Int×Stream) (r_6:Int×Stream) (k_10:Nat) (x_12:ByteArray) (s_15:(List Zone)×(List Int)×Int):Option (Ctl ((List Zone)×(List Int)×Int) (Unit)) :=
  (kz (⟨s_15.2.1,s_15.2.2⟩:Stream) 5).bind λr_23=>bif r_23.1 then some (.go (s_15.1,r_23.2.L,r_23.2.f_at))else (cB r_23.2 0 (w64 (r_3.1-1))).bind λr_27=>(cB r_27.2 0 (w64 (r_6.1-1))).bind λr_30=>(gG r_30.2 ([0,0,1,2]:List Int)).bind λr_33=>(cB r_33.2 1 (w64 (r_3.1-r_27.1))).bind λr_37=>(cB r_37.2 1 (w64 (r_6.1-r_30.1))).bind λr_40=>(nE s_15.1 ([(⟨x_12,(⟨r_27.1,r_30.1,r_37.1,r_40.1⟩:Rect),r_33.1⟩:Zone)]:List Zone)).bind λa_43=>some (.go (a_43,r_40.2.L,r_40.2.f_at))
def fJ (s_1:Stream):Option (Layout×Stream) :=
  (gG s_1 ([5,8,10,16]:List Int)).bind λr_3=>(gG r_3.2 ([4,6,9]:List Int)).bind λr_6=>(forL ([(⟨#[122,97]⟩:ByteArray),(⟨#[122,98]⟩:ByteArray),(⟨#[122,99]⟩:ByteArray),(⟨#[122,100]⟩:ByteArray)]:List ByteArray) (([]:List Zone),r_6.2.L,r_6.2.f_at) (λk x s=>fO r_3 r_6 k x s)).bind λo_21=>thenC o_21 (λs_15=>some ((⟨(⟨#[108]⟩:ByteArray),r_3.1,r_6.1,s_15.1⟩:Layout),(⟨s_15.2.1,s_15.2.2⟩:Stream))) (λ_=>none)
def aQ (n_1:Int) (low_2:Int) (high_3:Int):Option (Bool) :=
  (bif (decide (n_1<low_2))then some true else some (decide (n_1>high_3))).bind λv_4=>some v_4
def fV (r_1:Rect):Option (Int) :=
  ((aQ r_1.X (-100000) 100000).bind λr_5=>bif r_5 then some true else (aQ r_1.Y (-100000) 100000).bind λr_8=>some r_8).bind λv_3=>bif v_3 then some 1 else ((aQ r_1.W 1 (w64 (100000-r_1.X))).bind λr_13=>bif r_13 then some true else (aQ r_1.H 1 (w64 (100000-r_1.Y))).bind λr_16=>some r_16).bind λv_11=>bif v_11 then some 1 else some 0
def gp (k_3:Nat) (x_5:Rect) (s_8:Unit):Option (Ctl (Unit) (Int)) :=
  (fV x_5).bind λr_14=>bif (r_14 != 0)then some (.ret r_14)else some (.go ())
def dX (l_1:(List Rect)):Option (Int) :=
  bif (decide ((l_1.length:Int)>2000))then some 2 else (forL l_1 () (λk x s=>gp k x s)).bind λo_11=>thenC o_11 (λs_8=>some 0) (λr=>some r)
def dN (n_1:Int):Option Bool :=
  bif (decide (n_1<0))then none else bif (decide ((w64 (n_1-(w64 (0-0))))>0))then (zN (w64 (n_1-(w64 (0-0)))) 32).bind λ_=>some true else some false
def dF (k_2:Nat) (x_4:(List Rect)) (s_7:Int):Option (Ctl (Int) (Unit)) :=
  (bif (decide ((w64 (s_7+(x_4.length:Int)))<0))then none else some ()).bind λv_12=>some (.go (w64 (s_7+(x_4.length:Int))))
def dH (k_18:Nat) (x_20:(List Rect)) (s_23:(List Rect)):Option (Ctl ((List Rect)) (Unit)) :=
  (nE s_23 x_20).bind λa_30=>some (.go a_30)
def dw (slices_1:(List (List Rect))):Option ((List Rect)) :=
  (forL slices_1 0 (λk x s=>dF k x s)).bind λo_10=>thenC o_10 (λs_7=>(dN s_7).bind λb_15=>(forL slices_1 ([]:List Rect) (λk x s=>dH k x s)).bind λo_28=>thenC o_28 (λs_23=>some s_23) (λ_=>none)) (λ_=>none)
def dK (x:(List Int)):Option ((List Int)) :=
  JW x
def bS (s_1:(List Int)) (s_8:Int) (s_28:(List Int)×Int×Int):Option (Ctl ((List Int)×Int×Int) (Unit)) :=
  bif (decide (s_28.2.2<(((((s_1.length:Int)).toNat-(s_8).toNat):Nat):Int)))then (inN s_28.2.2 (((s_1.length:Int)).toNat-(s_8).toNat)).bind λ_=>(s_28.1[(((s_8).toNat)+(s_28.2.2).toNat)]?).bind λe_35=>(inN (w64 (s_28.2.2-1)) (((s_1.length:Int)).toNat-(s_8).toNat)).bind λ_=>(s_28.1[(((s_8).toNat)+((w64 (s_28.2.2-1))).toNat)]?).bind λe_38=>(bif (e_35 != e_38)then (inN s_28.2.2 (((s_1.length:Int)).toNat-(s_8).toNat)).bind λ_=>(s_28.1[(((s_8).toNat)+(s_28.2.2).toNat)]?).bind λe_44=>(inR s_28.2.1 s_28.1).bind λ_=>(s_28.1[(0+(s_28.2.1).toNat)]?).bind λe_47=>some ((s_28.1.set (0+(s_28.2.1).toNat) e_44),(w64 (s_28.2.1+1)))else some (s_28.1,s_28.2.1)).bind λv_40=>some (.go (v_40.1,v_40.2,(w64 (s_28.2.2+1))))else some (.brk (s_28.1,s_28.2.1,s_28.2.2))
noncomputable def aX (s_1:(List Int)) (s_8:Int):Option (Ctl (Int) ((List Int))) :=
  bif (decide (s_8<(s_1.length:Int)))then (inR s_8 s_1).bind λ_=>(s_1[(0+(s_8).toNat)]?).bind λe_15=>(inR (w64 (s_8-1)) s_1).bind λ_=>(s_1[(0+((w64 (s_8-1))).toNat)]?).bind λe_18=>bif (e_15==e_18)then (neL s_1).bind λ_=>(wV s_1 s_8 (s_1.length:Int)).bind λ_=>(jK (s_1,s_8,1) (λs=>bS s_1 s_8 s)).bind λo_31=>thenC o_31 (λs_28=>(wV s_28.1 s_28.2.1 (s_28.1.length:Int)).bind λ_=>(wV (s_28.1.take ((s_28.2.1).toNat)++List.replicate (((s_28.1.length:Int)).toNat-(s_28.2.1).toNat) 0++s_28.1.drop (((s_28.2.1).toNat)+(((s_28.1.length:Int)).toNat-(s_28.2.1).toNat))) 0 s_28.2.1).bind λ_=>some (.ret (cutL (s_28.1.take ((s_28.2.1).toNat)++List.replicate (((s_28.1.length:Int)).toNat-(s_28.2.1).toNat) 0++s_28.1.drop (((s_28.2.1).toNat)+(((s_28.1.length:Int)).toNat-(s_28.2.1).toNat))) 0 ((s_28.2.1).toNat)))) (λ_=>none)else some (.go (w64 (s_8+1)))else some (.brk s_8)
noncomputable def bX (s_1:(List Int)):Option ((List Int)) :=
  bif (decide ((s_1.length:Int)<2))then some s_1 else (jK 1 (λs=>aX s_1 s)).bind λo_11=>thenC o_11 (λs_8=>some s_1) (λr=>some r)
def nN (a_1:Run) (b_2:Run):Option (Int) :=
  some (w64 (a_1.f_from-b_2.f_from))
def qZ (x_1:Int):Option (Int) :=
  (bif (decide (x_1>=4294967296))then (M4 .u64 x_1 32).bind λq_5=>some (q_5,32)else some (x_1,0)).bind λv_2=>(bif (decide (v_2.1>=65536))then (M4 .u64 v_2.1 16).bind λq_10=>some (q_10,(w64 (v_2.2+16)))else some (v_2.1,v_2.2)).bind λv_7=>(bif (decide (v_7.1>=256))then (M4 .u64 v_7.1 8).bind λq_15=>some (q_15,(w64 (v_7.2+8)))else some (v_7.1,v_7.2)).bind λv_12=>(pg (⟨#[0,1,2,2,3,3,3,3,4,4,4,4,4,4,4,4,5,5,5,5,5,5,5,5,5,5,5,5,5,5,5,5,6,6,6,6,6,6,6,6,6,6,6,6,6,6,6,6,6,6,6,6,6,6,6,6,6,6,6,6,6,6,6,6,7,7,7,7,7,7,7,7,7,7,7,7,7,7,7,7,7,7,7,7,7,7,7,7,7,7,7,7,7,7,7,7,7,7,7,7,7,7,7,7,7,7,7,7,7,7,7,7,7,7,7,7,7,7,7,7,7,7,7,7,7,7,7,7,8,8,8,8,8,8,8,8,8,8,8,8,8,8,8,8,8,8,8,8,8,8,8,8,8,8,8,8,8,8,8,8,8,8,8,8,8,8,8,8,8,8,8,8,8,8,8,8,8,8,8,8,8,8,8,8,8,8,8,8,8,8,8,8,8,8,8,8,8,8,8,8,8,8,8,8,8,8,8,8,8,8,8,8,8,8,8,8,8,8,8,8,8,8,8,8,8,8,8,8,8,8,8,8,8,8,8,8,8,8,8,8,8,8,8,8,8,8,8,8,8,8,8,8,8,8,8,8]⟩:ByteArray) (IntKind.u8.wrap v_12.1)).bind λb_17=>some (w64 (v_12.2+(w64 (b_17.toNat:Int))))
def lI (x_1:Int):Option (Int) :=
  (qZ x_1).bind λr_2=>some r_2
def dh (a_2:Int) (s_21:(List Run)×Int):Option (Ctl ((List Run)×Int) (Unit)) :=
  (bif (decide (s_21.2>a_2))then (inR s_21.2 s_21.1).bind λ_=>(s_21.1[(0+(s_21.2).toNat)]?).bind λe_30=>(inR (w64 (s_21.2-1)) s_21.1).bind λ_=>(s_21.1[(0+((w64 (s_21.2-1))).toNat)]?).bind λe_33=>(nN e_30 e_33).bind λr_35=>some (decide (r_35<0))else some false).bind λv_26=>bif v_26 then (inR (w64 (s_21.2-1)) s_21.1).bind λ_=>(s_21.1[(0+((w64 (s_21.2-1))).toNat)]?).bind λe_39=>(inR s_21.2 s_21.1).bind λ_=>(s_21.1[(0+(s_21.2).toNat)]?).bind λe_42=>(inR s_21.2 s_21.1).bind λ_=>(s_21.1[(0+(s_21.2).toNat)]?).bind λe_45=>(inR (w64 (s_21.2-1)) (s_21.1.set (0+(s_21.2).toNat) e_39)).bind λ_=>((s_21.1.set (0+(s_21.2).toNat) e_39)[(0+((w64 (s_21.2-1))).toNat)]?).bind λe_48=>some (.go (((s_21.1.set (0+(s_21.2).toNat) e_39).set (0+((w64 (s_21.2-1))).toNat) e_42),(w64 (s_21.2-1))))else some (.brk (s_21.1,s_21.2))
noncomputable def bN (b_3:Int) (a_2:Int) (s_10:(List Run)×Int):Option (Ctl ((List Run)×Int) (Unit)) :=
  bif (decide (s_10.2<b_3))then (jK (s_10.1,s_10.2) (λs=>dh a_2 s)).bind λo_24=>thenC o_24 (λs_21=>some (.go (s_21.1,(w64 (s_10.2+1))))) (λ_=>none)else some (.brk (s_10.1,s_10.2))
noncomputable def bT (data_1:(List Run)) (a_2:Int) (b_3:Int):Option ((List Run)) :=
  (jK (data_1,(w64 (a_2+1))) (λs=>bN b_3 a_2 s)).bind λo_13=>thenC o_13 (λs_10=>some s_10.1) (λ_=>none)
noncomputable def cZ (b_3:Int) (a_2:Int) (data_1:(List Run)) (limit_4:Int) (s_11:Unit):Option (Ctl (Unit) ((List Run))) :=
  bif (decide ((w64 (b_3-a_2))<=12))then (bT data_1 a_2 b_3).bind λr_17=>(gQ r_17 data_1).bind λ_=>some (.ret r_17)else bif (limit_4==0)then none else none
noncomputable def bU (data_1:(List Run)) (a_2:Int) (b_3:Int) (limit_4:Int):Option ((List Run)) :=
  (jK () (λs=>cZ b_3 a_2 data_1 limit_4 s)).bind λo_14=>thenC o_14 (λs_11=>some data_1) (λr=>some r)
noncomputable def bB (x_1:(List Run)):Option ((List Run)) :=
  (lI (IntKind.u64.wrap (x_1.length:Int))).bind λr_3=>(bU x_1 0 (x_1.length:Int) r_3).bind λr_5=>(gQ r_5 x_1).bind λ_=>some r_5
def jm (y_2:Int) (k_3:Nat) (x_5:Rect) (s_8:(List Run)):Option (Ctl ((List Run)) (Unit)) :=
  (bif (decide (x_5.Y<=y_2))then some (decide (y_2<(w64 (x_5.Y+x_5.H))))else some false).bind λv_17=>(bif v_17 then (nE s_8 ([(⟨x_5.X,(w64 (x_5.X+x_5.W))⟩:Run)]:List Run)).bind λa_24=>some a_24 else some s_8).bind λv_20=>some (.go v_20)
def gD (k_30:Nat) (x_32:Run) (s_35:(List Run)):Option (Ctl ((List Run)) (Unit)) :=
  (bif (decide ((w64 ((s_35.length:Int)-1))>=0))then (inR (w64 ((s_35.length:Int)-1)) s_35).bind λ_=>(s_35[(0+((w64 ((s_35.length:Int)-1))).toNat)]?).bind λe_48=>some (decide (x_32.f_from<=e_48.f_to))else some false).bind λv_44=>(bif v_44 then (inR (w64 ((s_35.length:Int)-1)) s_35).bind λ_=>(s_35[(0+((w64 ((s_35.length:Int)-1))).toNat)]?).bind λe_55=>(inR (w64 ((s_35.length:Int)-1)) s_35).bind λ_=>(s_35[(0+((w64 ((s_35.length:Int)-1))).toNat)]?).bind λe_58=>some (s_35.set (0+((w64 ((s_35.length:Int)-1))).toNat) (⟨e_58.f_from,(bW e_55.f_to x_32.f_to)⟩:Run))else (nE s_35 ([x_32]:List Run)).bind λa_60=>some a_60).bind λv_50=>some (.go v_50)
noncomputable def fH (l_1:(List Rect)) (y_2:Int):Option ((List Run)) :=
  (forL l_1 ([]:List Run) (λk x s=>jm y_2 k x s)).bind λo_14=>thenC o_14 (λs_8=>(bB s_8).bind λr_27=>(gQ r_27 s_8).bind λ_=>(forL r_27 ([]:List Run) (λk x s=>gD k x s)).bind λo_41=>thenC o_41 (λs_35=>some s_35) (λ_=>none)) (λ_=>none)
def fM (m_2:(List Run)) (x_5:Run) (s_22:Int):Option (Ctl (Int) (Unit)) :=
  (bif (decide (s_22<(m_2.length:Int)))then (idx m_2 s_22).bind λy_30=>some (decide (y_30.f_to<=x_5.f_from))else some false).bind λv_27=>bif v_27 then some (.go (w64 (s_22+1)))else some (.brk s_22)
def eD (m_2:(List Run)) (x_5:Run) (s_38:(List Run)×Int×Int):Option (Ctl ((List Run)×Int×Int) (Unit)) :=
  (bif (decide (s_38.2.1<(m_2.length:Int)))then (idx m_2 s_38.2.1).bind λy_48=>some (decide (y_48.f_from<x_5.f_to))else some false).bind λv_45=>bif v_45 then (idx m_2 s_38.2.1).bind λy_51=>(bif (decide (y_51.f_from>s_38.2.2))then (idx m_2 s_38.2.1).bind λy_57=>(nE s_38.1 ([(⟨s_38.2.2,y_57.f_from⟩:Run)]:List Run)).bind λa_59=>some a_59 else some s_38.1).bind λv_53=>(idx m_2 s_38.2.1).bind λy_62=>some (.go (v_53,(w64 (s_38.2.1+1)),(bW s_38.2.2 y_62.f_to)))else some (.brk (s_38.1,s_38.2.1,s_38.2.2))
noncomputable def iw (m_2:(List Run)) (k_3:Nat) (x_5:Run) (s_8:(List Run)×Int):Option (Ctl ((List Run)×Int) (Unit)) :=
  (jK s_8.2 (λs=>fM m_2 x_5 s)).bind λo_25=>thenC o_25 (λs_22=>(jK (s_8.1,s_22,x_5.f_from) (λs=>eD m_2 x_5 s)).bind λo_43=>thenC o_43 (λs_38=>(bif (decide (s_38.2.2<x_5.f_to))then (nE s_38.1 ([(⟨s_38.2.2,x_5.f_to⟩:Run)]:List Run)).bind λa_68=>some a_68 else some s_38.1).bind λv_64=>some (.go (v_64,s_22))) (λ_=>none)) (λ_=>none)
noncomputable def jP (l_1:(List Run)) (m_2:(List Run)):Option ((List Run)) :=
  (forL l_1 (([]:List Run),0) (λk x s=>iw m_2 k x s)).bind λo_14=>thenC o_14 (λs_8=>some s_8.1) (λ_=>none)
def bG (s2_2:(List Run)) (k_4:Nat) (x_6:Run) (s_9:Unit):Option (Ctl (Unit) (Bool)) :=
  (idx s2_2 (k_4:Int)).bind λy_14=>bif (!((x_6.f_from==y_14.f_from)&&((x_6.f_to==y_14.f_to)&&true)))then some (.ret false)else some (.go ())
def bn (s1_1:(List Run)) (s2_2:(List Run)):Option (Bool) :=
  bif ((s1_1.length:Int) != (s2_2.length:Int))then some false else (forL s1_1 () (λk x s=>bG s2_2 k x s)).bind λo_12=>thenC o_12 (λs_9=>some true) (λr=>some r)
def fZ (k_5:Nat) (x_7:Rect) (s_10:(List Int)):Option (Ctl ((List Int)) (Unit)) :=
  (nE s_10 ([x_7.Y,(w64 (x_7.Y+x_7.H))]:List Int)).bind λa_19=>some (.go a_19)
def dU (s_32:(List Rect)×(List Run)×Int) (x_29:Int) (k_54:Nat) (x_56:Run) (s_59:(List Rect)):Option (Ctl ((List Rect)) (Unit)) :=
  (nE s_59 ([(⟨x_56.f_from,s_32.2.2,(w64 (x_56.f_to-x_56.f_from)),(w64 (x_29-s_32.2.2))⟩:Rect)]:List Rect)).bind λa_67=>some (.go a_67)
noncomputable def dC (r_25:(List Int)) (l_1:(List Rect)) (m_2:(List Rect)) (k_27:Nat) (x_29:Int) (s_32:(List Rect)×(List Run)×Int):Option (Ctl ((List Rect)×(List Run)×Int) (Unit)) :=
  (bif (decide ((w64 ((k_27:Int)+1))<(r_25.length:Int)))then (fH l_1 x_29).bind λr_45=>(fH m_2 x_29).bind λr_47=>(jP r_45 r_47).bind λr_49=>some r_49 else some ([]:List Run)).bind λv_42=>(bn s_32.2.1 v_42).bind λr_51=>bif r_51 then some (.go (s_32.1,s_32.2.1,s_32.2.2))else (forL s_32.2.1 s_32.1 (λk x s=>dU s_32 x_29 k x s)).bind λo_64=>thenC o_64 (λs_59=>some (.go (s_59,v_42,x_29))) (λ_=>none)
noncomputable def dI (l_1:(List Rect)) (m_2:(List Rect)):Option ((List Rect)) :=
  (dw ([l_1,m_2]:List (List Rect))).bind λr_3=>(forL r_3 ([]:List Int) (λk x s=>fZ k x s)).bind λo_16=>thenC o_16 (λs_10=>(dK s_10).bind λr_22=>(gQ r_22 s_10).bind λ_=>(bX r_22).bind λr_25=>(forL r_25 (([]:List Rect),([]:List Run),0) (λk x s=>dC r_25 l_1 m_2 k x s)).bind λo_38=>thenC o_38 (λs_32=>some s_32.1) (λ_=>none)) (λ_=>none)
def w9 (l_1:(List Rect)):Option ((List Rect)×Int) :=
  bif (decide ((l_1.length:Int)>2000))then some (([]:(List Rect)),2)else some (l_1,0)
def jy (k_3:Nat) (x_5:Nat) (s_8:(List Rect)):Option (Ctl ((List Rect)) (Unit)) :=
  (inR (k_3:Int) s_8).bind λ_=>(s_8[(0+((k_3:Int)).toNat)]?).bind λe_14=>some (.go (s_8.set (0+((k_3:Int)).toNat) (⟨0,0,0,0⟩:Rect)))
def fq (l_1:(List Rect)):Option ((List Rect)) :=
  (forL (List.range ((l_1.length:Int)).toNat) l_1 (λk x s=>jy k x s)).bind λo_11=>thenC o_11 (λs_8=>some s_8) (λ_=>none)
def gK (l_1:(List Rect)):Option ((List Rect)×Int) :=
  bif (decide ((l_1.length:Int)>2000))then some (([]:List Rect),2)else some (l_1,0)
noncomputable def lq (l_1:(List Rect)):Option ((List Rect)×Int) :=
  (dX l_1).bind λr_2=>bif (r_2 != 0)then some (([]:List Rect),r_2)else (dI l_1 ([]:List Rect)).bind λr_6=>(gK r_6).bind λr_10=>(GJ r_6 r_10.1).bind λ_=>some (r_10.1,r_10.2)
def fG (l_1:(List Rect)) (m_2:(List Rect)) (k_3:Nat) (x_5:Nat) (s_8:Unit):Option (Ctl (Unit) ((List Rect)×Int)) :=
  (idx ([l_1,m_2]:List (List Rect)) (k_3:Int)).bind λy_13=>(dX y_13).bind λr_15=>bif (r_15 != 0)then some (.ret (([]:(List Rect)),r_15))else some (.go ())
noncomputable def kR (l_1:(List Rect)) (m_2:(List Rect)):Option ((List Rect)×Int) :=
  (forL (List.range (2:Int).toNat) () (λk x s=>fG l_1 m_2 k x s)).bind λo_11=>thenC o_11 (λs_8=>(dI l_1 m_2).bind λr_19=>(gK r_19).bind λr_23=>(GJ r_19 r_23.1).bind λ_=>some (r_23.1,r_23.2)) (λr=>some r)
def jR (s_1:ByteArray) (s_7:Int):Option (Ctl (Int) (Bool)) :=
  bif (decide (s_7<(s_1.size:Int)))then (pg s_1 s_7).bind λb_13=>(bif (decide ((b_13.toNat:Int)>=97))then bif (decide ((b_13.toNat:Int)<=122))then some false else bif (decide (s_7>0))then bif (decide ((b_13.toNat:Int)>=48))then bif (decide ((b_13.toNat:Int)<=57))then some false else bif ((b_13.toNat:Int)==45)then some false else some (!((b_13.toNat:Int)==95))else bif ((b_13.toNat:Int)==45)then some false else some (!((b_13.toNat:Int)==95))else some true else bif (decide (s_7>0))then bif (decide ((b_13.toNat:Int)>=48))then bif (decide ((b_13.toNat:Int)<=57))then some false else bif ((b_13.toNat:Int)==45)then some false else some (!((b_13.toNat:Int)==95))else bif ((b_13.toNat:Int)==45)then some false else some (!((b_13.toNat:Int)==95))else some true).bind λv_15=>bif v_15 then some (.ret false)else some (.go (w64 (s_7+1)))else some (.brk s_7)
noncomputable def eG (s_1:ByteArray):Option (Bool) :=
  (jK 0 (λs=>jR s_1 s)).bind λo_10=>thenC o_10 (λs_7=>(bif (sNe s_1 (⟨#[]⟩:ByteArray))then some (decide ((s_1.size:Int)<=40))else some false).bind λv_30=>some v_30) (λr=>some r)
def nK (n_1:Int):Option (Bool) :=
  (aQ n_1 1 20000).bind λr_2=>some (!r_2)
def jT (k_2:Nat) (x_4:Int) (s_7:Unit):Option (Ctl (Unit) (Int)) :=
  (nK x_4).bind λr_12=>bif (!r_12)then some (.ret 1)else some (.go ())
def iE (l_1:(List Int)):Option (Int) :=
  (forL l_1 () (λk x s=>jT k x s)).bind λo_10=>thenC o_10 (λs_7=>some 0) (λr=>some r)
def lJ (r_1:Rect) (wv_2:Int) (h_3:Int):Option (Bool) :=
  (bif (decide (r_1.X>=0))then bif (decide (r_1.Y>=0))then bif (decide ((w64 (r_1.X+r_1.W))<=wv_2))then some (decide ((w64 (r_1.Y+r_1.H))<=h_3))else some false else some false else some false).bind λv_5=>some v_5
def kW (a_1:Rect) (b_2:Rect):Option (Rect×Bool) :=
  (bif (decide ((w64 ((fD (w64 (a_1.X+a_1.W)) (w64 (b_2.X+b_2.W)))-(bW a_1.X b_2.X)))<=0))then some true else some (decide ((w64 ((fD (w64 (a_1.Y+a_1.H)) (w64 (b_2.Y+b_2.H)))-(bW a_1.Y b_2.Y)))<=0))).bind λv_6=>bif v_6 then some ((⟨0,0,0,0⟩:Rect),false)else some ((⟨(bW a_1.X b_2.X),(bW a_1.Y b_2.Y),(w64 ((fD (w64 (a_1.X+a_1.W)) (w64 (b_2.X+b_2.W)))-(bW a_1.X b_2.X))),(w64 ((fD (w64 (a_1.Y+a_1.H)) (w64 (b_2.Y+b_2.H)))-(bW a_1.Y b_2.Y)))⟩:Rect),true)
noncomputable def iO (wv_1:Wall) (k_10:Nat) (x_12:Screen) (s_15:Unit):Option (Ctl (Unit) (Int)) :=
  (eG x_12.Key).bind λr_21=>bif (!r_21)then some (.ret 5)else (fV x_12.On).bind λr_24=>bif (r_24 != 0)then some (.ret r_24)else (lJ x_12.On wv_1.W wv_1.H).bind λr_27=>bif (!r_27)then some (.ret 3)else (bif (decide ((k_10:Int)>0))then (idx wv_1.Screens (w64 ((k_10:Int)-1))).bind λy_33=>some (sLe x_12.Key y_33.Key)else some false).bind λv_30=>bif v_30 then some (.ret 7)else some (.go ())
def dn (x_38:Screen) (k_49:Nat) (x_51:Screen) (s_54:Unit):Option (Ctl (Unit) (Int)) :=
  (kW x_38.On x_51.On).bind λr_60=>bif r_60.2 then some (.ret 13)else some (.go ())
def bH (wv_1:Wall) (k_36:Nat) (x_38:Screen) (s_41:Unit):Option (Ctl (Unit) (Int)) :=
  (FC wv_1.Screens 0 (k_36:Int)).bind λy_47=>(forL y_47 () (λk x s=>dn x_38 k x s)).bind λo_57=>thenC o_57 (λs_54=>some (.go ())) (λr=>some (.ret r))
noncomputable def dJ (wv_1:Wall):Option (Int) :=
  (eG wv_1.Key).bind λr_3=>bif (!r_3)then some 5 else (iE ([wv_1.W,wv_1.H]:List Int)).bind λr_6=>bif (r_6 != 0)then some r_6 else bif (decide ((wv_1.Screens.length:Int)>50))then some 2 else (forL wv_1.Screens () (λk x s=>iO wv_1 k x s)).bind λo_18=>thenC o_18 (λs_15=>(forL wv_1.Screens () (λk x s=>bH wv_1 k x s)).bind λo_44=>thenC o_44 (λs_41=>some 0) (λr=>some r)) (λr=>some r)
def qc (k_3:Nat) (x_5:Screen) (s_8:(List Rect)):Option (Ctl ((List Rect)) (Unit)) :=
  (nE s_8 ([x_5.On]:List Rect)).bind λa_17=>some (.go a_17)
def sD (wv_1:Wall):Option ((List Rect)) :=
  (forL wv_1.Screens ([]:List Rect) (λk x s=>qc k x s)).bind λo_14=>thenC o_14 (λs_8=>some s_8) (λ_=>none)
noncomputable def nD (wv_1:Wall):Option ((List Rect)×Int) :=
  (dJ wv_1).bind λr_3=>bif (r_3 != 0)then some (([]:List Rect),r_3)else (sD wv_1).bind λr_7=>(dI ([(⟨0,0,wv_1.W,wv_1.H⟩:Rect)]:List Rect) r_7).bind λr_9=>(gK r_9).bind λr_12=>(GJ r_9 r_12.1).bind λ_=>some (r_12.1,r_12.2)
noncomputable def gN (l_1:Layout) (k_10:Nat) (x_12:Zone) (s_15:Unit):Option (Ctl (Unit) (Int)) :=
  (eG x_12.Key).bind λr_21=>bif (!r_21)then some (.ret 5)else (fV x_12.On).bind λr_24=>bif (r_24 != 0)then some (.ret r_24)else (lJ x_12.On l_1.W l_1.H).bind λr_27=>bif (!r_27)then some (.ret 3)else (aQ x_12.Order 0 1000).bind λr_30=>bif r_30 then some (.ret 1)else (bif (decide ((k_10:Int)>0))then (idx l_1.Zones (w64 ((k_10:Int)-1))).bind λy_36=>some (sLe x_12.Key y_36.Key)else some false).bind λv_33=>bif v_33 then some (.ret 7)else some (.go ())
noncomputable def eZ (l_1:Layout):Option (Int) :=
  (eG l_1.Key).bind λr_3=>bif (!r_3)then some 5 else (iE ([l_1.W,l_1.H]:List Int)).bind λr_6=>bif (r_6 != 0)then some r_6 else bif (decide ((l_1.Zones.length:Int)>30))then some 2 else (forL l_1.Zones () (λk x s=>gN l_1 k x s)).bind λo_18=>thenC o_18 (λs_15=>some 0) (λr=>some r)
def nC (l_1:(List Zone)) (i_2:Int) (k_3:Int):Option (Bool) :=
  ((idx l_1 i_2).bind λy_6=>(idx l_1 k_3).bind λy_8=>bif (decide (y_6.Order>y_8.Order))then some true else (idx l_1 i_2).bind λy_11=>(idx l_1 k_3).bind λy_13=>bif (y_11.Order==y_13.Order)then some (decide (i_2>k_3))else some false).bind λv_4=>some v_4
def iZ (l_1:Layout) (k_2:Int) (k_4:Nat) (x_6:Zone) (s_9:(List Rect)):Option (Ctl ((List Rect)) (Unit)) :=
  (nC l_1.Zones (k_4:Int) k_2).bind λr_18=>(bif r_18 then (nE s_9 ([x_6.On]:List Rect)).bind λa_24=>some a_24 else some s_9).bind λv_20=>some (.go v_20)
noncomputable def gY (l_1:Layout) (k_2:Int):Option ((List Rect)) :=
  (forL l_1.Zones ([]:List Rect) (λk x s=>iZ l_1 k_2 k x s)).bind λo_15=>thenC o_15 (λs_9=>(idx l_1.Zones k_2).bind λy_27=>(dI ([y_27.On]:List Rect) s_9).bind λr_29=>some r_29) (λ_=>none)
def kv (x_5:Zone) (k_19:Nat) (x_21:Rect) (s_24:(List Piece)):Option (Ctl ((List Piece)) (Unit)) :=
  (nE s_24 ([(⟨x_5.Key,x_21⟩:Piece)]:List Piece)).bind λa_32=>some (.go a_32)
noncomputable def ig (l_1:Layout) (k_3:Nat) (x_5:Zone) (s_8:(List Piece)):Option (Ctl ((List Piece)) (Unit)) :=
  (gY l_1 (k_3:Int)).bind λr_17=>(forL r_17 s_8 (λk x s=>kv x_5 k x s)).bind λo_29=>thenC o_29 (λs_24=>some (.go s_24)) (λ_=>none)
noncomputable def jM (l_1:Layout):Option ((List Piece)×Int) :=
  (forL l_1.Zones ([]:List Piece) (λk x s=>ig l_1 k x s)).bind λo_14=>thenC o_14 (λs_8=>bif (decide ((s_8.length:Int)>2000))then some (([]:(List Piece)),2)else some (s_8,0)) (λ_=>none)
noncomputable def qp (l_1:Layout):Option ((List Piece)×Int) :=
  (eZ l_1).bind λr_3=>bif (r_3 != 0)then some (([]:(List Piece)),r_3)else (jM l_1).bind λr_6=>some (r_6.1,r_6.2)
def ji (k_3:Nat) (x_5:Nat) (s_8:(List Piece)):Option (Ctl ((List Piece)) (Unit)) :=
  (inR (k_3:Int) s_8).bind λ_=>(s_8[(0+((k_3:Int)).toNat)]?).bind λe_14=>some (.go (s_8.set (0+((k_3:Int)).toNat) (⟨(⟨#[]⟩:ByteArray),(⟨0,0,0,0⟩:Rect)⟩:Piece)))
def iB (l_1:(List Piece)):Option ((List Piece)) :=
  (forL (List.range ((l_1.length:Int)).toNat) l_1 (λk x s=>ji k x s)).bind λo_11=>thenC o_11 (λs_8=>some s_8) (λ_=>none)
def lh (r_1:Rect) (wv_2:Int) (h_3:Int) (toW_4:Int) (toH_5:Int):Option (Rect) :=
  (BL .i64 (w64 (r_1.X*toW_4)) wv_2).bind λq_8=>(BL .i64 (w64 (r_1.Y*toH_5)) h_3).bind λq_10=>(BL .i64 (w64 ((w64 (r_1.X+r_1.W))*toW_4)) wv_2).bind λq_12=>(BL .i64 (w64 ((w64 (r_1.Y+r_1.H))*toH_5)) h_3).bind λq_14=>(bif ((w64 (q_12-q_8))==0)then some true else some ((w64 (q_14-q_10))==0)).bind λv_17=>bif v_17 then some (⟨0,0,0,0⟩:Rect)else some (⟨q_8,q_10,(w64 (q_12-q_8)),(w64 (q_14-q_10))⟩:Rect)
def iW (l_2:Layout) (wv_1:Wall) (k_14:Nat) (x_16:Piece) (s_19:(List Piece)):Option (Ctl ((List Piece)) (Unit)) :=
  (lh x_16.On l_2.W l_2.H wv_1.W wv_1.H).bind λr_28=>(bif (decide (r_28.W>0))then (nE s_19 ([(⟨x_16.Zone,r_28⟩:Piece)]:List Piece)).bind λa_35=>some a_35 else some s_19).bind λv_31=>some (.go v_31)
noncomputable def nz (wv_1:Wall) (l_2:Layout):Option ((List Piece)×Int) :=
  (dJ wv_1).bind λr_5=>bif (r_5 != 0)then some (([]:(List Piece)),r_5)else (eZ l_2).bind λr_8=>bif (r_8 != 0)then some (([]:(List Piece)),r_8)else (jM l_2).bind λr_11=>bif (r_11.2 != 0)then some (([]:(List Piece)),r_11.2)else (forL r_11.1 ([]:List Piece) (λk x s=>iW l_2 wv_1 k x s)).bind λo_25=>thenC o_25 (λs_19=>some (s_19,0)) (λ_=>none)
def rG (r_1:Rect) (byv_2:Rect):Option (Rect) :=
  some (⟨(w64 (r_1.X-byv_2.X)),(w64 (r_1.Y-byv_2.Y)),r_1.W,r_1.H⟩:Rect)
def jF (x_10:Screen) (k_22:Nat) (x_24:Piece) (s_27:(List View)):Option (Ctl ((List View)) (Unit)) :=
  (kW x_10.On x_24.On).bind λr_35=>(bif r_35.2 then (rG r_35.1 x_10.On).bind λr_42=>(nE s_27 ([(⟨x_10.Key,x_24.Zone,r_42⟩:View)]:List View)).bind λa_44=>some a_44 else some s_27).bind λv_38=>some (.go v_38)
def nQ (r_5:(List Piece)×Int) (k_8:Nat) (x_10:Screen) (s_13:(List View)):Option (Ctl ((List View)) (Unit)) :=
  (forL r_5.1 s_13 (λk x s=>jF x_10 k x s)).bind λo_32=>thenC o_32 (λs_27=>some (.go s_27)) (λ_=>none)
noncomputable def mP (wv_1:Wall) (l_2:Layout):Option ((List View)×Int) :=
  (nz wv_1 l_2).bind λr_5=>bif (r_5.2 != 0)then some (([]:(List View)),r_5.2)else (forL wv_1.Screens ([]:List View) (λk x s=>nQ r_5 k x s)).bind λo_19=>thenC o_19 (λs_13=>some (s_13,0)) (λ_=>none)
def jw (k_3:Nat) (x_5:Nat) (s_8:(List View)):Option (Ctl ((List View)) (Unit)) :=
  (inR (k_3:Int) s_8).bind λ_=>(s_8[(0+((k_3:Int)).toNat)]?).bind λe_14=>some (.go (s_8.set (0+((k_3:Int)).toNat) (⟨(⟨#[]⟩:ByteArray),(⟨#[]⟩:ByteArray),(⟨0,0,0,0⟩:Rect)⟩:View)))
def iT (l_1:(List View)):Option ((List View)) :=
  (forL (List.range ((l_1.length:Int)).toNat) l_1 (λk x s=>jw k x s)).bind λo_11=>thenC o_11 (λs_8=>some s_8) (λ_=>none)
def cO (s2_2:(List Rect)) (k_4:Nat) (x_6:Rect) (s_9:Unit):Option (Ctl (Unit) (Bool)) :=
  (idx s2_2 (k_4:Int)).bind λy_14=>bif (!((x_6.X==y_14.X)&&((x_6.Y==y_14.Y)&&((x_6.W==y_14.W)&&((x_6.H==y_14.H)&&true)))))then some (.ret false)else some (.go ())
def dW (s1_1:(List Rect)) (s2_2:(List Rect)):Option (Bool) :=
  bif ((s1_1.length:Int) != (s2_2.length:Int))then some false else (forL s1_1 () (λk x s=>cO s2_2 k x s)).bind λo_12=>thenC o_12 (λs_9=>some true) (λr=>some r)
def bQ (s2_2:(List Screen)) (k_4:Nat) (x_6:Screen) (s_9:Unit):Option (Ctl (Unit) (Bool)) :=
  (idx s2_2 (k_4:Int)).bind λy_14=>bif (!((x_6.Key.toList==y_14.Key.toList)&&(((x_6.On.X==y_14.On.X)&&((x_6.On.Y==y_14.On.Y)&&((x_6.On.W==y_14.On.W)&&((x_6.On.H==y_14.On.H)&&true))))&&true)))then some (.ret false)else some (.go ())
def dG (s1_1:(List Screen)) (s2_2:(List Screen)):Option (Bool) :=
  bif ((s1_1.length:Int) != (s2_2.length:Int))then some false else (forL s1_1 () (λk x s=>bQ s2_2 k x s)).bind λo_12=>thenC o_12 (λs_9=>some true) (λr=>some r)
def cK (s2_2:(List Zone)) (k_4:Nat) (x_6:Zone) (s_9:Unit):Option (Ctl (Unit) (Bool)) :=
  (idx s2_2 (k_4:Int)).bind λy_14=>bif (!((x_6.Key.toList==y_14.Key.toList)&&(((x_6.On.X==y_14.On.X)&&((x_6.On.Y==y_14.On.Y)&&((x_6.On.W==y_14.On.W)&&((x_6.On.H==y_14.On.H)&&true))))&&((x_6.Order==y_14.Order)&&true))))then some (.ret false)else some (.go ())
def dR (s1_1:(List Zone)) (s2_2:(List Zone)):Option (Bool) :=
  bif ((s1_1.length:Int) != (s2_2.length:Int))then some false else (forL s1_1 () (λk x s=>cK s2_2 k x s)).bind λo_12=>thenC o_12 (λs_9=>some true) (λr=>some r)
def l7 (a_1:Layout) (b_2:Layout):Option (Bool) :=
  (bif (sEq a_1.Key b_2.Key)then bif (a_1.W==b_2.W)then bif (a_1.H==b_2.H)then (dR a_1.Zones b_2.Zones).bind λr_10=>some r_10 else some false else some false else some false).bind λv_5=>some v_5
def sw (k_2:Nat) (x_4:Rect) (s_7:Int):Option (Ctl (Int) (Unit)) :=
  some (.go (w64 (s_7+(w64 (x_4.W*x_4.H)))))
def tX (l_1:(List Rect)):Option (Int) :=
  (forL l_1 0 (λk x s=>sw k x s)).bind λo_10=>thenC o_10 (λs_7=>some s_7) (λ_=>none)
noncomputable def qA (l_1:(List Rect)):Option (Int×Int) :=
  (dX l_1).bind λr_2=>bif (r_2 != 0)then some (0,r_2)else (dI l_1 ([]:List Rect)).bind λr_5=>(tX r_5).bind λr_7=>some (r_7,0)
def Bh (n_1:Int):Option (Bool) :=
  (bif (decide (n_1>=0))then some (decide (n_1<=4000))else some false).bind λv_2=>some v_2
def kw (l_1:(List Int)) (k_3:Nat) (x_5:Int) (s_8:Unit):Option (Ctl (Unit) (Int)) :=
  (Bh x_5).bind λr_13=>bif (!r_13)then some (.ret 1)else (bif (decide ((k_3:Int)>0))then (idx l_1 (w64 ((k_3:Int)-1))).bind λy_19=>some (decide (x_5<=y_19))else some false).bind λv_16=>bif v_16 then some (.ret 7)else some (.go ())
def jU (l_1:(List Int)):Option (Int) :=
  bif (decide ((l_1.length:Int)>100))then some 2 else (forL l_1 () (λk x s=>kw l_1 k x s)).bind λo_11=>thenC o_11 (λs_8=>some 0) (λr=>some r)
noncomputable def jk (l_1:(List ByteArray)) (k_2:Nat) (x_4:ByteArray) (s_7:Unit):Option (Ctl (Unit) (Int)) :=
  (eG x_4).bind λr_12=>bif (!r_12)then some (.ret 5)else (bif (decide ((k_2:Int)>0))then (idx l_1 (w64 ((k_2:Int)-1))).bind λy_18=>some (sLe x_4 y_18)else some false).bind λv_15=>bif v_15 then some (.ret 7)else some (.go ())
noncomputable def jE (l_1:(List ByteArray)):Option (Int) :=
  (forL l_1 () (λk x s=>jk l_1 k x s)).bind λo_10=>thenC o_10 (λs_7=>some 0) (λr=>some r)
noncomputable def jl (l_1:(List ByteArray)):Option (Int) :=
  bif (decide ((l_1.length:Int)>20))then some 2 else (jE l_1).bind λr_3=>some r_3
noncomputable def iR (e_1:Entry):Option (Int) :=
  ((eG e_1.Key).bind λr_5=>bif (!r_5)then some true else (eG e_1.Item).bind λr_8=>some (!r_8)).bind λv_3=>bif v_3 then some 5 else ((aQ e_1.Version 0 1000000).bind λr_13=>bif r_13 then some true else (aQ e_1.First 0 e_1.Last).bind λr_16=>bif r_16 then some true else bif (decide (e_1.Last>4000))then some true else (aQ e_1.Every 1 400).bind λr_20=>bif r_20 then some true else (aQ e_1.Days 1 127).bind λr_23=>some r_23).bind λv_11=>bif v_11 then some 1 else (jU e_1.Except).bind λr_26=>bif (r_26 != 0)then some r_26 else ((aQ e_1.From 0 1439).bind λr_31=>bif r_31 then some true else (aQ e_1.To 0 1439).bind λr_34=>bif r_34 then some true else (aQ e_1.Prio 0 9).bind λr_37=>some r_37).bind λv_29=>bif v_29 then some 1 else (jl e_1.Tags).bind λr_40=>some r_40
noncomputable def fQ (l_1:(List Entry)) (k_3:Nat) (x_5:Entry) (s_8:Unit):Option (Ctl (Unit) (Int)) :=
  (iR x_5).bind λr_14=>bif (r_14 != 0)then some (.ret r_14)else (bif (decide ((k_3:Int)>0))then (idx l_1 (w64 ((k_3:Int)-1))).bind λy_20=>some (sLe x_5.Key y_20.Key)else some false).bind λv_17=>bif v_17 then some (.ret 7)else some (.go ())
noncomputable def gU (l_1:(List Entry)):Option (Int) :=
  bif (decide ((l_1.length:Int)>200))then some 2 else (forL l_1 () (λk x s=>fQ l_1 k x s)).bind λo_11=>thenC o_11 (λs_8=>some 0) (λr=>some r)
def jJ (wv_1:Window):Option (Int) :=
  ((aQ wv_1.From 0 wv_1.To).bind λr_5=>bif r_5 then some true else some (decide (wv_1.To>345686400000))).bind λv_3=>bif v_3 then some 1 else bif (decide ((w64 (wv_1.To-wv_1.From))>34560000000))then some 2 else some 0
def cmp_isNaN_int (x_1:Int):Option (Bool) :=
  some (x_1 != x_1)
def cmp_Less_int (x_1:Int) (y_2:Int):Option (Bool) :=
  ((cmp_isNaN_int x_1).bind λr_5=>bif r_5 then (cmp_isNaN_int y_2).bind λr_8=>bif (!r_8)then some true else some (decide (x_1<y_2))else some (decide (x_1<y_2))).bind λv_3=>some v_3
def iX (x_1:Int):Option (Bool) :=
  some (x_1 != x_1)
def fA (x_1:(List Int)) (target_2:Int) (s_8:Int×Int):Option (Ctl (Int×Int) (Unit)) :=
  bif (decide (s_8.1<s_8.2))then (M4 .u64 (IntKind.u64.wrap (w64 (s_8.1+s_8.2))) 1).bind λq_14=>(idx x_1 (w64 q_14)).bind λy_16=>(cmp_Less_int y_16 target_2).bind λr_18=>bif r_18 then some (.go ((w64 ((w64 q_14)+1)),s_8.2))else some (.go (s_8.1,(w64 q_14)))else some (.brk (s_8.1,s_8.2))
noncomputable def eQ (x_1:(List Int)) (target_2:Int):Option (Int×Bool) :=
  (jK (0,(x_1.length:Int)) (λs=>fA x_1 target_2 s)).bind λo_11=>thenC o_11 (λs_8=>(bif (decide (s_8.1<(x_1.length:Int)))then (idx x_1 s_8.1).bind λy_24=>bif (y_24==target_2)then some true else (idx x_1 s_8.1).bind λy_27=>(iX y_27).bind λr_29=>bif r_29 then (iX target_2).bind λr_32=>some r_32 else some false else some false).bind λv_21=>some (s_8.1,v_21)) (λ_=>none)
noncomputable def mh (e_1:Entry) (d_2:Int):Option (Bool) :=
  ((aQ d_2 e_1.First e_1.Last).bind λr_6=>bif r_6 then some true else (Jk .i64 (w64 (d_2-e_1.First)) e_1.Every).bind λq_9=>bif (q_9 != 0)then some true else (EM .i64 1 (d_2.tmod 7)).bind λq_12=>some ((vX .i64 e_1.Days q_12)==0)).bind λv_4=>bif v_4 then some false else (eQ e_1.Except d_2).bind λr_15=>some (!r_15.2)
def nO (e_1:Entry) (zone_2:Int) (d_3:Int):Option (Window) :=
  (bif (decide ((w64 (e_1.To-e_1.From))<=0))then some (w64 ((w64 (e_1.To-e_1.From))+1440))else some (w64 (e_1.To-e_1.From))).bind λv_6=>some (⟨(w64 ((w64 ((w64 ((w64 (d_3*1440))+e_1.From))-zone_2))*60000)),(w64 ((w64 ((w64 ((w64 ((w64 (d_3*1440))+e_1.From))-zone_2))*60000))+(w64 (v_6*60000))))⟩:Window)
noncomputable def jL (wv_3:Window) (zone_2:Int) (e_1:Entry) (s_15:(List Window)×Int):Option (Ctl ((List Window)×Int) (Unit)) :=
  bif (decide (s_15.2<=(fD (w64 ((w64 ((w64 (wv_3.To+(w64 (zone_2*60000)))).tdiv 86400000))+1)) e_1.Last)))then (mh e_1 s_15.2).bind λr_24=>bif (!r_24)then some (.go (s_15.1,(w64 (s_15.2+1))))else (nO e_1 zone_2 s_15.2).bind λr_27=>(bif (decide (r_27.From<wv_3.To))then some (decide (r_27.To>wv_3.From))else some false).bind λv_30=>(bif v_30 then (nE s_15.1 ([r_27]:List Window)).bind λa_37=>some a_37 else some s_15.1).bind λv_33=>some (.go (v_33,(w64 (s_15.2+1))))else some (.brk (s_15.1,s_15.2))
noncomputable def mr (e_1:Entry) (zone_2:Int) (wv_3:Window):Option ((List Window)) :=
  (bif e_1.Gone then some true else some (decide (wv_3.From>=wv_3.To))).bind λv_6=>bif v_6 then some ([]:(List Window))else (jK (([]:List Window),(bW (w64 ((w64 ((w64 (wv_3.From+(w64 (zone_2*60000)))).tdiv 86400000))-2)) e_1.First)) (λs=>jL wv_3 zone_2 e_1 s)).bind λo_21=>thenC o_21 (λs_15=>some s_15.1) (λ_=>none)
def wF (t_1:Window) (wv_2:Window):Option (Window) :=
  some (⟨(bW t_1.From wv_2.From),(fD t_1.To wv_2.To)⟩:Window)
def lV (wv_3:Window) (k_19:Nat) (x_21:Nat) (s_24:(List Window)):Option (Ctl ((List Window)) (Unit)) :=
  (inR (k_19:Int) s_24).bind λ_=>(s_24[(0+((k_19:Int)).toNat)]?).bind λe_30=>(wF e_30 wv_3).bind λr_33=>(inR (k_19:Int) s_24).bind λ_=>(s_24[(0+((k_19:Int)).toNat)]?).bind λe_36=>some (.go (s_24.set (0+((k_19:Int)).toNat) r_33))
noncomputable def l6 (e_1:Entry) (zone_2:Int) (wv_3:Window):Option ((List Window)×Int) :=
  (gU ([e_1]:List Entry)).bind λr_6=>bif (r_6 != 0)then some (([]:(List Window)),r_6)else (aQ zone_2 (-1440) 1440).bind λr_9=>bif r_9 then some (([]:(List Window)),1)else (jJ wv_3).bind λr_12=>bif (r_12 != 0)then some (([]:(List Window)),r_12)else (mr e_1 zone_2 wv_3).bind λr_15=>(forL (List.range ((r_15.length:Int)).toNat) r_15 (λk x s=>lV wv_3 k x s)).bind λo_27=>thenC o_27 (λs_24=>some (s_24,0)) (λ_=>none)
def o5 (wv_1:Window):Option (Bool) :=
  (bif (decide (wv_1.From>=0))then bif (decide (wv_1.From<wv_1.To))then some (decide (wv_1.To<=345686400000))else some false else some false).bind λv_3=>some v_3
noncomputable def jW (l_1:(List ByteArray)):Option (Int) :=
  bif (decide ((l_1.length:Int)>20))then some 2 else (jE l_1).bind λr_3=>some r_3
noncomputable def fB (l_1:(List Campaign)) (k_3:Nat) (x_5:Campaign) (s_8:Unit):Option (Ctl (Unit) (Int)) :=
  ((eG x_5.Key).bind λr_16=>bif (!r_16)then some true else bif (sNe x_5.Class (⟨#[]⟩:ByteArray))then (eG x_5.Class).bind λr_20=>some (!r_20)else some false).bind λv_14=>bif v_14 then some (.ret 5)else (bif (decide ((k_3:Int)>0))then (idx l_1 (w64 ((k_3:Int)-1))).bind λy_26=>some (sLe x_5.Key y_26.Key)else some false).bind λv_23=>bif v_23 then some (.ret 7)else ((o5 x_5.Time).bind λr_31=>bif (!r_31)then some true else (aQ x_5.Goal 0 1000000).bind λr_34=>bif r_34 then some true else (aQ x_5.Most 0 1000000).bind λr_37=>bif r_37 then some true else (aQ x_5.Cents 0 1000000000).bind λr_40=>some r_40).bind λv_29=>bif v_29 then some (.ret 1)else (jW x_5.Tags).bind λr_43=>bif (r_43 != 0)then some (.ret r_43)else some (.go ())
noncomputable def gH (l_1:(List Campaign)):Option (Int) :=
  bif (decide ((l_1.length:Int)>30))then some 2 else (forL l_1 () (λk x s=>fB l_1 k x s)).bind λo_11=>thenC o_11 (λs_8=>some 0) (λr=>some r)
def dQ (n_1:Int):Option (Bool) :=
  (bif (decide (n_1>=0))then some (decide (n_1<345686400000))else some false).bind λv_2=>some v_2
def uj (c_1:Campaign) (atv_2:Int):Option (Int) :=
  bif (decide (atv_2<c_1.Time.From))then some 0 else bif (decide (atv_2>=c_1.Time.To))then some c_1.Goal else (BL .i64 (w64 (c_1.Goal*(w64 (atv_2-c_1.Time.From)))) (w64 (c_1.Time.To-c_1.Time.From))).bind λq_6=>some q_6
noncomputable def qm (c_1:Campaign) (atv_2:Int):Option (Int×Int) :=
  (gH ([c_1]:List Campaign)).bind λr_4=>bif (r_4 != 0)then some (0,r_4)else (dQ atv_2).bind λr_7=>bif (!r_7)then some (0,1)else (uj c_1 atv_2).bind λr_10=>some (r_10,0)
def gX (a_1:ByteArray) (b_2:ByteArray):Option (Int) :=
  some (OW a_1 b_2)
def strings_Compare (a_1:ByteArray) (b_2:ByteArray):Option (Int) :=
  (gX a_1 b_2).bind λr_3=>some r_3
def cmp_Compare_int (x_1:Int) (y_2:Int):Option (Int) :=
  (cmp_isNaN_int x_1).bind λr_3=>(cmp_isNaN_int y_2).bind λr_5=>bif r_3 then bif r_5 then some 0 else some (-1)else bif r_5 then some 1 else bif (decide (x_1<y_2))then some (-1)else bif (decide (x_1>y_2))then some 1 else some 0
def uA (k_2:Nat) (x_4:Int) (s_7:Unit):Option (Ctl (Unit) (Int)) :=
  bif (x_4 != 0)then some (.ret x_4)else some (.go ())
def vP (vals_1:(List Int)):Option (Int) :=
  (forL vals_1 () (λk x s=>uA k x s)).bind λo_10=>thenC o_10 (λs_7=>some 0) (λr=>some r)
def lc (a_1:Beat) (b_2:Beat):Option (Int) :=
  (strings_Compare a_1.Player b_2.Player).bind λr_5=>(cmp_Compare_int a_1.At b_2.At).bind λr_7=>(vP ([r_5,r_7]:List Int)).bind λr_9=>some r_9
noncomputable def iP (l_1:(List Beat)) (k_3:Nat) (x_5:Beat) (s_8:Unit):Option (Ctl (Unit) (Int)) :=
  (eG x_5.Player).bind λr_14=>bif (!r_14)then some (.ret 5)else ((dQ x_5.At).bind λr_19=>bif (!r_19)then some true else (aQ x_5.Clock 0 345686399999).bind λr_22=>some r_22).bind λv_17=>bif v_17 then some (.ret 1)else (bif (decide ((k_3:Int)>0))then (idx l_1 (w64 ((k_3:Int)-1))).bind λy_28=>(lc y_28 x_5).bind λr_30=>some (decide (r_30>=0))else some false).bind λv_25=>bif v_25 then some (.ret 7)else (bif (decide ((k_3:Int)>0))then (idx l_1 (w64 ((k_3:Int)-1))).bind λy_36=>bif (sEq x_5.Player y_36.Player)then (idx l_1 (w64 ((k_3:Int)-1))).bind λy_39=>some (decide (x_5.Clock<=y_39.Clock))else some false else some false).bind λv_33=>bif v_33 then some (.ret 16)else some (.go ())
noncomputable def kI (l_1:(List Beat)):Option (Int) :=
  bif (decide ((l_1.length:Int)>500))then some 2 else (forL l_1 () (λk x s=>iP l_1 k x s)).bind λo_11=>thenC o_11 (λs_8=>some 0) (λr=>some r)
def pV (player_2:ByteArray) (back_3:Bool) (k_4:Nat) (x_6:Beat) (s_9:(List Beat_)):Option (Ctl ((List Beat_)) (Unit)) :=
  (bif (sNe x_6.Player player_2)then some s_9 else bif back_3 then (nE s_9 ([(⟨x_6.At,x_6.Clock⟩:Beat_)]:List Beat_)).bind λa_23=>some a_23 else (nE s_9 ([(⟨x_6.Clock,x_6.At⟩:Beat_)]:List Beat_)).bind λa_26=>some a_26).bind λv_18=>some (.go v_18)
def ql (l_1:(List Beat)) (player_2:ByteArray) (back_3:Bool):Option ((List Beat_)) :=
  (forL l_1 ([]:List Beat_) (λk x s=>pV player_2 back_3 k x s)).bind λo_15=>thenC o_15 (λs_9=>some s_9) (λ_=>none)
def nR (l_1:(List Beat_)) (n_2:Int) (s_9:Int):Option (Ctl (Int) (Unit)) :=
  (bif (decide (s_9<(l_1.length:Int)))then (idx l_1 s_9).bind λy_17=>some (decide (y_17.f_from<=n_2))else some false).bind λv_14=>bif v_14 then some (.go (w64 (s_9+1)))else some (.brk s_9)
noncomputable def oG (l_1:(List Beat_)) (n_2:Int):Option (Int×Int) :=
  bif ((l_1.length:Int)==0)then some (0,8)else (jK 0 (λs=>nR l_1 n_2 s)).bind λo_12=>thenC o_12 (λs_9=>bif (s_9==0)then (idx l_1 0).bind λy_21=>(idx l_1 0).bind λy_23=>(dQ (w64 (y_21.f_to-(w64 (y_23.f_from-n_2))))).bind λr_25=>bif (!r_25)then some (0,11)else some ((w64 (y_21.f_to-(w64 (y_23.f_from-n_2)))),0)else bif (s_9==(l_1.length:Int))then (idx l_1 (w64 (s_9-1))).bind λy_29=>(idx l_1 (w64 (s_9-1))).bind λy_31=>(dQ (w64 ((w64 (y_29.f_to+n_2))-y_31.f_from))).bind λr_33=>bif (!r_33)then some (0,11)else some ((w64 ((w64 (y_29.f_to+n_2))-y_31.f_from)),0)else (idx l_1 (w64 (s_9-1))).bind λy_36=>(idx l_1 s_9).bind λy_38=>(bif (decide ((w64 (y_38.f_from-y_36.f_from))>2592000000))then some true else some (decide ((w64 (y_38.f_to-y_36.f_to))>2592000000))).bind λv_42=>bif v_42 then some (0,2)else (BL .i64 (w64 ((w64 (n_2-y_36.f_from))*(w64 (y_38.f_to-y_36.f_to)))) (w64 (y_38.f_from-y_36.f_from))).bind λq_46=>(dQ (w64 (y_36.f_to+q_46))).bind λr_48=>bif (!r_48)then some (0,11)else some ((w64 (y_36.f_to+q_46)),0)) (λ_=>none)
noncomputable def qy (l_1:(List Beat)) (player_2:ByteArray) (n_3:Int) (back_4:Bool):Option (Int×Int) :=
  (kI l_1).bind λr_5=>bif (r_5 != 0)then some (0,r_5)else (eG player_2).bind λr_8=>bif (!r_8)then some (0,5)else (dQ n_3).bind λr_11=>bif (!r_11)then some (0,1)else (ql l_1 player_2 back_4).bind λr_14=>(oG r_14 n_3).bind λr_16=>some (r_16.1,r_16.2)
noncomputable def qB (l_1:(List Beat)) (player_2:ByteArray) (clock_3:Int):Option (Int×Int) :=
  (qy l_1 player_2 clock_3 false).bind λr_4=>some (r_4.1,r_4.2)
noncomputable def je (a_1:Alert) (k_4:Nat) (x_6:ByteArray) (s_9:Unit):Option (Ctl (Unit) (Int)) :=
  (eG x_6).bind λr_14=>bif (!r_14)then some (.ret 5)else (bif (decide ((k_4:Int)>0))then (idx a_1.Refs (w64 ((k_4:Int)-1))).bind λy_20=>some (sLe x_6 y_20)else some false).bind λv_17=>bif v_17 then some (.ret 7)else bif (sEq x_6 a_1.Id)then some (.ret 14)else some (.go ())
noncomputable def lH (a_1:Alert):Option (Int) :=
  bif (decide ((a_1.Refs.length:Int)>20))then some 2 else (forL a_1.Refs () (λk x s=>je a_1 k x s)).bind λo_12=>thenC o_12 (λs_9=>bif (!((a_1.Kind==1)==((a_1.Refs.length:Int)==0)))then some 3 else some 0) (λr=>some r)
def bE (s_1:ByteArray):Option (Int) :=
  (pg s_1 0).bind λb_2=>(pg s_1 1).bind λb_4=>(EM .u64 (IntKind.u64.wrap (b_4.toNat:Int)) 8).bind λq_6=>(pg s_1 2).bind λb_8=>(EM .u64 (IntKind.u64.wrap (b_8.toNat:Int)) 16).bind λq_10=>(pg s_1 3).bind λb_12=>(EM .u64 (IntKind.u64.wrap (b_12.toNat:Int)) 24).bind λq_14=>(pg s_1 4).bind λb_16=>(EM .u64 (IntKind.u64.wrap (b_16.toNat:Int)) 32).bind λq_18=>(pg s_1 5).bind λb_20=>(EM .u64 (IntKind.u64.wrap (b_20.toNat:Int)) 40).bind λq_22=>(pg s_1 6).bind λb_24=>(EM .u64 (IntKind.u64.wrap (b_24.toNat:Int)) 48).bind λq_26=>(pg s_1 7).bind λb_28=>(EM .u64 (IntKind.u64.wrap (b_28.toNat:Int)) 56).bind λq_30=>some (orI .u64 (orI .u64 (orI .u64 (orI .u64 (orI .u64 (orI .u64 (orI .u64 (IntKind.u64.wrap (b_2.toNat:Int)) q_6) q_10) q_14) q_18) q_22) q_26) q_30)
def gq (s_45:ByteArray):Option (Ctl (ByteArray) (Unit)) :=
  (bif (decide ((s_45.size:Int)>32))then (bE s_45).bind λr_53=>(sH s_45 8 s_45.size).bind λy_55=>(bE y_55).bind λr_57=>(sH s_45 16 s_45.size).bind λy_59=>(bE y_59).bind λr_61=>(sH s_45 24 s_45.size).bind λy_63=>(bE y_63).bind λr_65=>some ((vX .u64 (orI .u64 (orI .u64 r_53 r_57) (orI .u64 r_61 r_65)) 9259542123273814144)==0)else some false).bind λv_50=>bif v_50 then (sH s_45 32 s_45.size).bind λy_68=>some (.go y_68)else some (.brk s_45)
noncomputable def eO (s_7:ByteArray):Option (Ctl (ByteArray) (Unit)) :=
  bif (decide ((s_7.size:Int)>0))then (pg s_7 0).bind λb_13=>bif (decide ((b_13.toNat:Int)<128))then (sH s_7 1 s_7.size).bind λy_16=>(bif (decide ((y_16.size:Int)>8))then (bE y_16).bind λr_21=>some ((vX .u64 r_21 9259542123273814144)==0)else some false).bind λv_18=>(bif v_18 then (sH y_16 8 y_16.size).bind λy_26=>(bif (decide ((y_26.size:Int)>16))then (bE y_26).bind λr_31=>(sH y_26 8 y_26.size).bind λy_33=>(bE y_33).bind λr_35=>some ((vX .u64 (orI .u64 r_31 r_35) 9259542123273814144)==0)else some false).bind λv_28=>bif v_28 then (sH y_26 16 y_26.size).bind λy_38=>(jK y_38 (λs=>gq s)).bind λo_48=>thenC o_48 (λs_45=>some s_45) (λ_=>none)else some y_26 else some y_16).bind λv_23=>some (.go v_23)else none else some (.brk s_7)
noncomputable def fP (s_1:ByteArray):Option (Bool) :=
  (jK s_1 (λs=>eO s)).bind λo_10=>thenC o_10 (λs_7=>some true) (λ_=>none)
def gZ (c_2:Int) (s_8:ByteArray):Option (Ctl (ByteArray) (Unit)) :=
  (bif (decide ((s_8.size:Int)>0))then (pg s_8 (w64 ((s_8.size:Int)-1))).bind λb_16=>some ((b_16.toNat:Int)==c_2)else some false).bind λv_13=>bif v_13 then (sH s_8 0 (w64 ((s_8.size:Int)-1))).bind λy_19=>some (.go y_19)else some (.brk s_8)
noncomputable def strings_trimRightByte (s_1:ByteArray) (c_2:Int):Option (ByteArray) :=
  (jK s_1 (λs=>gZ c_2 s)).bind λo_11=>thenC o_11 (λs_8=>some s_8) (λ_=>none)
def iC (c_2:Int) (s_8:ByteArray):Option (Ctl (ByteArray) (Unit)) :=
  (bif (decide ((s_8.size:Int)>0))then (pg s_8 0).bind λb_16=>some ((b_16.toNat:Int)==c_2)else some false).bind λv_13=>bif v_13 then (sH s_8 1 s_8.size).bind λy_19=>some (.go y_19)else some (.brk s_8)
noncomputable def strings_trimLeftByte (s_1:ByteArray) (c_2:Int):Option (ByteArray) :=
  (jK s_1 (λs=>iC c_2 s)).bind λo_11=>thenC o_11 (λs_8=>some s_8) (λ_=>none)
noncomputable def oN (s_1:ByteArray) (cutset_2:ByteArray):Option (ByteArray) :=
  (bif (sEq s_1 (⟨#[]⟩:ByteArray))then some true else some (sEq cutset_2 (⟨#[]⟩:ByteArray))).bind λv_3=>bif v_3 then some s_1 else (bif ((cutset_2.size:Int)==1)then (pg cutset_2 0).bind λb_10=>some (decide ((b_10.toNat:Int)<128))else some false).bind λv_7=>bif v_7 then (pg cutset_2 0).bind λb_13=>(strings_trimRightByte s_1 (b_13.toNat:Int)).bind λr_15=>(pg cutset_2 0).bind λb_17=>(strings_trimLeftByte r_15 (b_17.toNat:Int)).bind λr_19=>some r_19 else none
def jr (s_1:ByteArray) (substr_2:ByteArray):Option (Int) :=
  (bif ((substr_2.size:Int)==0)then some true else some (sEq substr_2 s_1)).bind λv_3=>bif v_3 then some 0 else bif ((substr_2.size:Int)==1)then (pg substr_2 0).bind λb_8=>(dS s_1 (b_8.toNat:Int)).bind λr_10=>some r_10 else bif (decide ((substr_2.size:Int)>=(s_1.size:Int)))then some (-1)else none
def strings_Index (s_1:ByteArray) (substr_2:ByteArray):Option (Int) :=
  (jr s_1 substr_2).bind λr_3=>some r_3
def strings_Contains (s_1:ByteArray) (substr_2:ByteArray):Option (Bool) :=
  (strings_Index s_1 substr_2).bind λr_3=>some (decide (r_3>=0))
def oK (s_1:ByteArray) (s_7:Int):Option (Ctl (Int) (Bool)) :=
  bif (decide (s_7<(s_1.size:Int)))then ((pg s_1 s_7).bind λb_15=>bif (decide ((b_15.toNat:Int)<32))then some true else (pg s_1 s_7).bind λb_18=>some ((b_18.toNat:Int)==127)).bind λv_13=>bif v_13 then some (.ret false)else some (.go (w64 (s_7+1)))else some (.brk s_7)
noncomputable def qG (s_1:ByteArray):Option (Bool) :=
  (jK 0 (λs=>oK s_1 s)).bind λo_10=>thenC o_10 (λs_7=>((fP s_1).bind λr_23=>bif r_23 then (oN s_1 (⟨#[32]⟩:ByteArray)).bind λr_26=>bif (sEq r_26 s_1)then (strings_Contains s_1 (⟨#[32,32]⟩:ByteArray)).bind λr_29=>some (!r_29)else some false else some false).bind λv_21=>some v_21) (λr=>some r)
def kg (k_29:Nat) (x_31:Rect) (s_34:Unit):Option (Ctl (Unit) (Int)) :=
  (fV x_31).bind λr_40=>bif (r_40 != 0)then some (.ret r_40)else some (.go ())
noncomputable def kM (a_1:Alert):Option (Int) :=
  ((eG a_1.Id).bind λr_5=>bif (!r_5)then some true else (eG a_1.Sender).bind λr_8=>some (!r_8)).bind λv_3=>bif v_3 then some 5 else (aQ a_1.Kind 1 3).bind λr_11=>bif r_11 then some 4 else (lH a_1).bind λr_14=>bif (r_14 != 0)then some r_14 else ((dQ a_1.At).bind λr_19=>bif (!r_19)then some true else (aQ a_1.Until (w64 (a_1.At+1)) (w64 (a_1.At+2592000000))).bind λr_22=>bif r_22 then some true else (aQ a_1.Weight 1 9).bind λr_25=>some r_25).bind λv_17=>bif v_17 then some 1 else bif (decide ((a_1.Areas.length:Int)>20))then some 2 else (forL a_1.Areas () (λk x s=>kg k x s)).bind λo_37=>thenC o_37 (λs_34=>bif (!((a_1.Kind==3)==((a_1.Areas.length:Int)==0)))then some 3 else bif (decide ((a_1.Text.size:Int)>500))then some 2 else ((qG a_1.Text).bind λr_47=>bif (!r_47)then some true else bif (sEq a_1.Text (⟨#[]⟩:ByteArray))then some (!(a_1.Kind==3))else some false).bind λv_45=>bif v_45 then some 3 else some 0) (λr=>some r)
def qf (a_1:Alert) (b_2:Alert):Option (Int) :=
  (cmp_Compare_int a_1.At b_2.At).bind λr_5=>(strings_Compare a_1.Id b_2.Id).bind λr_7=>(vP ([r_5,r_7]:List Int)).bind λr_9=>some r_9
noncomputable def iy (l_1:(List Alert)) (k_3:Nat) (x_5:Alert) (s_8:Unit):Option (Ctl (Unit) (Int)) :=
  (kM x_5).bind λr_14=>bif (r_14 != 0)then some (.ret r_14)else (bif (decide ((k_3:Int)>0))then (idx l_1 (w64 ((k_3:Int)-1))).bind λy_20=>(qf y_20 x_5).bind λr_22=>some (decide (r_22>=0))else some false).bind λv_17=>bif v_17 then some (.ret 7)else some (.go ())
def jS (k_26:Nat) (x_28:Alert) (s_31:(List (ByteArray×Bool))):Option (Ctl ((List (ByteArray×Bool))) (Int)) :=
  bif ((Lr eqS s_31 x_28.Id).getD false)then some (.ret 6)else some (.go (N8 eqS s_31 x_28.Id true))
noncomputable def jI (l_1:(List Alert)):Option (Int) :=
  bif (decide ((l_1.length:Int)>300))then some 2 else (forL l_1 () (λk x s=>iy l_1 k x s)).bind λo_11=>thenC o_11 (λs_8=>(forL l_1 ([]:List (ByteArray×Bool)) (λk x s=>jS k x s)).bind λo_34=>thenC o_34 (λs_31=>some 0) (λr=>some r)) (λr=>some r)
noncomputable def iQ (l_1:(List Post)) (k_3:Nat) (x_5:Post) (s_8:Unit):Option (Ctl (Unit) (Int)) :=
  (eG x_5.Player).bind λr_14=>bif (!r_14)then some (.ret 5)else ((aQ x_5.X (-100000) 100000).bind λr_19=>bif r_19 then some true else (aQ x_5.Y (-100000) 100000).bind λr_22=>some r_22).bind λv_17=>bif v_17 then some (.ret 1)else (bif (decide ((k_3:Int)>0))then (idx l_1 (w64 ((k_3:Int)-1))).bind λy_28=>some (sLe x_5.Player y_28.Player)else some false).bind λv_25=>bif v_25 then some (.ret 7)else some (.go ())
noncomputable def kr (l_1:(List Post)):Option (Int) :=
  bif (decide ((l_1.length:Int)>500))then some 2 else (forL l_1 () (λk x s=>iQ l_1 k x s)).bind λo_11=>thenC o_11 (λs_8=>some 0) (λr=>some r)
noncomputable def lC (l_1:(List Alert)) (posts_2:(List Post)):Option (Int) :=
  (jI l_1).bind λr_3=>bif (r_3 != 0)then some r_3 else (kr posts_2).bind λr_6=>some r_6
def q8 (r_1:Rect) (p_2:Post):Option (Bool) :=
  (bif (decide (r_1.X<=p_2.X))then bif (decide (p_2.X<(w64 (r_1.X+r_1.W))))then bif (decide (r_1.Y<=p_2.Y))then some (decide (p_2.Y<(w64 (r_1.Y+r_1.H))))else some false else some false else some false).bind λv_4=>some v_4
def fe (f_2:Rect->Option Bool) (k_3:Nat) (x_5:Rect) (s_8:Unit):Option (Ctl (Unit) (Int)) :=
  (f_2 x_5).bind λr_13=>bif r_13 then some (.ret (k_3:Int))else some (.go ())
def fT (s_1:(List Rect)) (f_2:Rect->Option Bool):Option (Int) :=
  (forL s_1 () (λk x s=>fe f_2 k x s)).bind λo_11=>thenC o_11 (λs_8=>some (-1)) (λr=>some r)
def fw (s_1:(List Rect)) (f_2:Rect->Option Bool):Option (Bool) :=
  (fT s_1 f_2).bind λr_3=>some (decide (r_3>=0))
def qh (a_1:Alert) (p_2:Post):Option (Bool) :=
  (fw a_1.Areas (λx0=>q8 x0 p_2)).bind λr_5=>some r_5
noncomputable def nI (a_1:Alert) (p_2:Post):Option (Bool×Int) :=
  (lC ([a_1]:List Alert) ([p_2]:List Post)).bind λr_5=>bif (r_5 != 0)then some (false,r_5)else (qh a_1 p_2).bind λr_8=>some (r_8,0)
def vK (k_2:Nat) (x_4:Int) (s_7:Unit):Option (Ctl (Unit) (Int)) :=
  bif (x_4 != 0)then some (.ret x_4)else some (.go ())
def yh (l_1:(List Int)):Option (Int) :=
  (forL l_1 () (λk x s=>vK k x s)).bind λo_10=>thenC o_10 (λs_7=>some 0) (λr=>some r)
noncomputable def pR  : Option (Bool) :=
  (qA ([(⟨0,0,2,2⟩:Rect),(⟨1,1,2,2⟩:Rect)]:List Rect)).bind λr_1=>(l6 (⟨(⟨#[97]⟩:ByteArray),(⟨#[98]⟩:ByteArray),0,0,0,1,127,([]:List Int),1,2,0,([]:List ByteArray),false⟩:Entry) 0 (⟨0,86400000⟩:Window)).bind λr_3=>(qm (⟨(⟨#[97]⟩:ByteArray),(⟨#[]⟩:ByteArray),(⟨0,100⟩:Window),([]:List ByteArray),10,0,0⟩:Campaign) 50).bind λr_5=>(qB ([(⟨(⟨#[112]⟩:ByteArray),0,100⟩:Beat),(⟨(⟨#[112]⟩:ByteArray),1000,1300⟩:Beat)]:List Beat) (⟨#[112]⟩:ByteArray) 700).bind λr_7=>(nI (⟨(⟨#[97]⟩:ByteArray),(⟨#[115]⟩:ByteArray),1,([]:List ByteArray),0,5,1,([(⟨0,0,2,2⟩:Rect)]:List Rect),(⟨#[120]⟩:ByteArray)⟩:Alert) (⟨(⟨#[112]⟩:ByteArray),1,1⟩:Post)).bind λr_10=>((yh ([r_1.2,r_3.2,r_5.2,r_7.2,r_10.2]:List Int)).bind λr_14=>bif (r_14==0)then bif (r_1.1==7)then bif ((r_3.1.length:Int)==1)then bif (r_5.1==5)then bif (r_7.1==500)then some r_10.1 else some false else some false else some false else some false else some false).bind λv_12=>some v_12
noncomputable def mM (l_1:(List Int)):Option (Bool) :=
  (eH (⟨l_1,0⟩:Stream)).bind λr_4=>(eH r_4.2).bind λr_7=>(gL r_7.2).bind λr_10=>(fJ r_10.2).bind λr_13=>(eH (⟨l_1,0⟩:Stream)).bind λr_18=>(eH r_18.2).bind λr_21=>(gL r_21.2).bind λr_24=>(fJ r_24.2).bind λr_27=>(lq ([r_4.1,r_7.1]:List Rect)).bind λr_32=>(fq r_32.1).bind λr_36=>(gQ r_36 r_32.1).bind λ_=>(kR ([r_4.1,r_7.1]:List Rect) ([]:List Rect)).bind λr_39=>(fq r_39.1).bind λr_43=>(gQ r_43 r_39.1).bind λ_=>(nD r_10.1).bind λr_46=>(fq r_46.1).bind λr_50=>(gQ r_50 r_46.1).bind λ_=>(qp r_13.1).bind λr_53=>(iB r_53.1).bind λr_57=>(gQ r_57 r_53.1).bind λ_=>(mP r_10.1 r_13.1).bind λr_60=>(iT r_60.1).bind λr_64=>(gQ r_64 r_60.1).bind λ_=>((dW ([r_4.1,r_7.1]:List Rect) ([r_18.1,r_21.1]:List Rect)).bind λr_69=>bif r_69 then (dG r_10.1.Screens r_24.1.Screens).bind λr_72=>bif r_72 then (l7 r_13.1 r_27.1).bind λr_75=>bif r_75 then (pR).bind λr_78=>some r_78 else some false else some false else some false).bind λv_67=>some v_67
end Go.Proofs.YtnkgapmhkhcanaaGreatDoor.Law

