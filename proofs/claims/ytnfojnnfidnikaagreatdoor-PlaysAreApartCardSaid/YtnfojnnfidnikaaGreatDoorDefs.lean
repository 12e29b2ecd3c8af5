/-
  The functions of the program, as plain functions over data (written by a program of ours).
-/
import Derived.Test.YtnfojnnfidnikaaGreatDoorEng5
open Go Go.Eng
namespace Go.Proofs.YtnfojnnfidnikaaGreatDoor.Law
set_option maxRecDepth 100000
set_option linter.unusedVariables false
set_option maxHeartbeats 1000000
structure Stream where
  L:(List Int)
  f_at:Int
def Stream.enc (s:Stream):List D:=[dl eI s.L,.int .i64 s.f_at]

structure Log_ where
  Player:ByteArray
  Item:ByteArray
  No:Int
  Clock:Int
  Long:Int
  Sum:ByteArray
def Log_.enc (s:Log_):List D:=[.str s.Player,.str s.Item,.int .i64 s.No,.int .i64 s.Clock,.int .i64 s.Long,.str s.Sum]
abbrev Log_.v (s:Log_):List V:=[(vS s.Player),(vS s.Item),(vI s.No),(vI s.Clock),(vI s.Long),(vS s.Sum)]

structure Beat where
  Player:ByteArray
  At:Int
  Clock:Int
def Beat.enc (s:Beat):List D:=[.str s.Player,.int .i64 s.At,.int .i64 s.Clock]
abbrev Beat.v (s:Beat):List V:=[(vS s.Player),(vI s.At),(vI s.Clock)]

structure Play where
  Player:ByteArray
  Item:ByteArray
  At:Int
  Long:Int
def Play.enc (s:Play):List D:=[.str s.Player,.str s.Item,.int .i64 s.At,.int .i64 s.Long]
abbrev Play.v (s:Play):List V:=[(vS s.Player),(vS s.Item),(vI s.At),(vI s.Long)]

structure Placed where
  f_i:Int
  f_at:Int
def Placed.enc (s:Placed):List D:=[.int .i64 s.f_i,.int .i64 s.f_at]

structure Beat_ where
  f_from:Int
  f_to:Int
def Beat_.enc (s:Beat_):List D:=[.int .i64 s.f_from,.int .i64 s.f_to]

structure Tally where
  Player:ByteArray
  Item:ByteArray
  Day:Int
  Many:Int
  Long:Int
def Tally.enc (s:Tally):List D:=[.str s.Player,.str s.Item,.int .i64 s.Day,.int .i64 s.Many,.int .i64 s.Long]
abbrev Tally.v (s:Tally):List V:=[(vS s.Player),(vS s.Item),(vI s.Day),(vI s.Many),(vI s.Long)]

structure Rect where
  X:Int
  Y:Int
  W:Int
  H:Int
def Rect.enc (s:Rect):List D:=[.int .i64 s.X,.int .i64 s.Y,.int .i64 s.W,.int .i64 s.H]
abbrev Rect.v (s:Rect):List V:=[(vI s.X),(vI s.Y),(vI s.W),(vI s.H)]

structure Run where
  f_from:Int
  f_to:Int
def Run.enc (s:Run):List D:=[.int .i64 s.f_from,.int .i64 s.f_to]

structure Entry where
  Key:ByteArray
  Item:ByteArray
  Version:Int
  First:Int
  Last:Int
  Every:Int
  Days:Int
  Except:(List Int)
  From:Int
  To:Int
  Prio:Int
  Tags:(List ByteArray)
  Gone:Bool
def Entry.enc (s:Entry):List D:=[.str s.Key,.str s.Item,.int .i64 s.Version,.int .i64 s.First,.int .i64 s.Last,.int .i64 s.Every,.int .i64 s.Days,dl eI s.Except,.int .i64 s.From,.int .i64 s.To,.int .i64 s.Prio,dl eS s.Tags,.bool s.Gone]
abbrev Entry.v (s:Entry):List V:=[(vS s.Key),(vS s.Item),(vI s.Version),(vI s.First),(vI s.Last),(vI s.Every),(vI s.Days),(vL eI s.Except),(vI s.From),(vI s.To),(vI s.Prio),(vL eS s.Tags),(vB s.Gone)]

structure Window where
  From:Int
  To:Int
def Window.enc (s:Window):List D:=[.int .i64 s.From,.int .i64 s.To]

structure Campaign where
  Key:ByteArray
  Class:ByteArray
  Time:Window
  Tags:(List ByteArray)
  Goal:Int
  Most:Int
  Cents:Int
def Campaign.enc (s:Campaign):List D:=[.str s.Key,.str s.Class,.int .i64 s.Time.From,.int .i64 s.Time.To,dl eS s.Tags,.int .i64 s.Goal,.int .i64 s.Most,.int .i64 s.Cents]
abbrev Campaign.v (s:Campaign):List V:=[(vS s.Key),(vS s.Class),(vI s.Time.From),(vI s.Time.To),(vL eS s.Tags),(vI s.Goal),(vI s.Most),(vI s.Cents)]

structure Alert where
  Id:ByteArray
  Sender:ByteArray
  Kind:Int
  Refs:(List ByteArray)
  At:Int
  Until:Int
  Weight:Int
  Areas:(List Rect)
  Text:ByteArray
def Alert.enc (s:Alert):List D:=[.str s.Id,.str s.Sender,.int .i64 s.Kind,dl eS s.Refs,.int .i64 s.At,.int .i64 s.Until,.int .i64 s.Weight,dl Rect.enc s.Areas,.str s.Text]
abbrev Alert.v (s:Alert):List V:=[(vS s.Id),(vS s.Sender),(vI s.Kind),(vL eS s.Refs),(vI s.At),(vI s.Until),(vI s.Weight),(vL Rect.enc s.Areas),(vS s.Text)]

structure Post where
  Player:ByteArray
  X:Int
  Y:Int
def Post.enc (s:Post):List D:=[.str s.Player,.int .i64 s.X,.int .i64 s.Y]
abbrev Post.v (s:Post):List V:=[(vS s.Player),(vI s.X),(vI s.Y)]

def ry (x_1:Int) (n_2:Int):Option (Int) :=
  bif (decide (n_2<1))then some 0 else (Jr .i64 x_1 n_2).bind λq_4=>(bif (decide (q_4<0))then some (w64 (q_4+n_2))else some q_4).bind λv_6=>some v_6
def gN (s_1:Stream) (n_2:Int):Option (Int×Stream) :=
  bif ((s_1.L.length:Int)==0)then (ry (w64 ((w64 (s_1.f_at+1))*7919)) n_2).bind λr_4=>some (r_4,(⟨s_1.L,(w64 (s_1.f_at+1))⟩:Stream))else (Jr .i64 (w64 ((w64 (s_1.f_at+1))-1)) (s_1.L.length:Int)).bind λq_6=>(Ji .i64 (w64 ((w64 (s_1.f_at+1))-1)) (s_1.L.length:Int)).bind λq_8=>(idx s_1.L q_6).bind λy_10=>(ry y_10 1073741824).bind λr_12=>(ry (w64 (r_12+(w64 (q_8*(w64 (7919+q_6)))))) n_2).bind λr_14=>some (r_14,(⟨s_1.L,(w64 (s_1.f_at+1))⟩:Stream))
def dN (s_1:Stream) (l_2:(List Int)):Option (Int×Stream) :=
  (gN s_1 (l_2.length:Int)).bind λr_3=>(idx l_2 r_3.1).bind λy_6=>some (y_6,r_3.2)
def fe (s_1:Stream) (low_2:Int) (high_3:Int):Option (Int×Stream) :=
  bif (decide (high_3<low_2))then some (low_2,s_1)else (gN s_1 (w64 ((w64 (high_3-low_2))+1))).bind λr_5=>some ((w64 (low_2+r_5.1)),r_5.2)
def jB (s_1:Stream) (l_2:(List ByteArray)):Option (ByteArray×Stream) :=
  (gN s_1 (l_2.length:Int)).bind λr_3=>(idx l_2 r_3.1).bind λy_6=>some (y_6,r_3.2)
def strconv_Itoa (x0:Int):Option (ByteArray) :=
  LA x0
def strings_Join (x0:(List ByteArray)) (x1:ByteArray):Option (ByteArray) :=
  Lh x0 x1
def jG (k_2:Nat) (x_4:Int) (s_7:(List ByteArray)):Option (Ctl ((List ByteArray)) (Unit)) :=
  (strconv_Itoa x_4).bind λr_15=>(lH s_7 ([r_15]:List ByteArray)).bind λa_17=>some (.go a_17)
def o9 (l_1:(List Int)):Option (ByteArray) :=
  (forL l_1 ([]:List ByteArray) (λk x s=>jG k x s)).bind λo_13=>thenC o_13 (λs_7=>(strings_Join s_7 (⟨#[32]⟩:ByteArray)).bind λr_20=>some r_20) (λ_=>none)
def oW (l_1:Log_):Option (ByteArray) :=
  (Bn l_1.Player (⟨#[32]⟩:ByteArray)).bind λs_3=>(Bn s_3 l_1.Item).bind λs_5=>(Bn s_5 (⟨#[32]⟩:ByteArray)).bind λs_7=>(o9 ([l_1.No,l_1.Clock,l_1.Long]:List Int)).bind λr_9=>(Bn s_7 r_9).bind λs_11=>some s_11
def rW (k_2:Nat) (x_4:Int) (s_7:Int):Option (Ctl (Int) (Unit)) :=
  some (.go (IntKind.u64.wrap ((M4 .u64 s_7 (IntKind.u64.wrap x_4))*1099511628211)))
def nk (k_12:Nat) (x_14:Nat) (s_17:Int×ByteArray):Option (Ctl (Int×ByteArray) (Unit)) :=
  (Gy (⟨#[48,49,50,51,52,53,54,55,56,57,97,98,99,100,101,102]⟩:ByteArray) (s_17.1.tmod 16) (IntKind.u64.wrap ((s_17.1.tmod 16)+1))).bind λy_22=>(Bn y_22 s_17.2).bind λs_24=>some (.go ((IntKind.u64.wrap (s_17.1.tdiv 16)),s_24))
def sH (s_1:ByteArray):Option (ByteArray) :=
  (forL (dQ s_1) 14695981039346656037 (λk x s=>rW k x s)).bind λo_10=>thenC o_10 (λs_7=>(forL (List.range (16:Int).toNat) (s_7,(⟨#[]⟩:ByteArray)) (λk x s=>nk k x s)).bind λo_20=>thenC o_20 (λs_17=>some s_17.2) (λ_=>none)) (λ_=>none)
def sN (last_1:ByteArray) (l_2:Log_):Option (ByteArray) :=
  (Bn last_1 (⟨#[32]⟩:ByteArray)).bind λs_4=>(oW l_2).bind λr_6=>(Bn s_4 r_6).bind λs_8=>(sH s_8).bind λr_10=>some r_10
def jC (s_1:Stream) (n_2:Int):Option (Bool×Stream) :=
  (gN s_1 n_2).bind λr_3=>some ((r_3.1==0),r_3.2)
def fH (x_5:ByteArray) (k_22:Nat) (x_24:Nat) (s_27:(List Log_)×ByteArray×Int×(List Int)×Int):Option (Ctl ((List Log_)×ByteArray×Int×(List Int)×Int) (Unit)) :=
  (jB (⟨s_27.2.2.2.1,s_27.2.2.2.2⟩:Stream) ([(⟨#[105,97]⟩:ByteArray),(⟨#[105,98]⟩:ByteArray)]:List ByteArray)).bind λr_34=>(dN r_34.2 ([1,10,30,100]:List Int)).bind λr_37=>(sN s_27.2.1 (⟨x_5,r_34.1,(w64 ((k_22:Int)+1)),s_27.2.2.1,r_37.1,(⟨#[]⟩:ByteArray)⟩:Log_)).bind λr_41=>(dN r_37.2 ([0,5,10,50,100]:List Int)).bind λr_43=>(jC r_43.2 6).bind λr_46=>(bif (!r_46.1)then (lH s_27.1 ([(⟨x_5,r_34.1,(w64 ((k_22:Int)+1)),s_27.2.2.1,r_37.1,r_41⟩:Log_)]:List Log_)).bind λa_53=>some a_53 else some s_27.1).bind λv_49=>some (.go (v_49,r_41,(w64 (s_27.2.2.1+r_43.1)),r_46.2.L,r_46.2.f_at))
def dS (most_2:Int) (k_3:Nat) (x_5:ByteArray) (s_8:(List Log_)×(List Int)×Int):Option (Ctl ((List Log_)×(List Int)×Int) (Unit)) :=
  (dN (⟨s_8.2.1,s_8.2.2⟩:Stream) ([0,50,1000]:List Int)).bind λr_16=>(fe r_16.2 0 most_2).bind λr_19=>(forL (List.range (r_19.1).toNat) (s_8.1,(⟨#[]⟩:ByteArray),r_16.1,r_19.2.L,r_19.2.f_at) (λk x s=>fH x_5 k x s)).bind λo_32=>thenC o_32 (λs_27=>some (.go (s_27.1,s_27.2.2.2.1,s_27.2.2.2.2))) (λ_=>none)
def ic (s_1:Stream) (most_2:Int):Option ((List Log_)×Stream) :=
  (forL ([(⟨#[112,97]⟩:ByteArray),(⟨#[112,98]⟩:ByteArray)]:List ByteArray) (([]:List Log_),s_1.L,s_1.f_at) (λk x s=>dS most_2 k x s)).bind λo_14=>thenC o_14 (λs_8=>some (s_8.1,(⟨s_8.2.1,s_8.2.2⟩:Stream))) (λ_=>none)
def fG (x_4:ByteArray) (k_24:Nat) (x_26:Nat) (s_29:(List Beat)×Int×Int×(List Int)×Int):Option (Ctl ((List Beat)×Int×Int×(List Int)×Int) (Unit)) :=
  (lH s_29.1 ([(⟨x_4,s_29.2.1,s_29.2.2.1⟩:Beat)]:List Beat)).bind λa_36=>(dN (⟨s_29.2.2.2.1,s_29.2.2.2.2⟩:Stream) ([1,50,100,1000,2678400000]:List Int)).bind λr_39=>(dN r_39.2 ([1,40,100,1300,2592000000]:List Int)).bind λr_42=>some (.go (a_36,(w64 (s_29.2.1+r_39.1)),(w64 (s_29.2.2.1+r_42.1)),r_42.2.L,r_42.2.f_at))
def fF (k_2:Nat) (x_4:ByteArray) (s_7:(List Beat)×(List Int)×Int):Option (Ctl ((List Beat)×(List Int)×Int) (Unit)) :=
  (fe (⟨s_7.2.1,s_7.2.2⟩:Stream) 0 100).bind λr_15=>(fe r_15.2 0 100).bind λr_18=>(fe r_18.2 0 3).bind λr_21=>(forL (List.range (r_21.1).toNat) (s_7.1,r_15.1,r_18.1,r_21.2.L,r_21.2.f_at) (λk x s=>fG x_4 k x s)).bind λo_34=>thenC o_34 (λs_29=>some (.go (s_29.1,s_29.2.2.2.1,s_29.2.2.2.2))) (λ_=>none)
def gG (s_1:Stream):Option ((List Beat)×Stream) :=
  (forL ([(⟨#[112,97]⟩:ByteArray),(⟨#[112,98]⟩:ByteArray)]:List ByteArray) (([]:List Beat),s_1.L,s_1.f_at) (λk x s=>fF k x s)).bind λo_13=>thenC o_13 (λs_7=>some (s_7.1,(⟨s_7.2.1,s_7.2.2⟩:Stream))) (λ_=>none)
def ji (s_1:ByteArray) (s_7:Int):Option (Ctl (Int) (Bool)) :=
  bif (decide (s_7<(s_1.size:Int)))then (FX s_1 s_7).bind λb_13=>(bif (decide ((b_13.toNat:Int)>=97))then bif (decide ((b_13.toNat:Int)<=122))then some false else bif (decide (s_7>0))then bif (decide ((b_13.toNat:Int)>=48))then bif (decide ((b_13.toNat:Int)<=57))then some false else bif ((b_13.toNat:Int)==45)then some false else some (!((b_13.toNat:Int)==95))else bif ((b_13.toNat:Int)==45)then some false else some (!((b_13.toNat:Int)==95))else some true else bif (decide (s_7>0))then bif (decide ((b_13.toNat:Int)>=48))then bif (decide ((b_13.toNat:Int)<=57))then some false else bif ((b_13.toNat:Int)==45)then some false else some (!((b_13.toNat:Int)==95))else bif ((b_13.toNat:Int)==45)then some false else some (!((b_13.toNat:Int)==95))else some true).bind λv_15=>bif v_15 then some (.ret false)else some (.go (w64 (s_7+1)))else some (.brk s_7)
noncomputable def dF (s_1:ByteArray):Option (Bool) :=
  (gX 0 (λs=>ji s_1 s)).bind λo_10=>thenC o_10 (λs_7=>(bif (sNe s_1 (⟨#[]⟩:ByteArray))then some (decide ((s_1.size:Int)<=40))else some false).bind λv_30=>some v_30) (λr=>some r)
def aO (n_1:Int) (low_2:Int) (high_3:Int):Option (Bool) :=
  (bif (decide (n_1<low_2))then some true else some (decide (n_1>high_3))).bind λv_4=>some v_4
noncomputable def kX (l_1:Log_):Option (Int) :=
  ((dF l_1.Player).bind λr_5=>bif (!r_5)then some true else (dF l_1.Item).bind λr_8=>some (!r_8)).bind λv_3=>bif v_3 then some 5 else ((aO l_1.No 1 1000000).bind λr_13=>bif r_13 then some true else (aO l_1.Clock 0 345686399999).bind λr_16=>bif r_16 then some true else (aO l_1.Long 1 86400000).bind λr_19=>some r_19).bind λv_11=>bif v_11 then some 1 else some 0
def lT (x0:ByteArray) (x1:ByteArray):Option (ByteArray) :=
  Gu x0 x1
def nI (s_1:ByteArray):Option (Bool) :=
  (bif ((s_1.size:Int)==16)then (lT s_1 (⟨#[48,49,50,51,52,53,54,55,56,57,97,98,99,100,101,102]⟩:ByteArray)).bind λr_5=>some (sEq r_5 (⟨#[]⟩:ByteArray))else some false).bind λv_2=>some v_2
def fZ (a_1:ByteArray) (b_2:ByteArray):Option (Int) :=
  some (vU a_1 b_2)
def strings_Compare (a_1:ByteArray) (b_2:ByteArray):Option (Int) :=
  (fZ a_1 b_2).bind λr_3=>some r_3
def cmp_isNaN_int (x_1:Int):Option (Bool) :=
  some (x_1 != x_1)
def cmp_Compare_int (x_1:Int) (y_2:Int):Option (Int) :=
  (cmp_isNaN_int x_1).bind λr_3=>(cmp_isNaN_int y_2).bind λr_5=>bif r_3 then bif r_5 then some 0 else some (-1)else bif r_5 then some 1 else bif (decide (x_1<y_2))then some (-1)else bif (decide (x_1>y_2))then some 1 else some 0
def kH (k_2:Nat) (x_4:Int) (s_7:Unit):Option (Ctl (Unit) (Int)) :=
  bif (x_4 != 0)then some (.ret x_4)else some (.go ())
def iJ (vals_1:(List Int)):Option (Int) :=
  (forL vals_1 () (λk x s=>kH k x s)).bind λo_10=>thenC o_10 (λs_7=>some 0) (λr=>some r)
def jh (a_1:Log_) (b_2:Log_):Option (Int) :=
  (strings_Compare a_1.Player b_2.Player).bind λr_5=>(cmp_Compare_int a_1.No b_2.No).bind λr_7=>(iJ ([r_5,r_7]:List Int)).bind λr_9=>some r_9
noncomputable def jZ (l_1:(List Log_)) (k_3:Nat) (x_5:Log_) (s_8:Unit):Option (Ctl (Unit) (Int)) :=
  (kX x_5).bind λr_14=>bif (r_14 != 0)then some (.ret r_14)else (nI x_5.Sum).bind λr_17=>bif (!r_17)then some (.ret 3)else (bif (decide ((k_3:Int)>0))then (idx l_1 (w64 ((k_3:Int)-1))).bind λy_23=>(jh y_23 x_5).bind λr_25=>some (decide (r_25>=0))else some false).bind λv_20=>bif v_20 then some (.ret 7)else some (.go ())
noncomputable def iY (l_1:(List Log_)):Option (Int) :=
  bif (decide ((l_1.length:Int)>2000))then some 2 else (forL l_1 () (λk x s=>jZ l_1 k x s)).bind λo_11=>thenC o_11 (λs_8=>some 0) (λr=>some r)
def bO (n_1:Int):Option (Bool) :=
  (bif (decide (n_1>=0))then some (decide (n_1<345686400000))else some false).bind λv_2=>some v_2
def gp (a_1:Beat) (b_2:Beat):Option (Int) :=
  (strings_Compare a_1.Player b_2.Player).bind λr_5=>(cmp_Compare_int a_1.At b_2.At).bind λr_7=>(iJ ([r_5,r_7]:List Int)).bind λr_9=>some r_9
noncomputable def fO (l_1:(List Beat)) (k_3:Nat) (x_5:Beat) (s_8:Unit):Option (Ctl (Unit) (Int)) :=
  (dF x_5.Player).bind λr_14=>bif (!r_14)then some (.ret 5)else ((bO x_5.At).bind λr_19=>bif (!r_19)then some true else (aO x_5.Clock 0 345686399999).bind λr_22=>some r_22).bind λv_17=>bif v_17 then some (.ret 1)else (bif (decide ((k_3:Int)>0))then (idx l_1 (w64 ((k_3:Int)-1))).bind λy_28=>(gp y_28 x_5).bind λr_30=>some (decide (r_30>=0))else some false).bind λv_25=>bif v_25 then some (.ret 7)else (bif (decide ((k_3:Int)>0))then (idx l_1 (w64 ((k_3:Int)-1))).bind λy_36=>bif (sEq x_5.Player y_36.Player)then (idx l_1 (w64 ((k_3:Int)-1))).bind λy_39=>some (decide (x_5.Clock<=y_39.Clock))else some false else some false).bind λv_33=>bif v_33 then some (.ret 16)else some (.go ())
noncomputable def dZ (l_1:(List Beat)):Option (Int) :=
  bif (decide ((l_1.length:Int)>500))then some 2 else (forL l_1 () (λk x s=>fO l_1 k x s)).bind λo_11=>thenC o_11 (λs_8=>some 0) (λr=>some r)
def iy (player_2:ByteArray) (back_3:Bool) (k_4:Nat) (x_6:Beat) (s_9:(List Beat_)):Option (Ctl ((List Beat_)) (Unit)) :=
  (bif (sNe x_6.Player player_2)then some s_9 else bif back_3 then (lH s_9 ([(⟨x_6.At,x_6.Clock⟩:Beat_)]:List Beat_)).bind λa_23=>some a_23 else (lH s_9 ([(⟨x_6.Clock,x_6.At⟩:Beat_)]:List Beat_)).bind λa_26=>some a_26).bind λv_18=>some (.go v_18)
def jq (l_1:(List Beat)) (player_2:ByteArray) (back_3:Bool):Option ((List Beat_)) :=
  (forL l_1 ([]:List Beat_) (λk x s=>iy player_2 back_3 k x s)).bind λo_15=>thenC o_15 (λs_9=>some s_9) (λ_=>none)
def eZ (l_1:(List Beat_)) (n_2:Int) (s_9:Int):Option (Ctl (Int) (Unit)) :=
  (bif (decide (s_9<(l_1.length:Int)))then (idx l_1 s_9).bind λy_17=>some (decide (y_17.f_from<=n_2))else some false).bind λv_14=>bif v_14 then some (.go (w64 (s_9+1)))else some (.brk s_9)
noncomputable def gz (l_1:(List Beat_)) (n_2:Int):Option (Int×Int) :=
  bif ((l_1.length:Int)==0)then some (0,8)else (gX 0 (λs=>eZ l_1 n_2 s)).bind λo_12=>thenC o_12 (λs_9=>bif (s_9==0)then (idx l_1 0).bind λy_21=>(idx l_1 0).bind λy_23=>(bO (w64 (y_21.f_to-(w64 (y_23.f_from-n_2))))).bind λr_25=>bif (!r_25)then some (0,11)else some ((w64 (y_21.f_to-(w64 (y_23.f_from-n_2)))),0)else bif (s_9==(l_1.length:Int))then (idx l_1 (w64 (s_9-1))).bind λy_29=>(idx l_1 (w64 (s_9-1))).bind λy_31=>(bO (w64 ((w64 (y_29.f_to+n_2))-y_31.f_from))).bind λr_33=>bif (!r_33)then some (0,11)else some ((w64 ((w64 (y_29.f_to+n_2))-y_31.f_from)),0)else (idx l_1 (w64 (s_9-1))).bind λy_36=>(idx l_1 s_9).bind λy_38=>(bif (decide ((w64 (y_38.f_from-y_36.f_from))>2592000000))then some true else some (decide ((w64 (y_38.f_to-y_36.f_to))>2592000000))).bind λv_42=>bif v_42 then some (0,2)else (Ji .i64 (w64 ((w64 (n_2-y_36.f_from))*(w64 (y_38.f_to-y_36.f_to)))) (w64 (y_38.f_from-y_36.f_from))).bind λq_46=>(bO (w64 (y_36.f_to+q_46))).bind λr_48=>bif (!r_48)then some (0,11)else some ((w64 (y_36.f_to+q_46)),0)) (λ_=>none)
def jH (x_1:Placed) (y_2:Placed):Option (Int) :=
  (cmp_Compare_int x_1.f_at y_2.f_at).bind λr_5=>some r_5
def cz (a_2:Int) (s_21:(List Placed)×Int):Option (Ctl ((List Placed)×Int) (Unit)) :=
  (bif (decide (s_21.2>a_2))then (inR s_21.2 s_21.1).bind λ_=>(s_21.1[(0+(s_21.2).toNat)]?).bind λe_30=>(inR (w64 (s_21.2-1)) s_21.1).bind λ_=>(s_21.1[(0+((w64 (s_21.2-1))).toNat)]?).bind λe_33=>(jH e_30 e_33).bind λr_35=>some (decide (r_35<0))else some false).bind λv_26=>bif v_26 then (inR (w64 (s_21.2-1)) s_21.1).bind λ_=>(s_21.1[(0+((w64 (s_21.2-1))).toNat)]?).bind λe_39=>(inR s_21.2 s_21.1).bind λ_=>(s_21.1[(0+(s_21.2).toNat)]?).bind λe_42=>(inR s_21.2 s_21.1).bind λ_=>(s_21.1[(0+(s_21.2).toNat)]?).bind λe_45=>(inR (w64 (s_21.2-1)) (s_21.1.set (0+(s_21.2).toNat) e_39)).bind λ_=>((s_21.1.set (0+(s_21.2).toNat) e_39)[(0+((w64 (s_21.2-1))).toNat)]?).bind λe_48=>some (.go (((s_21.1.set (0+(s_21.2).toNat) e_39).set (0+((w64 (s_21.2-1))).toNat) e_42),(w64 (s_21.2-1))))else some (.brk (s_21.1,s_21.2))
noncomputable def cB (b_3:Int) (a_2:Int) (s_10:(List Placed)×Int):Option (Ctl ((List Placed)×Int) (Unit)) :=
  bif (decide (s_10.2<b_3))then (gX (s_10.1,s_10.2) (λs=>cz a_2 s)).bind λo_24=>thenC o_24 (λs_21=>some (.go (s_21.1,(w64 (s_10.2+1))))) (λ_=>none)else some (.brk (s_10.1,s_10.2))
noncomputable def bR (data_1:(List Placed)) (a_2:Int) (b_3:Int):Option ((List Placed)) :=
  (gX (data_1,(w64 (a_2+1))) (λs=>cB b_3 a_2 s)).bind λo_13=>thenC o_13 (λs_10=>some s_10.1) (λ_=>none)
noncomputable def dJ (n_2:Int) (s_9:(List Placed)×Int×Int):Option (Ctl ((List Placed)×Int×Int) (Unit)) :=
  bif (decide (s_9.2.2<=n_2))then (bR s_9.1 s_9.2.1 s_9.2.2).bind λr_15=>(jS r_15 s_9.1).bind λ_=>some (.go (r_15,s_9.2.2,(w64 (s_9.2.2+20))))else some (.brk (s_9.1,s_9.2.1,s_9.2.2))
def dK (s_26:Int) (n_2:Int) (s_37:Unit):Option (Ctl (Unit) (Unit)) :=
  bif (decide ((w64 (2*s_26))<=n_2))then none else some (.brk ())
noncomputable def dH (n_2:Int) (s_26:Int):Option (Ctl (Int) (Unit)) :=
  bif (decide (s_26<n_2))then (gX () (λs=>dK s_26 n_2 s)).bind λo_40=>thenC o_40 (λs_37=>(bif (decide ((w64 (0+s_26))<n_2))then none else some ()).bind λv_43=>some (.go (w64 (s_26*2)))) (λ_=>none)else some (.brk s_26)
noncomputable def cZ (data_1:(List Placed)) (n_2:Int):Option ((List Placed)) :=
  (gX (data_1,0,20) (λs=>dJ n_2 s)).bind λo_12=>thenC o_12 (λs_9=>(bR s_9.1 s_9.2.1 n_2).bind λr_18=>(jS r_18 s_9.1).bind λ_=>(gX 20 (λs=>dH n_2 s)).bind λo_29=>thenC o_29 (λs_26=>some r_18) (λ_=>none)) (λ_=>none)
noncomputable def bu (x_1:(List Placed)):Option ((List Placed)) :=
  (cZ x_1 (x_1.length:Int)).bind λr_3=>(jS r_3 x_1).bind λ_=>some r_3
noncomputable def eD (tov_3:Int) (l_1:(List Log_)) (r_7:(List Beat_)) (s_14:(List Placed)×(List Int)×Int):Option (Ctl ((List Placed)×(List Int)×Int) (Unit)) :=
  bif (decide (s_14.2.2<tov_3))then (idx l_1 s_14.2.2).bind λy_26=>(gz r_7 y_26.Clock).bind λr_28=>(bif (r_28.2==0)then (lH s_14.1 ([(⟨s_14.2.2,r_28.1⟩:Placed)]:List Placed)).bind λa_35=>some (a_35,s_14.2.1)else bif (r_28.2==8)then (idx l_1 s_14.2.2).bind λy_39=>(lH s_14.1 ([(⟨s_14.2.2,y_39.Clock⟩:Placed)]:List Placed)).bind λa_41=>some (a_41,s_14.2.1)else (lH s_14.2.1 ([s_14.2.2]:List Int)).bind λa_44=>some (s_14.1,a_44)).bind λv_30=>some (.go (v_30.1,v_30.2,(w64 (s_14.2.2+1))))else some (.brk (s_14.1,s_14.2.1,s_14.2.2))
noncomputable def lK (l_1:(List Log_)) (fromv_2:Int) (tov_3:Int) (b_4:(List Beat)):Option ((List Placed)×(List Int)) :=
  (idx l_1 fromv_2).bind λy_5=>(jq b_4 y_5.Player false).bind λr_7=>(gX (([]:List Placed),([]:List Int),fromv_2) (λs=>eD tov_3 l_1 r_7 s)).bind λo_23=>thenC o_23 (λs_14=>(bu s_14.1).bind λr_47=>(jS r_47 s_14.1).bind λ_=>some (r_47,s_14.2.1)) (λ_=>none)
def bS (x:(List Int)):Option ((List Int)) :=
  FB x
def gL (l_1:(List Log_)) (s_14:(List Play)×(List Int)×Int) (s_31:Int):Option (Ctl (Int) (Unit)) :=
  (bif (decide (s_31<(l_1.length:Int)))then (idx l_1 s_31).bind λy_39=>(idx l_1 s_14.2.2).bind λy_41=>some (sEq y_39.Player y_41.Player)else some false).bind λv_36=>bif v_36 then some (.go (w64 (s_31+1)))else some (.brk s_31)
def jJ (l_1:(List Log_)) (k_49:Nat) (x_51:Placed) (s_54:(List Play)×(List Int)×Int):Option (Ctl ((List Play)×(List Int)×Int) (Unit)) :=
  (idx l_1 x_51.f_i).bind λy_64=>(bif (decide ((iw x_51.f_at s_54.2.2)>=(w64 (x_51.f_at+y_64.Long))))then some true else (bO (iw x_51.f_at s_54.2.2)).bind λr_70=>some (!r_70)).bind λv_67=>bif v_67 then (lH s_54.2.1 ([x_51.f_i]:List Int)).bind λa_73=>some (.go (s_54.1,a_73,s_54.2.2))else (lH s_54.1 ([(⟨y_64.Player,y_64.Item,(iw x_51.f_at s_54.2.2),(w64 ((w64 (x_51.f_at+y_64.Long))-(iw x_51.f_at s_54.2.2)))⟩:Play)]:List Play)).bind λa_76=>some (.go (a_76,s_54.2.1,(w64 (x_51.f_at+y_64.Long))))
noncomputable def gH (l_1:(List Log_)) (b_2:(List Beat)) (s_14:(List Play)×(List Int)×Int):Option (Ctl ((List Play)×(List Int)×Int) (Unit)) :=
  bif (decide (s_14.2.2<(l_1.length:Int)))then (gX s_14.2.2 (λs=>gL l_1 s_14 s)).bind λo_34=>thenC o_34 (λs_31=>(lK l_1 s_14.2.2 s_31 b_2).bind λr_44=>(lH s_14.2.1 r_44.2).bind λa_46=>(forL r_44.1 (s_14.1,a_46,0) (λk x s=>jJ l_1 k x s)).bind λo_61=>thenC o_61 (λs_54=>some (.go (s_54.1,s_54.2.1,s_31))) (λ_=>none)) (λ_=>none)else some (.brk (s_14.1,s_14.2.1,s_14.2.2))
noncomputable def pK (l_1:(List Log_)) (b_2:(List Beat)):Option ((List Play)×(List Int)×Int) :=
  (iY l_1).bind λr_3=>bif (r_3 != 0)then some (([]:(List Play)),([]:(List Int)),r_3)else (dZ b_2).bind λr_6=>bif (r_6 != 0)then some (([]:(List Play)),([]:(List Int)),r_6)else (gX (([]:List Play),([]:List Int),0) (λs=>gH l_1 b_2 s)).bind λo_23=>thenC o_23 (λs_14=>(bS s_14.2.1).bind λr_80=>(jS r_80 s_14.2.1).bind λ_=>some (s_14.1,r_80,0)) (λ_=>none)
def iK (a_1:Play) (b_2:Play):Option (Int) :=
  (strings_Compare a_1.Player b_2.Player).bind λr_5=>(cmp_Compare_int a_1.At b_2.At).bind λr_7=>(iJ ([r_5,r_7]:List Int)).bind λr_9=>some r_9
noncomputable def fP (l_1:(List Play)) (k_3:Nat) (x_5:Play) (s_8:Unit):Option (Ctl (Unit) (Int)) :=
  ((dF x_5.Player).bind λr_16=>bif (!r_16)then some true else (dF x_5.Item).bind λr_19=>some (!r_19)).bind λv_14=>bif v_14 then some (.ret 5)else ((bO x_5.At).bind λr_24=>bif (!r_24)then some true else (aO x_5.Long 1 86400000).bind λr_27=>some r_27).bind λv_22=>bif v_22 then some (.ret 1)else (bif (decide ((k_3:Int)>0))then (idx l_1 (w64 ((k_3:Int)-1))).bind λy_33=>(iK y_33 x_5).bind λr_35=>some (decide (r_35>=0))else some false).bind λv_30=>bif v_30 then some (.ret 7)else some (.go ())
noncomputable def iA (l_1:(List Play)):Option (Int) :=
  bif (decide ((l_1.length:Int)>3000))then some 2 else (forL l_1 () (λk x s=>fP l_1 k x s)).bind λo_11=>thenC o_11 (λs_8=>some 0) (λr=>some r)
def o5 (atv_1:Int) (zone_2:Int):Option (Int) :=
  some (w64 ((w64 ((w64 ((w64 (atv_1+(w64 (zone_2*60000))))+86400000)).tdiv 86400000))-1))
def iH (a_1:Tally) (b_2:Tally):Option (Int) :=
  (strings_Compare a_1.Player b_2.Player).bind λr_5=>(strings_Compare a_1.Item b_2.Item).bind λr_7=>(cmp_Compare_int a_1.Day b_2.Day).bind λr_9=>(iJ ([r_5,r_7,r_9]:List Int)).bind λr_11=>some r_11
noncomputable def eB (x:(List Tally)):Option ((List Tally)) :=
  xD (λa b=>iH a b) x
def iZ (zone_2:Int) (k_10:Nat) (x_12:Play) (s_15:(List (Tally×Tally))):Option (Ctl ((List (Tally×Tally))) (Unit)) :=
  (o5 x_12.At zone_2).bind λr_23=>(bif (rz (λ(a b:Tally)=>(eqS a.Player b.Player&&(eqS a.Item b.Item&&(eqI a.Day b.Day&&(eqI a.Many b.Many&&(eqI a.Long b.Long&&true)))))) (⟨x_12.Player,x_12.Item,r_23,0,0⟩:Tally) s_15).isNone then (Pj (rz (λ(a b:Tally)=>(eqS a.Player b.Player&&(eqS a.Item b.Item&&(eqI a.Day b.Day&&(eqI a.Many b.Many&&(eqI a.Long b.Long&&true)))))) (⟨x_12.Player,x_12.Item,r_23,0,0⟩:Tally) s_15)).bind λ_=>some (s_15++[((⟨x_12.Player,x_12.Item,r_23,0,0⟩:Tally),(⟨x_12.Player,x_12.Item,r_23,0,0⟩:Tally))])else some s_15).bind λv_26=>((rz (λ(a b:Tally)=>(eqS a.Player b.Player&&(eqS a.Item b.Item&&(eqI a.Day b.Day&&(eqI a.Many b.Many&&(eqI a.Long b.Long&&true)))))) (⟨x_12.Player,x_12.Item,r_23,0,0⟩:Tally) v_26)).bind λi_32=>(v_26[i_32]?).bind λe_34=>(v_26[i_32]?).bind λe_36=>((rz (λ(a b:Tally)=>(eqS a.Player b.Player&&(eqS a.Item b.Item&&(eqI a.Day b.Day&&(eqI a.Many b.Many&&(eqI a.Long b.Long&&true)))))) (⟨x_12.Player,x_12.Item,r_23,0,0⟩:Tally) (v_26.set i_32 (e_36.1,(⟨e_36.2.Player,e_36.2.Item,e_36.2.Day,(w64 (e_34.2.Many+1)),e_36.2.Long⟩:Tally))))).bind λi_38=>((v_26.set i_32 (e_36.1,(⟨e_36.2.Player,e_36.2.Item,e_36.2.Day,(w64 (e_34.2.Many+1)),e_36.2.Long⟩:Tally)))[i_38]?).bind λe_40=>((v_26.set i_32 (e_36.1,(⟨e_36.2.Player,e_36.2.Item,e_36.2.Day,(w64 (e_34.2.Many+1)),e_36.2.Long⟩:Tally)))[i_38]?).bind λe_42=>some (.go ((v_26.set i_32 (e_36.1,(⟨e_36.2.Player,e_36.2.Item,e_36.2.Day,(w64 (e_34.2.Many+1)),e_36.2.Long⟩:Tally))).set i_38 (e_42.1,(⟨e_42.2.Player,e_42.2.Item,e_42.2.Day,e_42.2.Many,(w64 (e_40.2.Long+x_12.Long))⟩:Tally))))
def gY (s_15:(List (Tally×Tally))) (x_48:(Nat×Tally)) (s_50:(List Tally)):Option (Ctl ((List Tally)) (Unit)) :=
  (s_15[x_48.1]?).bind λe_59=>(lH s_50 ([e_59.2]:List Tally)).bind λa_61=>some (.go a_61)
noncomputable def nJ (l_1:(List Play)) (zone_2:Int):Option ((List Tally)×Int) :=
  (iA l_1).bind λr_3=>bif (r_3 != 0)then some (([]:(List Tally)),r_3)else (aO zone_2 (-1440) 1440).bind λr_6=>bif r_6 then some (([]:(List Tally)),1)else (forL l_1 ([]:List (Tally×Tally)) (λk x s=>iZ zone_2 k x s)).bind λo_20=>thenC o_20 (λs_15=>Iw (pmL s_15) (λl_67=>(yH (λx s=>gY s_15 x s) l_67 ([]:List Tally)).bind λo_57=>thenC o_57 (λs_50=>(eB s_50).bind λr_64=>(jS r_64 s_50).bind λ_=>some (r_64,0)) (λ_=>none))) (λ_=>none)
def lU (r_1:Rect):Option (Int) :=
  ((aO r_1.X (-100000) 100000).bind λr_5=>bif r_5 then some true else (aO r_1.Y (-100000) 100000).bind λr_8=>some r_8).bind λv_3=>bif v_3 then some 1 else ((aO r_1.W 1 (w64 (100000-r_1.X))).bind λr_13=>bif r_13 then some true else (aO r_1.H 1 (w64 (100000-r_1.Y))).bind λr_16=>some r_16).bind λv_11=>bif v_11 then some 1 else some 0
def lg (k_3:Nat) (x_5:Rect) (s_8:Unit):Option (Ctl (Unit) (Int)) :=
  (lU x_5).bind λr_14=>bif (r_14 != 0)then some (.ret r_14)else some (.go ())
def kQ (l_1:(List Rect)):Option (Int) :=
  bif (decide ((l_1.length:Int)>2000))then some 2 else (forL l_1 () (λk x s=>lg k x s)).bind λo_11=>thenC o_11 (λs_8=>some 0) (λr=>some r)
def fT (n_1:Int):Option Bool :=
  bif (decide (n_1<0))then none else bif (decide ((w64 (n_1-(w64 (0-0))))>0))then (zN (w64 (n_1-(w64 (0-0)))) 32).bind λ_=>some true else some false
def fC (k_2:Nat) (x_4:(List Rect)) (s_7:Int):Option (Ctl (Int) (Unit)) :=
  (bif (decide ((w64 (s_7+(x_4.length:Int)))<0))then none else some ()).bind λv_12=>some (.go (w64 (s_7+(x_4.length:Int))))
def fB (k_18:Nat) (x_20:(List Rect)) (s_23:(List Rect)):Option (Ctl ((List Rect)) (Unit)) :=
  (lH s_23 x_20).bind λa_30=>some (.go a_30)
def dL (slices_1:(List (List Rect))):Option ((List Rect)) :=
  (forL slices_1 0 (λk x s=>fC k x s)).bind λo_10=>thenC o_10 (λs_7=>(fT s_7).bind λb_15=>(forL slices_1 ([]:List Rect) (λk x s=>fB k x s)).bind λo_28=>thenC o_28 (λs_23=>some s_23) (λ_=>none)) (λ_=>none)
def fo (s_1:(List Int)) (s_8:Int) (s_28:(List Int)×Int×Int):Option (Ctl ((List Int)×Int×Int) (Unit)) :=
  bif (decide (s_28.2.2<(((((s_1.length:Int)).toNat-(s_8).toNat):Nat):Int)))then (inN s_28.2.2 (((s_1.length:Int)).toNat-(s_8).toNat)).bind λ_=>(s_28.1[(((s_8).toNat)+(s_28.2.2).toNat)]?).bind λe_35=>(inN (w64 (s_28.2.2-1)) (((s_1.length:Int)).toNat-(s_8).toNat)).bind λ_=>(s_28.1[(((s_8).toNat)+((w64 (s_28.2.2-1))).toNat)]?).bind λe_38=>(bif (e_35 != e_38)then (inN s_28.2.2 (((s_1.length:Int)).toNat-(s_8).toNat)).bind λ_=>(s_28.1[(((s_8).toNat)+(s_28.2.2).toNat)]?).bind λe_44=>(inR s_28.2.1 s_28.1).bind λ_=>(s_28.1[(0+(s_28.2.1).toNat)]?).bind λe_47=>some ((s_28.1.set (0+(s_28.2.1).toNat) e_44),(w64 (s_28.2.1+1)))else some (s_28.1,s_28.2.1)).bind λv_40=>some (.go (v_40.1,v_40.2,(w64 (s_28.2.2+1))))else some (.brk (s_28.1,s_28.2.1,s_28.2.2))
noncomputable def dC (s_1:(List Int)) (s_8:Int):Option (Ctl (Int) ((List Int))) :=
  bif (decide (s_8<(s_1.length:Int)))then (inR s_8 s_1).bind λ_=>(s_1[(0+(s_8).toNat)]?).bind λe_15=>(inR (w64 (s_8-1)) s_1).bind λ_=>(s_1[(0+((w64 (s_8-1))).toNat)]?).bind λe_18=>bif (e_15==e_18)then (neL s_1).bind λ_=>(BG s_1 s_8 (s_1.length:Int)).bind λ_=>(gX (s_1,s_8,1) (λs=>fo s_1 s_8 s)).bind λo_31=>thenC o_31 (λs_28=>(BG s_28.1 s_28.2.1 (s_28.1.length:Int)).bind λ_=>(BG (s_28.1.take ((s_28.2.1).toNat)++List.replicate (((s_28.1.length:Int)).toNat-(s_28.2.1).toNat) 0++s_28.1.drop (((s_28.2.1).toNat)+(((s_28.1.length:Int)).toNat-(s_28.2.1).toNat))) 0 s_28.2.1).bind λ_=>some (.ret (cutL (s_28.1.take ((s_28.2.1).toNat)++List.replicate (((s_28.1.length:Int)).toNat-(s_28.2.1).toNat) 0++s_28.1.drop (((s_28.2.1).toNat)+(((s_28.1.length:Int)).toNat-(s_28.2.1).toNat))) 0 ((s_28.2.1).toNat)))) (λ_=>none)else some (.go (w64 (s_8+1)))else some (.brk s_8)
noncomputable def ek (s_1:(List Int)):Option ((List Int)) :=
  bif (decide ((s_1.length:Int)<2))then some s_1 else (gX 1 (λs=>dC s_1 s)).bind λo_11=>thenC o_11 (λs_8=>some s_1) (λr=>some r)
def sj (a_1:Run) (b_2:Run):Option (Int) :=
  some (w64 (a_1.f_from-b_2.f_from))
def pW (x_1:Int):Option (Int) :=
  (bif (decide (x_1>=4294967296))then (MV .u64 x_1 32).bind λq_5=>some (q_5,32)else some (x_1,0)).bind λv_2=>(bif (decide (v_2.1>=65536))then (MV .u64 v_2.1 16).bind λq_10=>some (q_10,(w64 (v_2.2+16)))else some (v_2.1,v_2.2)).bind λv_7=>(bif (decide (v_7.1>=256))then (MV .u64 v_7.1 8).bind λq_15=>some (q_15,(w64 (v_7.2+8)))else some (v_7.1,v_7.2)).bind λv_12=>(FX (⟨#[0,1,2,2,3,3,3,3,4,4,4,4,4,4,4,4,5,5,5,5,5,5,5,5,5,5,5,5,5,5,5,5,6,6,6,6,6,6,6,6,6,6,6,6,6,6,6,6,6,6,6,6,6,6,6,6,6,6,6,6,6,6,6,6,7,7,7,7,7,7,7,7,7,7,7,7,7,7,7,7,7,7,7,7,7,7,7,7,7,7,7,7,7,7,7,7,7,7,7,7,7,7,7,7,7,7,7,7,7,7,7,7,7,7,7,7,7,7,7,7,7,7,7,7,7,7,7,7,8,8,8,8,8,8,8,8,8,8,8,8,8,8,8,8,8,8,8,8,8,8,8,8,8,8,8,8,8,8,8,8,8,8,8,8,8,8,8,8,8,8,8,8,8,8,8,8,8,8,8,8,8,8,8,8,8,8,8,8,8,8,8,8,8,8,8,8,8,8,8,8,8,8,8,8,8,8,8,8,8,8,8,8,8,8,8,8,8,8,8,8,8,8,8,8,8,8,8,8,8,8,8,8,8,8,8,8,8,8,8,8,8,8,8,8,8,8,8,8,8,8,8,8,8,8,8,8]⟩:ByteArray) (IntKind.u8.wrap v_12.1)).bind λb_17=>some (w64 (v_12.2+(w64 (b_17.toNat:Int))))
def oP (x_1:Int):Option (Int) :=
  (pW x_1).bind λr_2=>some r_2
def bQ (a_2:Int) (s_21:(List Run)×Int):Option (Ctl ((List Run)×Int) (Unit)) :=
  (bif (decide (s_21.2>a_2))then (inR s_21.2 s_21.1).bind λ_=>(s_21.1[(0+(s_21.2).toNat)]?).bind λe_30=>(inR (w64 (s_21.2-1)) s_21.1).bind λ_=>(s_21.1[(0+((w64 (s_21.2-1))).toNat)]?).bind λe_33=>(sj e_30 e_33).bind λr_35=>some (decide (r_35<0))else some false).bind λv_26=>bif v_26 then (inR (w64 (s_21.2-1)) s_21.1).bind λ_=>(s_21.1[(0+((w64 (s_21.2-1))).toNat)]?).bind λe_39=>(inR s_21.2 s_21.1).bind λ_=>(s_21.1[(0+(s_21.2).toNat)]?).bind λe_42=>(inR s_21.2 s_21.1).bind λ_=>(s_21.1[(0+(s_21.2).toNat)]?).bind λe_45=>(inR (w64 (s_21.2-1)) (s_21.1.set (0+(s_21.2).toNat) e_39)).bind λ_=>((s_21.1.set (0+(s_21.2).toNat) e_39)[(0+((w64 (s_21.2-1))).toNat)]?).bind λe_48=>some (.go (((s_21.1.set (0+(s_21.2).toNat) e_39).set (0+((w64 (s_21.2-1))).toNat) e_42),(w64 (s_21.2-1))))else some (.brk (s_21.1,s_21.2))
noncomputable def bB (b_3:Int) (a_2:Int) (s_10:(List Run)×Int):Option (Ctl ((List Run)×Int) (Unit)) :=
  bif (decide (s_10.2<b_3))then (gX (s_10.1,s_10.2) (λs=>bQ a_2 s)).bind λo_24=>thenC o_24 (λs_21=>some (.go (s_21.1,(w64 (s_10.2+1))))) (λ_=>none)else some (.brk (s_10.1,s_10.2))
noncomputable def bG (data_1:(List Run)) (a_2:Int) (b_3:Int):Option ((List Run)) :=
  (gX (data_1,(w64 (a_2+1))) (λs=>bB b_3 a_2 s)).bind λo_13=>thenC o_13 (λs_10=>some s_10.1) (λ_=>none)
noncomputable def bP (b_3:Int) (a_2:Int) (data_1:(List Run)) (limit_4:Int) (s_11:Unit):Option (Ctl (Unit) ((List Run))) :=
  bif (decide ((w64 (b_3-a_2))<=12))then (bG data_1 a_2 b_3).bind λr_17=>(jS r_17 data_1).bind λ_=>some (.ret r_17)else bif (limit_4==0)then none else none
noncomputable def bU (data_1:(List Run)) (a_2:Int) (b_3:Int) (limit_4:Int):Option ((List Run)) :=
  (gX () (λs=>bP b_3 a_2 data_1 limit_4 s)).bind λo_14=>thenC o_14 (λs_11=>some data_1) (λr=>some r)
noncomputable def bI (x_1:(List Run)):Option ((List Run)) :=
  (oP (IntKind.u64.wrap (x_1.length:Int))).bind λr_3=>(bU x_1 0 (x_1.length:Int) r_3).bind λr_5=>(jS r_5 x_1).bind λ_=>some r_5
def nP (y_2:Int) (k_3:Nat) (x_5:Rect) (s_8:(List Run)):Option (Ctl ((List Run)) (Unit)) :=
  (bif (decide (x_5.Y<=y_2))then some (decide (y_2<(w64 (x_5.Y+x_5.H))))else some false).bind λv_17=>(bif v_17 then (lH s_8 ([(⟨x_5.X,(w64 (x_5.X+x_5.W))⟩:Run)]:List Run)).bind λa_24=>some a_24 else some s_8).bind λv_20=>some (.go v_20)
def nQ (k_30:Nat) (x_32:Run) (s_35:(List Run)):Option (Ctl ((List Run)) (Unit)) :=
  (bif (decide ((w64 ((s_35.length:Int)-1))>=0))then (inR (w64 ((s_35.length:Int)-1)) s_35).bind λ_=>(s_35[(0+((w64 ((s_35.length:Int)-1))).toNat)]?).bind λe_48=>some (decide (x_32.f_from<=e_48.f_to))else some false).bind λv_44=>(bif v_44 then (inR (w64 ((s_35.length:Int)-1)) s_35).bind λ_=>(s_35[(0+((w64 ((s_35.length:Int)-1))).toNat)]?).bind λe_55=>(inR (w64 ((s_35.length:Int)-1)) s_35).bind λ_=>(s_35[(0+((w64 ((s_35.length:Int)-1))).toNat)]?).bind λe_58=>some (s_35.set (0+((w64 ((s_35.length:Int)-1))).toNat) (⟨e_58.f_from,(iw e_55.f_to x_32.f_to)⟩:Run))else (lH s_35 ([x_32]:List Run)).bind λa_60=>some a_60).bind λv_50=>some (.go v_50)
noncomputable def nA (l_1:(List Rect)) (y_2:Int):Option ((List Run)) :=
  (forL l_1 ([]:List Run) (λk x s=>nP y_2 k x s)).bind λo_14=>thenC o_14 (λs_8=>(bI s_8).bind λr_27=>(jS r_27 s_8).bind λ_=>(forL r_27 ([]:List Run) (λk x s=>nQ k x s)).bind λo_41=>thenC o_41 (λs_35=>some s_35) (λ_=>none)) (λ_=>none)
def nU (m_2:(List Run)) (x_5:Run) (s_22:Int):Option (Ctl (Int) (Unit)) :=
  (bif (decide (s_22<(m_2.length:Int)))then (idx m_2 s_22).bind λy_30=>some (decide (y_30.f_to<=x_5.f_from))else some false).bind λv_27=>bif v_27 then some (.go (w64 (s_22+1)))else some (.brk s_22)
def nY (m_2:(List Run)) (x_5:Run) (s_38:(List Run)×Int×Int):Option (Ctl ((List Run)×Int×Int) (Unit)) :=
  (bif (decide (s_38.2.1<(m_2.length:Int)))then (idx m_2 s_38.2.1).bind λy_48=>some (decide (y_48.f_from<x_5.f_to))else some false).bind λv_45=>bif v_45 then (idx m_2 s_38.2.1).bind λy_51=>(bif (decide (y_51.f_from>s_38.2.2))then (idx m_2 s_38.2.1).bind λy_57=>(lH s_38.1 ([(⟨s_38.2.2,y_57.f_from⟩:Run)]:List Run)).bind λa_59=>some a_59 else some s_38.1).bind λv_53=>(idx m_2 s_38.2.1).bind λy_62=>some (.go (v_53,(w64 (s_38.2.1+1)),(iw s_38.2.2 y_62.f_to)))else some (.brk (s_38.1,s_38.2.1,s_38.2.2))
noncomputable def lq (m_2:(List Run)) (k_3:Nat) (x_5:Run) (s_8:(List Run)×Int):Option (Ctl ((List Run)×Int) (Unit)) :=
  (gX s_8.2 (λs=>nU m_2 x_5 s)).bind λo_25=>thenC o_25 (λs_22=>(gX (s_8.1,s_22,x_5.f_from) (λs=>nY m_2 x_5 s)).bind λo_43=>thenC o_43 (λs_38=>(bif (decide (s_38.2.2<x_5.f_to))then (lH s_38.1 ([(⟨s_38.2.2,x_5.f_to⟩:Run)]:List Run)).bind λa_68=>some a_68 else some s_38.1).bind λv_64=>some (.go (v_64,s_22))) (λ_=>none)) (λ_=>none)
noncomputable def pu (l_1:(List Run)) (m_2:(List Run)):Option ((List Run)) :=
  (forL l_1 (([]:List Run),0) (λk x s=>lq m_2 k x s)).bind λo_14=>thenC o_14 (λs_8=>some s_8.1) (λ_=>none)
def dY (s2_2:(List Run)) (k_4:Nat) (x_6:Run) (s_9:Unit):Option (Ctl (Unit) (Bool)) :=
  (idx s2_2 (k_4:Int)).bind λy_14=>bif (!((x_6.f_from==y_14.f_from)&&((x_6.f_to==y_14.f_to)&&true)))then some (.ret false)else some (.go ())
def dz (s1_1:(List Run)) (s2_2:(List Run)):Option (Bool) :=
  bif ((s1_1.length:Int) != (s2_2.length:Int))then some false else (forL s1_1 () (λk x s=>dY s2_2 k x s)).bind λo_12=>thenC o_12 (λs_9=>some true) (λr=>some r)
def lW (k_5:Nat) (x_7:Rect) (s_10:(List Int)):Option (Ctl ((List Int)) (Unit)) :=
  (lH s_10 ([x_7.Y,(w64 (x_7.Y+x_7.H))]:List Int)).bind λa_19=>some (.go a_19)
def l8 (s_32:(List Rect)×(List Run)×Int) (x_29:Int) (k_54:Nat) (x_56:Run) (s_59:(List Rect)):Option (Ctl ((List Rect)) (Unit)) :=
  (lH s_59 ([(⟨x_56.f_from,s_32.2.2,(w64 (x_56.f_to-x_56.f_from)),(w64 (x_29-s_32.2.2))⟩:Rect)]:List Rect)).bind λa_67=>some (.go a_67)
noncomputable def jN (r_25:(List Int)) (l_1:(List Rect)) (m_2:(List Rect)) (k_27:Nat) (x_29:Int) (s_32:(List Rect)×(List Run)×Int):Option (Ctl ((List Rect)×(List Run)×Int) (Unit)) :=
  (bif (decide ((w64 ((k_27:Int)+1))<(r_25.length:Int)))then (nA l_1 x_29).bind λr_45=>(nA m_2 x_29).bind λr_47=>(pu r_45 r_47).bind λr_49=>some r_49 else some ([]:List Run)).bind λv_42=>(dz s_32.2.1 v_42).bind λr_51=>bif r_51 then some (.go (s_32.1,s_32.2.1,s_32.2.2))else (forL s_32.2.1 s_32.1 (λk x s=>l8 s_32 x_29 k x s)).bind λo_64=>thenC o_64 (λs_59=>some (.go (s_59,v_42,x_29))) (λ_=>none)
noncomputable def mI (l_1:(List Rect)) (m_2:(List Rect)):Option ((List Rect)) :=
  (dL ([l_1,m_2]:List (List Rect))).bind λr_3=>(forL r_3 ([]:List Int) (λk x s=>lW k x s)).bind λo_16=>thenC o_16 (λs_10=>(bS s_10).bind λr_22=>(jS r_22 s_10).bind λ_=>(ek r_22).bind λr_25=>(forL r_25 (([]:List Rect),([]:List Run),0) (λk x s=>jN r_25 l_1 m_2 k x s)).bind λo_38=>thenC o_38 (λs_32=>some s_32.1) (λ_=>none)) (λ_=>none)
def qN (k_2:Nat) (x_4:Rect) (s_7:Int):Option (Ctl (Int) (Unit)) :=
  some (.go (w64 (s_7+(w64 (x_4.W*x_4.H)))))
def rU (l_1:(List Rect)):Option (Int) :=
  (forL l_1 0 (λk x s=>qN k x s)).bind λo_10=>thenC o_10 (λs_7=>some s_7) (λ_=>none)
noncomputable def oZ (l_1:(List Rect)):Option (Int×Int) :=
  (kQ l_1).bind λr_2=>bif (r_2 != 0)then some (0,r_2)else (mI l_1 ([]:List Rect)).bind λr_5=>(rU r_5).bind λr_7=>some (r_7,0)
def zW (n_1:Int):Option (Bool) :=
  (bif (decide (n_1>=0))then some (decide (n_1<=4000))else some false).bind λv_2=>some v_2
def jD (l_1:(List Int)) (k_3:Nat) (x_5:Int) (s_8:Unit):Option (Ctl (Unit) (Int)) :=
  (zW x_5).bind λr_13=>bif (!r_13)then some (.ret 1)else (bif (decide ((k_3:Int)>0))then (idx l_1 (w64 ((k_3:Int)-1))).bind λy_19=>some (decide (x_5<=y_19))else some false).bind λv_16=>bif v_16 then some (.ret 7)else some (.go ())
def ja (l_1:(List Int)):Option (Int) :=
  bif (decide ((l_1.length:Int)>100))then some 2 else (forL l_1 () (λk x s=>jD l_1 k x s)).bind λo_11=>thenC o_11 (λs_8=>some 0) (λr=>some r)
noncomputable def iI (l_1:(List ByteArray)) (k_2:Nat) (x_4:ByteArray) (s_7:Unit):Option (Ctl (Unit) (Int)) :=
  (dF x_4).bind λr_12=>bif (!r_12)then some (.ret 5)else (bif (decide ((k_2:Int)>0))then (idx l_1 (w64 ((k_2:Int)-1))).bind λy_18=>some (sLe x_4 y_18)else some false).bind λv_15=>bif v_15 then some (.ret 7)else some (.go ())
noncomputable def iX (l_1:(List ByteArray)):Option (Int) :=
  (forL l_1 () (λk x s=>iI l_1 k x s)).bind λo_10=>thenC o_10 (λs_7=>some 0) (λr=>some r)
noncomputable def iE (l_1:(List ByteArray)):Option (Int) :=
  bif (decide ((l_1.length:Int)>20))then some 2 else (iX l_1).bind λr_3=>some r_3
noncomputable def ik (e_1:Entry):Option (Int) :=
  ((dF e_1.Key).bind λr_5=>bif (!r_5)then some true else (dF e_1.Item).bind λr_8=>some (!r_8)).bind λv_3=>bif v_3 then some 5 else ((aO e_1.Version 0 1000000).bind λr_13=>bif r_13 then some true else (aO e_1.First 0 e_1.Last).bind λr_16=>bif r_16 then some true else bif (decide (e_1.Last>4000))then some true else (aO e_1.Every 1 400).bind λr_20=>bif r_20 then some true else (aO e_1.Days 1 127).bind λr_23=>some r_23).bind λv_11=>bif v_11 then some 1 else (ja e_1.Except).bind λr_26=>bif (r_26 != 0)then some r_26 else ((aO e_1.From 0 1439).bind λr_31=>bif r_31 then some true else (aO e_1.To 0 1439).bind λr_34=>bif r_34 then some true else (aO e_1.Prio 0 9).bind λr_37=>some r_37).bind λv_29=>bif v_29 then some 1 else (iE e_1.Tags).bind λr_40=>some r_40
noncomputable def eU (l_1:(List Entry)) (k_3:Nat) (x_5:Entry) (s_8:Unit):Option (Ctl (Unit) (Int)) :=
  (ik x_5).bind λr_14=>bif (r_14 != 0)then some (.ret r_14)else (bif (decide ((k_3:Int)>0))then (idx l_1 (w64 ((k_3:Int)-1))).bind λy_20=>some (sLe x_5.Key y_20.Key)else some false).bind λv_17=>bif v_17 then some (.ret 7)else some (.go ())
noncomputable def fU (l_1:(List Entry)):Option (Int) :=
  bif (decide ((l_1.length:Int)>200))then some 2 else (forL l_1 () (λk x s=>eU l_1 k x s)).bind λo_11=>thenC o_11 (λs_8=>some 0) (λr=>some r)
def jb (wv_1:Window):Option (Int) :=
  ((aO wv_1.From 0 wv_1.To).bind λr_5=>bif r_5 then some true else some (decide (wv_1.To>345686400000))).bind λv_3=>bif v_3 then some 1 else bif (decide ((w64 (wv_1.To-wv_1.From))>34560000000))then some 2 else some 0
def cmp_Less_int (x_1:Int) (y_2:Int):Option (Bool) :=
  ((cmp_isNaN_int x_1).bind λr_5=>bif r_5 then (cmp_isNaN_int y_2).bind λr_8=>bif (!r_8)then some true else some (decide (x_1<y_2))else some (decide (x_1<y_2))).bind λv_3=>some v_3
def iC (x_1:Int):Option (Bool) :=
  some (x_1 != x_1)
def dX (x_1:(List Int)) (target_2:Int) (s_8:Int×Int):Option (Ctl (Int×Int) (Unit)) :=
  bif (decide (s_8.1<s_8.2))then (MV .u64 (IntKind.u64.wrap (w64 (s_8.1+s_8.2))) 1).bind λq_14=>(idx x_1 (w64 q_14)).bind λy_16=>(cmp_Less_int y_16 target_2).bind λr_18=>bif r_18 then some (.go ((w64 ((w64 q_14)+1)),s_8.2))else some (.go (s_8.1,(w64 q_14)))else some (.brk (s_8.1,s_8.2))
noncomputable def dG (x_1:(List Int)) (target_2:Int):Option (Int×Bool) :=
  (gX (0,(x_1.length:Int)) (λs=>dX x_1 target_2 s)).bind λo_11=>thenC o_11 (λs_8=>(bif (decide (s_8.1<(x_1.length:Int)))then (idx x_1 s_8.1).bind λy_24=>bif (y_24==target_2)then some true else (idx x_1 s_8.1).bind λy_27=>(iC y_27).bind λr_29=>bif r_29 then (iC target_2).bind λr_32=>some r_32 else some false else some false).bind λv_21=>some (s_8.1,v_21)) (λ_=>none)
noncomputable def kW (e_1:Entry) (d_2:Int):Option (Bool) :=
  ((aO d_2 e_1.First e_1.Last).bind λr_6=>bif r_6 then some true else (Jr .i64 (w64 (d_2-e_1.First)) e_1.Every).bind λq_9=>bif (q_9 != 0)then some true else (shlO .i64 1 (d_2.tmod 7)).bind λq_12=>some ((NN .i64 e_1.Days q_12)==0)).bind λv_4=>bif v_4 then some false else (dG e_1.Except d_2).bind λr_15=>some (!r_15.2)
def mO (e_1:Entry) (zone_2:Int) (d_3:Int):Option (Window) :=
  (bif (decide ((w64 (e_1.To-e_1.From))<=0))then some (w64 ((w64 (e_1.To-e_1.From))+1440))else some (w64 (e_1.To-e_1.From))).bind λv_6=>some (⟨(w64 ((w64 ((w64 ((w64 (d_3*1440))+e_1.From))-zone_2))*60000)),(w64 ((w64 ((w64 ((w64 ((w64 (d_3*1440))+e_1.From))-zone_2))*60000))+(w64 (v_6*60000))))⟩:Window)
noncomputable def je (wv_3:Window) (zone_2:Int) (e_1:Entry) (s_15:(List Window)×Int):Option (Ctl ((List Window)×Int) (Unit)) :=
  bif (decide (s_15.2<=(Gs (w64 ((w64 ((w64 (wv_3.To+(w64 (zone_2*60000)))).tdiv 86400000))+1)) e_1.Last)))then (kW e_1 s_15.2).bind λr_24=>bif (!r_24)then some (.go (s_15.1,(w64 (s_15.2+1))))else (mO e_1 zone_2 s_15.2).bind λr_27=>(bif (decide (r_27.From<wv_3.To))then some (decide (r_27.To>wv_3.From))else some false).bind λv_30=>(bif v_30 then (lH s_15.1 ([r_27]:List Window)).bind λa_37=>some a_37 else some s_15.1).bind λv_33=>some (.go (v_33,(w64 (s_15.2+1))))else some (.brk (s_15.1,s_15.2))
noncomputable def kZ (e_1:Entry) (zone_2:Int) (wv_3:Window):Option ((List Window)) :=
  (bif e_1.Gone then some true else some (decide (wv_3.From>=wv_3.To))).bind λv_6=>bif v_6 then some ([]:(List Window))else (gX (([]:List Window),(iw (w64 ((w64 ((w64 (wv_3.From+(w64 (zone_2*60000)))).tdiv 86400000))-2)) e_1.First)) (λs=>je wv_3 zone_2 e_1 s)).bind λo_21=>thenC o_21 (λs_15=>some s_15.1) (λ_=>none)
def uC (t_1:Window) (wv_2:Window):Option (Window) :=
  some (⟨(iw t_1.From wv_2.From),(Gs t_1.To wv_2.To)⟩:Window)
def kN (wv_3:Window) (k_19:Nat) (x_21:Nat) (s_24:(List Window)):Option (Ctl ((List Window)) (Unit)) :=
  (inR (k_19:Int) s_24).bind λ_=>(s_24[(0+((k_19:Int)).toNat)]?).bind λe_30=>(uC e_30 wv_3).bind λr_33=>(inR (k_19:Int) s_24).bind λ_=>(s_24[(0+((k_19:Int)).toNat)]?).bind λe_36=>some (.go (s_24.set (0+((k_19:Int)).toNat) r_33))
noncomputable def lG (e_1:Entry) (zone_2:Int) (wv_3:Window):Option ((List Window)×Int) :=
  (fU ([e_1]:List Entry)).bind λr_6=>bif (r_6 != 0)then some (([]:(List Window)),r_6)else (aO zone_2 (-1440) 1440).bind λr_9=>bif r_9 then some (([]:(List Window)),1)else (jb wv_3).bind λr_12=>bif (r_12 != 0)then some (([]:(List Window)),r_12)else (kZ e_1 zone_2 wv_3).bind λr_15=>(forL (List.range ((r_15.length:Int)).toNat) r_15 (λk x s=>kN wv_3 k x s)).bind λo_27=>thenC o_27 (λs_24=>some (s_24,0)) (λ_=>none)
def nW (wv_1:Window):Option (Bool) :=
  (bif (decide (wv_1.From>=0))then bif (decide (wv_1.From<wv_1.To))then some (decide (wv_1.To<=345686400000))else some false else some false).bind λv_3=>some v_3
noncomputable def jk (l_1:(List ByteArray)):Option (Int) :=
  bif (decide ((l_1.length:Int)>20))then some 2 else (iX l_1).bind λr_3=>some r_3
noncomputable def d9 (l_1:(List Campaign)) (k_3:Nat) (x_5:Campaign) (s_8:Unit):Option (Ctl (Unit) (Int)) :=
  ((dF x_5.Key).bind λr_16=>bif (!r_16)then some true else bif (sNe x_5.Class (⟨#[]⟩:ByteArray))then (dF x_5.Class).bind λr_20=>some (!r_20)else some false).bind λv_14=>bif v_14 then some (.ret 5)else (bif (decide ((k_3:Int)>0))then (idx l_1 (w64 ((k_3:Int)-1))).bind λy_26=>some (sLe x_5.Key y_26.Key)else some false).bind λv_23=>bif v_23 then some (.ret 7)else ((nW x_5.Time).bind λr_31=>bif (!r_31)then some true else (aO x_5.Goal 0 1000000).bind λr_34=>bif r_34 then some true else (aO x_5.Most 0 1000000).bind λr_37=>bif r_37 then some true else (aO x_5.Cents 0 1000000000).bind λr_40=>some r_40).bind λv_29=>bif v_29 then some (.ret 1)else (jk x_5.Tags).bind λr_43=>bif (r_43 != 0)then some (.ret r_43)else some (.go ())
noncomputable def fM (l_1:(List Campaign)):Option (Int) :=
  bif (decide ((l_1.length:Int)>30))then some 2 else (forL l_1 () (λk x s=>d9 l_1 k x s)).bind λo_11=>thenC o_11 (λs_8=>some 0) (λr=>some r)
def rY (c_1:Campaign) (atv_2:Int):Option (Int) :=
  bif (decide (atv_2<c_1.Time.From))then some 0 else bif (decide (atv_2>=c_1.Time.To))then some c_1.Goal else (Ji .i64 (w64 (c_1.Goal*(w64 (atv_2-c_1.Time.From)))) (w64 (c_1.Time.To-c_1.Time.From))).bind λq_6=>some q_6
noncomputable def oU (c_1:Campaign) (atv_2:Int):Option (Int×Int) :=
  (fM ([c_1]:List Campaign)).bind λr_4=>bif (r_4 != 0)then some (0,r_4)else (bO atv_2).bind λr_7=>bif (!r_7)then some (0,1)else (rY c_1 atv_2).bind λr_10=>some (r_10,0)
noncomputable def pJ (l_1:(List Beat)) (player_2:ByteArray) (n_3:Int) (back_4:Bool):Option (Int×Int) :=
  (dZ l_1).bind λr_5=>bif (r_5 != 0)then some (0,r_5)else (dF player_2).bind λr_8=>bif (!r_8)then some (0,5)else (bO n_3).bind λr_11=>bif (!r_11)then some (0,1)else (jq l_1 player_2 back_4).bind λr_14=>(gz r_14 n_3).bind λr_16=>some (r_16.1,r_16.2)
noncomputable def o7 (l_1:(List Beat)) (player_2:ByteArray) (clock_3:Int):Option (Int×Int) :=
  (pJ l_1 player_2 clock_3 false).bind λr_4=>some (r_4.1,r_4.2)
noncomputable def iT (a_1:Alert) (k_4:Nat) (x_6:ByteArray) (s_9:Unit):Option (Ctl (Unit) (Int)) :=
  (dF x_6).bind λr_14=>bif (!r_14)then some (.ret 5)else (bif (decide ((k_4:Int)>0))then (idx a_1.Refs (w64 ((k_4:Int)-1))).bind λy_20=>some (sLe x_6 y_20)else some false).bind λv_17=>bif v_17 then some (.ret 7)else bif (sEq x_6 a_1.Id)then some (.ret 14)else some (.go ())
noncomputable def kr (a_1:Alert):Option (Int) :=
  bif (decide ((a_1.Refs.length:Int)>20))then some 2 else (forL a_1.Refs () (λk x s=>iT a_1 k x s)).bind λo_12=>thenC o_12 (λs_9=>bif (!((a_1.Kind==1)==((a_1.Refs.length:Int)==0)))then some 3 else some 0) (λr=>some r)
def jo (x0:ByteArray):Option (Bool) :=
  KE x0
def strings_Contains (x0:ByteArray) (x1:ByteArray):Option (Bool) :=
  Am x0 x1
def nH (s_1:ByteArray) (s_7:Int):Option (Ctl (Int) (Bool)) :=
  bif (decide (s_7<(s_1.size:Int)))then ((FX s_1 s_7).bind λb_15=>bif (decide ((b_15.toNat:Int)<32))then some true else (FX s_1 s_7).bind λb_18=>some ((b_18.toNat:Int)==127)).bind λv_13=>bif v_13 then some (.ret false)else some (.go (w64 (s_7+1)))else some (.brk s_7)
noncomputable def pE (s_1:ByteArray):Option (Bool) :=
  (gX 0 (λs=>nH s_1 s)).bind λo_10=>thenC o_10 (λs_7=>((jo s_1).bind λr_23=>bif r_23 then (lT s_1 (⟨#[32]⟩:ByteArray)).bind λr_26=>bif (sEq r_26 s_1)then (strings_Contains s_1 (⟨#[32,32]⟩:ByteArray)).bind λr_29=>some (!r_29)else some false else some false).bind λv_21=>some v_21) (λr=>some r)
def jv (k_29:Nat) (x_31:Rect) (s_34:Unit):Option (Ctl (Unit) (Int)) :=
  (lU x_31).bind λr_40=>bif (r_40 != 0)then some (.ret r_40)else some (.go ())
noncomputable def jP (a_1:Alert):Option (Int) :=
  ((dF a_1.Id).bind λr_5=>bif (!r_5)then some true else (dF a_1.Sender).bind λr_8=>some (!r_8)).bind λv_3=>bif v_3 then some 5 else (aO a_1.Kind 1 3).bind λr_11=>bif r_11 then some 4 else (kr a_1).bind λr_14=>bif (r_14 != 0)then some r_14 else ((bO a_1.At).bind λr_19=>bif (!r_19)then some true else (aO a_1.Until (w64 (a_1.At+1)) (w64 (a_1.At+2592000000))).bind λr_22=>bif r_22 then some true else (aO a_1.Weight 1 9).bind λr_25=>some r_25).bind λv_17=>bif v_17 then some 1 else bif (decide ((a_1.Areas.length:Int)>20))then some 2 else (forL a_1.Areas () (λk x s=>jv k x s)).bind λo_37=>thenC o_37 (λs_34=>bif (!((a_1.Kind==3)==((a_1.Areas.length:Int)==0)))then some 3 else bif (decide ((a_1.Text.size:Int)>500))then some 2 else ((pE a_1.Text).bind λr_47=>bif (!r_47)then some true else bif (sEq a_1.Text (⟨#[]⟩:ByteArray))then some (!(a_1.Kind==3))else some false).bind λv_45=>bif v_45 then some 3 else some 0) (λr=>some r)
def oN (a_1:Alert) (b_2:Alert):Option (Int) :=
  (cmp_Compare_int a_1.At b_2.At).bind λr_5=>(strings_Compare a_1.Id b_2.Id).bind λr_7=>(iJ ([r_5,r_7]:List Int)).bind λr_9=>some r_9
noncomputable def gD (l_1:(List Alert)) (k_3:Nat) (x_5:Alert) (s_8:Unit):Option (Ctl (Unit) (Int)) :=
  (jP x_5).bind λr_14=>bif (r_14 != 0)then some (.ret r_14)else (bif (decide ((k_3:Int)>0))then (idx l_1 (w64 ((k_3:Int)-1))).bind λy_20=>(oN y_20 x_5).bind λr_22=>some (decide (r_22>=0))else some false).bind λv_17=>bif v_17 then some (.ret 7)else some (.go ())
def jl (k_26:Nat) (x_28:Alert) (s_31:(List (ByteArray×Bool))):Option (Ctl ((List (ByteArray×Bool))) (Int)) :=
  bif ((KF eqS s_31 x_28.Id).getD false)then some (.ret 6)else some (.go (Nu eqS s_31 x_28.Id true))
noncomputable def jf (l_1:(List Alert)):Option (Int) :=
  bif (decide ((l_1.length:Int)>300))then some 2 else (forL l_1 () (λk x s=>gD l_1 k x s)).bind λo_11=>thenC o_11 (λs_8=>(forL l_1 ([]:List (ByteArray×Bool)) (λk x s=>jl k x s)).bind λo_34=>thenC o_34 (λs_31=>some 0) (λr=>some r)) (λr=>some r)
noncomputable def ib (l_1:(List Post)) (k_3:Nat) (x_5:Post) (s_8:Unit):Option (Ctl (Unit) (Int)) :=
  (dF x_5.Player).bind λr_14=>bif (!r_14)then some (.ret 5)else ((aO x_5.X (-100000) 100000).bind λr_19=>bif r_19 then some true else (aO x_5.Y (-100000) 100000).bind λr_22=>some r_22).bind λv_17=>bif v_17 then some (.ret 1)else (bif (decide ((k_3:Int)>0))then (idx l_1 (w64 ((k_3:Int)-1))).bind λy_28=>some (sLe x_5.Player y_28.Player)else some false).bind λv_25=>bif v_25 then some (.ret 7)else some (.go ())
noncomputable def jK (l_1:(List Post)):Option (Int) :=
  bif (decide ((l_1.length:Int)>500))then some 2 else (forL l_1 () (λk x s=>ib l_1 k x s)).bind λo_11=>thenC o_11 (λs_8=>some 0) (λr=>some r)
noncomputable def kG (l_1:(List Alert)) (posts_2:(List Post)):Option (Int) :=
  (jf l_1).bind λr_3=>bif (r_3 != 0)then some r_3 else (jK posts_2).bind λr_6=>some r_6
def qa (r_1:Rect) (p_2:Post):Option (Bool) :=
  (bif (decide (r_1.X<=p_2.X))then bif (decide (p_2.X<(w64 (r_1.X+r_1.W))))then bif (decide (r_1.Y<=p_2.Y))then some (decide (p_2.Y<(w64 (r_1.Y+r_1.H))))else some false else some false else some false).bind λv_4=>some v_4
def dU (f_2:Rect->Option Bool) (k_3:Nat) (x_5:Rect) (s_8:Unit):Option (Ctl (Unit) (Int)) :=
  (f_2 x_5).bind λr_13=>bif r_13 then some (.ret (k_3:Int))else some (.go ())
def fD (s_1:(List Rect)) (f_2:Rect->Option Bool):Option (Int) :=
  (forL s_1 () (λk x s=>dU f_2 k x s)).bind λo_11=>thenC o_11 (λs_8=>some (-1)) (λr=>some r)
def dW (s_1:(List Rect)) (f_2:Rect->Option Bool):Option (Bool) :=
  (fD s_1 f_2).bind λr_3=>some (decide (r_3>=0))
def oL (a_1:Alert) (p_2:Post):Option (Bool) :=
  (dW a_1.Areas (λx0=>qa x0 p_2)).bind λr_5=>some r_5
noncomputable def mE (a_1:Alert) (p_2:Post):Option (Bool×Int) :=
  (kG ([a_1]:List Alert) ([p_2]:List Post)).bind λr_5=>bif (r_5 != 0)then some (false,r_5)else (oL a_1 p_2).bind λr_8=>some (r_8,0)
def ug (k_2:Nat) (x_4:Int) (s_7:Unit):Option (Ctl (Unit) (Int)) :=
  bif (x_4 != 0)then some (.ret x_4)else some (.go ())
def wV (l_1:(List Int)):Option (Int) :=
  (forL l_1 () (λk x s=>ug k x s)).bind λo_10=>thenC o_10 (λs_7=>some 0) (λr=>some r)
noncomputable def oC  : Option (Bool) :=
  (oZ ([(⟨0,0,2,2⟩:Rect),(⟨1,1,2,2⟩:Rect)]:List Rect)).bind λr_1=>(lG (⟨(⟨#[97]⟩:ByteArray),(⟨#[98]⟩:ByteArray),0,0,0,1,127,([]:List Int),1,2,0,([]:List ByteArray),false⟩:Entry) 0 (⟨0,86400000⟩:Window)).bind λr_3=>(oU (⟨(⟨#[97]⟩:ByteArray),(⟨#[]⟩:ByteArray),(⟨0,100⟩:Window),([]:List ByteArray),10,0,0⟩:Campaign) 50).bind λr_5=>(o7 ([(⟨(⟨#[112]⟩:ByteArray),0,100⟩:Beat),(⟨(⟨#[112]⟩:ByteArray),1000,1300⟩:Beat)]:List Beat) (⟨#[112]⟩:ByteArray) 700).bind λr_7=>(mE (⟨(⟨#[97]⟩:ByteArray),(⟨#[115]⟩:ByteArray),1,([]:List ByteArray),0,5,1,([(⟨0,0,2,2⟩:Rect)]:List Rect),(⟨#[120]⟩:ByteArray)⟩:Alert) (⟨(⟨#[112]⟩:ByteArray),1,1⟩:Post)).bind λr_10=>((wV ([r_1.2,r_3.2,r_5.2,r_7.2,r_10.2]:List Int)).bind λr_14=>bif (r_14==0)then bif (r_1.1==7)then bif ((r_3.1.length:Int)==1)then bif (r_5.1==5)then bif (r_7.1==500)then some r_10.1 else some false else some false else some false else some false else some false).bind λv_12=>some v_12
def eO (r_9:(List Play)×(List Int)×Int) (k_18:Nat) (x_20:Play) (s_23:Unit):Option (Ctl (Unit) (Bool)) :=
  (bif (decide ((k_18:Int)>0))then (idx r_9.1 (w64 ((k_18:Int)-1))).bind λy_31=>bif (sEq x_20.Player y_31.Player)then (idx r_9.1 (w64 ((k_18:Int)-1))).bind λy_34=>(idx r_9.1 (w64 ((k_18:Int)-1))).bind λy_36=>some (decide (x_20.At<(w64 (y_34.At+y_36.Long))))else some false else some false).bind λv_28=>bif v_28 then some (.ret false)else some (.go ())
def eH (k_44:Nat) (x_46:Tally) (s_49:Int×Int):Option (Ctl (Int×Int) (Unit)) :=
  some (.go ((w64 (s_49.1+x_46.Many)),(w64 (s_49.2+x_46.Long))))
def eG (k_55:Nat) (x_57:Play) (s_60:Int):Option (Ctl (Int) (Unit)) :=
  some (.go (w64 (s_60+x_57.Long)))
noncomputable def jY (l_1:(List Int)):Option (Bool) :=
  (ic (⟨l_1,0⟩:Stream) 7).bind λr_3=>(gG r_3.2).bind λr_6=>(pK r_3.1 r_6.1).bind λr_9=>(bif (r_9.2.2 != 0)then some true else bif ((w64 ((r_9.1.length:Int)+(r_9.2.1.length:Int))) != (r_3.1.length:Int))then some true else (iA r_9.1).bind λr_15=>some (r_15 != 0)).bind λv_11=>bif v_11 then some false else (forL r_9.1 () (λk x s=>eO r_9 k x s)).bind λo_26=>thenC o_26 (λs_23=>(dN r_6.2 ([0,60]:List Int)).bind λr_39=>(nJ r_9.1 r_39.1).bind λr_42=>(forL r_42.1 (0,0) (λk x s=>eH k x s)).bind λo_52=>thenC o_52 (λs_49=>(forL r_9.1 0 (λk x s=>eG k x s)).bind λo_63=>thenC o_63 (λs_60=>(bif (r_42.2==0)then bif (s_49.1==(r_9.1.length:Int))then bif (s_49.2==s_60)then (oC).bind λr_71=>some r_71 else some false else some false else some false).bind λv_66=>some v_66) (λ_=>none)) (λ_=>none)) (λr=>some r)
end Go.Proofs.YtnfojnnfidnikaaGreatDoor.Law

