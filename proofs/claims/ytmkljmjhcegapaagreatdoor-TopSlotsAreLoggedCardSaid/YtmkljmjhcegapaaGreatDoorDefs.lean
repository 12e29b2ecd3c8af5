/-
  The functions of the program, as plain functions over data (written by a program of ours).
-/
import Derived.Test.YtmkljmjhcegapaaGreatDoorEng5
open Go Go.Eng
namespace Go.Proofs.YtmkljmjhcegapaaGreatDoor.Law
set_option maxRecDepth 100000
set_option linter.unusedVariables false
set_option maxHeartbeats 1000000
structure Stream where
  L:(List Int)
  f_at:Int
def Stream.enc (s:Stream):List D:=[dl eI s.L,.int .i64 s.f_at]

structure Entry where
  Key:ByteArray
  Item:ByteArray
  Version:Int
  First:Int
  Last:Int
  Every:Int
  Days:Int
  Except:(List Int)
  From:Int
  To:Int
  Prio:Int
  Tags:(List ByteArray)
  Gone:Bool
def Entry.enc (s:Entry):List D:=[.str s.Key,.str s.Item,.int .i64 s.Version,.int .i64 s.First,.int .i64 s.Last,.int .i64 s.Every,.int .i64 s.Days,dl eI s.Except,.int .i64 s.From,.int .i64 s.To,.int .i64 s.Prio,dl eS s.Tags,.bool s.Gone]
abbrev Entry.v (s:Entry):List V:=[(vS s.Key),(vS s.Item),(vI s.Version),(vI s.First),(vI s.Last),(vI s.Every),(vI s.Days),(vL eI s.Except),(vI s.From),(vI s.To),(vI s.Prio),(vL eS s.Tags),(vB s.Gone)]

structure Player where
  Key:ByteArray
  Screen:ByteArray
  Zone:Int
  Tags:(List ByteArray)
def Player.enc (s:Player):List D:=[.str s.Key,.str s.Screen,.int .i64 s.Zone,dl eS s.Tags]
abbrev Player.v (s:Player):List V:=[(vS s.Key),(vS s.Screen),(vI s.Zone),(vL eS s.Tags)]

structure Window where
  From:Int
  To:Int
def Window.enc (s:Window):List D:=[.int .i64 s.From,.int .i64 s.To]

structure Slot_ where
  Time:Window
  Entry:ByteArray
def Slot_.enc (s:Slot_):List D:=[.int .i64 s.Time.From,.int .i64 s.Time.To,.str s.Entry]
abbrev Slot_.v (s:Slot_):List V:=[(vI s.Time.From),(vI s.Time.To),(vS s.Entry)]

structure Span where
  f_e:(Option Entry)
  f_time:Window
def Span.enc (s:Span):List D:=[dP Entry.enc s.f_e,.int .i64 s.f_time.From,.int .i64 s.f_time.To]
abbrev Span.v (s:Span):List V:=[(.d (dP Entry.enc s.f_e)),(vI s.f_time.From),(vI s.f_time.To)]

structure Beat where
  Player:ByteArray
  At:Int
  Clock:Int
def Beat.enc (s:Beat):List D:=[.str s.Player,.int .i64 s.At,.int .i64 s.Clock]
abbrev Beat.v (s:Beat):List V:=[(vS s.Player),(vI s.At),(vI s.Clock)]

structure Log_ where
  Player:ByteArray
  Item:ByteArray
  No:Int
  Clock:Int
  Long:Int
  Sum:ByteArray
def Log_.enc (s:Log_):List D:=[.str s.Player,.str s.Item,.int .i64 s.No,.int .i64 s.Clock,.int .i64 s.Long,.str s.Sum]
abbrev Log_.v (s:Log_):List V:=[(vS s.Player),(vS s.Item),(vI s.No),(vI s.Clock),(vI s.Long),(vS s.Sum)]

structure Play where
  Player:ByteArray
  Item:ByteArray
  At:Int
  Long:Int
def Play.enc (s:Play):List D:=[.str s.Player,.str s.Item,.int .i64 s.At,.int .i64 s.Long]
abbrev Play.v (s:Play):List V:=[(vS s.Player),(vS s.Item),(vI s.At),(vI s.Long)]

structure Placed where
  f_i:Int
  f_at:Int
def Placed.enc (s:Placed):List D:=[.int .i64 s.f_i,.int .i64 s.f_at]

structure Beat_ where
  f_from:Int
  f_to:Int
def Beat_.enc (s:Beat_):List D:=[.int .i64 s.f_from,.int .i64 s.f_to]

structure Rect where
  X:Int
  Y:Int
  W:Int
  H:Int
def Rect.enc (s:Rect):List D:=[.int .i64 s.X,.int .i64 s.Y,.int .i64 s.W,.int .i64 s.H]
abbrev Rect.v (s:Rect):List V:=[(vI s.X),(vI s.Y),(vI s.W),(vI s.H)]

structure Run where
  f_from:Int
  f_to:Int
def Run.enc (s:Run):List D:=[.int .i64 s.f_from,.int .i64 s.f_to]

structure Campaign where
  Key:ByteArray
  Class:ByteArray
  Time:Window
  Tags:(List ByteArray)
  Goal:Int
  Most:Int
  Cents:Int
def Campaign.enc (s:Campaign):List D:=[.str s.Key,.str s.Class,.int .i64 s.Time.From,.int .i64 s.Time.To,dl eS s.Tags,.int .i64 s.Goal,.int .i64 s.Most,.int .i64 s.Cents]
abbrev Campaign.v (s:Campaign):List V:=[(vS s.Key),(vS s.Class),(vI s.Time.From),(vI s.Time.To),(vL eS s.Tags),(vI s.Goal),(vI s.Most),(vI s.Cents)]

def tJ (x_1:Int) (n_2:Int):Option (Int) :=
  bif (decide (n_2<1))then some 0 else (Jb .i64 x_1 n_2).bind λq_4=>(bif (decide (q_4<0))then some (w64 (q_4+n_2))else some q_4).bind λv_6=>some v_6
def iO (s_1:Stream) (n_2:Int):Option (Int×Stream) :=
  bif ((s_1.L.length:Int)==0)then (tJ (w64 ((w64 (s_1.f_at+1))*7919)) n_2).bind λr_4=>some (r_4,(⟨s_1.L,(w64 (s_1.f_at+1))⟩:Stream))else (Jb .i64 (w64 ((w64 (s_1.f_at+1))-1)) (s_1.L.length:Int)).bind λq_6=>(Jr .i64 (w64 ((w64 (s_1.f_at+1))-1)) (s_1.L.length:Int)).bind λq_8=>(idx s_1.L q_6).bind λy_10=>(tJ y_10 1073741824).bind λr_12=>(tJ (w64 (r_12+(w64 (q_8*(w64 (7919+q_6)))))) n_2).bind λr_14=>some (r_14,(⟨s_1.L,(w64 (s_1.f_at+1))⟩:Stream))
def iL (s_1:Stream) (n_2:Int):Option (Bool×Stream) :=
  (iO s_1 n_2).bind λr_3=>some ((r_3.1==0),r_3.2)
def mM (s_1:Stream) (l_2:(List ByteArray)):Option (ByteArray×Stream) :=
  (iO s_1 (l_2.length:Int)).bind λr_3=>(idx l_2 r_3.1).bind λy_6=>some (y_6,r_3.2)
def ku (s_1:Stream) (low_2:Int) (high_3:Int):Option (Int×Stream) :=
  bif (decide (high_3<low_2))then some (low_2,s_1)else (iO s_1 (w64 ((w64 (high_3-low_2))+1))).bind λr_5=>some ((w64 (low_2+r_5.1)),r_5.2)
def eT (s_1:Stream) (l_2:(List Int)):Option (Int×Stream) :=
  (iO s_1 (l_2.length:Int)).bind λr_3=>(idx l_2 r_3.1).bind λy_6=>some (y_6,r_3.2)
def iX (k_50:Nat) (x_52:Int) (s_55:(List Int)×(List Int)×Int):Option (Ctl ((List Int)×(List Int)×Int) (Unit)) :=
  (iL (⟨s_55.2.1,s_55.2.2⟩:Stream) 4).bind λr_63=>(bif r_63.1 then (jv s_55.1 ([x_52]:List Int)).bind λa_70=>some a_70 else some s_55.1).bind λv_66=>some (.go (v_66,r_63.2.L,r_63.2.f_at))
def iY (k_73:Nat) (x_75:ByteArray) (s_78:(List ByteArray)×(List Int)×Int):Option (Ctl ((List ByteArray)×(List Int)×Int) (Unit)) :=
  (iL (⟨s_78.2.1,s_78.2.2⟩:Stream) 4).bind λr_86=>(bif r_86.1 then (jv s_78.1 ([x_75]:List ByteArray)).bind λa_93=>some a_93 else some s_78.1).bind λv_89=>some (.go (v_89,r_86.2.L,r_86.2.f_at))
def eH (k_2:Nat) (x_4:ByteArray) (s_7:(List Entry)×(List Int)×Int):Option (Ctl ((List Entry)×(List Int)×Int) (Unit)) :=
  (iL (⟨s_7.2.1,s_7.2.2⟩:Stream) 4).bind λr_15=>bif r_15.1 then some (.go (s_7.1,r_15.2.L,r_15.2.f_at))else (mM r_15.2 ([(⟨#[105,97]⟩:ByteArray),(⟨#[105,98]⟩:ByteArray),(⟨#[105,99]⟩:ByteArray)]:List ByteArray)).bind λr_19=>(ku r_19.2 0 2).bind λr_22=>(eT r_22.2 ([0,0,1,3]:List Int)).bind λr_25=>(eT r_25.2 ([1,1,2,3,7]:List Int)).bind λr_28=>(eT r_28.2 ([127,127,31,96,1,2]:List Int)).bind λr_31=>(eT r_31.2 ([0,0,60,600,1380]:List Int)).bind λr_34=>(eT r_34.2 ([0,60,120,600,720,1439]:List Int)).bind λr_37=>(eT r_37.2 ([0,0,1,5]:List Int)).bind λr_40=>(iL r_40.2 8).bind λr_43=>(eT r_43.2 ([0,1,5,10,30]:List Int)).bind λr_47=>(forL ([1,2,8]:List Int) (([]:List Int),r_47.2.L,r_47.2.f_at) (λk x s=>iX k x s)).bind λo_61=>thenC o_61 (λs_55=>(forL ([(⟨#[99,105,116,121]⟩:ByteArray),(⟨#[109,97,108,108]⟩:ByteArray)]:List ByteArray) (([]:List ByteArray),s_55.2.1,s_55.2.2) (λk x s=>iY k x s)).bind λo_84=>thenC o_84 (λs_78=>(jv s_7.1 ([(⟨x_4,r_19.1,r_22.1,r_25.1,(w64 (r_25.1+r_47.1)),r_28.1,r_31.1,s_55.1,r_34.1,r_37.1,r_40.1,s_78.1,r_43.1⟩:Entry)]:List Entry)).bind λa_96=>some (.go (a_96,s_78.2.1,s_78.2.2))) (λ_=>none)) (λ_=>none)
def iM (s_1:Stream):Option ((List Entry)×Stream) :=
  (forL ([(⟨#[101,97]⟩:ByteArray),(⟨#[101,98]⟩:ByteArray),(⟨#[101,99]⟩:ByteArray),(⟨#[101,100]⟩:ByteArray)]:List ByteArray) (([]:List Entry),s_1.L,s_1.f_at) (λk x s=>eH k x s)).bind λo_13=>thenC o_13 (λs_7=>some (s_7.1,(⟨s_7.2.1,s_7.2.2⟩:Stream))) (λ_=>none)
def ja (s_1:Stream):Option (Player×Stream) :=
  (eT s_1 ([0,0,60,(-90),1440]:List Int)).bind λr_3=>(iO r_3.2 3).bind λr_6=>(idx ([([]:List ByteArray),([(⟨#[99,105,116,121]⟩:ByteArray)]:List ByteArray),([(⟨#[99,105,116,121]⟩:ByteArray),(⟨#[109,97,108,108]⟩:ByteArray)]:List ByteArray)]:List (List ByteArray)) r_6.1).bind λy_9=>some ((⟨(⟨#[112]⟩:ByteArray),(⟨#[115,97]⟩:ByteArray),r_3.1,y_9⟩:Player),r_6.2)
def kz (s_1:ByteArray) (s_7:Int):Option (Ctl (Int) (Bool)) :=
  bif (decide (s_7<(s_1.size:Int)))then (Al s_1 s_7).bind λb_13=>(bif (decide ((b_13.toNat:Int)>=97))then bif (decide ((b_13.toNat:Int)<=122))then some false else bif (decide (s_7>0))then bif (decide ((b_13.toNat:Int)>=48))then bif (decide ((b_13.toNat:Int)<=57))then some false else bif ((b_13.toNat:Int)==45)then some false else some (!((b_13.toNat:Int)==95))else bif ((b_13.toNat:Int)==45)then some false else some (!((b_13.toNat:Int)==95))else some true else bif (decide (s_7>0))then bif (decide ((b_13.toNat:Int)>=48))then bif (decide ((b_13.toNat:Int)<=57))then some false else bif ((b_13.toNat:Int)==45)then some false else some (!((b_13.toNat:Int)==95))else bif ((b_13.toNat:Int)==45)then some false else some (!((b_13.toNat:Int)==95))else some true).bind λv_15=>bif v_15 then some (.ret false)else some (.go (w64 (s_7+1)))else some (.brk s_7)
noncomputable def dQ (s_1:ByteArray):Option (Bool) :=
  (fq 0 (λs=>kz s_1 s)).bind λo_10=>thenC o_10 (λs_7=>(bif (sNe s_1 (⟨#[]⟩:ByteArray))then some (decide ((s_1.size:Int)<=40))else some false).bind λv_30=>some v_30) (λr=>some r)
def aU (n_1:Int) (low_2:Int) (high_3:Int):Option (Bool) :=
  (bif (decide (n_1<low_2))then some true else some (decide (n_1>high_3))).bind λv_4=>some v_4
def uW (n_1:Int):Option (Bool) :=
  (bif (decide (n_1>=0))then some (decide (n_1<=4000))else some false).bind λv_2=>some v_2
def jy (l_1:(List Int)) (k_3:Nat) (x_5:Int) (s_8:Unit):Option (Ctl (Unit) (Int)) :=
  (uW x_5).bind λr_13=>bif (!r_13)then some (.ret 1)else (bif (decide ((k_3:Int)>0))then (idx l_1 (w64 ((k_3:Int)-1))).bind λy_19=>some (decide (x_5<=y_19))else some false).bind λv_16=>bif v_16 then some (.ret 7)else some (.go ())
def iE (l_1:(List Int)):Option (Int) :=
  bif (decide ((l_1.length:Int)>100))then some 2 else (forL l_1 () (λk x s=>jy l_1 k x s)).bind λo_11=>thenC o_11 (λs_8=>some 0) (λr=>some r)
noncomputable def jg (l_1:(List ByteArray)) (k_2:Nat) (x_4:ByteArray) (s_7:Unit):Option (Ctl (Unit) (Int)) :=
  (dQ x_4).bind λr_12=>bif (!r_12)then some (.ret 5)else (bif (decide ((k_2:Int)>0))then (idx l_1 (w64 ((k_2:Int)-1))).bind λy_18=>some (sLe x_4 y_18)else some false).bind λv_15=>bif v_15 then some (.ret 7)else some (.go ())
noncomputable def jD (l_1:(List ByteArray)):Option (Int) :=
  (forL l_1 () (λk x s=>jg l_1 k x s)).bind λo_10=>thenC o_10 (λs_7=>some 0) (λr=>some r)
noncomputable def fK (l_1:(List ByteArray)):Option (Int) :=
  bif (decide ((l_1.length:Int)>20))then some 2 else (jD l_1).bind λr_3=>some r_3
noncomputable def gu (e_1:Entry):Option (Int) :=
  ((dQ e_1.Key).bind λr_5=>bif (!r_5)then some true else (dQ e_1.Item).bind λr_8=>some (!r_8)).bind λv_3=>bif v_3 then some 5 else ((aU e_1.Version 0 1000000).bind λr_13=>bif r_13 then some true else (aU e_1.First 0 e_1.Last).bind λr_16=>bif r_16 then some true else bif (decide (e_1.Last>4000))then some true else (aU e_1.Every 1 400).bind λr_20=>bif r_20 then some true else (aU e_1.Days 1 127).bind λr_23=>some r_23).bind λv_11=>bif v_11 then some 1 else (iE e_1.Except).bind λr_26=>bif (r_26 != 0)then some r_26 else ((aU e_1.From 0 1439).bind λr_31=>bif r_31 then some true else (aU e_1.To 0 1439).bind λr_34=>bif r_34 then some true else (aU e_1.Prio 0 9).bind λr_37=>some r_37).bind λv_29=>bif v_29 then some 1 else (fK e_1.Tags).bind λr_40=>some r_40
noncomputable def fe (l_1:(List Entry)) (k_3:Nat) (x_5:Entry) (s_8:Unit):Option (Ctl (Unit) (Int)) :=
  (gu x_5).bind λr_14=>bif (r_14 != 0)then some (.ret r_14)else (bif (decide ((k_3:Int)>0))then (idx l_1 (w64 ((k_3:Int)-1))).bind λy_20=>some (sLe x_5.Key y_20.Key)else some false).bind λv_17=>bif v_17 then some (.ret 7)else some (.go ())
noncomputable def dL (l_1:(List Entry)):Option (Int) :=
  bif (decide ((l_1.length:Int)>200))then some 2 else (forL l_1 () (λk x s=>fe l_1 k x s)).bind λo_11=>thenC o_11 (λs_8=>some 0) (λr=>some r)
noncomputable def iC (p_1:Player):Option (Int) :=
  ((dQ p_1.Key).bind λr_5=>bif (!r_5)then some true else (dQ p_1.Screen).bind λr_8=>some (!r_8)).bind λv_3=>bif v_3 then some 5 else (aU p_1.Zone (-1440) 1440).bind λr_11=>bif r_11 then some 1 else (fK p_1.Tags).bind λr_14=>some r_14
def fP (wv_1:Window):Option (Int) :=
  ((aU wv_1.From 0 wv_1.To).bind λr_5=>bif r_5 then some true else some (decide (wv_1.To>345686400000))).bind λv_3=>bif v_3 then some 1 else bif (decide ((w64 (wv_1.To-wv_1.From))>34560000000))then some 2 else some 0
noncomputable def jb (l_1:(List Entry)) (p_2:Player) (wv_3:Window):Option (Int) :=
  (dL l_1).bind λr_6=>bif (r_6 != 0)then some r_6 else (iC p_2).bind λr_9=>bif (r_9 != 0)then some r_9 else (fP wv_3).bind λr_12=>some r_12
def cmp_isNaN_string (x_1:ByteArray):Option (Bool) :=
  some (sNe x_1 x_1)
def cmp_Less_string (x_1:ByteArray) (y_2:ByteArray):Option (Bool) :=
  ((cmp_isNaN_string x_1).bind λr_5=>bif r_5 then (cmp_isNaN_string y_2).bind λr_8=>bif (!r_8)then some true else some (sLt x_1 y_2)else some (sLt x_1 y_2)).bind λv_3=>some v_3
def slices_isNaN_string (x_1:ByteArray):Option (Bool) :=
  some (sNe x_1 x_1)
def bf (x_1:(List ByteArray)) (target_2:ByteArray) (s_8:Int×Int):Option (Ctl (Int×Int) (Unit)) :=
  bif (decide (s_8.1<s_8.2))then (zq .u64 (IntKind.u64.wrap (w64 (s_8.1+s_8.2))) 1).bind λq_14=>(idx x_1 (w64 q_14)).bind λy_16=>(cmp_Less_string y_16 target_2).bind λr_18=>bif r_18 then some (.go ((w64 ((w64 q_14)+1)),s_8.2))else some (.go (s_8.1,(w64 q_14)))else some (.brk (s_8.1,s_8.2))
noncomputable def dN (x_1:(List ByteArray)) (target_2:ByteArray):Option (Int×Bool) :=
  (fq (0,(x_1.length:Int)) (λs=>bf x_1 target_2 s)).bind λo_11=>thenC o_11 (λs_8=>(bif (decide (s_8.1<(x_1.length:Int)))then (idx x_1 s_8.1).bind λy_24=>bif (sEq y_24 target_2)then some true else (idx x_1 s_8.1).bind λy_27=>(slices_isNaN_string y_27).bind λr_29=>bif r_29 then (slices_isNaN_string target_2).bind λr_32=>some r_32 else some false else some false).bind λv_21=>some (s_8.1,v_21)) (λ_=>none)
noncomputable def jP (p_2:Player) (k_5:Nat) (x_7:ByteArray) (s_10:Unit):Option (Ctl (Unit) (Bool)) :=
  (dN p_2.Tags x_7).bind λr_15=>bif (!r_15.2)then some (.ret false)else some (.go ())
noncomputable def ol (e_1:Entry) (p_2:Player):Option (Bool) :=
  (forL e_1.Tags () (λk x s=>jP p_2 k x s)).bind λo_13=>thenC o_13 (λs_10=>some true) (λr=>some r)
def cmp_isNaN_int (x_1:Int):Option (Bool) :=
  some (x_1 != x_1)
def cmp_Less_int (x_1:Int) (y_2:Int):Option (Bool) :=
  ((cmp_isNaN_int x_1).bind λr_5=>bif r_5 then (cmp_isNaN_int y_2).bind λr_8=>bif (!r_8)then some true else some (decide (x_1<y_2))else some (decide (x_1<y_2))).bind λv_3=>some v_3
def iB (x_1:Int):Option (Bool) :=
  some (x_1 != x_1)
def bv (x_1:(List Int)) (target_2:Int) (s_8:Int×Int):Option (Ctl (Int×Int) (Unit)) :=
  bif (decide (s_8.1<s_8.2))then (zq .u64 (IntKind.u64.wrap (w64 (s_8.1+s_8.2))) 1).bind λq_14=>(idx x_1 (w64 q_14)).bind λy_16=>(cmp_Less_int y_16 target_2).bind λr_18=>bif r_18 then some (.go ((w64 ((w64 q_14)+1)),s_8.2))else some (.go (s_8.1,(w64 q_14)))else some (.brk (s_8.1,s_8.2))
noncomputable def dE (x_1:(List Int)) (target_2:Int):Option (Int×Bool) :=
  (fq (0,(x_1.length:Int)) (λs=>bv x_1 target_2 s)).bind λo_11=>thenC o_11 (λs_8=>(bif (decide (s_8.1<(x_1.length:Int)))then (idx x_1 s_8.1).bind λy_24=>bif (y_24==target_2)then some true else (idx x_1 s_8.1).bind λy_27=>(iB y_27).bind λr_29=>bif r_29 then (iB target_2).bind λr_32=>some r_32 else some false else some false).bind λv_21=>some (s_8.1,v_21)) (λ_=>none)
noncomputable def jQ (e_1:Entry) (d_2:Int):Option (Bool) :=
  ((aU d_2 e_1.First e_1.Last).bind λr_6=>bif r_6 then some true else (Jb .i64 (w64 (d_2-e_1.First)) e_1.Every).bind λq_9=>bif (q_9 != 0)then some true else (Ml .i64 1 (d_2.tmod 7)).bind λq_12=>some ((vM .i64 e_1.Days q_12)==0)).bind λv_4=>bif v_4 then some false else (dE e_1.Except d_2).bind λr_15=>some (!r_15.2)
def kv (e_1:Entry) (zone_2:Int) (d_3:Int):Option (Window) :=
  (bif (decide ((w64 (e_1.To-e_1.From))<=0))then some (w64 ((w64 (e_1.To-e_1.From))+1440))else some (w64 (e_1.To-e_1.From))).bind λv_6=>some (⟨(w64 ((w64 ((w64 ((w64 (d_3*1440))+e_1.From))-zone_2))*60000)),(w64 ((w64 ((w64 ((w64 ((w64 (d_3*1440))+e_1.From))-zone_2))*60000))+(w64 (v_6*60000))))⟩:Window)
noncomputable def eB (wv_3:Window) (zone_2:Int) (e_1:Entry) (s_15:(List Window)×Int):Option (Ctl ((List Window)×Int) (Unit)) :=
  bif (decide (s_15.2<=(nP (w64 ((w64 ((w64 (wv_3.To+(w64 (zone_2*60000)))).tdiv 86400000))+1)) e_1.Last)))then (jQ e_1 s_15.2).bind λr_24=>bif (!r_24)then some (.go (s_15.1,(w64 (s_15.2+1))))else (kv e_1 zone_2 s_15.2).bind λr_27=>(bif (decide (r_27.From<wv_3.To))then some (decide (r_27.To>wv_3.From))else some false).bind λv_30=>(bif v_30 then (jv s_15.1 ([r_27]:List Window)).bind λa_37=>some a_37 else some s_15.1).bind λv_33=>some (.go (v_33,(w64 (s_15.2+1))))else some (.brk (s_15.1,s_15.2))
noncomputable def gQ (e_1:Entry) (zone_2:Int) (wv_3:Window):Option ((List Window)) :=
  (bif e_1.Gone then some true else some (decide (wv_3.From>=wv_3.To))).bind λv_6=>bif v_6 then some ([]:(List Window))else (fq (([]:List Window),(fZ (w64 ((w64 ((w64 (wv_3.From+(w64 (zone_2*60000)))).tdiv 86400000))-2)) e_1.First)) (λs=>eB wv_3 zone_2 e_1 s)).bind λo_21=>thenC o_21 (λs_15=>some s_15.1) (λ_=>none)
def iQ (l_1:(List Entry)) (k_6:Nat) (k_24:Nat) (x_26:Window) (s_29:(List Span)):Option (Ctl ((List Span)) (Unit)) :=
  (idx l_1 (k_6:Int)).bind λy_37=>(jv s_29 ([(⟨(some y_37),x_26⟩:Span)]:List Span)).bind λa_39=>some (.go a_39)
noncomputable def iR (p_2:Player) (wv_3:Window) (l_1:(List Entry)) (k_6:Nat) (x_8:Entry) (s_11:(List Span)):Option (Ctl ((List Span)) (Unit)) :=
  (ol x_8 p_2).bind λr_19=>bif (!r_19)then some (.go s_11)else (gQ x_8 p_2.Zone wv_3).bind λr_22=>(forL r_22 s_11 (λk x s=>iQ l_1 k_6 k x s)).bind λo_34=>thenC o_34 (λs_29=>some (.go s_29)) (λ_=>none)
noncomputable def iP (l_1:(List Entry)) (p_2:Player) (wv_3:Window):Option ((List Span)) :=
  (forL l_1 ([]:List Span) (λk x s=>iR p_2 wv_3 l_1 k x s)).bind λo_17=>thenC o_17 (λs_11=>some s_11) (λ_=>none)
def cmp_Compare_int (x_1:Int) (y_2:Int):Option (Int) :=
  (cmp_isNaN_int x_1).bind λr_3=>(cmp_isNaN_int y_2).bind λr_5=>bif r_3 then bif r_5 then some 0 else some (-1)else bif r_5 then some 1 else bif (decide (x_1<y_2))then some (-1)else bif (decide (x_1>y_2))then some 1 else some 0
def jf (a_1:Span) (b_2:Span):Option (Int) :=
  (cmp_Compare_int a_1.f_time.From b_2.f_time.From).bind λr_5=>some r_5
noncomputable def iJ (x:(List Span)):Option ((List Span)) :=
  yB (λa b=>jf a b) x
def rQ (t_1:Window) (wv_2:Window):Option (Window) :=
  some (⟨(fZ t_1.From wv_2.From),(nP t_1.To wv_2.To)⟩:Window)
def bJ (x:(List Int)):Option ((List Int)) :=
  Fb x
def cB (s_1:(List Int)) (s_8:Int) (s_28:(List Int)×Int×Int):Option (Ctl ((List Int)×Int×Int) (Unit)) :=
  bif (decide (s_28.2.2<(((((s_1.length:Int)).toNat-(s_8).toNat):Nat):Int)))then (inN s_28.2.2 (((s_1.length:Int)).toNat-(s_8).toNat)).bind λ_=>(s_28.1[(((s_8).toNat)+(s_28.2.2).toNat)]?).bind λe_35=>(inN (w64 (s_28.2.2-1)) (((s_1.length:Int)).toNat-(s_8).toNat)).bind λ_=>(s_28.1[(((s_8).toNat)+((w64 (s_28.2.2-1))).toNat)]?).bind λe_38=>(bif (e_35 != e_38)then (inN s_28.2.2 (((s_1.length:Int)).toNat-(s_8).toNat)).bind λ_=>(s_28.1[(((s_8).toNat)+(s_28.2.2).toNat)]?).bind λe_44=>(inR s_28.2.1 s_28.1).bind λ_=>(s_28.1[(0+(s_28.2.1).toNat)]?).bind λe_47=>some ((s_28.1.set (0+(s_28.2.1).toNat) e_44),(w64 (s_28.2.1+1)))else some (s_28.1,s_28.2.1)).bind λv_40=>some (.go (v_40.1,v_40.2,(w64 (s_28.2.2+1))))else some (.brk (s_28.1,s_28.2.1,s_28.2.2))
noncomputable def bg (s_1:(List Int)) (s_8:Int):Option (Ctl (Int) ((List Int))) :=
  bif (decide (s_8<(s_1.length:Int)))then (inR s_8 s_1).bind λ_=>(s_1[(0+(s_8).toNat)]?).bind λe_15=>(inR (w64 (s_8-1)) s_1).bind λ_=>(s_1[(0+((w64 (s_8-1))).toNat)]?).bind λe_18=>bif (e_15==e_18)then (neL s_1).bind λ_=>(oh s_1 s_8 (s_1.length:Int)).bind λ_=>(fq (s_1,s_8,1) (λs=>cB s_1 s_8 s)).bind λo_31=>thenC o_31 (λs_28=>(oh s_28.1 s_28.2.1 (s_28.1.length:Int)).bind λ_=>(oh (s_28.1.take ((s_28.2.1).toNat)++List.replicate (((s_28.1.length:Int)).toNat-(s_28.2.1).toNat) 0++s_28.1.drop (((s_28.2.1).toNat)+(((s_28.1.length:Int)).toNat-(s_28.2.1).toNat))) 0 s_28.2.1).bind λ_=>some (.ret (DI (s_28.1.take ((s_28.2.1).toNat)++List.replicate (((s_28.1.length:Int)).toNat-(s_28.2.1).toNat) 0++s_28.1.drop (((s_28.2.1).toNat)+(((s_28.1.length:Int)).toNat-(s_28.2.1).toNat))) 0 ((s_28.2.1).toNat)))) (λ_=>none)else some (.go (w64 (s_8+1)))else some (.brk s_8)
noncomputable def cZ (s_1:(List Int)):Option ((List Int)) :=
  bif (decide ((s_1.length:Int)<2))then some s_1 else (fq 1 (λs=>bg s_1 s)).bind λo_11=>thenC o_11 (λs_8=>some s_1) (λr=>some r)
def kH (wv_3:Window) (k_9:Nat) (x_11:Span) (s_14:(List Int)):Option (Ctl ((List Int)) (Unit)) :=
  (rQ x_11.f_time wv_3).bind λr_22=>(jv s_14 ([r_22.From,r_22.To]:List Int)).bind λa_25=>some (.go a_25)
noncomputable def mH (l_1:(List Entry)) (p_2:Player) (wv_3:Window):Option ((List Int)) :=
  (iP l_1 p_2 wv_3).bind λr_7=>(forL r_7 ([wv_3.From,wv_3.To]:List Int) (λk x s=>kH wv_3 k x s)).bind λo_19=>thenC o_19 (λs_14=>(neL s_14).bind λ_=>(bJ s_14).bind λr_29=>(jS r_29 s_14).bind λ_=>(cZ r_29).bind λr_32=>some r_32) (λ_=>none)
def fO (s_1:Span) (p_2:(List Int)) (p_3:Int):Option (Bool) :=
  (idx p_2 p_3).bind λy_5=>some (decide (s_1.f_time.To<=y_5))
def dK (s_1:(List Span)) (f2_3:(List Int)) (f2_4:Int) (k_5:Nat) (x_7:Nat) (s_10:Unit):Option (Ctl (Unit) (Int)) :=
  (inR (k_5:Int) s_1).bind λ_=>(s_1[(0+((k_5:Int)).toNat)]?).bind λe_16=>(fO e_16 f2_3 f2_4).bind λr_18=>bif r_18 then some (.ret (k_5:Int))else some (.go ())
def dS (s_1:(List Span)) (f2_3:(List Int)) (f2_4:Int):Option (Int) :=
  (forL (List.range ((s_1.length:Int)).toNat) () (λk x s=>dK s_1 f2_3 f2_4 k x s)).bind λo_13=>thenC o_13 (λs_10=>some (-1)) (λr=>some r)
def dI (del2_3:(List Int)) (del2_4:Int) (s_13:(List Span)×Int×Int):Option (Ctl ((List Span)×Int×Int) (Unit)) :=
  bif (decide (s_13.2.2<(s_13.1.length:Int)))then (inR s_13.2.2 s_13.1).bind λ_=>(s_13.1[(0+(s_13.2.2).toNat)]?).bind λe_20=>(fO e_20 del2_3 del2_4).bind λr_23=>(bif (!r_23)then (inR s_13.2.1 s_13.1).bind λ_=>(s_13.1[(0+(s_13.2.1).toNat)]?).bind λe_30=>some ((s_13.1.set (0+(s_13.2.1).toNat) e_20),(w64 (s_13.2.1+1)))else some (s_13.1,s_13.2.1)).bind λv_26=>some (.go (v_26.1,v_26.2,(w64 (s_13.2.2+1))))else some (.brk (s_13.1,s_13.2.1,s_13.2.2))
noncomputable def bL (s_1:(List Span)) (del2_3:(List Int)) (del2_4:Int):Option ((List Span)) :=
  (dS s_1 del2_3 del2_4).bind λr_5=>bif (r_5==(-1))then some s_1 else (fq (s_1,r_5,(w64 (r_5+1))) (λs=>dI del2_3 del2_4 s)).bind λo_16=>thenC o_16 (λs_13=>(oh s_13.1 s_13.2.1 (s_13.1.length:Int)).bind λ_=>(oh (s_13.1.take ((s_13.2.1).toNat)++List.replicate (((s_13.1.length:Int)).toNat-(s_13.2.1).toNat) (⟨none,(⟨0,0⟩:Window)⟩:Span)++s_13.1.drop (((s_13.2.1).toNat)+(((s_13.1.length:Int)).toNat-(s_13.2.1).toNat))) 0 s_13.2.1).bind λ_=>some ((s_13.1.take ((s_13.2.1).toNat)++List.replicate (((s_13.1.length:Int)).toNat-(s_13.2.1).toNat) (⟨none,(⟨0,0⟩:Window)⟩:Span)++s_13.1.drop (((s_13.2.1).toNat)+(((s_13.1.length:Int)).toNat-(s_13.2.1).toNat))).take ((s_13.2.1).toNat))) (λ_=>none)
def dR (f_2:Span->Option Bool) (k_3:Nat) (x_5:Span) (s_8:Unit):Option (Ctl (Unit) (Int)) :=
  (f_2 x_5).bind λr_13=>bif r_13 then some (.ret (k_3:Int))else some (.go ())
def bS (s_1:(List Span)) (f_2:Span->Option Bool):Option (Int) :=
  (forL s_1 () (λk x s=>dR f_2 k x s)).bind λo_11=>thenC o_11 (λs_8=>some (-1)) (λr=>some r)
def dH (r_5:Int) (s_14:Unit):Option (Ctl (Unit) (Unit)) :=
  bif (decide ((w64 (r_5+1))<0))then none else some (.brk ())
noncomputable def bM (del2_3:(List Int)) (del2_4:Int):Option (Unit) :=
  (bS ([]:List Span) (λx0=>fO x0 del2_3 del2_4)).bind λr_5=>bif (r_5==(-1))then some ()else (fq () (λs=>dH r_5 s)).bind λo_17=>thenC o_17 (λs_14=>none) (λ_=>none)
def jd (a_1:ByteArray) (b_2:ByteArray):Option (Int) :=
  some (uF a_1 b_2)
def strings_Compare (a_1:ByteArray) (b_2:ByteArray):Option (Int) :=
  (jd a_1 b_2).bind λr_3=>some r_3
def nV (k_2:Nat) (x_4:Int) (s_7:Unit):Option (Ctl (Unit) (Int)) :=
  bif (x_4 != 0)then some (.ret x_4)else some (.go ())
def kM (vals_1:(List Int)):Option (Int) :=
  (forL vals_1 () (λk x s=>nV k x s)).bind λo_10=>thenC o_10 (λs_7=>some 0) (λr=>some r)
def eZ (a_1:Span) (b_2:Span):Option (Int) :=
  (b_2.f_e).bind λy_5=>(a_1.f_e).bind λy_7=>(cmp_Compare_int y_5.Prio y_7.Prio).bind λr_9=>(cmp_Compare_int b_2.f_time.From a_1.f_time.From).bind λr_11=>(b_2.f_e).bind λy_13=>(a_1.f_e).bind λy_15=>(strings_Compare y_13.Key y_15.Key).bind λr_17=>(kM ([r_9,r_11,r_17]:List Int)).bind λr_19=>some r_19
def bu (x_1:(List Span)) (s_16:Int×(Option Entry)×Int×Int):Option (Ctl (Int×(Option Entry)×Int×Int) (Unit)) :=
  bif (decide (s_16.1<(x_1.length:Int)))then (inR s_16.1 x_1).bind λ_=>(x_1[(0+(s_16.1).toNat)]?).bind λe_23=>(eZ e_23 (⟨s_16.2.1,(⟨s_16.2.2.1,s_16.2.2.2⟩:Window)⟩:Span)).bind λr_25=>(bif (decide (r_25<0))then (inR s_16.1 x_1).bind λ_=>(x_1[(0+(s_16.1).toNat)]?).bind λe_31=>some (e_31.f_e,e_31.f_time.From,e_31.f_time.To)else some (s_16.2.1,s_16.2.2.1,s_16.2.2.2)).bind λv_27=>some (.go ((w64 (s_16.1+1)),v_27.1,v_27.2.1,v_27.2.2))else some (.brk (s_16.1,s_16.2.1,s_16.2.2.1,s_16.2.2.2))
noncomputable def bC (x_1:(List Span)):Option (Span) :=
  (bif (decide ((x_1.length:Int)<1))then none else some ()).bind λv_4=>(inR 0 x_1).bind λ_=>(x_1[(0+(0:Int).toNat)]?).bind λe_8=>(fq (1,e_8.f_e,e_8.f_time.From,e_8.f_time.To) (λs=>bu x_1 s)).bind λo_19=>thenC o_19 (λs_16=>some (⟨s_16.2.1,(⟨s_16.2.2.1,s_16.2.2.2⟩:Window)⟩:Span)) (λ_=>none)
def gy (r_10:(List Span)) (r_13:(List Int)) (s_22:(List Slot_)×(List Span)×Int×Int) (s_43:(List Span)×Int):Option (Ctl ((List Span)×Int) (Unit)) :=
  (bif (decide (s_43.2<(r_10.length:Int)))then (inR s_43.2 r_10).bind λ_=>(r_10[(0+(s_43.2).toNat)]?).bind λe_54=>(idx r_13 s_22.2.2.2).bind λy_56=>some (decide (e_54.f_time.From<=y_56))else some false).bind λv_50=>bif v_50 then (inR s_43.2 r_10).bind λ_=>(r_10[(0+(s_43.2).toNat)]?).bind λe_60=>(jv s_43.1 ([e_60]:List Span)).bind λa_62=>some (.go (a_62,(w64 (s_43.2+1))))else some (.brk (s_43.1,s_43.2))
noncomputable def gq (r_13:(List Int)) (r_10:(List Span)) (s_22:(List Slot_)×(List Span)×Int×Int):Option (Ctl ((List Slot_)×(List Span)×Int×Int) (Unit)) :=
  bif (decide ((w64 (s_22.2.2.2+1))<(r_13.length:Int)))then (fq (s_22.2.1,s_22.2.2.1) (λs=>gy r_10 r_13 s_22 s)).bind λo_48=>thenC o_48 (λs_43=>(bL s_43.1 r_13 s_22.2.2.2).bind λr_65=>(leL r_65 s_43.1).bind λ_=>(bM r_13 s_22.2.2.2).bind λ_=>(bif (decide ((r_65.length:Int)>0))then (neL r_65).bind λ_=>(bC r_65).bind λr_73=>(r_73.f_e).bind λy_75=>some y_75.Key else some (⟨#[]⟩:ByteArray)).bind λv_69=>(bif (decide ((w64 ((s_22.1.length:Int)-1))>=0))then (inR (w64 ((s_22.1.length:Int)-1)) s_22.1).bind λ_=>(s_22.1[(0+((w64 ((s_22.1.length:Int)-1))).toNat)]?).bind λe_81=>some (sEq e_81.Entry v_69)else some false).bind λv_77=>(bif v_77 then (idx r_13 (w64 (s_22.2.2.2+1))).bind λy_87=>(inR (w64 ((s_22.1.length:Int)-1)) s_22.1).bind λ_=>(s_22.1[(0+((w64 ((s_22.1.length:Int)-1))).toNat)]?).bind λe_90=>some (s_22.1.set (0+((w64 ((s_22.1.length:Int)-1))).toNat) (⟨(⟨e_90.Time.From,y_87⟩:Window),e_90.Entry⟩:Slot_))else (idx r_13 s_22.2.2.2).bind λy_92=>(idx r_13 (w64 (s_22.2.2.2+1))).bind λy_94=>(jv s_22.1 ([(⟨(⟨y_92,y_94⟩:Window),v_69⟩:Slot_)]:List Slot_)).bind λa_96=>some a_96).bind λv_83=>some (.go (v_83,r_65,s_43.2,(w64 (s_22.2.2.2+1))))) (λ_=>none)else some (.brk (s_22.1,s_22.2.1,s_22.2.2.1,s_22.2.2.2))
noncomputable def jO (l_1:(List Entry)) (p_2:Player) (wv_3:Window):Option ((List Slot_)) :=
  (iP l_1 p_2 wv_3).bind λr_6=>(iJ r_6).bind λr_10=>(jS r_10 r_6).bind λ_=>(mH l_1 p_2 wv_3).bind λr_13=>(fq (([]:List Slot_),([]:List Span),0,0) (λs=>gq r_13 r_10 s)).bind λo_35=>thenC o_35 (λs_22=>some s_22.1) (λ_=>none)
noncomputable def kS (l_1:(List Entry)) (p_2:Player) (wv_3:Window):Option ((List Slot_)×Int) :=
  (jb l_1 p_2 wv_3).bind λr_6=>bif (r_6 != 0)then some (([]:(List Slot_)),r_6)else (jO l_1 p_2 wv_3).bind λr_9=>some (r_9,0)
def rO (x0:ByteArray) (x1:ByteArray):Option (ByteArray) :=
  IK x0 x1
def nE (s_1:ByteArray):Option (Bool) :=
  (bif ((s_1.size:Int)==16)then (rO s_1 (⟨#[48,49,50,51,52,53,54,55,56,57,97,98,99,100,101,102]⟩:ByteArray)).bind λr_5=>some (sEq r_5 (⟨#[]⟩:ByteArray))else some false).bind λv_2=>some v_2
def lV (last_1:ByteArray):Option (Int) :=
  (bif (sNe last_1 (⟨#[]⟩:ByteArray))then (nE last_1).bind λr_5=>some (!r_5)else some false).bind λv_2=>bif v_2 then some 3 else some 0
def eX (s_1:(List Log_)):Option ((List Log_)) :=
  (jv [] s_1).bind λa_4=>some a_4
noncomputable def kT (l_1:Log_):Option (Int) :=
  ((dQ l_1.Player).bind λr_5=>bif (!r_5)then some true else (dQ l_1.Item).bind λr_8=>some (!r_8)).bind λv_3=>bif v_3 then some 5 else ((aU l_1.No 1 1000000).bind λr_13=>bif r_13 then some true else (aU l_1.Clock 0 345686399999).bind λr_16=>bif r_16 then some true else (aU l_1.Long 1 86400000).bind λr_19=>some r_19).bind λv_11=>bif v_11 then some 1 else some 0
def strconv_Itoa (x0:Int):Option (ByteArray) :=
  Ny x0
def rY (l_1:Log_):Option (ByteArray) :=
  (zk l_1.Player (⟨#[32]⟩:ByteArray)).bind λs_3=>(zk s_3 l_1.Item).bind λs_5=>(zk s_5 (⟨#[32]⟩:ByteArray)).bind λs_7=>(strconv_Itoa l_1.No).bind λr_9=>(zk s_7 r_9).bind λs_11=>(zk s_11 (⟨#[32]⟩:ByteArray)).bind λs_13=>(strconv_Itoa l_1.Clock).bind λr_15=>(zk s_13 r_15).bind λs_17=>(zk s_17 (⟨#[32]⟩:ByteArray)).bind λs_19=>(strconv_Itoa l_1.Long).bind λr_21=>(zk s_19 r_21).bind λs_23=>some s_23
def gz (x_1:Int):Option (Bool) :=
  some ((vM .i64 x_1 (w64 (x_1-1)))==0)
def kR (x0:Int):Option (Int) :=
  tzF x0
def bT (base_3:Int) (r_22:Int) (s_29:(List Int)×Int×Int):Option (Ctl ((List Int)×Int×Int) (Unit)) :=
  bif (decide (s_29.2.1>=(IntKind.u64.wrap base_3)))then (Al (⟨#[48,49,50,51,52,53,54,55,56,57,97,98,99,100,101,102,103,104,105,106,107,108,109,110,111,112,113,114,115,116,117,118,119,120,121,122]⟩:ByteArray) (vM .u64 s_29.2.1 (IntKind.u64.wrap ((IntKind.u64.wrap base_3)-1)))).bind λb_35=>(inN (w64 (s_29.2.2-1)) 65).bind λ_=>(s_29.1[((w64 (s_29.2.2-1))).toNat]?).bind λe_38=>(zq .u64 s_29.2.1 (IntKind.u64.wrap r_22)).bind λq_40=>some (.go ((s_29.1.set ((w64 (s_29.2.2-1))).toNat (b_35.toNat:Int)),q_40,(w64 (s_29.2.2-1))))else some (.brk (s_29.1,s_29.2.1,s_29.2.2))
def je (base_3:Int) (s_53:(List Int)×Int×Int):Option (Ctl ((List Int)×Int×Int) (Unit)) :=
  bif (decide (s_53.2.1>=(IntKind.u64.wrap base_3)))then (Jr .u64 s_53.2.1 (IntKind.u64.wrap base_3)).bind λq_59=>(Al (⟨#[48,49,50,51,52,53,54,55,56,57,97,98,99,100,101,102,103,104,105,106,107,108,109,110,111,112,113,114,115,116,117,118,119,120,121,122]⟩:ByteArray) (IntKind.u64.wrap (s_53.2.1-(IntKind.u64.wrap (q_59*(IntKind.u64.wrap base_3)))))).bind λb_61=>(inN (w64 (s_53.2.2-1)) 65).bind λ_=>(s_53.1[((w64 (s_53.2.2-1))).toNat]?).bind λe_64=>some (.go ((s_53.1.set ((w64 (s_53.2.2-1))).toNat (b_61.toNat:Int)),q_59,(w64 (s_53.2.2-1))))else some (.brk (s_53.1,s_53.2.1,s_53.2.2))
noncomputable def fu (dst_1:(List Int)) (u_2:Int) (base_3:Int) (neg_4:Bool) (append_5:Bool):Option ((List Int)×ByteArray) :=
  (bif (decide (base_3<2))then some true else bif (base_3==10)then some true else some (decide (base_3>36))).bind λv_6=>(bif v_6 then none else some ()).bind λv_10=>(bif neg_4 then some (IntKind.u64.wrap (0-u_2))else some u_2).bind λv_14=>(gz base_3).bind λr_17=>(bif r_17 then (kR (IntKind.u64.wrap base_3)).bind λr_22=>(fq ((List.replicate 65 (0:Int)),v_14,65) (λs=>bT base_3 r_22 s)).bind λo_32=>thenC o_32 (λs_29=>(Al (⟨#[48,49,50,51,52,53,54,55,56,57,97,98,99,100,101,102,103,104,105,106,107,108,109,110,111,112,113,114,115,116,117,118,119,120,121,122]⟩:ByteArray) s_29.2.1).bind λb_42=>(inN (w64 (s_29.2.2-1)) 65).bind λ_=>(s_29.1[((w64 (s_29.2.2-1))).toNat]?).bind λe_45=>some ((s_29.1.set ((w64 (s_29.2.2-1))).toNat (b_42.toNat:Int)),(w64 (s_29.2.2-1)))) (λ_=>none)else (fq ((List.replicate 65 (0:Int)),v_14,65) (λs=>je base_3 s)).bind λo_56=>thenC o_56 (λs_53=>(Al (⟨#[48,49,50,51,52,53,54,55,56,57,97,98,99,100,101,102,103,104,105,106,107,108,109,110,111,112,113,114,115,116,117,118,119,120,121,122]⟩:ByteArray) s_53.2.1).bind λb_66=>(inN (w64 (s_53.2.2-1)) 65).bind λ_=>(s_53.1[((w64 (s_53.2.2-1))).toNat]?).bind λe_69=>some ((s_53.1.set ((w64 (s_53.2.2-1))).toNat (b_66.toNat:Int)),(w64 (s_53.2.2-1)))) (λ_=>none)).bind λv_19=>(bif neg_4 then (inN (w64 (v_19.2-1)) 65).bind λ_=>(v_19.1[((w64 (v_19.2-1))).toNat]?).bind λe_76=>some ((v_19.1.set ((w64 (v_19.2-1))).toNat 45),(w64 (v_19.2-1)))else some (v_19.1,v_19.2)).bind λv_72=>bif append_5 then (KZ v_72.1 65).bind λ_=>(oh v_72.1 v_72.2 (v_72.1.length:Int)).bind λ_=>none else (KZ v_72.1 65).bind λ_=>(oh v_72.1 v_72.2 (v_72.1.length:Int)).bind λ_=>some (([]:(List Int)),(Go.strOfNums (DI v_72.1 ((v_72.2).toNat) (((v_72.1.length:Int)).toNat-(v_72.2).toNat))))
noncomputable def iG (i_1:Int) (base_2:Int):Option (ByteArray) :=
  bif (base_2==10)then bif (decide (i_1<100))then none else none else (fu ([]:List Int) i_1 base_2 false false).bind λr_6=>some r_6.2
noncomputable def j3 (i_1:Int) (base_2:Int):Option (ByteArray) :=
  (iG i_1 base_2).bind λr_3=>some r_3
def strings_Repeat (x0:ByteArray) (x1:Int):Option (ByteArray) :=
  D7 x0 x1
def nS (s_1:ByteArray) (k_2:Nat) (x_4:Nat) (s_7:Int):Option (Ctl (Int) (Unit)) :=
  (Al s_1 (k_2:Int)).bind λb_12=>some (.go (IntKind.u64.wrap ((Py .u64 s_7 (IntKind.u64.wrap (b_12.toNat:Int)))*1099511628211)))
noncomputable def pW (s_1:ByteArray):Option (ByteArray) :=
  (forL (List.range ((s_1.size:Int)).toNat) 14695981039346656037 (λk x s=>nS s_1 k x s)).bind λo_10=>thenC o_10 (λs_7=>(j3 s_7 16).bind λr_14=>(strings_Repeat (⟨#[48]⟩:ByteArray) (w64 (16-(r_14.size:Int)))).bind λr_16=>(zk r_16 r_14).bind λs_18=>some s_18) (λ_=>none)
noncomputable def vo (last_1:ByteArray) (l_2:Log_):Option (ByteArray) :=
  (zk last_1 (⟨#[32]⟩:ByteArray)).bind λs_4=>(rY l_2).bind λr_6=>(zk s_4 r_6).bind λs_8=>(pW s_8).bind λr_10=>some r_10
noncomputable def kZ (l_2:(List Log_)) (k_11:Nat) (x_13:Log_) (s_16:(List Log_)×ByteArray):Option (Ctl ((List Log_)×ByteArray) ((List Log_)×Int)) :=
  (kT x_13).bind λr_22=>bif (r_22 != 0)then some (.ret (([]:(List Log_)),r_22))else (bif (decide ((k_11:Int)>0))then (idx l_2 0).bind λy_28=>some (sNe x_13.Player y_28.Player)else some false).bind λv_25=>bif v_25 then some (.ret (([]:(List Log_)),13))else (bif (decide ((k_11:Int)>0))then (idx l_2 (w64 ((k_11:Int)-1))).bind λy_34=>some (x_13.No != (w64 (y_34.No+1)))else some false).bind λv_31=>bif v_31 then some (.ret (([]:(List Log_)),16))else (vo s_16.2 x_13).bind λr_37=>(inR (k_11:Int) s_16.1).bind λ_=>(s_16.1[(0+((k_11:Int)).toNat)]?).bind λe_40=>some (.go ((s_16.1.set (0+((k_11:Int)).toNat) (⟨e_40.Player,e_40.Item,e_40.No,e_40.Clock,e_40.Long,r_37⟩:Log_)),r_37))
noncomputable def oJ (last_1:ByteArray) (l_2:(List Log_)):Option ((List Log_)×Int) :=
  (lV last_1).bind λr_3=>bif (r_3 != 0)then some (([]:(List Log_)),r_3)else bif (decide ((l_2.length:Int)>2000))then some (([]:(List Log_)),2)else (eX l_2).bind λr_7=>(forL l_2 (r_7,last_1) (λk x s=>kZ l_2 k x s)).bind λo_19=>thenC o_19 (λs_16=>some (s_16.1,0)) (λr=>some r)
def kG (a_1:Log_) (b_2:Log_):Option (Int) :=
  (strings_Compare a_1.Player b_2.Player).bind λr_5=>(cmp_Compare_int a_1.No b_2.No).bind λr_7=>(kM ([r_5,r_7]:List Int)).bind λr_9=>some r_9
noncomputable def lI (l_1:(List Log_)) (k_3:Nat) (x_5:Log_) (s_8:Unit):Option (Ctl (Unit) (Int)) :=
  (kT x_5).bind λr_14=>bif (r_14 != 0)then some (.ret r_14)else (nE x_5.Sum).bind λr_17=>bif (!r_17)then some (.ret 3)else (bif (decide ((k_3:Int)>0))then (idx l_1 (w64 ((k_3:Int)-1))).bind λy_23=>(kG y_23 x_5).bind λr_25=>some (decide (r_25>=0))else some false).bind λv_20=>bif v_20 then some (.ret 7)else some (.go ())
noncomputable def kr (l_1:(List Log_)):Option (Int) :=
  bif (decide ((l_1.length:Int)>2000))then some 2 else (forL l_1 () (λk x s=>lI l_1 k x s)).bind λo_11=>thenC o_11 (λs_8=>some 0) (λr=>some r)
def cO (n_1:Int):Option (Bool) :=
  (bif (decide (n_1>=0))then some (decide (n_1<345686400000))else some false).bind λv_2=>some v_2
def jc (a_1:Beat) (b_2:Beat):Option (Int) :=
  (strings_Compare a_1.Player b_2.Player).bind λr_5=>(cmp_Compare_int a_1.At b_2.At).bind λr_7=>(kM ([r_5,r_7]:List Int)).bind λr_9=>some r_9
noncomputable def iU (l_1:(List Beat)) (k_3:Nat) (x_5:Beat) (s_8:Unit):Option (Ctl (Unit) (Int)) :=
  (dQ x_5.Player).bind λr_14=>bif (!r_14)then some (.ret 5)else ((cO x_5.At).bind λr_19=>bif (!r_19)then some true else (aU x_5.Clock 0 345686399999).bind λr_22=>some r_22).bind λv_17=>bif v_17 then some (.ret 1)else (bif (decide ((k_3:Int)>0))then (idx l_1 (w64 ((k_3:Int)-1))).bind λy_28=>(jc y_28 x_5).bind λr_30=>some (decide (r_30>=0))else some false).bind λv_25=>bif v_25 then some (.ret 7)else (bif (decide ((k_3:Int)>0))then (idx l_1 (w64 ((k_3:Int)-1))).bind λy_36=>bif (sEq x_5.Player y_36.Player)then (idx l_1 (w64 ((k_3:Int)-1))).bind λy_39=>some (decide (x_5.Clock<=y_39.Clock))else some false else some false).bind λv_33=>bif v_33 then some (.ret 16)else some (.go ())
noncomputable def fT (l_1:(List Beat)):Option (Int) :=
  bif (decide ((l_1.length:Int)>500))then some 2 else (forL l_1 () (λk x s=>iU l_1 k x s)).bind λo_11=>thenC o_11 (λs_8=>some 0) (λr=>some r)
def jI (player_2:ByteArray) (back_3:Bool) (k_4:Nat) (x_6:Beat) (s_9:(List Beat_)):Option (Ctl ((List Beat_)) (Unit)) :=
  (bif (sNe x_6.Player player_2)then some s_9 else bif back_3 then (jv s_9 ([(⟨x_6.At,x_6.Clock⟩:Beat_)]:List Beat_)).bind λa_23=>some a_23 else (jv s_9 ([(⟨x_6.Clock,x_6.At⟩:Beat_)]:List Beat_)).bind λa_26=>some a_26).bind λv_18=>some (.go v_18)
def kN (l_1:(List Beat)) (player_2:ByteArray) (back_3:Bool):Option ((List Beat_)) :=
  (forL l_1 ([]:List Beat_) (λk x s=>jI player_2 back_3 k x s)).bind λo_15=>thenC o_15 (λs_9=>some s_9) (λ_=>none)
def gX (l_1:(List Beat_)) (n_2:Int) (s_9:Int):Option (Ctl (Int) (Unit)) :=
  (bif (decide (s_9<(l_1.length:Int)))then (idx l_1 s_9).bind λy_17=>some (decide (y_17.f_from<=n_2))else some false).bind λv_14=>bif v_14 then some (.go (w64 (s_9+1)))else some (.brk s_9)
noncomputable def ji (l_1:(List Beat_)) (n_2:Int):Option (Int×Int) :=
  bif ((l_1.length:Int)==0)then some (0,8)else (fq 0 (λs=>gX l_1 n_2 s)).bind λo_12=>thenC o_12 (λs_9=>bif (s_9==0)then (idx l_1 0).bind λy_21=>(idx l_1 0).bind λy_23=>(cO (w64 (y_21.f_to-(w64 (y_23.f_from-n_2))))).bind λr_25=>bif (!r_25)then some (0,11)else some ((w64 (y_21.f_to-(w64 (y_23.f_from-n_2)))),0)else bif (s_9==(l_1.length:Int))then (idx l_1 (w64 (s_9-1))).bind λy_29=>(idx l_1 (w64 (s_9-1))).bind λy_31=>(cO (w64 ((w64 (y_29.f_to+n_2))-y_31.f_from))).bind λr_33=>bif (!r_33)then some (0,11)else some ((w64 ((w64 (y_29.f_to+n_2))-y_31.f_from)),0)else (idx l_1 (w64 (s_9-1))).bind λy_36=>(idx l_1 s_9).bind λy_38=>(bif (decide ((w64 (y_38.f_from-y_36.f_from))>2592000000))then some true else some (decide ((w64 (y_38.f_to-y_36.f_to))>2592000000))).bind λv_42=>bif v_42 then some (0,2)else (Jr .i64 (w64 ((w64 (n_2-y_36.f_from))*(w64 (y_38.f_to-y_36.f_to)))) (w64 (y_38.f_from-y_36.f_from))).bind λq_46=>(cO (w64 (y_36.f_to+q_46))).bind λr_48=>bif (!r_48)then some (0,11)else some ((w64 (y_36.f_to+q_46)),0)) (λ_=>none)
def lg (x_1:Placed) (y_2:Placed):Option (Int) :=
  (cmp_Compare_int x_1.f_at y_2.f_at).bind λr_5=>some r_5
def dX (a_2:Int) (s_21:(List Placed)×Int):Option (Ctl ((List Placed)×Int) (Unit)) :=
  (bif (decide (s_21.2>a_2))then (inR s_21.2 s_21.1).bind λ_=>(s_21.1[(0+(s_21.2).toNat)]?).bind λe_30=>(inR (w64 (s_21.2-1)) s_21.1).bind λ_=>(s_21.1[(0+((w64 (s_21.2-1))).toNat)]?).bind λe_33=>(lg e_30 e_33).bind λr_35=>some (decide (r_35<0))else some false).bind λv_26=>bif v_26 then (inR (w64 (s_21.2-1)) s_21.1).bind λ_=>(s_21.1[(0+((w64 (s_21.2-1))).toNat)]?).bind λe_39=>(inR s_21.2 s_21.1).bind λ_=>(s_21.1[(0+(s_21.2).toNat)]?).bind λe_42=>(inR s_21.2 s_21.1).bind λ_=>(s_21.1[(0+(s_21.2).toNat)]?).bind λe_45=>(inR (w64 (s_21.2-1)) (s_21.1.set (0+(s_21.2).toNat) e_39)).bind λ_=>((s_21.1.set (0+(s_21.2).toNat) e_39)[(0+((w64 (s_21.2-1))).toNat)]?).bind λe_48=>some (.go (((s_21.1.set (0+(s_21.2).toNat) e_39).set (0+((w64 (s_21.2-1))).toNat) e_42),(w64 (s_21.2-1))))else some (.brk (s_21.1,s_21.2))
noncomputable def dY (b_3:Int) (a_2:Int) (s_10:(List Placed)×Int):Option (Ctl ((List Placed)×Int) (Unit)) :=
  bif (decide (s_10.2<b_3))then (fq (s_10.1,s_10.2) (λs=>dX a_2 s)).bind λo_24=>thenC o_24 (λs_21=>some (.go (s_21.1,(w64 (s_10.2+1))))) (λ_=>none)else some (.brk (s_10.1,s_10.2))
noncomputable def dD (data_1:(List Placed)) (a_2:Int) (b_3:Int):Option ((List Placed)) :=
  (fq (data_1,(w64 (a_2+1))) (λs=>dY b_3 a_2 s)).bind λo_13=>thenC o_13 (λs_10=>some s_10.1) (λ_=>none)
noncomputable def fG (n_2:Int) (s_9:(List Placed)×Int×Int):Option (Ctl ((List Placed)×Int×Int) (Unit)) :=
  bif (decide (s_9.2.2<=n_2))then (dD s_9.1 s_9.2.1 s_9.2.2).bind λr_15=>(jS r_15 s_9.1).bind λ_=>some (.go (r_15,s_9.2.2,(w64 (s_9.2.2+20))))else some (.brk (s_9.1,s_9.2.1,s_9.2.2))
def fD (s_26:Int) (n_2:Int) (s_37:Unit):Option (Ctl (Unit) (Unit)) :=
  bif (decide ((w64 (2*s_26))<=n_2))then none else some (.brk ())
noncomputable def fE (n_2:Int) (s_26:Int):Option (Ctl (Int) (Unit)) :=
  bif (decide (s_26<n_2))then (fq () (λs=>fD s_26 n_2 s)).bind λo_40=>thenC o_40 (λs_37=>(bif (decide ((w64 (0+s_26))<n_2))then none else some ()).bind λv_43=>some (.go (w64 (s_26*2)))) (λ_=>none)else some (.brk s_26)
noncomputable def ek (data_1:(List Placed)) (n_2:Int):Option ((List Placed)) :=
  (fq (data_1,0,20) (λs=>fG n_2 s)).bind λo_12=>thenC o_12 (λs_9=>(dD s_9.1 s_9.2.1 n_2).bind λr_18=>(jS r_18 s_9.1).bind λ_=>(fq 20 (λs=>fE n_2 s)).bind λo_29=>thenC o_29 (λs_26=>some r_18) (λ_=>none)) (λ_=>none)
noncomputable def bH (x_1:(List Placed)):Option ((List Placed)) :=
  (ek x_1 (x_1.length:Int)).bind λr_3=>(jS r_3 x_1).bind λ_=>some r_3
noncomputable def gH (tov_3:Int) (l_1:(List Log_)) (r_7:(List Beat_)) (s_14:(List Placed)×(List Int)×Int):Option (Ctl ((List Placed)×(List Int)×Int) (Unit)) :=
  bif (decide (s_14.2.2<tov_3))then (idx l_1 s_14.2.2).bind λy_26=>(ji r_7 y_26.Clock).bind λr_28=>(bif (r_28.2==0)then (jv s_14.1 ([(⟨s_14.2.2,r_28.1⟩:Placed)]:List Placed)).bind λa_35=>some (a_35,s_14.2.1)else bif (r_28.2==8)then (idx l_1 s_14.2.2).bind λy_39=>(jv s_14.1 ([(⟨s_14.2.2,y_39.Clock⟩:Placed)]:List Placed)).bind λa_41=>some (a_41,s_14.2.1)else (jv s_14.2.1 ([s_14.2.2]:List Int)).bind λa_44=>some (s_14.1,a_44)).bind λv_30=>some (.go (v_30.1,v_30.2,(w64 (s_14.2.2+1))))else some (.brk (s_14.1,s_14.2.1,s_14.2.2))
noncomputable def mW (l_1:(List Log_)) (fromv_2:Int) (tov_3:Int) (b_4:(List Beat)):Option ((List Placed)×(List Int)) :=
  (idx l_1 fromv_2).bind λy_5=>(kN b_4 y_5.Player false).bind λr_7=>(fq (([]:List Placed),([]:List Int),fromv_2) (λs=>gH tov_3 l_1 r_7 s)).bind λo_23=>thenC o_23 (λs_14=>(bH s_14.1).bind λr_47=>(jS r_47 s_14.1).bind λ_=>some (r_47,s_14.2.1)) (λ_=>none)
def jq (l_1:(List Log_)) (s_14:(List Play)×(List Int)×Int) (s_31:Int):Option (Ctl (Int) (Unit)) :=
  (bif (decide (s_31<(l_1.length:Int)))then (idx l_1 s_31).bind λy_39=>(idx l_1 s_14.2.2).bind λy_41=>some (sEq y_39.Player y_41.Player)else some false).bind λv_36=>bif v_36 then some (.go (w64 (s_31+1)))else some (.brk s_31)
def kW (l_1:(List Log_)) (k_49:Nat) (x_51:Placed) (s_54:(List Play)×(List Int)×Int):Option (Ctl ((List Play)×(List Int)×Int) (Unit)) :=
  (idx l_1 x_51.f_i).bind λy_64=>(bif (decide ((fZ x_51.f_at s_54.2.2)>=(w64 (x_51.f_at+y_64.Long))))then some true else (cO (fZ x_51.f_at s_54.2.2)).bind λr_70=>some (!r_70)).bind λv_67=>bif v_67 then (jv s_54.2.1 ([x_51.f_i]:List Int)).bind λa_73=>some (.go (s_54.1,a_73,s_54.2.2))else (jv s_54.1 ([(⟨y_64.Player,y_64.Item,(fZ x_51.f_at s_54.2.2),(w64 ((w64 (x_51.f_at+y_64.Long))-(fZ x_51.f_at s_54.2.2)))⟩:Play)]:List Play)).bind λa_76=>some (.go (a_76,s_54.2.1,(w64 (x_51.f_at+y_64.Long))))
noncomputable def jo (l_1:(List Log_)) (b_2:(List Beat)) (s_14:(List Play)×(List Int)×Int):Option (Ctl ((List Play)×(List Int)×Int) (Unit)) :=
  bif (decide (s_14.2.2<(l_1.length:Int)))then (fq s_14.2.2 (λs=>jq l_1 s_14 s)).bind λo_34=>thenC o_34 (λs_31=>(mW l_1 s_14.2.2 s_31 b_2).bind λr_44=>(jv s_14.2.1 r_44.2).bind λa_46=>(forL r_44.1 (s_14.1,a_46,0) (λk x s=>kW l_1 k x s)).bind λo_61=>thenC o_61 (λs_54=>some (.go (s_54.1,s_54.2.1,s_31))) (λ_=>none)) (λ_=>none)else some (.brk (s_14.1,s_14.2.1,s_14.2.2))
noncomputable def qw (l_1:(List Log_)) (b_2:(List Beat)):Option ((List Play)×(List Int)×Int) :=
  (kr l_1).bind λr_3=>bif (r_3 != 0)then some (([]:(List Play)),([]:(List Int)),r_3)else (fT b_2).bind λr_6=>bif (r_6 != 0)then some (([]:(List Play)),([]:(List Int)),r_6)else (fq (([]:List Play),([]:List Int),0) (λs=>jo l_1 b_2 s)).bind λo_23=>thenC o_23 (λs_14=>(bJ s_14.2.1).bind λr_80=>(jS r_80 s_14.2.1).bind λ_=>some (s_14.1,r_80,0)) (λ_=>none)
def jX (a_1:Play) (b_2:Play):Option (Int) :=
  (strings_Compare a_1.Player b_2.Player).bind λr_5=>(cmp_Compare_int a_1.At b_2.At).bind λr_7=>(kM ([r_5,r_7]:List Int)).bind λr_9=>some r_9
noncomputable def jF (l_1:(List Play)) (k_3:Nat) (x_5:Play) (s_8:Unit):Option (Ctl (Unit) (Int)) :=
  ((dQ x_5.Player).bind λr_16=>bif (!r_16)then some true else (dQ x_5.Item).bind λr_19=>some (!r_19)).bind λv_14=>bif v_14 then some (.ret 5)else ((cO x_5.At).bind λr_24=>bif (!r_24)then some true else (aU x_5.Long 1 86400000).bind λr_27=>some r_27).bind λv_22=>bif v_22 then some (.ret 1)else (bif (decide ((k_3:Int)>0))then (idx l_1 (w64 ((k_3:Int)-1))).bind λy_33=>(jX y_33 x_5).bind λr_35=>some (decide (r_35>=0))else some false).bind λv_30=>bif v_30 then some (.ret 7)else some (.go ())
noncomputable def jN (l_1:(List Play)):Option (Int) :=
  bif (decide ((l_1.length:Int)>3000))then some 2 else (forL l_1 () (λk x s=>jF l_1 k x s)).bind λo_11=>thenC o_11 (λs_8=>some 0) (λr=>some r)
def ma (player_2:ByteArray) (wv_3:Window) (k_17:Nat) (x_19:Play) (s_22:(List Window)×Int):Option (Ctl ((List Window)×Int) (Unit)) :=
  (bif (sNe x_19.Player player_2)then some true else some (decide (s_22.2>=wv_3.To))).bind λv_31=>bif v_31 then some (.go (s_22.1,s_22.2))else (bif (decide ((nP x_19.At wv_3.To)>s_22.2))then (jv s_22.1 ([(⟨s_22.2,(nP x_19.At wv_3.To)⟩:Window)]:List Window)).bind λa_39=>some a_39 else some s_22.1).bind λv_35=>some (.go (v_35,(fZ s_22.2 (w64 (x_19.At+x_19.Long)))))
noncomputable def tK (l_1:(List Play)) (player_2:ByteArray) (wv_3:Window):Option ((List Window)×Int) :=
  (jN l_1).bind λr_5=>bif (r_5 != 0)then some (([]:(List Window)),r_5)else (dQ player_2).bind λr_8=>bif (!r_8)then some (([]:(List Window)),5)else ((aU wv_3.From 0 wv_3.To).bind λr_13=>bif r_13 then some true else some (decide (wv_3.To>345686400000))).bind λv_11=>bif v_11 then some (([]:(List Window)),1)else (forL l_1 (([]:List Window),wv_3.From) (λk x s=>ma player_2 wv_3 k x s)).bind λo_28=>thenC o_28 (λs_22=>(bif (decide (s_22.2<wv_3.To))then (jv s_22.1 ([(⟨s_22.2,wv_3.To⟩:Window)]:List Window)).bind λa_46=>some a_46 else some s_22.1).bind λv_42=>some (v_42,0)) (λ_=>none)
def iq (k_11:Nat) (x_13:Slot_) (s_16:(List Window)):Option (Ctl ((List Window)) (Unit)) :=
  (bif (sEq x_13.Entry (⟨#[]⟩:ByteArray))then (jv s_16 ([x_13.Time]:List Window)).bind λa_29=>some a_29 else some s_16).bind λv_25=>some (.go v_25)
noncomputable def nY (l_1:(List Entry)) (p_2:Player) (wv_3:Window):Option ((List Window)×Int) :=
  (jb l_1 p_2 wv_3).bind λr_6=>bif (r_6 != 0)then some (([]:(List Window)),r_6)else (jO l_1 p_2 wv_3).bind λr_9=>(forL r_9 ([]:List Window) (λk x s=>iq k x s)).bind λo_22=>thenC o_22 (λs_16=>some (s_16,0)) (λ_=>none)
def bW (s2_2:(List Window)) (k_4:Nat) (x_6:Window) (s_9:Unit):Option (Ctl (Unit) (Bool)) :=
  (idx s2_2 (k_4:Int)).bind λy_14=>bif (!((x_6.From==y_14.From)&&((x_6.To==y_14.To)&&true)))then some (.ret false)else some (.go ())
def dJ (s1_1:(List Window)) (s2_2:(List Window)):Option (Bool) :=
  bif ((s1_1.length:Int) != (s2_2.length:Int))then some false else (forL s1_1 () (λk x s=>bW s2_2 k x s)).bind λo_12=>thenC o_12 (λs_9=>some true) (λr=>some r)
noncomputable def eG (l_1:(List Entry)) (p_2:Player) (atv_3:Int):Option (Int) :=
  (dL l_1).bind λr_5=>bif (r_5 != 0)then some r_5 else (iC p_2).bind λr_8=>bif (r_8 != 0)then some r_8 else (cO atv_3).bind λr_11=>bif (!r_11)then some 1 else some 0
noncomputable def iW (x:(List Span)):Option ((List Span)) :=
  yB (λa b=>eZ a b) x
noncomputable def qA (l_1:(List Entry)) (p_2:Player) (atv_3:Int):Option ((List Span)) :=
  (iP l_1 p_2 (⟨atv_3,(w64 (atv_3+1))⟩:Window)).bind λr_5=>(iW r_5).bind λr_9=>(jS r_9 r_5).bind λ_=>some r_9
noncomputable def oH (l_1:(List Entry)) (p_2:Player) (atv_3:Int):Option (ByteArray×Bool×Int) :=
  (eG l_1 p_2 atv_3).bind λr_5=>bif (r_5 != 0)then some ((⟨#[]⟩:ByteArray),false,r_5)else (qA l_1 p_2 atv_3).bind λr_8=>bif ((r_8.length:Int)==0)then some ((⟨#[]⟩:ByteArray),false,0)else (idx r_8 0).bind λy_11=>(y_11.f_e).bind λy_13=>some (y_13.Key,true,0)
def p8 (r_1:Rect):Option (Int) :=
  ((aU r_1.X (-100000) 100000).bind λr_5=>bif r_5 then some true else (aU r_1.Y (-100000) 100000).bind λr_8=>some r_8).bind λv_3=>bif v_3 then some 1 else ((aU r_1.W 1 (w64 (100000-r_1.X))).bind λr_13=>bif r_13 then some true else (aU r_1.H 1 (w64 (100000-r_1.Y))).bind λr_16=>some r_16).bind λv_11=>bif v_11 then some 1 else some 0
def nk (k_3:Nat) (x_5:Rect) (s_8:Unit):Option (Ctl (Unit) (Int)) :=
  (p8 x_5).bind λr_14=>bif (r_14 != 0)then some (.ret r_14)else some (.go ())
def mh (l_1:(List Rect)):Option (Int) :=
  bif (decide ((l_1.length:Int)>2000))then some 2 else (forL l_1 () (λk x s=>nk k x s)).bind λo_11=>thenC o_11 (λs_8=>some 0) (λr=>some r)
def iV (n_1:Int):Option Bool :=
  bif (decide (n_1<0))then none else bif (decide ((w64 (n_1-(w64 (0-0))))>0))then (zN (w64 (n_1-(w64 (0-0)))) 32).bind λ_=>some true else some false
def ib (k_2:Nat) (x_4:(List Rect)) (s_7:Int):Option (Ctl (Int) (Unit)) :=
  (bif (decide ((w64 (s_7+(x_4.length:Int)))<0))then none else some ()).bind λv_12=>some (.go (w64 (s_7+(x_4.length:Int))))
def ig (k_18:Nat) (x_20:(List Rect)) (s_23:(List Rect)):Option (Ctl ((List Rect)) (Unit)) :=
  (jv s_23 x_20).bind λa_30=>some (.go a_30)
def fI (slices_1:(List (List Rect))):Option ((List Rect)) :=
  (forL slices_1 0 (λk x s=>ib k x s)).bind λo_10=>thenC o_10 (λs_7=>(iV s_7).bind λb_15=>(forL slices_1 ([]:List Rect) (λk x s=>ig k x s)).bind λo_28=>thenC o_28 (λs_23=>some s_23) (λ_=>none)) (λ_=>none)
def uE (a_1:Run) (b_2:Run):Option (Int) :=
  some (w64 (a_1.f_from-b_2.f_from))
def qQ (x_1:Int):Option (Int) :=
  (bif (decide (x_1>=4294967296))then (zq .u64 x_1 32).bind λq_5=>some (q_5,32)else some (x_1,0)).bind λv_2=>(bif (decide (v_2.1>=65536))then (zq .u64 v_2.1 16).bind λq_10=>some (q_10,(w64 (v_2.2+16)))else some (v_2.1,v_2.2)).bind λv_7=>(bif (decide (v_7.1>=256))then (zq .u64 v_7.1 8).bind λq_15=>some (q_15,(w64 (v_7.2+8)))else some (v_7.1,v_7.2)).bind λv_12=>(Al (⟨#[0,1,2,2,3,3,3,3,4,4,4,4,4,4,4,4,5,5,5,5,5,5,5,5,5,5,5,5,5,5,5,5,6,6,6,6,6,6,6,6,6,6,6,6,6,6,6,6,6,6,6,6,6,6,6,6,6,6,6,6,6,6,6,6,7,7,7,7,7,7,7,7,7,7,7,7,7,7,7,7,7,7,7,7,7,7,7,7,7,7,7,7,7,7,7,7,7,7,7,7,7,7,7,7,7,7,7,7,7,7,7,7,7,7,7,7,7,7,7,7,7,7,7,7,7,7,7,7,8,8,8,8,8,8,8,8,8,8,8,8,8,8,8,8,8,8,8,8,8,8,8,8,8,8,8,8,8,8,8,8,8,8,8,8,8,8,8,8,8,8,8,8,8,8,8,8,8,8,8,8,8,8,8,8,8,8,8,8,8,8,8,8,8,8,8,8,8,8,8,8,8,8,8,8,8,8,8,8,8,8,8,8,8,8,8,8,8,8,8,8,8,8,8,8,8,8,8,8,8,8,8,8,8,8,8,8,8,8,8,8,8,8,8,8,8,8,8,8,8,8,8,8,8,8,8,8]⟩:ByteArray) (IntKind.u8.wrap v_12.1)).bind λb_17=>some (w64 (v_12.2+(w64 (b_17.toNat:Int))))
def qo (x_1:Int):Option (Int) :=
  (qQ x_1).bind λr_2=>some r_2
def dB (a_2:Int) (s_21:(List Run)×Int):Option (Ctl ((List Run)×Int) (Unit)) :=
  (bif (decide (s_21.2>a_2))then (inR s_21.2 s_21.1).bind λ_=>(s_21.1[(0+(s_21.2).toNat)]?).bind λe_30=>(inR (w64 (s_21.2-1)) s_21.1).bind λ_=>(s_21.1[(0+((w64 (s_21.2-1))).toNat)]?).bind λe_33=>(uE e_30 e_33).bind λr_35=>some (decide (r_35<0))else some false).bind λv_26=>bif v_26 then (inR (w64 (s_21.2-1)) s_21.1).bind λ_=>(s_21.1[(0+((w64 (s_21.2-1))).toNat)]?).bind λe_39=>(inR s_21.2 s_21.1).bind λ_=>(s_21.1[(0+(s_21.2).toNat)]?).bind λe_42=>(inR s_21.2 s_21.1).bind λ_=>(s_21.1[(0+(s_21.2).toNat)]?).bind λe_45=>(inR (w64 (s_21.2-1)) (s_21.1.set (0+(s_21.2).toNat) e_39)).bind λ_=>((s_21.1.set (0+(s_21.2).toNat) e_39)[(0+((w64 (s_21.2-1))).toNat)]?).bind λe_48=>some (.go (((s_21.1.set (0+(s_21.2).toNat) e_39).set (0+((w64 (s_21.2-1))).toNat) e_42),(w64 (s_21.2-1))))else some (.brk (s_21.1,s_21.2))
noncomputable def bR (b_3:Int) (a_2:Int) (s_10:(List Run)×Int):Option (Ctl ((List Run)×Int) (Unit)) :=
  bif (decide (s_10.2<b_3))then (fq (s_10.1,s_10.2) (λs=>dB a_2 s)).bind λo_24=>thenC o_24 (λs_21=>some (.go (s_21.1,(w64 (s_10.2+1))))) (λ_=>none)else some (.brk (s_10.1,s_10.2))
noncomputable def cz (data_1:(List Run)) (a_2:Int) (b_3:Int):Option ((List Run)) :=
  (fq (data_1,(w64 (a_2+1))) (λs=>bR b_3 a_2 s)).bind λo_13=>thenC o_13 (λs_10=>some s_10.1) (λ_=>none)
noncomputable def dz (b_3:Int) (a_2:Int) (data_1:(List Run)) (limit_4:Int) (s_11:Unit):Option (Ctl (Unit) ((List Run))) :=
  bif (decide ((w64 (b_3-a_2))<=12))then (cz data_1 a_2 b_3).bind λr_17=>(jS r_17 data_1).bind λ_=>some (.ret r_17)else bif (limit_4==0)then none else none
noncomputable def dF (data_1:(List Run)) (a_2:Int) (b_3:Int) (limit_4:Int):Option ((List Run)) :=
  (fq () (λs=>dz b_3 a_2 data_1 limit_4 s)).bind λo_14=>thenC o_14 (λs_11=>some data_1) (λr=>some r)
noncomputable def dh (x_1:(List Run)):Option ((List Run)) :=
  (qo (IntKind.u64.wrap (x_1.length:Int))).bind λr_3=>(dF x_1 0 (x_1.length:Int) r_3).bind λr_5=>(jS r_5 x_1).bind λ_=>some r_5
def oU (y_2:Int) (k_3:Nat) (x_5:Rect) (s_8:(List Run)):Option (Ctl ((List Run)) (Unit)) :=
  (bif (decide (x_5.Y<=y_2))then some (decide (y_2<(w64 (x_5.Y+x_5.H))))else some false).bind λv_17=>(bif v_17 then (jv s_8 ([(⟨x_5.X,(w64 (x_5.X+x_5.W))⟩:Run)]:List Run)).bind λa_24=>some a_24 else some s_8).bind λv_20=>some (.go v_20)
def oW (k_30:Nat) (x_32:Run) (s_35:(List Run)):Option (Ctl ((List Run)) (Unit)) :=
  (bif (decide ((w64 ((s_35.length:Int)-1))>=0))then (inR (w64 ((s_35.length:Int)-1)) s_35).bind λ_=>(s_35[(0+((w64 ((s_35.length:Int)-1))).toNat)]?).bind λe_48=>some (decide (x_32.f_from<=e_48.f_to))else some false).bind λv_44=>(bif v_44 then (inR (w64 ((s_35.length:Int)-1)) s_35).bind λ_=>(s_35[(0+((w64 ((s_35.length:Int)-1))).toNat)]?).bind λe_55=>(inR (w64 ((s_35.length:Int)-1)) s_35).bind λ_=>(s_35[(0+((w64 ((s_35.length:Int)-1))).toNat)]?).bind λe_58=>some (s_35.set (0+((w64 ((s_35.length:Int)-1))).toNat) (⟨e_58.f_from,(fZ e_55.f_to x_32.f_to)⟩:Run))else (jv s_35 ([x_32]:List Run)).bind λa_60=>some a_60).bind λv_50=>some (.go v_50)
noncomputable def oK (l_1:(List Rect)) (y_2:Int):Option ((List Run)) :=
  (forL l_1 ([]:List Run) (λk x s=>oU y_2 k x s)).bind λo_14=>thenC o_14 (λs_8=>(dh s_8).bind λr_27=>(jS r_27 s_8).bind λ_=>(forL r_27 ([]:List Run) (λk x s=>oW k x s)).bind λo_41=>thenC o_41 (λs_35=>some s_35) (λ_=>none)) (λ_=>none)
def pg (m_2:(List Run)) (x_5:Run) (s_22:Int):Option (Ctl (Int) (Unit)) :=
  (bif (decide (s_22<(m_2.length:Int)))then (idx m_2 s_22).bind λy_30=>some (decide (y_30.f_to<=x_5.f_from))else some false).bind λv_27=>bif v_27 then some (.go (w64 (s_22+1)))else some (.brk s_22)
def o8 (m_2:(List Run)) (x_5:Run) (s_38:(List Run)×Int×Int):Option (Ctl ((List Run)×Int×Int) (Unit)) :=
  (bif (decide (s_38.2.1<(m_2.length:Int)))then (idx m_2 s_38.2.1).bind λy_48=>some (decide (y_48.f_from<x_5.f_to))else some false).bind λv_45=>bif v_45 then (idx m_2 s_38.2.1).bind λy_51=>(bif (decide (y_51.f_from>s_38.2.2))then (idx m_2 s_38.2.1).bind λy_57=>(jv s_38.1 ([(⟨s_38.2.2,y_57.f_from⟩:Run)]:List Run)).bind λa_59=>some a_59 else some s_38.1).bind λv_53=>(idx m_2 s_38.2.1).bind λy_62=>some (.go (v_53,(w64 (s_38.2.1+1)),(fZ s_38.2.2 y_62.f_to)))else some (.brk (s_38.1,s_38.2.1,s_38.2.2))
noncomputable def mQ (m_2:(List Run)) (k_3:Nat) (x_5:Run) (s_8:(List Run)×Int):Option (Ctl ((List Run)×Int) (Unit)) :=
  (fq s_8.2 (λs=>pg m_2 x_5 s)).bind λo_25=>thenC o_25 (λs_22=>(fq (s_8.1,s_22,x_5.f_from) (λs=>o8 m_2 x_5 s)).bind λo_43=>thenC o_43 (λs_38=>(bif (decide (s_38.2.2<x_5.f_to))then (jv s_38.1 ([(⟨s_38.2.2,x_5.f_to⟩:Run)]:List Run)).bind λa_68=>some a_68 else some s_38.1).bind λv_64=>some (.go (v_64,s_22))) (λ_=>none)) (λ_=>none)
noncomputable def qE (l_1:(List Run)) (m_2:(List Run)):Option ((List Run)) :=
  (forL l_1 (([]:List Run),0) (λk x s=>mQ m_2 k x s)).bind λo_14=>thenC o_14 (λs_8=>some s_8.1) (λ_=>none)
def fU (s2_2:(List Run)) (k_4:Nat) (x_6:Run) (s_9:Unit):Option (Ctl (Unit) (Bool)) :=
  (idx s2_2 (k_4:Int)).bind λy_14=>bif (!((x_6.f_from==y_14.f_from)&&((x_6.f_to==y_14.f_to)&&true)))then some (.ret false)else some (.go ())
def eP (s1_1:(List Run)) (s2_2:(List Run)):Option (Bool) :=
  bif ((s1_1.length:Int) != (s2_2.length:Int))then some false else (forL s1_1 () (λk x s=>fU s2_2 k x s)).bind λo_12=>thenC o_12 (λs_9=>some true) (λr=>some r)
def nC (k_5:Nat) (x_7:Rect) (s_10:(List Int)):Option (Ctl ((List Int)) (Unit)) :=
  (jv s_10 ([x_7.Y,(w64 (x_7.Y+x_7.H))]:List Int)).bind λa_19=>some (.go a_19)
def nA (s_32:(List Rect)×(List Run)×Int) (x_29:Int) (k_54:Nat) (x_56:Run) (s_59:(List Rect)):Option (Ctl ((List Rect)) (Unit)) :=
  (jv s_59 ([(⟨x_56.f_from,s_32.2.2,(w64 (x_56.f_to-x_56.f_from)),(w64 (x_29-s_32.2.2))⟩:Rect)]:List Rect)).bind λa_67=>some (.go a_67)
noncomputable def lc (r_25:(List Int)) (l_1:(List Rect)) (m_2:(List Rect)) (k_27:Nat) (x_29:Int) (s_32:(List Rect)×(List Run)×Int):Option (Ctl ((List Rect)×(List Run)×Int) (Unit)) :=
  (bif (decide ((w64 ((k_27:Int)+1))<(r_25.length:Int)))then (oK l_1 x_29).bind λr_45=>(oK m_2 x_29).bind λr_47=>(qE r_45 r_47).bind λr_49=>some r_49 else some ([]:List Run)).bind λv_42=>(eP s_32.2.1 v_42).bind λr_51=>bif r_51 then some (.go (s_32.1,s_32.2.1,s_32.2.2))else (forL s_32.2.1 s_32.1 (λk x s=>nA s_32 x_29 k x s)).bind λo_64=>thenC o_64 (λs_59=>some (.go (s_59,v_42,x_29))) (λ_=>none)
noncomputable def nT (l_1:(List Rect)) (m_2:(List Rect)):Option ((List Rect)) :=
  (fI ([l_1,m_2]:List (List Rect))).bind λr_3=>(forL r_3 ([]:List Int) (λk x s=>nC k x s)).bind λo_16=>thenC o_16 (λs_10=>(bJ s_10).bind λr_22=>(jS r_22 s_10).bind λ_=>(cZ r_22).bind λr_25=>(forL r_25 (([]:List Rect),([]:List Run),0) (λk x s=>lc r_25 l_1 m_2 k x s)).bind λo_38=>thenC o_38 (λs_32=>some s_32.1) (λ_=>none)) (λ_=>none)
def tH (k_2:Nat) (x_4:Rect) (s_7:Int):Option (Ctl (Int) (Unit)) :=
  some (.go (w64 (s_7+(w64 (x_4.W*x_4.H)))))
def uj (l_1:(List Rect)):Option (Int) :=
  (forL l_1 0 (λk x s=>tH k x s)).bind λo_10=>thenC o_10 (λs_7=>some s_7) (λ_=>none)
noncomputable def qF (l_1:(List Rect)):Option (Int×Int) :=
  (mh l_1).bind λr_2=>bif (r_2 != 0)then some (0,r_2)else (nT l_1 ([]:List Rect)).bind λr_5=>(uj r_5).bind λr_7=>some (r_7,0)
def o5 (wv_1:Window):Option (Bool) :=
  (bif (decide (wv_1.From>=0))then bif (decide (wv_1.From<wv_1.To))then some (decide (wv_1.To<=345686400000))else some false else some false).bind λv_3=>some v_3
noncomputable def kD (l_1:(List ByteArray)):Option (Int) :=
  bif (decide ((l_1.length:Int)>20))then some 2 else (jD l_1).bind λr_3=>some r_3
noncomputable def gm (l_1:(List Campaign)) (k_3:Nat) (x_5:Campaign) (s_8:Unit):Option (Ctl (Unit) (Int)) :=
  ((dQ x_5.Key).bind λr_16=>bif (!r_16)then some true else bif (sNe x_5.Class (⟨#[]⟩:ByteArray))then (dQ x_5.Class).bind λr_20=>some (!r_20)else some false).bind λv_14=>bif v_14 then some (.ret 5)else (bif (decide ((k_3:Int)>0))then (idx l_1 (w64 ((k_3:Int)-1))).bind λy_26=>some (sLe x_5.Key y_26.Key)else some false).bind λv_23=>bif v_23 then some (.ret 7)else ((o5 x_5.Time).bind λr_31=>bif (!r_31)then some true else (aU x_5.Goal 0 1000000).bind λr_34=>bif r_34 then some true else (aU x_5.Most 0 1000000).bind λr_37=>bif r_37 then some true else (aU x_5.Cents 0 1000000000).bind λr_40=>some r_40).bind λv_29=>bif v_29 then some (.ret 1)else (kD x_5.Tags).bind λr_43=>bif (r_43 != 0)then some (.ret r_43)else some (.go ())
noncomputable def iT (l_1:(List Campaign)):Option (Int) :=
  bif (decide ((l_1.length:Int)>30))then some 2 else (forL l_1 () (λk x s=>gm l_1 k x s)).bind λo_11=>thenC o_11 (λs_8=>some 0) (λr=>some r)
def uA (c_1:Campaign) (atv_2:Int):Option (Int) :=
  bif (decide (atv_2<c_1.Time.From))then some 0 else bif (decide (atv_2>=c_1.Time.To))then some c_1.Goal else (Jr .i64 (w64 (c_1.Goal*(w64 (atv_2-c_1.Time.From)))) (w64 (c_1.Time.To-c_1.Time.From))).bind λq_6=>some q_6
noncomputable def qJ (c_1:Campaign) (atv_2:Int):Option (Int×Int) :=
  (iT ([c_1]:List Campaign)).bind λr_4=>bif (r_4 != 0)then some (0,r_4)else (cO atv_2).bind λr_7=>bif (!r_7)then some (0,1)else (uA c_1 atv_2).bind λr_10=>some (r_10,0)
noncomputable def qy (l_1:(List Beat)) (player_2:ByteArray) (n_3:Int) (back_4:Bool):Option (Int×Int) :=
  (fT l_1).bind λr_5=>bif (r_5 != 0)then some (0,r_5)else (dQ player_2).bind λr_8=>bif (!r_8)then some (0,5)else (cO n_3).bind λr_11=>bif (!r_11)then some (0,1)else (kN l_1 player_2 back_4).bind λr_14=>(ji r_14 n_3).bind λr_16=>some (r_16.1,r_16.2)
noncomputable def qH (l_1:(List Beat)) (player_2:ByteArray) (clock_3:Int):Option (Int×Int) :=
  (qy l_1 player_2 clock_3 false).bind λr_4=>some (r_4.1,r_4.2)
def mq (wv_3:Window) (k_19:Nat) (x_21:Nat) (s_24:(List Window)):Option (Ctl ((List Window)) (Unit)) :=
  (inR (k_19:Int) s_24).bind λ_=>(s_24[(0+((k_19:Int)).toNat)]?).bind λe_30=>(rQ e_30 wv_3).bind λr_33=>(inR (k_19:Int) s_24).bind λ_=>(s_24[(0+((k_19:Int)).toNat)]?).bind λe_36=>some (.go (s_24.set (0+((k_19:Int)).toNat) r_33))
noncomputable def mV (e_1:Entry) (zone_2:Int) (wv_3:Window):Option ((List Window)×Int) :=
  (dL ([e_1]:List Entry)).bind λr_6=>bif (r_6 != 0)then some (([]:(List Window)),r_6)else (aU zone_2 (-1440) 1440).bind λr_9=>bif r_9 then some (([]:(List Window)),1)else (fP wv_3).bind λr_12=>bif (r_12 != 0)then some (([]:(List Window)),r_12)else (gQ e_1 zone_2 wv_3).bind λr_15=>(forL (List.range ((r_15.length:Int)).toNat) r_15 (λk x s=>mq wv_3 k x s)).bind λo_27=>thenC o_27 (λs_24=>some (s_24,0)) (λ_=>none)
noncomputable def jJ  : Option (Bool) :=
  (qF ([(⟨0,0,2,2⟩:Rect),(⟨1,1,2,2⟩:Rect)]:List Rect)).bind λr_1=>(qJ (⟨(⟨#[97]⟩:ByteArray),(⟨#[]⟩:ByteArray),(⟨0,100⟩:Window),([]:List ByteArray),10,0,0⟩:Campaign) 50).bind λr_3=>(qH ([(⟨(⟨#[112]⟩:ByteArray),0,100⟩:Beat),(⟨(⟨#[112]⟩:ByteArray),1000,1300⟩:Beat)]:List Beat) (⟨#[112]⟩:ByteArray) 700).bind λr_5=>(mV (⟨(⟨#[97]⟩:ByteArray),(⟨#[98]⟩:ByteArray),0,0,0,1,127,([]:List Int),1,2,0,([]:List ByteArray),false⟩:Entry) 0 (⟨0,86400000⟩:Window)).bind λr_7=>(bif (r_1.2==0)then bif (r_3.2==0)then bif (r_5.2==0)then bif (r_7.2==0)then bif (r_1.1==7)then bif (r_3.1==5)then bif (r_5.1==500)then some ((r_7.1.length:Int)==1)else some false else some false else some false else some false else some false else some false else some false).bind λv_9=>some v_9
def bZ (r_13:Int×Stream) (k_16:Nat) (x_18:Slot_) (s_21:(List Log_)):Option (Ctl ((List Log_)) (Unit)) :=
  (bif (sNe x_18.Entry (⟨#[]⟩:ByteArray))then (jv s_21 ([(⟨(⟨#[112,97]⟩:ByteArray),x_18.Entry,(w64 ((s_21.length:Int)+1)),(w64 (x_18.Time.From+r_13.1)),(w64 (x_18.Time.To-x_18.Time.From)),(⟨#[]⟩:ByteArray)⟩:Log_)]:List Log_)).bind λa_34=>some a_34 else some s_21).bind λv_30=>some (.go v_30)
noncomputable def eU (r_3:(List Entry)×Stream) (r_6:Player×Stream) (k_56:Nat) (x_58:Play) (s_61:Unit):Option (Ctl (Unit) (Bool)) :=
  (oH r_3.1 (⟨(⟨#[112,97]⟩:ByteArray),r_6.1.Screen,r_6.1.Zone,r_6.1.Tags⟩:Player) x_58.At).bind λr_67=>(bif (r_67.2.2 != 0)then some true else bif (!r_67.2.1)then some true else some (sNe r_67.1 x_58.Item)).bind λv_69=>bif v_69 then some (.ret false)else some (.go ())
noncomputable def iZ (l_1:(List Int)):Option (Bool) :=
  (iM (⟨l_1,0⟩:Stream)).bind λr_3=>(ja r_3.2).bind λr_6=>(kS r_3.1 (⟨(⟨#[112,97]⟩:ByteArray),r_6.1.Screen,r_6.1.Zone,r_6.1.Tags⟩:Player) (⟨86400000,172800000⟩:Window)).bind λr_11=>(ku r_6.2 0 1000000).bind λr_13=>(forL r_11.1 ([]:List Log_) (λk x s=>bZ r_13 k x s)).bind λo_27=>thenC o_27 (λs_21=>(oJ (⟨#[]⟩:ByteArray) s_21).bind λr_37=>(qw r_37.1 ([(⟨(⟨#[112,97]⟩:ByteArray),86400000,(w64 (86400000+r_13.1))⟩:Beat),(⟨(⟨#[112,97]⟩:ByteArray),172800000,(w64 (172800000+r_13.1))⟩:Beat)]:List Beat)).bind λr_39=>(tK r_39.1 (⟨#[112,97]⟩:ByteArray) (⟨86400000,172800000⟩:Window)).bind λr_41=>(nY r_3.1 (⟨(⟨#[112,97]⟩:ByteArray),r_6.1.Screen,r_6.1.Zone,r_6.1.Tags⟩:Player) (⟨86400000,172800000⟩:Window)).bind λr_43=>(bif (r_11.2 != 0)then some true else bif (r_37.2 != 0)then some true else bif (r_39.2.2 != 0)then some true else bif (r_41.2 != 0)then some true else bif (r_43.2 != 0)then some true else bif ((r_39.2.1.length:Int) != 0)then some true else (dJ r_41.1 r_43.1).bind λr_53=>some (!r_53)).bind λv_45=>bif v_45 then some false else (forL r_39.1 () (λk x s=>eU r_3 r_6 k x s)).bind λo_64=>thenC o_64 (λs_61=>(jJ).bind λr_74=>some r_74) (λr=>some r)) (λ_=>none)
end Go.Proofs.YtmkljmjhcegapaaGreatDoor.Law

