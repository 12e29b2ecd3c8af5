/-
  The functions of the program, as plain functions over data (written by a program of ours).
-/
import Derived.Test.YtigdobmllbakiaaGreatDoorEng5
open Go Go.Eng
namespace Go.Proofs.YtigdobmllbakiaaGreatDoor.Law
set_option maxRecDepth 100000
set_option linter.unusedVariables false
set_option maxHeartbeats 1000000
structure Stream where
  L:(List Int)
  f_at:Int
def Stream.enc (s:Stream):List D:=[dl eI s.L,.int .i64 s.f_at]

structure Entry where
  Key:ByteArray
  Item:ByteArray
  Version:Int
  First:Int
  Last:Int
  Every:Int
  Days:Int
  Except:(List Int)
  From:Int
  To:Int
  Prio:Int
  Tags:(List ByteArray)
  Gone:Bool
def Entry.enc (s:Entry):List D:=[.str s.Key,.str s.Item,.int .i64 s.Version,.int .i64 s.First,.int .i64 s.Last,.int .i64 s.Every,.int .i64 s.Days,dl eI s.Except,.int .i64 s.From,.int .i64 s.To,.int .i64 s.Prio,dl eS s.Tags,.bool s.Gone]
abbrev Entry.v (s:Entry):List V:=[(vS s.Key),(vS s.Item),(vI s.Version),(vI s.First),(vI s.Last),(vI s.Every),(vI s.Days),(vL eI s.Except),(vI s.From),(vI s.To),(vI s.Prio),(vL eS s.Tags),(vB s.Gone)]

structure Rect where
  X:Int
  Y:Int
  W:Int
  H:Int
def Rect.enc (s:Rect):List D:=[.int .i64 s.X,.int .i64 s.Y,.int .i64 s.W,.int .i64 s.H]
abbrev Rect.v (s:Rect):List V:=[(vI s.X),(vI s.Y),(vI s.W),(vI s.H)]

structure Run where
  f_from:Int
  f_to:Int
def Run.enc (s:Run):List D:=[.int .i64 s.f_from,.int .i64 s.f_to]

structure Window where
  From:Int
  To:Int
def Window.enc (s:Window):List D:=[.int .i64 s.From,.int .i64 s.To]

structure Campaign where
  Key:ByteArray
  Class:ByteArray
  Time:Window
  Tags:(List ByteArray)
  Goal:Int
  Most:Int
  Cents:Int
def Campaign.enc (s:Campaign):List D:=[.str s.Key,.str s.Class,.int .i64 s.Time.From,.int .i64 s.Time.To,dl eS s.Tags,.int .i64 s.Goal,.int .i64 s.Most,.int .i64 s.Cents]
abbrev Campaign.v (s:Campaign):List V:=[(vS s.Key),(vS s.Class),(vI s.Time.From),(vI s.Time.To),(vL eS s.Tags),(vI s.Goal),(vI s.Most),(vI s.Cents)]

structure Beat where
  Player:ByteArray
  At:Int
  Clock:Int
def Beat.enc (s:Beat):List D:=[.str s.Player,.int .i64 s.At,.int .i64 s.Clock]
abbrev Beat.v (s:Beat):List V:=[(vS s.Player),(vI s.At),(vI s.Clock)]

structure Beat_ where
  f_from:Int
  f_to:Int
def Beat_.enc (s:Beat_):List D:=[.int .i64 s.f_from,.int .i64 s.f_to]

structure Alert where
  Id:ByteArray
  Sender:ByteArray
  Kind:Int
  Refs:(List ByteArray)
  At:Int
  Until:Int
  Weight:Int
  Areas:(List Rect)
  Text:ByteArray
def Alert.enc (s:Alert):List D:=[.str s.Id,.str s.Sender,.int .i64 s.Kind,dl eS s.Refs,.int .i64 s.At,.int .i64 s.Until,.int .i64 s.Weight,dl Rect.enc s.Areas,.str s.Text]
abbrev Alert.v (s:Alert):List V:=[(vS s.Id),(vS s.Sender),(vI s.Kind),(vL eS s.Refs),(vI s.At),(vI s.Until),(vI s.Weight),(vL Rect.enc s.Areas),(vS s.Text)]

structure Post where
  Player:ByteArray
  X:Int
  Y:Int
def Post.enc (s:Post):List D:=[.str s.Player,.int .i64 s.X,.int .i64 s.Y]
abbrev Post.v (s:Post):List V:=[(vS s.Player),(vI s.X),(vI s.Y)]

def qz (x_1:Int) (n_2:Int):Option (Int) :=
  bif (decide (n_2<1))then some 0 else (Hf .i64 x_1 n_2).bind λq_4=>(bif (decide (q_4<0))then some (w64 (q_4+n_2))else some q_4).bind λv_6=>some v_6
def d9 (s_1:Stream) (n_2:Int):Option (Int×Stream) :=
  bif ((s_1.L.length:Int)==0)then (qz (w64 ((w64 (s_1.f_at+1))*7919)) n_2).bind λr_4=>some (r_4,(⟨s_1.L,(w64 (s_1.f_at+1))⟩:Stream))else (Hf .i64 (w64 ((w64 (s_1.f_at+1))-1)) (s_1.L.length:Int)).bind λq_6=>(JN .i64 (w64 ((w64 (s_1.f_at+1))-1)) (s_1.L.length:Int)).bind λq_8=>(idx s_1.L q_6).bind λy_10=>(qz y_10 1073741824).bind λr_12=>(qz (w64 (r_12+(w64 (q_8*(w64 (7919+q_6)))))) n_2).bind λr_14=>some (r_14,(⟨s_1.L,(w64 (s_1.f_at+1))⟩:Stream))
def eZ (s_1:Stream) (n_2:Int):Option (Bool×Stream) :=
  (d9 s_1 n_2).bind λr_3=>some ((r_3.1==0),r_3.2)
def iB (s_1:Stream) (l_2:(List ByteArray)):Option (ByteArray×Stream) :=
  (d9 s_1 (l_2.length:Int)).bind λr_3=>(idx l_2 r_3.1).bind λy_6=>some (y_6,r_3.2)
def jS (s_1:Stream) (low_2:Int) (high_3:Int):Option (Int×Stream) :=
  bif (decide (high_3<low_2))then some (low_2,s_1)else (d9 s_1 (w64 ((w64 (high_3-low_2))+1))).bind λr_5=>some ((w64 (low_2+r_5.1)),r_5.2)
def dF (s_1:Stream) (l_2:(List Int)):Option (Int×Stream) :=
  (d9 s_1 (l_2.length:Int)).bind λr_3=>(idx l_2 r_3.1).bind λy_6=>some (y_6,r_3.2)
def fU (k_50:Nat) (x_52:Int) (s_55:(List Int)×(List Int)×Int):Option (Ctl ((List Int)×(List Int)×Int) (Unit)) :=
  (eZ (⟨s_55.2.1,s_55.2.2⟩:Stream) 4).bind λr_63=>(bif r_63.1 then (lN s_55.1 ([x_52]:List Int)).bind λa_70=>some a_70 else some s_55.1).bind λv_66=>some (.go (v_66,r_63.2.L,r_63.2.f_at))
def fT (k_73:Nat) (x_75:ByteArray) (s_78:(List ByteArray)×(List Int)×Int):Option (Ctl ((List ByteArray)×(List Int)×Int) (Unit)) :=
  (eZ (⟨s_78.2.1,s_78.2.2⟩:Stream) 4).bind λr_86=>(bif r_86.1 then (lN s_78.1 ([x_75]:List ByteArray)).bind λa_93=>some a_93 else some s_78.1).bind λv_89=>some (.go (v_89,r_86.2.L,r_86.2.f_at))
def dB (k_2:Nat) (x_4:ByteArray) (s_7:(List Entry)×(List Int)×Int):Option (Ctl ((List Entry)×(List Int)×Int) (Unit)) :=
  (eZ (⟨s_7.2.1,s_7.2.2⟩:Stream) 4).bind λr_15=>bif r_15.1 then some (.go (s_7.1,r_15.2.L,r_15.2.f_at))else (iB r_15.2 ([(⟨#[105,97]⟩:ByteArray),(⟨#[105,98]⟩:ByteArray),(⟨#[105,99]⟩:ByteArray)]:List ByteArray)).bind λr_19=>(jS r_19.2 0 2).bind λr_22=>(dF r_22.2 ([0,0,1,3]:List Int)).bind λr_25=>(dF r_25.2 ([1,1,2,3,7]:List Int)).bind λr_28=>(dF r_28.2 ([127,127,31,96,1,2]:List Int)).bind λr_31=>(dF r_31.2 ([0,0,60,600,1380]:List Int)).bind λr_34=>(dF r_34.2 ([0,60,120,600,720,1439]:List Int)).bind λr_37=>(dF r_37.2 ([0,0,1,5]:List Int)).bind λr_40=>(eZ r_40.2 8).bind λr_43=>(dF r_43.2 ([0,1,5,10,30]:List Int)).bind λr_47=>(forL ([1,2,8]:List Int) (([]:List Int),r_47.2.L,r_47.2.f_at) (λk x s=>fU k x s)).bind λo_61=>thenC o_61 (λs_55=>(forL ([(⟨#[99,105,116,121]⟩:ByteArray),(⟨#[109,97,108,108]⟩:ByteArray)]:List ByteArray) (([]:List ByteArray),s_55.2.1,s_55.2.2) (λk x s=>fT k x s)).bind λo_84=>thenC o_84 (λs_78=>(lN s_7.1 ([(⟨x_4,r_19.1,r_22.1,r_25.1,(w64 (r_25.1+r_47.1)),r_28.1,r_31.1,s_55.1,r_34.1,r_37.1,r_40.1,s_78.1,r_43.1⟩:Entry)]:List Entry)).bind λa_96=>some (.go (a_96,s_78.2.1,s_78.2.2))) (λ_=>none)) (λ_=>none)
def eG (s_1:Stream):Option ((List Entry)×Stream) :=
  (forL ([(⟨#[101,97]⟩:ByteArray),(⟨#[101,98]⟩:ByteArray),(⟨#[101,99]⟩:ByteArray),(⟨#[101,100]⟩:ByteArray)]:List ByteArray) (([]:List Entry),s_1.L,s_1.f_at) (λk x s=>dB k x s)).bind λo_13=>thenC o_13 (λs_7=>some (s_7.1,(⟨s_7.2.1,s_7.2.2⟩:Stream))) (λ_=>none)
def jc (s_1:ByteArray) (s_7:Int):Option (Ctl (Int) (Bool)) :=
  bif (decide (s_7<(s_1.size:Int)))then (wR s_1 s_7).bind λb_13=>(bif (decide ((b_13.toNat:Int)>=97))then bif (decide ((b_13.toNat:Int)<=122))then some false else bif (decide (s_7>0))then bif (decide ((b_13.toNat:Int)>=48))then bif (decide ((b_13.toNat:Int)<=57))then some false else bif ((b_13.toNat:Int)==45)then some false else some (!((b_13.toNat:Int)==95))else bif ((b_13.toNat:Int)==45)then some false else some (!((b_13.toNat:Int)==95))else some true else bif (decide (s_7>0))then bif (decide ((b_13.toNat:Int)>=48))then bif (decide ((b_13.toNat:Int)<=57))then some false else bif ((b_13.toNat:Int)==45)then some false else some (!((b_13.toNat:Int)==95))else bif ((b_13.toNat:Int)==45)then some false else some (!((b_13.toNat:Int)==95))else some true).bind λv_15=>bif v_15 then some (.ret false)else some (.go (w64 (s_7+1)))else some (.brk s_7)
noncomputable def fE (s_1:ByteArray):Option (Bool) :=
  (mF 0 (λs=>jc s_1 s)).bind λo_10=>thenC o_10 (λs_7=>(bif (sNe s_1 (⟨#[]⟩:ByteArray))then some (decide ((s_1.size:Int)<=40))else some false).bind λv_30=>some v_30) (λr=>some r)
def aP (n_1:Int) (low_2:Int) (high_3:Int):Option (Bool) :=
  (bif (decide (n_1<low_2))then some true else some (decide (n_1>high_3))).bind λv_4=>some v_4
def sG (n_1:Int):Option (Bool) :=
  (bif (decide (n_1>=0))then some (decide (n_1<=4000))else some false).bind λv_2=>some v_2
def gM (l_1:(List Int)) (k_3:Nat) (x_5:Int) (s_8:Unit):Option (Ctl (Unit) (Int)) :=
  (sG x_5).bind λr_13=>bif (!r_13)then some (.ret 1)else (bif (decide ((k_3:Int)>0))then (idx l_1 (w64 ((k_3:Int)-1))).bind λy_19=>some (decide (x_5<=y_19))else some false).bind λv_16=>bif v_16 then some (.ret 7)else some (.go ())
def fC (l_1:(List Int)):Option (Int) :=
  bif (decide ((l_1.length:Int)>100))then some 2 else (forL l_1 () (λk x s=>gM l_1 k x s)).bind λo_11=>thenC o_11 (λs_8=>some 0) (λr=>some r)
noncomputable def fZ (l_1:(List ByteArray)) (k_2:Nat) (x_4:ByteArray) (s_7:Unit):Option (Ctl (Unit) (Int)) :=
  (fE x_4).bind λr_12=>bif (!r_12)then some (.ret 5)else (bif (decide ((k_2:Int)>0))then (idx l_1 (w64 ((k_2:Int)-1))).bind λy_18=>some (sLe x_4 y_18)else some false).bind λv_15=>bif v_15 then some (.ret 7)else some (.go ())
noncomputable def gW (l_1:(List ByteArray)):Option (Int) :=
  (forL l_1 () (λk x s=>fZ l_1 k x s)).bind λo_10=>thenC o_10 (λs_7=>some 0) (λr=>some r)
noncomputable def fA (l_1:(List ByteArray)):Option (Int) :=
  bif (decide ((l_1.length:Int)>20))then some 2 else (gW l_1).bind λr_3=>some r_3
noncomputable def eT (e_1:Entry):Option (Int) :=
  ((fE e_1.Key).bind λr_5=>bif (!r_5)then some true else (fE e_1.Item).bind λr_8=>some (!r_8)).bind λv_3=>bif v_3 then some 5 else ((aP e_1.Version 0 1000000).bind λr_13=>bif r_13 then some true else (aP e_1.First 0 e_1.Last).bind λr_16=>bif r_16 then some true else bif (decide (e_1.Last>4000))then some true else (aP e_1.Every 1 400).bind λr_20=>bif r_20 then some true else (aP e_1.Days 1 127).bind λr_23=>some r_23).bind λv_11=>bif v_11 then some 1 else (fC e_1.Except).bind λr_26=>bif (r_26 != 0)then some r_26 else ((aP e_1.From 0 1439).bind λr_31=>bif r_31 then some true else (aP e_1.To 0 1439).bind λr_34=>bif r_34 then some true else (aP e_1.Prio 0 9).bind λr_37=>some r_37).bind λv_29=>bif v_29 then some 1 else (fA e_1.Tags).bind λr_40=>some r_40
noncomputable def dM (l_1:(List Entry)) (k_3:Nat) (x_5:Entry) (s_8:Unit):Option (Ctl (Unit) (Int)) :=
  (eT x_5).bind λr_14=>bif (r_14 != 0)then some (.ret r_14)else (bif (decide ((k_3:Int)>0))then (idx l_1 (w64 ((k_3:Int)-1))).bind λy_20=>some (sLe x_5.Key y_20.Key)else some false).bind λv_17=>bif v_17 then some (.ret 7)else some (.go ())
noncomputable def bA (l_1:(List Entry)):Option (Int) :=
  bif (decide ((l_1.length:Int)>200))then some 2 else (forL l_1 () (λk x s=>dM l_1 k x s)).bind λo_11=>thenC o_11 (λs_8=>some 0) (λr=>some r)
def strconv_Itoa (x0:Int):Option (ByteArray) :=
  JX x0
def strings_Join (x0:(List ByteArray)) (x1:ByteArray):Option (ByteArray) :=
  J8 x0 x1
def gU (l_1:(List ByteArray)):Option (ByteArray) :=
  bif ((l_1.length:Int)==0)then some (⟨#[45]⟩:ByteArray)else (strings_Join l_1 (⟨#[44]⟩:ByteArray)).bind λr_3=>some r_3
def iL (k_4:Nat) (x_6:Int) (s_9:(List ByteArray)):Option (Ctl ((List ByteArray)) (Unit)) :=
  (strconv_Itoa x_6).bind λr_16=>(lN s_9 ([r_16]:List ByteArray)).bind λa_18=>some (.go a_18)
def iO (k_24:Nat) (x_26:Int) (s_29:(List ByteArray)):Option (Ctl ((List ByteArray)) (Unit)) :=
  (strconv_Itoa x_26).bind λr_37=>(lN s_29 ([r_37]:List ByteArray)).bind λa_39=>some (.go a_39)
def cK (e_1:Entry):Option (ByteArray) :=
  (forL ([e_1.Version,e_1.First,e_1.Last,e_1.Every,e_1.Days,e_1.From,e_1.To,e_1.Prio]:List Int) ([e_1.Key,e_1.Item]:List ByteArray) (λk x s=>iL k x s)).bind λo_14=>thenC o_14 (λs_9=>(bif e_1.Gone then some (⟨#[103,111,110,101]⟩:ByteArray)else some (⟨#[111,110]⟩:ByteArray)).bind λv_21=>(forL e_1.Except ([]:List ByteArray) (λk x s=>iO k x s)).bind λo_35=>thenC o_35 (λs_29=>(gU s_29).bind λr_42=>(gU e_1.Tags).bind λr_44=>(lN s_9 ([v_21,r_42,r_44]:List ByteArray)).bind λa_46=>(neL a_46).bind λ_=>(strings_Join a_46 (⟨#[32]⟩:ByteArray)).bind λr_50=>(vH r_50 (⟨#[10]⟩:ByteArray)).bind λs_52=>some s_52) (λ_=>none)) (λ_=>none)
def iw (k_7:Nat) (x_9:Entry) (s_12:(List Int)):Option (Ctl ((List Int)) (Unit)) :=
  (cK x_9).bind λr_20=>(Mc s_12 r_20).bind λa_22=>some (.go a_22)
noncomputable def fF (l_1:(List Entry)):Option (ByteArray×Int) :=
  (bA l_1).bind λr_2=>bif (r_2 != 0)then some ((⟨#[]⟩:ByteArray),r_2)else (forL l_1 ([]:List Int) (λk x s=>iw k x s)).bind λo_17=>thenC o_17 (λs_12=>bif (decide ((s_12.length:Int)>200000))then some ((⟨#[]⟩:ByteArray),2)else (zF s_12).bind λs_26=>some (s_26,0)) (λ_=>none)
def strings_Split (x0:ByteArray) (x1:ByteArray):Option ((List ByteArray)) :=
  Cz x0 x1
def rW (s_1:ByteArray):Option ((List ByteArray)×Bool) :=
  (strings_Split s_1 (⟨#[10]⟩:ByteArray)).bind λr_2=>(idx r_2 (w64 ((r_2.length:Int)-1))).bind λy_4=>bif (sEq y_4 (⟨#[]⟩:ByteArray))then (yG r_2 0 (w64 ((r_2.length:Int)-1))).bind λy_7=>some (y_7,true)else some (r_2,false)
def bJ (v_2:ByteArray) (k_3:Nat) (x_5:ByteArray) (s_8:Unit):Option (Ctl (Unit) (Int)) :=
  bif (sEq v_2 x_5)then some (.ret (k_3:Int))else some (.go ())
def dY (s_1:(List ByteArray)) (v_2:ByteArray):Option (Int) :=
  (forL s_1 () (λk x s=>bJ v_2 k x s)).bind λo_11=>thenC o_11 (λs_8=>some (-1)) (λr=>some r)
def bK (s_1:(List ByteArray)) (v_2:ByteArray):Option (Bool) :=
  (dY s_1 v_2).bind λr_3=>some (decide (r_3>=0))
def nL (s_1:ByteArray):Option ((List ByteArray)×Bool) :=
  (strings_Split s_1 (⟨#[32]⟩:ByteArray)).bind λr_2=>(bK r_2 (⟨#[]⟩:ByteArray)).bind λr_4=>some (r_2,(!r_4))
def dA (s_1:ByteArray) (prefixv_2:ByteArray):Option (Bool) :=
  (bif (decide ((s_1.size:Int)>=(prefixv_2.size:Int)))then (qw s_1 0 (prefixv_2.size:Int)).bind λy_6=>some (sEq y_6 prefixv_2)else some false).bind λv_3=>some v_3
def dn (s_1:ByteArray) (prefixv_2:ByteArray):Option (ByteArray) :=
  (dA s_1 prefixv_2).bind λr_3=>bif r_3 then (qw s_1 (prefixv_2.size:Int) s_1.size).bind λy_6=>some y_6 else some s_1
def strings_TrimPrefix (s_1:ByteArray) (prefixv_2:ByteArray):Option (ByteArray) :=
  (dn s_1 prefixv_2).bind λr_3=>some r_3
def strconv_Atoi (x0:ByteArray):Option (Int) :=
  Dz x0
def dL (r_3:ByteArray) (s_18:Int):Option (Ctl (Int) (Int×Bool)) :=
  bif (decide (s_18<(r_3.size:Int)))then ((wR r_3 s_18).bind λb_26=>bif (decide ((b_26.toNat:Int)<48))then some true else (wR r_3 s_18).bind λb_29=>some (decide ((b_29.toNat:Int)>57))).bind λv_24=>bif v_24 then some (.ret (0,false))else some (.go (w64 (s_18+1)))else some (.brk s_18)
noncomputable def kK (s_1:ByteArray) (most_2:Int):Option (Int×Bool) :=
  (strings_TrimPrefix s_1 (⟨#[45]⟩:ByteArray)).bind λr_3=>(bif (sEq r_3 (⟨#[]⟩:ByteArray))then some true else bif (decide ((r_3.size:Int)>most_2))then some true else (wR r_3 0).bind λb_9=>bif ((b_9.toNat:Int)==48)then some (sNe s_1 (⟨#[48]⟩:ByteArray))else some false).bind λv_5=>bif v_5 then some (0,false)else (mF 0 (λs=>dL r_3 s)).bind λo_21=>thenC o_21 (λs_18=>(strconv_Atoi s_1).bind λr_32=>some (r_32,true)) (λr=>some r)
noncomputable def nU (s_1:ByteArray):Option (Int×Bool) :=
  (kK s_1 9).bind λr_2=>some (r_2.1,r_2.2)
noncomputable def dG (k_2:Nat) (x_4:ByteArray) (s_7:(List Int)):Option (Ctl ((List Int)) ((List Int)×Bool)) :=
  (nU x_4).bind λr_15=>bif (!r_15.2)then some (.ret (([]:(List Int)),false))else (lN s_7 ([r_15.1]:List Int)).bind λa_18=>some (.go a_18)
noncomputable def jH (l_1:(List ByteArray)):Option ((List Int)×Bool) :=
  (forL l_1 ([]:List Int) (λk x s=>dG k x s)).bind λo_13=>thenC o_13 (λs_7=>some (s_7,true)) (λr=>some r)
def cB (s_1:ByteArray):Option ((List ByteArray)×Bool) :=
  bif (sEq s_1 (⟨#[45]⟩:ByteArray))then some (([]:(List ByteArray)),true)else (strings_Split s_1 (⟨#[44]⟩:ByteArray)).bind λr_3=>(bK r_3 (⟨#[]⟩:ByteArray)).bind λr_5=>some (r_3,(!r_5))
noncomputable def fu (line_1:ByteArray):Option (Entry×Bool) :=
  (nL line_1).bind λr_3=>(bif (!r_3.2)then some true else bif ((r_3.1.length:Int) != 13)then some true else (idx r_3.1 10).bind λy_9=>bif (sNe y_9 (⟨#[111,110]⟩:ByteArray))then (idx r_3.1 10).bind λy_12=>some (sNe y_12 (⟨#[103,111,110,101]⟩:ByteArray))else some false).bind λv_5=>bif v_5 then some ((⟨(⟨#[]⟩:ByteArray),(⟨#[]⟩:ByteArray),0,0,0,0,0,([]:List Int),0,0,0,([]:List ByteArray),false⟩:Entry),false)else (yG r_3.1 2 10).bind λy_15=>(jH y_15).bind λr_17=>(idx r_3.1 11).bind λy_19=>(cB y_19).bind λr_21=>(jH r_21.1).bind λr_23=>(idx r_3.1 12).bind λy_25=>(cB y_25).bind λr_27=>(bif (!r_17.2)then some true else bif (!r_21.2)then some true else bif (!r_23.2)then some true else some (!r_27.2)).bind λv_29=>bif v_29 then some ((⟨(⟨#[]⟩:ByteArray),(⟨#[]⟩:ByteArray),0,0,0,0,0,([]:List Int),0,0,0,([]:List ByteArray),false⟩:Entry),false)else (idx r_3.1 0).bind λy_35=>(idx r_3.1 1).bind λy_37=>(idx r_17.1 0).bind λy_39=>(idx r_17.1 1).bind λy_41=>(idx r_17.1 2).bind λy_43=>(idx r_17.1 3).bind λy_45=>(idx r_17.1 4).bind λy_47=>(idx r_17.1 5).bind λy_49=>(idx r_17.1 6).bind λy_51=>(idx r_17.1 7).bind λy_53=>(idx r_3.1 10).bind λy_55=>some ((⟨y_35,y_37,y_39,y_41,y_43,y_45,y_47,r_23.1,y_49,y_51,y_53,r_27.1,(sEq y_55 (⟨#[103,111,110,101]⟩:ByteArray))⟩:Entry),true)
noncomputable def dK (r_3:(List ByteArray)×Bool) (k_5:Nat) (x_7:ByteArray) (s_10:(List Entry)):Option (Ctl ((List Entry)) ((List Entry)×Int×Int)) :=
  (fu x_7).bind λr_18=>(bif (!r_18.2)then some true else bif (!r_3.2)then some ((k_5:Int)==(w64 ((r_3.1.length:Int)-1)))else some false).bind λv_21=>bif v_21 then some (.ret (([]:(List Entry)),(k_5:Int),9))else (lN s_10 ([r_18.1]:List Entry)).bind λa_26=>some (.go a_26)
noncomputable def ig (text_1:ByteArray):Option ((List Entry)×Int×Int) :=
  bif (decide ((text_1.size:Int)>200000))then some (([]:(List Entry)),0,2)else (rW text_1).bind λr_3=>(forL r_3.1 ([]:List Entry) (λk x s=>dK r_3 k x s)).bind λo_16=>thenC o_16 (λs_10=>(bA s_10).bind λr_29=>bif (r_29 != 0)then some (([]:(List Entry)),0,r_29)else some (s_10,0,0)) (λr=>some r)
def jw (k_2:Nat) (x_4:Int) (s_7:(List ByteArray)):Option (Ctl ((List ByteArray)) (Unit)) :=
  (strconv_Itoa x_4).bind λr_15=>(lN s_7 ([r_15]:List ByteArray)).bind λa_17=>some (.go a_17)
def oG (l_1:(List Int)):Option (ByteArray) :=
  (forL l_1 ([]:List ByteArray) (λk x s=>jw k x s)).bind λo_13=>thenC o_13 (λs_7=>(strings_Join s_7 (⟨#[32]⟩:ByteArray)).bind λr_20=>some r_20) (λ_=>none)
def qh (l_1:(List ByteArray)):Option (ByteArray) :=
  bif ((l_1.length:Int)==0)then some (⟨#[45]⟩:ByteArray)else (strings_Join l_1 (⟨#[44]⟩:ByteArray)).bind λr_3=>some r_3
def kY (k_3:Nat) (x_5:Int) (s_8:(List ByteArray)):Option (Ctl ((List ByteArray)) (Unit)) :=
  (strconv_Itoa x_5).bind λr_16=>(lN s_8 ([r_16]:List ByteArray)).bind λa_18=>some (.go a_18)
def fG (e_1:Entry):Option (ByteArray) :=
  (forL e_1.Except ([]:List ByteArray) (λk x s=>kY k x s)).bind λo_14=>thenC o_14 (λs_8=>(bif e_1.Gone then some (⟨#[103,111,110,101]⟩:ByteArray)else some (⟨#[111,110]⟩:ByteArray)).bind λv_21=>(oG ([e_1.Version,e_1.First,e_1.Last,e_1.Every,e_1.Days,e_1.From,e_1.To,e_1.Prio]:List Int)).bind λr_24=>(qh s_8).bind λr_26=>(qh e_1.Tags).bind λr_28=>(strings_Join ([e_1.Key,e_1.Item,r_24,v_21,r_26,r_28]:List ByteArray) (⟨#[32]⟩:ByteArray)).bind λr_30=>some r_30) (λ_=>none)
def dR (s2_2:(List Int)) (k_4:Nat) (x_6:Int) (s_9:Unit):Option (Ctl (Unit) (Bool)) :=
  (idx s2_2 (k_4:Int)).bind λy_14=>bif (x_6 != y_14)then some (.ret false)else some (.go ())
def gJ (s1_1:(List Int)) (s2_2:(List Int)):Option (Bool) :=
  bif ((s1_1.length:Int) != (s2_2.length:Int))then some false else (forL s1_1 () (λk x s=>dR s2_2 k x s)).bind λo_12=>thenC o_12 (λs_9=>some true) (λr=>some r)
def cO (s2_2:(List ByteArray)) (k_4:Nat) (x_6:ByteArray) (s_9:Unit):Option (Ctl (Unit) (Bool)) :=
  (idx s2_2 (k_4:Int)).bind λy_14=>bif (sNe x_6 y_14)then some (.ret false)else some (.go ())
def dX (s1_1:(List ByteArray)) (s2_2:(List ByteArray)):Option (Bool) :=
  bif ((s1_1.length:Int) != (s2_2.length:Int))then some false else (forL s1_1 () (λk x s=>cO s2_2 k x s)).bind λo_12=>thenC o_12 (λs_9=>some true) (λr=>some r)
def iq (a_1:Entry) (b_2:Entry):Option (Bool) :=
  ((fG (⟨a_1.Key,a_1.Item,a_1.Version,a_1.First,a_1.Last,a_1.Every,a_1.Days,([]:List Int),a_1.From,a_1.To,a_1.Prio,([]:List ByteArray),a_1.Gone⟩:Entry)).bind λr_9=>(fG (⟨b_2.Key,b_2.Item,b_2.Version,b_2.First,b_2.Last,b_2.Every,b_2.Days,([]:List Int),b_2.From,b_2.To,b_2.Prio,([]:List ByteArray),b_2.Gone⟩:Entry)).bind λr_11=>bif (sEq r_9 r_11)then (gJ a_1.Except b_2.Except).bind λr_14=>bif r_14 then (dX a_1.Tags b_2.Tags).bind λr_17=>some r_17 else some false else some false).bind λv_7=>some v_7
def aN (s2_2:(List Entry)) (k_5:Nat) (x_7:Entry) (s_10:Unit):Option (Ctl (Unit) (Bool)) :=
  (idx s2_2 (k_5:Int)).bind λy_16=>(iq x_7 y_16).bind λr_19=>bif (!r_19)then some (.ret false)else some (.go ())
def aS (s1_1:(List Entry)) (s2_2:(List Entry)):Option (Bool) :=
  bif ((s1_1.length:Int) != (s2_2.length:Int))then some false else (forL s1_1 () (λk x s=>aN s2_2 k x s)).bind λo_13=>thenC o_13 (λs_10=>some true) (λr=>some r)
def gP (k_2:Nat) (x_4:Entry) (s_7:ByteArray):Option (Ctl (ByteArray) (Unit)) :=
  (fG x_4).bind λr_13=>(vH r_13 (⟨#[10]⟩:ByteArray)).bind λs_15=>(vH s_7 s_15).bind λs_17=>some (.go s_17)
def kw (l_1:(List Entry)):Option (ByteArray) :=
  (forL l_1 (⟨#[]⟩:ByteArray) (λk x s=>gP k x s)).bind λo_10=>thenC o_10 (λs_7=>some s_7) (λ_=>none)
def gL (s_1:Stream) (t_2:ByteArray) (withv_3:ByteArray):Option (ByteArray×Stream) :=
  (bif (sEq t_2 (⟨#[]⟩:ByteArray))then some true else some (sEq withv_3 (⟨#[]⟩:ByteArray))).bind λv_4=>bif v_4 then some (withv_3,s_1)else (d9 s_1 (t_2.size:Int)).bind λr_8=>(d9 r_8.2 (withv_3.size:Int)).bind λr_11=>(wR withv_3 r_11.1).bind λb_14=>(d9 r_11.2 3).bind λr_16=>bif (r_16.1==0)then (qw t_2 0 r_8.1).bind λy_20=>(vH y_20 (Utf8.encode (IntKind.i32.wrap (b_14.toNat:Int)))).bind λs_22=>(qw t_2 (w64 (r_8.1+1)) t_2.size).bind λy_24=>(vH s_22 y_24).bind λs_26=>some (s_26,r_16.2)else bif (r_16.1==1)then (qw t_2 0 r_8.1).bind λy_29=>(vH y_29 (Utf8.encode (IntKind.i32.wrap (b_14.toNat:Int)))).bind λs_31=>(qw t_2 r_8.1 t_2.size).bind λy_33=>(vH s_31 y_33).bind λs_35=>some (s_35,r_16.2)else (qw t_2 0 r_8.1).bind λy_37=>(qw t_2 (w64 (r_8.1+1)) t_2.size).bind λy_39=>(vH y_37 y_39).bind λs_41=>some (s_41,r_16.2)
def strings_Replace (x0:ByteArray) (x1:ByteArray) (x2:ByteArray) (x3:Int):Option (ByteArray) :=
  vP x0 x1 x2 x3
def fI (k_10:Nat) (x_12:Nat) (s_15:ByteArray×(List Int)×Int):Option (Ctl (ByteArray×(List Int)×Int) (Unit)) :=
  (gL (⟨s_15.2.1,s_15.2.2⟩:Stream) s_15.1 (⟨#[32,10,48,45,57,44,101,105]⟩:ByteArray)).bind λr_20=>some (.go (r_20.1,r_20.2.L,r_20.2.f_at))
def ib (s_1:Stream):Option (ByteArray×Stream) :=
  (eG s_1).bind λr_2=>(kw r_2.1).bind λr_5=>(dF r_2.2 ([0,0,1,2]:List Int)).bind λr_7=>(forL (List.range (r_7.1).toNat) (r_5,r_7.2.L,r_7.2.f_at) (λk x s=>fI k x s)).bind λo_18=>thenC o_18 (λs_15=>(eZ (⟨s_15.2.1,s_15.2.2⟩:Stream) 20).bind λr_23=>(bif r_23.1 then (iB r_23.2 ([(⟨#[32,111,110,32]⟩:ByteArray),(⟨#[32,45,32]⟩:ByteArray),(⟨#[32,49,50,55,32]⟩:ByteArray),(⟨#[44]⟩:ByteArray)]:List ByteArray)).bind λr_29=>(iB r_29.2 ([(⟨#[32,111,102,102,32]⟩:ByteArray),(⟨#[32,45,45,32]⟩:ByteArray),(⟨#[32]⟩:ByteArray),(⟨#[44,44]⟩:ByteArray)]:List ByteArray)).bind λr_32=>(strings_Replace s_15.1 r_29.1 r_32.1 1).bind λr_35=>some (r_35,r_32.2.L,r_32.2.f_at)else some (s_15.1,r_23.2.L,r_23.2.f_at)).bind λv_26=>some (v_26.1,(⟨v_26.2.1,v_26.2.2⟩:Stream))) (λ_=>none)
def lc (r_1:Rect):Option (Int) :=
  ((aP r_1.X (-100000) 100000).bind λr_5=>bif r_5 then some true else (aP r_1.Y (-100000) 100000).bind λr_8=>some r_8).bind λv_3=>bif v_3 then some 1 else ((aP r_1.W 1 (w64 (100000-r_1.X))).bind λr_13=>bif r_13 then some true else (aP r_1.H 1 (w64 (100000-r_1.Y))).bind λr_16=>some r_16).bind λv_11=>bif v_11 then some 1 else some 0
def kQ (k_3:Nat) (x_5:Rect) (s_8:Unit):Option (Ctl (Unit) (Int)) :=
  (lc x_5).bind λr_14=>bif (r_14 != 0)then some (.ret r_14)else some (.go ())
def ko (l_1:(List Rect)):Option (Int) :=
  bif (decide ((l_1.length:Int)>2000))then some 2 else (forL l_1 () (λk x s=>kQ k x s)).bind λo_11=>thenC o_11 (λs_8=>some 0) (λr=>some r)
def fQ (n_1:Int):Option Bool :=
  bif (decide (n_1<0))then none else bif (decide ((w64 (n_1-(w64 (0-0))))>0))then (zN (w64 (n_1-(w64 (0-0)))) 32).bind λ_=>some true else some false
def fB (k_2:Nat) (x_4:(List Rect)) (s_7:Int):Option (Ctl (Int) (Unit)) :=
  (bif (decide ((w64 (s_7+(x_4.length:Int)))<0))then none else some ()).bind λv_12=>some (.go (w64 (s_7+(x_4.length:Int))))
def fw (k_18:Nat) (x_20:(List Rect)) (s_23:(List Rect)):Option (Ctl ((List Rect)) (Unit)) :=
  (lN s_23 x_20).bind λa_30=>some (.go a_30)
def dS (slices_1:(List (List Rect))):Option ((List Rect)) :=
  (forL slices_1 0 (λk x s=>fB k x s)).bind λo_10=>thenC o_10 (λs_7=>(fQ s_7).bind λb_15=>(forL slices_1 ([]:List Rect) (λk x s=>fw k x s)).bind λo_28=>thenC o_28 (λs_23=>some s_23) (λ_=>none)) (λ_=>none)
def ic (x:(List Int)):Option ((List Int)) :=
  KO x
def fe (s_1:(List Int)) (s_8:Int) (s_28:(List Int)×Int×Int):Option (Ctl ((List Int)×Int×Int) (Unit)) :=
  bif (decide (s_28.2.2<(((((s_1.length:Int)).toNat-(s_8).toNat):Nat):Int)))then (inN s_28.2.2 (((s_1.length:Int)).toNat-(s_8).toNat)).bind λ_=>(s_28.1[(((s_8).toNat)+(s_28.2.2).toNat)]?).bind λe_35=>(inN (w64 (s_28.2.2-1)) (((s_1.length:Int)).toNat-(s_8).toNat)).bind λ_=>(s_28.1[(((s_8).toNat)+((w64 (s_28.2.2-1))).toNat)]?).bind λe_38=>(bif (e_35 != e_38)then (inN s_28.2.2 (((s_1.length:Int)).toNat-(s_8).toNat)).bind λ_=>(s_28.1[(((s_8).toNat)+(s_28.2.2).toNat)]?).bind λe_44=>(inR s_28.2.1 s_28.1).bind λ_=>(s_28.1[(0+(s_28.2.1).toNat)]?).bind λe_47=>some ((s_28.1.set (0+(s_28.2.1).toNat) e_44),(w64 (s_28.2.1+1)))else some (s_28.1,s_28.2.1)).bind λv_40=>some (.go (v_40.1,v_40.2,(w64 (s_28.2.2+1))))else some (.brk (s_28.1,s_28.2.1,s_28.2.2))
noncomputable def dH (s_1:(List Int)) (s_8:Int):Option (Ctl (Int) ((List Int))) :=
  bif (decide (s_8<(s_1.length:Int)))then (inR s_8 s_1).bind λ_=>(s_1[(0+(s_8).toNat)]?).bind λe_15=>(inR (w64 (s_8-1)) s_1).bind λ_=>(s_1[(0+((w64 (s_8-1))).toNat)]?).bind λe_18=>bif (e_15==e_18)then (neL s_1).bind λ_=>(A9 s_1 s_8 (s_1.length:Int)).bind λ_=>(mF (s_1,s_8,1) (λs=>fe s_1 s_8 s)).bind λo_31=>thenC o_31 (λs_28=>(A9 s_28.1 s_28.2.1 (s_28.1.length:Int)).bind λ_=>(A9 (s_28.1.take ((s_28.2.1).toNat)++List.replicate (((s_28.1.length:Int)).toNat-(s_28.2.1).toNat) 0++s_28.1.drop (((s_28.2.1).toNat)+(((s_28.1.length:Int)).toNat-(s_28.2.1).toNat))) 0 s_28.2.1).bind λ_=>some (.ret (cutL (s_28.1.take ((s_28.2.1).toNat)++List.replicate (((s_28.1.length:Int)).toNat-(s_28.2.1).toNat) 0++s_28.1.drop (((s_28.2.1).toNat)+(((s_28.1.length:Int)).toNat-(s_28.2.1).toNat))) 0 ((s_28.2.1).toNat)))) (λ_=>none)else some (.go (w64 (s_8+1)))else some (.brk s_8)
noncomputable def eP (s_1:(List Int)):Option ((List Int)) :=
  bif (decide ((s_1.length:Int)<2))then some s_1 else (mF 1 (λs=>dH s_1 s)).bind λo_11=>thenC o_11 (λs_8=>some s_1) (λr=>some r)
def rM (a_1:Run) (b_2:Run):Option (Int) :=
  some (w64 (a_1.f_from-b_2.f_from))
def pg (x_1:Int):Option (Int) :=
  (bif (decide (x_1>=4294967296))then (DJ .u64 x_1 32).bind λq_5=>some (q_5,32)else some (x_1,0)).bind λv_2=>(bif (decide (v_2.1>=65536))then (DJ .u64 v_2.1 16).bind λq_10=>some (q_10,(w64 (v_2.2+16)))else some (v_2.1,v_2.2)).bind λv_7=>(bif (decide (v_7.1>=256))then (DJ .u64 v_7.1 8).bind λq_15=>some (q_15,(w64 (v_7.2+8)))else some (v_7.1,v_7.2)).bind λv_12=>(wR (⟨#[0,1,2,2,3,3,3,3,4,4,4,4,4,4,4,4,5,5,5,5,5,5,5,5,5,5,5,5,5,5,5,5,6,6,6,6,6,6,6,6,6,6,6,6,6,6,6,6,6,6,6,6,6,6,6,6,6,6,6,6,6,6,6,6,7,7,7,7,7,7,7,7,7,7,7,7,7,7,7,7,7,7,7,7,7,7,7,7,7,7,7,7,7,7,7,7,7,7,7,7,7,7,7,7,7,7,7,7,7,7,7,7,7,7,7,7,7,7,7,7,7,7,7,7,7,7,7,7,8,8,8,8,8,8,8,8,8,8,8,8,8,8,8,8,8,8,8,8,8,8,8,8,8,8,8,8,8,8,8,8,8,8,8,8,8,8,8,8,8,8,8,8,8,8,8,8,8,8,8,8,8,8,8,8,8,8,8,8,8,8,8,8,8,8,8,8,8,8,8,8,8,8,8,8,8,8,8,8,8,8,8,8,8,8,8,8,8,8,8,8,8,8,8,8,8,8,8,8,8,8,8,8,8,8,8,8,8,8,8,8,8,8,8,8,8,8,8,8,8,8,8,8,8,8,8,8]⟩:ByteArray) (IntKind.u8.wrap v_12.1)).bind λb_17=>some (w64 (v_12.2+(w64 (b_17.toNat:Int))))
def nY (x_1:Int):Option (Int) :=
  (pg x_1).bind λr_2=>some r_2
def bT (a_2:Int) (s_21:(List Run)×Int):Option (Ctl ((List Run)×Int) (Unit)) :=
  (bif (decide (s_21.2>a_2))then (inR s_21.2 s_21.1).bind λ_=>(s_21.1[(0+(s_21.2).toNat)]?).bind λe_30=>(inR (w64 (s_21.2-1)) s_21.1).bind λ_=>(s_21.1[(0+((w64 (s_21.2-1))).toNat)]?).bind λe_33=>(rM e_30 e_33).bind λr_35=>some (decide (r_35<0))else some false).bind λv_26=>bif v_26 then (inR (w64 (s_21.2-1)) s_21.1).bind λ_=>(s_21.1[(0+((w64 (s_21.2-1))).toNat)]?).bind λe_39=>(inR s_21.2 s_21.1).bind λ_=>(s_21.1[(0+(s_21.2).toNat)]?).bind λe_42=>(inR s_21.2 s_21.1).bind λ_=>(s_21.1[(0+(s_21.2).toNat)]?).bind λe_45=>(inR (w64 (s_21.2-1)) (s_21.1.set (0+(s_21.2).toNat) e_39)).bind λ_=>((s_21.1.set (0+(s_21.2).toNat) e_39)[(0+((w64 (s_21.2-1))).toNat)]?).bind λe_48=>some (.go (((s_21.1.set (0+(s_21.2).toNat) e_39).set (0+((w64 (s_21.2-1))).toNat) e_42),(w64 (s_21.2-1))))else some (.brk (s_21.1,s_21.2))
noncomputable def bE (b_3:Int) (a_2:Int) (s_10:(List Run)×Int):Option (Ctl ((List Run)×Int) (Unit)) :=
  bif (decide (s_10.2<b_3))then (mF (s_10.1,s_10.2) (λs=>bT a_2 s)).bind λo_24=>thenC o_24 (λs_21=>some (.go (s_21.1,(w64 (s_10.2+1))))) (λ_=>none)else some (.brk (s_10.1,s_10.2))
noncomputable def bO (data_1:(List Run)) (a_2:Int) (b_3:Int):Option ((List Run)) :=
  (mF (data_1,(w64 (a_2+1))) (λs=>bE b_3 a_2 s)).bind λo_13=>thenC o_13 (λs_10=>some s_10.1) (λ_=>none)
noncomputable def bS (b_3:Int) (a_2:Int) (data_1:(List Run)) (limit_4:Int) (s_11:Unit):Option (Ctl (Unit) ((List Run))) :=
  bif (decide ((w64 (b_3-a_2))<=12))then (bO data_1 a_2 b_3).bind λr_17=>(xy r_17 data_1).bind λ_=>some (.ret r_17)else bif (limit_4==0)then none else none
noncomputable def cz (data_1:(List Run)) (a_2:Int) (b_3:Int) (limit_4:Int):Option ((List Run)) :=
  (mF () (λs=>bS b_3 a_2 data_1 limit_4 s)).bind λo_14=>thenC o_14 (λs_11=>some data_1) (λr=>some r)
noncomputable def bP (x_1:(List Run)):Option ((List Run)) :=
  (nY (IntKind.u64.wrap (x_1.length:Int))).bind λr_3=>(cz x_1 0 (x_1.length:Int) r_3).bind λr_5=>(xy r_5 x_1).bind λ_=>some r_5
def mU (y_2:Int) (k_3:Nat) (x_5:Rect) (s_8:(List Run)):Option (Ctl ((List Run)) (Unit)) :=
  (bif (decide (x_5.Y<=y_2))then some (decide (y_2<(w64 (x_5.Y+x_5.H))))else some false).bind λv_17=>(bif v_17 then (lN s_8 ([(⟨x_5.X,(w64 (x_5.X+x_5.W))⟩:Run)]:List Run)).bind λa_24=>some a_24 else some s_8).bind λv_20=>some (.go v_20)
def mX (k_30:Nat) (x_32:Run) (s_35:(List Run)):Option (Ctl ((List Run)) (Unit)) :=
  (bif (decide ((w64 ((s_35.length:Int)-1))>=0))then (inR (w64 ((s_35.length:Int)-1)) s_35).bind λ_=>(s_35[(0+((w64 ((s_35.length:Int)-1))).toNat)]?).bind λe_48=>some (decide (x_32.f_from<=e_48.f_to))else some false).bind λv_44=>(bif v_44 then (inR (w64 ((s_35.length:Int)-1)) s_35).bind λ_=>(s_35[(0+((w64 ((s_35.length:Int)-1))).toNat)]?).bind λe_55=>(inR (w64 ((s_35.length:Int)-1)) s_35).bind λ_=>(s_35[(0+((w64 ((s_35.length:Int)-1))).toNat)]?).bind λe_58=>some (s_35.set (0+((w64 ((s_35.length:Int)-1))).toNat) (⟨e_58.f_from,(sw e_55.f_to x_32.f_to)⟩:Run))else (lN s_35 ([x_32]:List Run)).bind λa_60=>some a_60).bind λv_50=>some (.go v_50)
noncomputable def mD (l_1:(List Rect)) (y_2:Int):Option ((List Run)) :=
  (forL l_1 ([]:List Run) (λk x s=>mU y_2 k x s)).bind λo_14=>thenC o_14 (λs_8=>(bP s_8).bind λr_27=>(xy r_27 s_8).bind λ_=>(forL r_27 ([]:List Run) (λk x s=>mX k x s)).bind λo_41=>thenC o_41 (λs_35=>some s_35) (λ_=>none)) (λ_=>none)
def mP (m_2:(List Run)) (x_5:Run) (s_22:Int):Option (Ctl (Int) (Unit)) :=
  (bif (decide (s_22<(m_2.length:Int)))then (idx m_2 s_22).bind λy_30=>some (decide (y_30.f_to<=x_5.f_from))else some false).bind λv_27=>bif v_27 then some (.go (w64 (s_22+1)))else some (.brk s_22)
def mY (m_2:(List Run)) (x_5:Run) (s_38:(List Run)×Int×Int):Option (Ctl ((List Run)×Int×Int) (Unit)) :=
  (bif (decide (s_38.2.1<(m_2.length:Int)))then (idx m_2 s_38.2.1).bind λy_48=>some (decide (y_48.f_from<x_5.f_to))else some false).bind λv_45=>bif v_45 then (idx m_2 s_38.2.1).bind λy_51=>(bif (decide (y_51.f_from>s_38.2.2))then (idx m_2 s_38.2.1).bind λy_57=>(lN s_38.1 ([(⟨s_38.2.2,y_57.f_from⟩:Run)]:List Run)).bind λa_59=>some a_59 else some s_38.1).bind λv_53=>(idx m_2 s_38.2.1).bind λy_62=>some (.go (v_53,(w64 (s_38.2.1+1)),(sw s_38.2.2 y_62.f_to)))else some (.brk (s_38.1,s_38.2.1,s_38.2.2))
noncomputable def kL (m_2:(List Run)) (k_3:Nat) (x_5:Run) (s_8:(List Run)×Int):Option (Ctl ((List Run)×Int) (Unit)) :=
  (mF s_8.2 (λs=>mP m_2 x_5 s)).bind λo_25=>thenC o_25 (λs_22=>(mF (s_8.1,s_22,x_5.f_from) (λs=>mY m_2 x_5 s)).bind λo_43=>thenC o_43 (λs_38=>(bif (decide (s_38.2.2<x_5.f_to))then (lN s_38.1 ([(⟨s_38.2.2,x_5.f_to⟩:Run)]:List Run)).bind λa_68=>some a_68 else some s_38.1).bind λv_64=>some (.go (v_64,s_22))) (λ_=>none)) (λ_=>none)
noncomputable def oM (l_1:(List Run)) (m_2:(List Run)):Option ((List Run)) :=
  (forL l_1 (([]:List Run),0) (λk x s=>kL m_2 k x s)).bind λo_14=>thenC o_14 (λs_8=>some s_8.1) (λ_=>none)
def eu (s2_2:(List Run)) (k_4:Nat) (x_6:Run) (s_9:Unit):Option (Ctl (Unit) (Bool)) :=
  (idx s2_2 (k_4:Int)).bind λy_14=>bif (!((x_6.f_from==y_14.f_from)&&((x_6.f_to==y_14.f_to)&&true)))then some (.ret false)else some (.go ())
def dC (s1_1:(List Run)) (s2_2:(List Run)):Option (Bool) :=
  bif ((s1_1.length:Int) != (s2_2.length:Int))then some false else (forL s1_1 () (λk x s=>eu s2_2 k x s)).bind λo_12=>thenC o_12 (λs_9=>some true) (λr=>some r)
def lq (k_5:Nat) (x_7:Rect) (s_10:(List Int)):Option (Ctl ((List Int)) (Unit)) :=
  (lN s_10 ([x_7.Y,(w64 (x_7.Y+x_7.H))]:List Int)).bind λa_19=>some (.go a_19)
def lg (s_32:(List Rect)×(List Run)×Int) (x_29:Int) (k_54:Nat) (x_56:Run) (s_59:(List Rect)):Option (Ctl ((List Rect)) (Unit)) :=
  (lN s_59 ([(⟨x_56.f_from,s_32.2.2,(w64 (x_56.f_to-x_56.f_from)),(w64 (x_29-s_32.2.2))⟩:Rect)]:List Rect)).bind λa_67=>some (.go a_67)
noncomputable def jA (r_25:(List Int)) (l_1:(List Rect)) (m_2:(List Rect)) (k_27:Nat) (x_29:Int) (s_32:(List Rect)×(List Run)×Int):Option (Ctl ((List Rect)×(List Run)×Int) (Unit)) :=
  (bif (decide ((w64 ((k_27:Int)+1))<(r_25.length:Int)))then (mD l_1 x_29).bind λr_45=>(mD m_2 x_29).bind λr_47=>(oM r_45 r_47).bind λr_49=>some r_49 else some ([]:List Run)).bind λv_42=>(dC s_32.2.1 v_42).bind λr_51=>bif r_51 then some (.go (s_32.1,s_32.2.1,s_32.2.2))else (forL s_32.2.1 s_32.1 (λk x s=>lg s_32 x_29 k x s)).bind λo_64=>thenC o_64 (λs_59=>some (.go (s_59,v_42,x_29))) (λ_=>none)
noncomputable def lS (l_1:(List Rect)) (m_2:(List Rect)):Option ((List Rect)) :=
  (dS ([l_1,m_2]:List (List Rect))).bind λr_3=>(forL r_3 ([]:List Int) (λk x s=>lq k x s)).bind λo_16=>thenC o_16 (λs_10=>(ic s_10).bind λr_22=>(xy r_22 s_10).bind λ_=>(eP r_22).bind λr_25=>(forL r_25 (([]:List Rect),([]:List Run),0) (λk x s=>jA r_25 l_1 m_2 k x s)).bind λo_38=>thenC o_38 (λs_32=>some s_32.1) (λ_=>none)) (λ_=>none)
def qC (k_2:Nat) (x_4:Rect) (s_7:Int):Option (Ctl (Int) (Unit)) :=
  some (.go (w64 (s_7+(w64 (x_4.W*x_4.H)))))
def qW (l_1:(List Rect)):Option (Int) :=
  (forL l_1 0 (λk x s=>qC k x s)).bind λo_10=>thenC o_10 (λs_7=>some s_7) (λ_=>none)
noncomputable def oH (l_1:(List Rect)):Option (Int×Int) :=
  (ko l_1).bind λr_2=>bif (r_2 != 0)then some (0,r_2)else (lS l_1 ([]:List Rect)).bind λr_5=>(qW r_5).bind λr_7=>some (r_7,0)
def iU (wv_1:Window):Option (Int) :=
  ((aP wv_1.From 0 wv_1.To).bind λr_5=>bif r_5 then some true else some (decide (wv_1.To>345686400000))).bind λv_3=>bif v_3 then some 1 else bif (decide ((w64 (wv_1.To-wv_1.From))>34560000000))then some 2 else some 0
def cmp_isNaN_int (x_1:Int):Option (Bool) :=
  some (x_1 != x_1)
def cmp_Less_int (x_1:Int) (y_2:Int):Option (Bool) :=
  ((cmp_isNaN_int x_1).bind λr_5=>bif r_5 then (cmp_isNaN_int y_2).bind λr_8=>bif (!r_8)then some true else some (decide (x_1<y_2))else some (decide (x_1<y_2))).bind λv_3=>some v_3
def iy (x_1:Int):Option (Bool) :=
  some (x_1 != x_1)
def eB (x_1:(List Int)) (target_2:Int) (s_8:Int×Int):Option (Ctl (Int×Int) (Unit)) :=
  bif (decide (s_8.1<s_8.2))then (DJ .u64 (IntKind.u64.wrap (w64 (s_8.1+s_8.2))) 1).bind λq_14=>(idx x_1 (w64 q_14)).bind λy_16=>(cmp_Less_int y_16 target_2).bind λr_18=>bif r_18 then some (.go ((w64 ((w64 q_14)+1)),s_8.2))else some (.go (s_8.1,(w64 q_14)))else some (.brk (s_8.1,s_8.2))
noncomputable def dP (x_1:(List Int)) (target_2:Int):Option (Int×Bool) :=
  (mF (0,(x_1.length:Int)) (λs=>eB x_1 target_2 s)).bind λo_11=>thenC o_11 (λs_8=>(bif (decide (s_8.1<(x_1.length:Int)))then (idx x_1 s_8.1).bind λy_24=>bif (y_24==target_2)then some true else (idx x_1 s_8.1).bind λy_27=>(iy y_27).bind λr_29=>bif r_29 then (iy target_2).bind λr_32=>some r_32 else some false else some false).bind λv_21=>some (s_8.1,v_21)) (λ_=>none)
noncomputable def kP (e_1:Entry) (d_2:Int):Option (Bool) :=
  ((aP d_2 e_1.First e_1.Last).bind λr_6=>bif r_6 then some true else (Hf .i64 (w64 (d_2-e_1.First)) e_1.Every).bind λq_9=>bif (q_9 != 0)then some true else (IZ .i64 1 (d_2.tmod 7)).bind λq_12=>some ((Cf .i64 e_1.Days q_12)==0)).bind λv_4=>bif v_4 then some false else (dP e_1.Except d_2).bind λr_15=>some (!r_15.2)
def lW (e_1:Entry) (zone_2:Int) (d_3:Int):Option (Window) :=
  (bif (decide ((w64 (e_1.To-e_1.From))<=0))then some (w64 ((w64 (e_1.To-e_1.From))+1440))else some (w64 (e_1.To-e_1.From))).bind λv_6=>some (⟨(w64 ((w64 ((w64 ((w64 (d_3*1440))+e_1.From))-zone_2))*60000)),(w64 ((w64 ((w64 ((w64 ((w64 (d_3*1440))+e_1.From))-zone_2))*60000))+(w64 (v_6*60000))))⟩:Window)
noncomputable def je (wv_3:Window) (zone_2:Int) (e_1:Entry) (s_15:(List Window)×Int):Option (Ctl ((List Window)×Int) (Unit)) :=
  bif (decide (s_15.2<=(Gg (w64 ((w64 ((w64 (wv_3.To+(w64 (zone_2*60000)))).tdiv 86400000))+1)) e_1.Last)))then (kP e_1 s_15.2).bind λr_24=>bif (!r_24)then some (.go (s_15.1,(w64 (s_15.2+1))))else (lW e_1 zone_2 s_15.2).bind λr_27=>(bif (decide (r_27.From<wv_3.To))then some (decide (r_27.To>wv_3.From))else some false).bind λv_30=>(bif v_30 then (lN s_15.1 ([r_27]:List Window)).bind λa_37=>some a_37 else some s_15.1).bind λv_33=>some (.go (v_33,(w64 (s_15.2+1))))else some (.brk (s_15.1,s_15.2))
noncomputable def ku (e_1:Entry) (zone_2:Int) (wv_3:Window):Option ((List Window)) :=
  (bif e_1.Gone then some true else some (decide (wv_3.From>=wv_3.To))).bind λv_6=>bif v_6 then some ([]:(List Window))else (mF (([]:List Window),(sw (w64 ((w64 ((w64 (wv_3.From+(w64 (zone_2*60000)))).tdiv 86400000))-2)) e_1.First)) (λs=>je wv_3 zone_2 e_1 s)).bind λo_21=>thenC o_21 (λs_15=>some s_15.1) (λ_=>none)
def uC (t_1:Window) (wv_2:Window):Option (Window) :=
  some (⟨(sw t_1.From wv_2.From),(Gg t_1.To wv_2.To)⟩:Window)
def kg (wv_3:Window) (k_19:Nat) (x_21:Nat) (s_24:(List Window)):Option (Ctl ((List Window)) (Unit)) :=
  (inR (k_19:Int) s_24).bind λ_=>(s_24[(0+((k_19:Int)).toNat)]?).bind λe_30=>(uC e_30 wv_3).bind λr_33=>(inR (k_19:Int) s_24).bind λ_=>(s_24[(0+((k_19:Int)).toNat)]?).bind λe_36=>some (.go (s_24.set (0+((k_19:Int)).toNat) r_33))
noncomputable def kJ (e_1:Entry) (zone_2:Int) (wv_3:Window):Option ((List Window)×Int) :=
  (bA ([e_1]:List Entry)).bind λr_6=>bif (r_6 != 0)then some (([]:(List Window)),r_6)else (aP zone_2 (-1440) 1440).bind λr_9=>bif r_9 then some (([]:(List Window)),1)else (iU wv_3).bind λr_12=>bif (r_12 != 0)then some (([]:(List Window)),r_12)else (ku e_1 zone_2 wv_3).bind λr_15=>(forL (List.range ((r_15.length:Int)).toNat) r_15 (λk x s=>kg wv_3 k x s)).bind λo_27=>thenC o_27 (λs_24=>some (s_24,0)) (λ_=>none)
def mZ (wv_1:Window):Option (Bool) :=
  (bif (decide (wv_1.From>=0))then bif (decide (wv_1.From<wv_1.To))then some (decide (wv_1.To<=345686400000))else some false else some false).bind λv_3=>some v_3
noncomputable def iZ (l_1:(List ByteArray)):Option (Int) :=
  bif (decide ((l_1.length:Int)>20))then some 2 else (gW l_1).bind λr_3=>some r_3
noncomputable def eQ (l_1:(List Campaign)) (k_3:Nat) (x_5:Campaign) (s_8:Unit):Option (Ctl (Unit) (Int)) :=
  ((fE x_5.Key).bind λr_16=>bif (!r_16)then some true else bif (sNe x_5.Class (⟨#[]⟩:ByteArray))then (fE x_5.Class).bind λr_20=>some (!r_20)else some false).bind λv_14=>bif v_14 then some (.ret 5)else (bif (decide ((k_3:Int)>0))then (idx l_1 (w64 ((k_3:Int)-1))).bind λy_26=>some (sLe x_5.Key y_26.Key)else some false).bind λv_23=>bif v_23 then some (.ret 7)else ((mZ x_5.Time).bind λr_31=>bif (!r_31)then some true else (aP x_5.Goal 0 1000000).bind λr_34=>bif r_34 then some true else (aP x_5.Most 0 1000000).bind λr_37=>bif r_37 then some true else (aP x_5.Cents 0 1000000000).bind λr_40=>some r_40).bind λv_29=>bif v_29 then some (.ret 1)else (iZ x_5.Tags).bind λr_43=>bif (r_43 != 0)then some (.ret r_43)else some (.go ())
noncomputable def fH (l_1:(List Campaign)):Option (Int) :=
  bif (decide ((l_1.length:Int)>30))then some 2 else (forL l_1 () (λk x s=>eQ l_1 k x s)).bind λo_11=>thenC o_11 (λs_8=>some 0) (λr=>some r)
def dx (n_1:Int):Option (Bool) :=
  (bif (decide (n_1>=0))then some (decide (n_1<345686400000))else some false).bind λv_2=>some v_2
def qX (c_1:Campaign) (atv_2:Int):Option (Int) :=
  bif (decide (atv_2<c_1.Time.From))then some 0 else bif (decide (atv_2>=c_1.Time.To))then some c_1.Goal else (JN .i64 (w64 (c_1.Goal*(w64 (atv_2-c_1.Time.From)))) (w64 (c_1.Time.To-c_1.Time.From))).bind λq_6=>some q_6
noncomputable def oD (c_1:Campaign) (atv_2:Int):Option (Int×Int) :=
  (fH ([c_1]:List Campaign)).bind λr_4=>bif (r_4 != 0)then some (0,r_4)else (dx atv_2).bind λr_7=>bif (!r_7)then some (0,1)else (qX c_1 atv_2).bind λr_10=>some (r_10,0)
def gm (a_1:ByteArray) (b_2:ByteArray):Option (Int) :=
  some (NJ a_1 b_2)
def strings_Compare (a_1:ByteArray) (b_2:ByteArray):Option (Int) :=
  (gm a_1 b_2).bind λr_3=>some r_3
def cmp_Compare_int (x_1:Int) (y_2:Int):Option (Int) :=
  (cmp_isNaN_int x_1).bind λr_3=>(cmp_isNaN_int y_2).bind λr_5=>bif r_3 then bif r_5 then some 0 else some (-1)else bif r_5 then some 1 else bif (decide (x_1<y_2))then some (-1)else bif (decide (x_1>y_2))then some 1 else some 0
def rA (k_2:Nat) (x_4:Int) (s_7:Unit):Option (Ctl (Unit) (Int)) :=
  bif (x_4 != 0)then some (.ret x_4)else some (.go ())
def tJ (vals_1:(List Int)):Option (Int) :=
  (forL vals_1 () (λk x s=>rA k x s)).bind λo_10=>thenC o_10 (λs_7=>some 0) (λr=>some r)
def jK (a_1:Beat) (b_2:Beat):Option (Int) :=
  (strings_Compare a_1.Player b_2.Player).bind λr_5=>(cmp_Compare_int a_1.At b_2.At).bind λr_7=>(tJ ([r_5,r_7]:List Int)).bind λr_9=>some r_9
noncomputable def gZ (l_1:(List Beat)) (k_3:Nat) (x_5:Beat) (s_8:Unit):Option (Ctl (Unit) (Int)) :=
  (fE x_5.Player).bind λr_14=>bif (!r_14)then some (.ret 5)else ((dx x_5.At).bind λr_19=>bif (!r_19)then some true else (aP x_5.Clock 0 345686399999).bind λr_22=>some r_22).bind λv_17=>bif v_17 then some (.ret 1)else (bif (decide ((k_3:Int)>0))then (idx l_1 (w64 ((k_3:Int)-1))).bind λy_28=>(jK y_28 x_5).bind λr_30=>some (decide (r_30>=0))else some false).bind λv_25=>bif v_25 then some (.ret 7)else (bif (decide ((k_3:Int)>0))then (idx l_1 (w64 ((k_3:Int)-1))).bind λy_36=>bif (sEq x_5.Player y_36.Player)then (idx l_1 (w64 ((k_3:Int)-1))).bind λy_39=>some (decide (x_5.Clock<=y_39.Clock))else some false else some false).bind λv_33=>bif v_33 then some (.ret 16)else some (.go ())
noncomputable def jq (l_1:(List Beat)):Option (Int) :=
  bif (decide ((l_1.length:Int)>500))then some 2 else (forL l_1 () (λk x s=>gZ l_1 k x s)).bind λo_11=>thenC o_11 (λs_8=>some 0) (λr=>some r)
def nN (player_2:ByteArray) (back_3:Bool) (k_4:Nat) (x_6:Beat) (s_9:(List Beat_)):Option (Ctl ((List Beat_)) (Unit)) :=
  (bif (sNe x_6.Player player_2)then some s_9 else bif back_3 then (lN s_9 ([(⟨x_6.At,x_6.Clock⟩:Beat_)]:List Beat_)).bind λa_23=>some a_23 else (lN s_9 ([(⟨x_6.Clock,x_6.At⟩:Beat_)]:List Beat_)).bind λa_26=>some a_26).bind λv_18=>some (.go v_18)
def oo (l_1:(List Beat)) (player_2:ByteArray) (back_3:Bool):Option ((List Beat_)) :=
  (forL l_1 ([]:List Beat_) (λk x s=>nN player_2 back_3 k x s)).bind λo_15=>thenC o_15 (λs_9=>some s_9) (λ_=>none)
def lU (l_1:(List Beat_)) (n_2:Int) (s_9:Int):Option (Ctl (Int) (Unit)) :=
  (bif (decide (s_9<(l_1.length:Int)))then (idx l_1 s_9).bind λy_17=>some (decide (y_17.f_from<=n_2))else some false).bind λv_14=>bif v_14 then some (.go (w64 (s_9+1)))else some (.brk s_9)
noncomputable def nk (l_1:(List Beat_)) (n_2:Int):Option (Int×Int) :=
  bif ((l_1.length:Int)==0)then some (0,8)else (mF 0 (λs=>lU l_1 n_2 s)).bind λo_12=>thenC o_12 (λs_9=>bif (s_9==0)then (idx l_1 0).bind λy_21=>(idx l_1 0).bind λy_23=>(dx (w64 (y_21.f_to-(w64 (y_23.f_from-n_2))))).bind λr_25=>bif (!r_25)then some (0,11)else some ((w64 (y_21.f_to-(w64 (y_23.f_from-n_2)))),0)else bif (s_9==(l_1.length:Int))then (idx l_1 (w64 (s_9-1))).bind λy_29=>(idx l_1 (w64 (s_9-1))).bind λy_31=>(dx (w64 ((w64 (y_29.f_to+n_2))-y_31.f_from))).bind λr_33=>bif (!r_33)then some (0,11)else some ((w64 ((w64 (y_29.f_to+n_2))-y_31.f_from)),0)else (idx l_1 (w64 (s_9-1))).bind λy_36=>(idx l_1 s_9).bind λy_38=>(bif (decide ((w64 (y_38.f_from-y_36.f_from))>2592000000))then some true else some (decide ((w64 (y_38.f_to-y_36.f_to))>2592000000))).bind λv_42=>bif v_42 then some (0,2)else (JN .i64 (w64 ((w64 (n_2-y_36.f_from))*(w64 (y_38.f_to-y_36.f_to)))) (w64 (y_38.f_from-y_36.f_from))).bind λq_46=>(dx (w64 (y_36.f_to+q_46))).bind λr_48=>bif (!r_48)then some (0,11)else some ((w64 (y_36.f_to+q_46)),0)) (λ_=>none)
noncomputable def oQ (l_1:(List Beat)) (player_2:ByteArray) (n_3:Int) (back_4:Bool):Option (Int×Int) :=
  (jq l_1).bind λr_5=>bif (r_5 != 0)then some (0,r_5)else (fE player_2).bind λr_8=>bif (!r_8)then some (0,5)else (dx n_3).bind λr_11=>bif (!r_11)then some (0,1)else (oo l_1 player_2 back_4).bind λr_14=>(nk r_14 n_3).bind λr_16=>some (r_16.1,r_16.2)
noncomputable def oL (l_1:(List Beat)) (player_2:ByteArray) (clock_3:Int):Option (Int×Int) :=
  (oQ l_1 player_2 clock_3 false).bind λr_4=>some (r_4.1,r_4.2)
noncomputable def iJ (a_1:Alert) (k_4:Nat) (x_6:ByteArray) (s_9:Unit):Option (Ctl (Unit) (Int)) :=
  (fE x_6).bind λr_14=>bif (!r_14)then some (.ret 5)else (bif (decide ((k_4:Int)>0))then (idx a_1.Refs (w64 ((k_4:Int)-1))).bind λy_20=>some (sLe x_6 y_20)else some false).bind λv_17=>bif v_17 then some (.ret 7)else bif (sEq x_6 a_1.Id)then some (.ret 14)else some (.go ())
noncomputable def jT (a_1:Alert):Option (Int) :=
  bif (decide ((a_1.Refs.length:Int)>20))then some 2 else (forL a_1.Refs () (λk x s=>iJ a_1 k x s)).bind λo_12=>thenC o_12 (λs_9=>bif (!((a_1.Kind==1)==((a_1.Refs.length:Int)==0)))then some 3 else some 0) (λr=>some r)
def jg (x0:ByteArray):Option (Bool) :=
  IL x0
def sW (x0:ByteArray) (x1:ByteArray):Option (ByteArray) :=
  JF x0 x1
def strings_Contains (x0:ByteArray) (x1:ByteArray):Option (Bool) :=
  z8 x0 x1
def ny (s_1:ByteArray) (s_7:Int):Option (Ctl (Int) (Bool)) :=
  bif (decide (s_7<(s_1.size:Int)))then ((wR s_1 s_7).bind λb_15=>bif (decide ((b_15.toNat:Int)<32))then some true else (wR s_1 s_7).bind λb_18=>some ((b_18.toNat:Int)==127)).bind λv_13=>bif v_13 then some (.ret false)else some (.go (w64 (s_7+1)))else some (.brk s_7)
noncomputable def ow (s_1:ByteArray):Option (Bool) :=
  (mF 0 (λs=>ny s_1 s)).bind λo_10=>thenC o_10 (λs_7=>((jg s_1).bind λr_23=>bif r_23 then (sW s_1 (⟨#[32]⟩:ByteArray)).bind λr_26=>bif (sEq r_26 s_1)then (strings_Contains s_1 (⟨#[32,32]⟩:ByteArray)).bind λr_29=>some (!r_29)else some false else some false).bind λv_21=>some v_21) (λr=>some r)
def ji (k_29:Nat) (x_31:Rect) (s_34:Unit):Option (Ctl (Unit) (Int)) :=
  (lc x_31).bind λr_40=>bif (r_40 != 0)then some (.ret r_40)else some (.go ())
noncomputable def jk (a_1:Alert):Option (Int) :=
  ((fE a_1.Id).bind λr_5=>bif (!r_5)then some true else (fE a_1.Sender).bind λr_8=>some (!r_8)).bind λv_3=>bif v_3 then some 5 else (aP a_1.Kind 1 3).bind λr_11=>bif r_11 then some 4 else (jT a_1).bind λr_14=>bif (r_14 != 0)then some r_14 else ((dx a_1.At).bind λr_19=>bif (!r_19)then some true else (aP a_1.Until (w64 (a_1.At+1)) (w64 (a_1.At+2592000000))).bind λr_22=>bif r_22 then some true else (aP a_1.Weight 1 9).bind λr_25=>some r_25).bind λv_17=>bif v_17 then some 1 else bif (decide ((a_1.Areas.length:Int)>20))then some 2 else (forL a_1.Areas () (λk x s=>ji k x s)).bind λo_37=>thenC o_37 (λs_34=>bif (!((a_1.Kind==3)==((a_1.Areas.length:Int)==0)))then some 3 else bif (decide ((a_1.Text.size:Int)>500))then some 2 else ((ow a_1.Text).bind λr_47=>bif (!r_47)then some true else bif (sEq a_1.Text (⟨#[]⟩:ByteArray))then some (!(a_1.Kind==3))else some false).bind λv_45=>bif v_45 then some 3 else some 0) (λr=>some r)
def og (a_1:Alert) (b_2:Alert):Option (Int) :=
  (cmp_Compare_int a_1.At b_2.At).bind λr_5=>(strings_Compare a_1.Id b_2.Id).bind λr_7=>(tJ ([r_5,r_7]:List Int)).bind λr_9=>some r_9
noncomputable def gG (l_1:(List Alert)) (k_3:Nat) (x_5:Alert) (s_8:Unit):Option (Ctl (Unit) (Int)) :=
  (jk x_5).bind λr_14=>bif (r_14 != 0)then some (.ret r_14)else (bif (decide ((k_3:Int)>0))then (idx l_1 (w64 ((k_3:Int)-1))).bind λy_20=>(og y_20 x_5).bind λr_22=>some (decide (r_22>=0))else some false).bind λv_17=>bif v_17 then some (.ret 7)else some (.go ())
def iT (k_26:Nat) (x_28:Alert) (s_31:(List (ByteArray×Bool))):Option (Ctl ((List (ByteArray×Bool))) (Int)) :=
  bif ((JL eqS s_31 x_28.Id).getD false)then some (.ret 6)else some (.go (M9 eqS s_31 x_28.Id true))
noncomputable def jb (l_1:(List Alert)):Option (Int) :=
  bif (decide ((l_1.length:Int)>300))then some 2 else (forL l_1 () (λk x s=>gG l_1 k x s)).bind λo_11=>thenC o_11 (λs_8=>(forL l_1 ([]:List (ByteArray×Bool)) (λk x s=>iT k x s)).bind λo_34=>thenC o_34 (λs_31=>some 0) (λr=>some r)) (λr=>some r)
noncomputable def gY (l_1:(List Post)) (k_3:Nat) (x_5:Post) (s_8:Unit):Option (Ctl (Unit) (Int)) :=
  (fE x_5.Player).bind λr_14=>bif (!r_14)then some (.ret 5)else ((aP x_5.X (-100000) 100000).bind λr_19=>bif r_19 then some true else (aP x_5.Y (-100000) 100000).bind λr_22=>some r_22).bind λv_17=>bif v_17 then some (.ret 1)else (bif (decide ((k_3:Int)>0))then (idx l_1 (w64 ((k_3:Int)-1))).bind λy_28=>some (sLe x_5.Player y_28.Player)else some false).bind λv_25=>bif v_25 then some (.ret 7)else some (.go ())
noncomputable def jv (l_1:(List Post)):Option (Int) :=
  bif (decide ((l_1.length:Int)>500))then some 2 else (forL l_1 () (λk x s=>gY l_1 k x s)).bind λo_11=>thenC o_11 (λs_8=>some 0) (λr=>some r)
noncomputable def jR (l_1:(List Alert)) (posts_2:(List Post)):Option (Int) :=
  (jb l_1).bind λr_3=>bif (r_3 != 0)then some r_3 else (jv posts_2).bind λr_6=>some r_6
def o7 (r_1:Rect) (p_2:Post):Option (Bool) :=
  (bif (decide (r_1.X<=p_2.X))then bif (decide (p_2.X<(w64 (r_1.X+r_1.W))))then bif (decide (r_1.Y<=p_2.Y))then some (decide (p_2.Y<(w64 (r_1.Y+r_1.H))))else some false else some false else some false).bind λv_4=>some v_4
def eH (f_2:Rect->Option Bool) (k_3:Nat) (x_5:Rect) (s_8:Unit):Option (Ctl (Unit) (Int)) :=
  (f_2 x_5).bind λr_13=>bif r_13 then some (.ret (k_3:Int))else some (.go ())
def fq (s_1:(List Rect)) (f_2:Rect->Option Bool):Option (Int) :=
  (forL s_1 () (λk x s=>eH f_2 k x s)).bind λo_11=>thenC o_11 (λs_8=>some (-1)) (λr=>some r)
def eD (s_1:(List Rect)) (f_2:Rect->Option Bool):Option (Bool) :=
  (fq s_1 f_2).bind λr_3=>some (decide (r_3>=0))
def oh (a_1:Alert) (p_2:Post):Option (Bool) :=
  (eD a_1.Areas (λx0=>o7 x0 p_2)).bind λr_5=>some r_5
noncomputable def lQ (a_1:Alert) (p_2:Post):Option (Bool×Int) :=
  (jR ([a_1]:List Alert) ([p_2]:List Post)).bind λr_5=>bif (r_5 != 0)then some (false,r_5)else (oh a_1 p_2).bind λr_8=>some (r_8,0)
def tN (k_2:Nat) (x_4:Int) (s_7:Unit):Option (Ctl (Unit) (Int)) :=
  bif (x_4 != 0)then some (.ret x_4)else some (.go ())
def ww (l_1:(List Int)):Option (Int) :=
  (forL l_1 () (λk x s=>tN k x s)).bind λo_10=>thenC o_10 (λs_7=>some 0) (λr=>some r)
noncomputable def mf  : Option (Bool) :=
  (oH ([(⟨0,0,2,2⟩:Rect),(⟨1,1,2,2⟩:Rect)]:List Rect)).bind λr_1=>(kJ (⟨(⟨#[97]⟩:ByteArray),(⟨#[98]⟩:ByteArray),0,0,0,1,127,([]:List Int),1,2,0,([]:List ByteArray),false⟩:Entry) 0 (⟨0,86400000⟩:Window)).bind λr_3=>(oD (⟨(⟨#[97]⟩:ByteArray),(⟨#[]⟩:ByteArray),(⟨0,100⟩:Window),([]:List ByteArray),10,0,0⟩:Campaign) 50).bind λr_5=>(oL ([(⟨(⟨#[112]⟩:ByteArray),0,100⟩:Beat),(⟨(⟨#[112]⟩:ByteArray),1000,1300⟩:Beat)]:List Beat) (⟨#[112]⟩:ByteArray) 700).bind λr_7=>(lQ (⟨(⟨#[97]⟩:ByteArray),(⟨#[115]⟩:ByteArray),1,([]:List ByteArray),0,5,1,([(⟨0,0,2,2⟩:Rect)]:List Rect),(⟨#[120]⟩:ByteArray)⟩:Alert) (⟨(⟨#[112]⟩:ByteArray),1,1⟩:Post)).bind λr_10=>((ww ([r_1.2,r_3.2,r_5.2,r_7.2,r_10.2]:List Int)).bind λr_14=>bif (r_14==0)then bif (r_1.1==7)then bif ((r_3.1.length:Int)==1)then bif (r_5.1==5)then bif (r_7.1==500)then some r_10.1 else some false else some false else some false else some false else some false).bind λv_12=>some v_12
noncomputable def jf (l_1:(List Int)):Option (Bool) :=
  (eG (⟨l_1,0⟩:Stream)).bind λr_3=>(fF r_3.1).bind λr_6=>(ig r_6.1).bind λr_8=>(bif (r_6.2 != 0)then some true else bif (r_8.2.2 != 0)then some true else (aS r_3.1 r_8.1).bind λr_14=>some (!r_14)).bind λv_10=>bif v_10 then some false else (ib r_3.2).bind λr_17=>(ig r_17.1).bind λr_20=>bif (r_20.2.2==0)then (fF r_20.1).bind λr_23=>(bif (r_23.2==0)then bif (sEq r_23.1 r_17.1)then (mf).bind λr_29=>some r_29 else some false else some false).bind λv_25=>some v_25 else (mf).bind λr_31=>some r_31
end Go.Proofs.YtigdobmllbakiaaGreatDoor.Law

