/-
  The functions of the program, as plain functions over data (written by a program of ours).
-/
import Derived.Test.YtkjlhdminmpmkabGreatDoorEng5
open Go Go.Eng
namespace Go.Proofs.YtkjlhdminmpmkabGreatDoor.Law
set_option maxRecDepth 100000
set_option linter.unusedVariables false
set_option maxHeartbeats 1000000
structure Stream where
  L:(List Int)
  f_at:Int
def Stream.enc (s:Stream):List D:=[dl eI s.L,.int .i64 s.f_at]

structure Rect where
  X:Int
  Y:Int
  W:Int
  H:Int
def Rect.enc (s:Rect):List D:=[.int .i64 s.X,.int .i64 s.Y,.int .i64 s.W,.int .i64 s.H]
abbrev Rect.v (s:Rect):List V:=[(vI s.X),(vI s.Y),(vI s.W),(vI s.H)]

structure Alert where
  Id:ByteArray
  Sender:ByteArray
  Kind:Int
  Refs:(List ByteArray)
  At:Int
  Until:Int
  Weight:Int
  Areas:(List Rect)
  Text:ByteArray
def Alert.enc (s:Alert):List D:=[.str s.Id,.str s.Sender,.int .i64 s.Kind,dl eS s.Refs,.int .i64 s.At,.int .i64 s.Until,.int .i64 s.Weight,dl Rect.enc s.Areas,.str s.Text]
abbrev Alert.v (s:Alert):List V:=[(vS s.Id),(vS s.Sender),(vI s.Kind),(vL eS s.Refs),(vI s.At),(vI s.Until),(vI s.Weight),(vL Rect.enc s.Areas),(vS s.Text)]

structure Run where
  f_from:Int
  f_to:Int
def Run.enc (s:Run):List D:=[.int .i64 s.f_from,.int .i64 s.f_to]

structure Entry where
  Key:ByteArray
  Item:ByteArray
  Version:Int
  First:Int
  Last:Int
  Every:Int
  Days:Int
  Except:(List Int)
  From:Int
  To:Int
  Prio:Int
  Tags:(List ByteArray)
  Gone:Bool
def Entry.enc (s:Entry):List D:=[.str s.Key,.str s.Item,.int .i64 s.Version,.int .i64 s.First,.int .i64 s.Last,.int .i64 s.Every,.int .i64 s.Days,dl eI s.Except,.int .i64 s.From,.int .i64 s.To,.int .i64 s.Prio,dl eS s.Tags,.bool s.Gone]
abbrev Entry.v (s:Entry):List V:=[(vS s.Key),(vS s.Item),(vI s.Version),(vI s.First),(vI s.Last),(vI s.Every),(vI s.Days),(vL eI s.Except),(vI s.From),(vI s.To),(vI s.Prio),(vL eS s.Tags),(vB s.Gone)]

structure Window where
  From:Int
  To:Int
def Window.enc (s:Window):List D:=[.int .i64 s.From,.int .i64 s.To]

structure Campaign where
  Key:ByteArray
  Class:ByteArray
  Time:Window
  Tags:(List ByteArray)
  Goal:Int
  Most:Int
  Cents:Int
def Campaign.enc (s:Campaign):List D:=[.str s.Key,.str s.Class,.int .i64 s.Time.From,.int .i64 s.Time.To,dl eS s.Tags,.int .i64 s.Goal,.int .i64 s.Most,.int .i64 s.Cents]
abbrev Campaign.v (s:Campaign):List V:=[(vS s.Key),(vS s.Class),(vI s.Time.From),(vI s.Time.To),(vL eS s.Tags),(vI s.Goal),(vI s.Most),(vI s.Cents)]

structure Beat where
  Player:ByteArray
  At:Int
  Clock:Int
def Beat.enc (s:Beat):List D:=[.str s.Player,.int .i64 s.At,.int .i64 s.Clock]
abbrev Beat.v (s:Beat):List V:=[(vS s.Player),(vI s.At),(vI s.Clock)]

structure Beat_ where
  f_from:Int
  f_to:Int
def Beat_.enc (s:Beat_):List D:=[.int .i64 s.f_from,.int .i64 s.f_to]

structure Post where
  Player:ByteArray
  X:Int
  Y:Int
def Post.enc (s:Post):List D:=[.str s.Player,.int .i64 s.X,.int .i64 s.Y]
abbrev Post.v (s:Post):List V:=[(vS s.Player),(vI s.X),(vI s.Y)]

def sJ (x_1:Int) (n_2:Int):Option (Int) :=
  bif (decide (n_2<1))then some 0 else (Jj .i64 x_1 n_2).bind λq_4=>(bif (decide (q_4<0))then some (w64 (q_4+n_2))else some q_4).bind λv_6=>some v_6
def iB (s_1:Stream) (n_2:Int):Option (Int×Stream) :=
  bif ((s_1.L.length:Int)==0)then (sJ (w64 ((w64 (s_1.f_at+1))*7919)) n_2).bind λr_4=>some (r_4,(⟨s_1.L,(w64 (s_1.f_at+1))⟩:Stream))else (Jj .i64 (w64 ((w64 (s_1.f_at+1))-1)) (s_1.L.length:Int)).bind λq_6=>(Lv .i64 (w64 ((w64 (s_1.f_at+1))-1)) (s_1.L.length:Int)).bind λq_8=>(idx s_1.L q_6).bind λy_10=>(sJ y_10 1073741824).bind λr_12=>(sJ (w64 (r_12+(w64 (q_8*(w64 (7919+q_6)))))) n_2).bind λr_14=>some (r_14,(⟨s_1.L,(w64 (s_1.f_at+1))⟩:Stream))
def dI (s_1:Stream) (low_2:Int) (high_3:Int):Option (Int×Stream) :=
  bif (decide (high_3<low_2))then some (low_2,s_1)else (iB s_1 (w64 ((w64 (high_3-low_2))+1))).bind λr_5=>some ((w64 (low_2+r_5.1)),r_5.2)
def iU (s_1:Stream) (l_2:(List ByteArray)):Option (ByteArray×Stream) :=
  (iB s_1 (l_2.length:Int)).bind λr_3=>(idx l_2 r_3.1).bind λy_6=>some (y_6,r_3.2)
def jv (s_1:Stream) (l_2:(List Int)):Option (Int×Stream) :=
  (iB s_1 (l_2.length:Int)).bind λr_3=>(idx l_2 r_3.1).bind λy_6=>some (y_6,r_3.2)
def mG (s_1:Stream) (n_2:Int):Option (Bool×Stream) :=
  (iB s_1 n_2).bind λr_3=>some ((r_3.1==0),r_3.2)
def jf (s_1:Stream):Option (Rect×Stream) :=
  (dI s_1 (-2) 8).bind λr_3=>(dI r_3.2 (-2) 8).bind λr_6=>(dI r_6.2 1 5).bind λr_9=>(dI r_9.2 1 5).bind λr_12=>some ((⟨r_3.1,r_6.1,r_9.1,r_12.1⟩:Rect),r_12.2)
def lY (a_1:Alert) (b_2:Alert):Option (Int) :=
  bif (a_1.At != b_2.At)then some (w64 (a_1.At-b_2.At))else bif (sLt a_1.Id b_2.Id)then some (-1)else some 1
def rz (x_1:Int):Option (Int) :=
  (bif (decide (x_1>=4294967296))then (Oj .u64 x_1 32).bind λq_5=>some (q_5,32)else some (x_1,0)).bind λv_2=>(bif (decide (v_2.1>=65536))then (Oj .u64 v_2.1 16).bind λq_10=>some (q_10,(w64 (v_2.2+16)))else some (v_2.1,v_2.2)).bind λv_7=>(bif (decide (v_7.1>=256))then (Oj .u64 v_7.1 8).bind λq_15=>some (q_15,(w64 (v_7.2+8)))else some (v_7.1,v_7.2)).bind λv_12=>(zl (⟨#[0,1,2,2,3,3,3,3,4,4,4,4,4,4,4,4,5,5,5,5,5,5,5,5,5,5,5,5,5,5,5,5,6,6,6,6,6,6,6,6,6,6,6,6,6,6,6,6,6,6,6,6,6,6,6,6,6,6,6,6,6,6,6,6,7,7,7,7,7,7,7,7,7,7,7,7,7,7,7,7,7,7,7,7,7,7,7,7,7,7,7,7,7,7,7,7,7,7,7,7,7,7,7,7,7,7,7,7,7,7,7,7,7,7,7,7,7,7,7,7,7,7,7,7,7,7,7,7,8,8,8,8,8,8,8,8,8,8,8,8,8,8,8,8,8,8,8,8,8,8,8,8,8,8,8,8,8,8,8,8,8,8,8,8,8,8,8,8,8,8,8,8,8,8,8,8,8,8,8,8,8,8,8,8,8,8,8,8,8,8,8,8,8,8,8,8,8,8,8,8,8,8,8,8,8,8,8,8,8,8,8,8,8,8,8,8,8,8,8,8,8,8,8,8,8,8,8,8,8,8,8,8,8,8,8,8,8,8,8,8,8,8,8,8,8,8,8,8,8,8,8,8,8,8,8,8]⟩:ByteArray) (IntKind.u8.wrap v_12.1)).bind λb_17=>some (w64 (v_12.2+(w64 (b_17.toNat:Int))))
def gJ (x_1:Int):Option (Int) :=
  (rz x_1).bind λr_2=>some r_2
def eF (a_2:Int) (s_21:(List Alert)×Int):Option (Ctl ((List Alert)×Int) (Unit)) :=
  (bif (decide (s_21.2>a_2))then (inR s_21.2 s_21.1).bind λ_=>(s_21.1[(0+(s_21.2).toNat)]?).bind λe_30=>(inR (w64 (s_21.2-1)) s_21.1).bind λ_=>(s_21.1[(0+((w64 (s_21.2-1))).toNat)]?).bind λe_33=>(lY e_30 e_33).bind λr_35=>some (decide (r_35<0))else some false).bind λv_26=>bif v_26 then (inR (w64 (s_21.2-1)) s_21.1).bind λ_=>(s_21.1[(0+((w64 (s_21.2-1))).toNat)]?).bind λe_39=>(inR s_21.2 s_21.1).bind λ_=>(s_21.1[(0+(s_21.2).toNat)]?).bind λe_42=>(inR s_21.2 s_21.1).bind λ_=>(s_21.1[(0+(s_21.2).toNat)]?).bind λe_45=>(inR (w64 (s_21.2-1)) (s_21.1.set (0+(s_21.2).toNat) e_39)).bind λ_=>((s_21.1.set (0+(s_21.2).toNat) e_39)[(0+((w64 (s_21.2-1))).toNat)]?).bind λe_48=>some (.go (((s_21.1.set (0+(s_21.2).toNat) e_39).set (0+((w64 (s_21.2-1))).toNat) e_42),(w64 (s_21.2-1))))else some (.brk (s_21.1,s_21.2))
noncomputable def eB (b_3:Int) (a_2:Int) (s_10:(List Alert)×Int):Option (Ctl ((List Alert)×Int) (Unit)) :=
  bif (decide (s_10.2<b_3))then (iJ (s_10.1,s_10.2) (λs=>eF a_2 s)).bind λo_24=>thenC o_24 (λs_21=>some (.go (s_21.1,(w64 (s_10.2+1))))) (λ_=>none)else some (.brk (s_10.1,s_10.2))
noncomputable def fq (data_1:(List Alert)) (a_2:Int) (b_3:Int):Option ((List Alert)) :=
  (iJ (data_1,(w64 (a_2+1))) (λs=>eB b_3 a_2 s)).bind λo_13=>thenC o_13 (λs_10=>some s_10.1) (λ_=>none)
noncomputable def fM (b_3:Int) (a_2:Int) (data_1:(List Alert)) (limit_4:Int) (s_11:Unit):Option (Ctl (Unit) ((List Alert))) :=
  bif (decide ((w64 (b_3-a_2))<=12))then (fq data_1 a_2 b_3).bind λr_17=>(iR r_17 data_1).bind λ_=>some (.ret r_17)else bif (limit_4==0)then none else none
noncomputable def gY (data_1:(List Alert)) (a_2:Int) (b_3:Int) (limit_4:Int):Option ((List Alert)) :=
  (iJ () (λs=>fM b_3 a_2 data_1 limit_4 s)).bind λo_14=>thenC o_14 (λs_11=>some data_1) (λr=>some r)
noncomputable def cB (x_1:(List Alert)):Option ((List Alert)) :=
  (gJ (IntKind.u64.wrap (x_1.length:Int))).bind λr_3=>(gY x_1 0 (x_1.length:Int) r_3).bind λr_5=>(iR r_5 x_1).bind λ_=>some r_5
def dP (x_10:ByteArray) (k_45:Nat) (x_47:ByteArray) (s_50:(List ByteArray)×(List Int)×Int):Option (Ctl ((List ByteArray)×(List Int)×Int) (Unit)) :=
  (bif (sNe x_47 x_10)then (mG (⟨s_50.2.1,s_50.2.2⟩:Stream) 3).bind λr_61=>some (r_61.1,r_61.2.L,r_61.2.f_at)else some (false,s_50.2.1,s_50.2.2)).bind λv_58=>(bif v_58.1 then (jc s_50.1 ([x_47]:List ByteArray)).bind λa_68=>some a_68 else some s_50.1).bind λv_64=>some (.go (v_64,v_58.2.1,v_58.2.2))
def dN (k_85:Nat) (x_87:Nat) (s_90:(List Rect)×(List Int)×Int):Option (Ctl ((List Rect)×(List Int)×Int) (Unit)) :=
  (jf (⟨s_90.2.1,s_90.2.2⟩:Stream)).bind λr_97=>(jc s_90.1 ([r_97.1]:List Rect)).bind λa_100=>some (.go (a_100,r_97.2.L,r_97.2.f_at))
def fe (k_8:Nat) (x_10:ByteArray) (s_13:(List Alert)×(List Int)×Int):Option (Ctl ((List Alert)×(List Int)×Int) (Unit)) :=
  (iU (⟨s_13.2.1,s_13.2.2⟩:Stream) ([(⟨#[119,120]⟩:ByteArray),(⟨#[119,120]⟩:ByteArray),(⟨#[102,105,114,101]⟩:ByteArray)]:List ByteArray)).bind λr_21=>(jv r_21.2 ([1,1,2,2,3]:List Int)).bind λr_24=>(dI r_24.2 0 6).bind λr_27=>(jv r_27.2 ([1,5,5,9]:List Int)).bind λr_30=>(iU r_30.2 ([(⟨#[102,108,111,111,100]⟩:ByteArray),(⟨#[102,105,114,101,32,105,110,32,116,104,101,32,109,97,108,108]⟩:ByteArray)]:List ByteArray)).bind λr_33=>(jv r_33.2 ([1,10,20,50]:List Int)).bind λr_37=>(bif (r_24.1 != 1)then (forL ([(⟨#[97,97]⟩:ByteArray),(⟨#[97,98]⟩:ByteArray),(⟨#[97,99]⟩:ByteArray),(⟨#[97,100]⟩:ByteArray),(⟨#[122,122]⟩:ByteArray)]:List ByteArray) (([]:List ByteArray),r_37.2.L,r_37.2.f_at) (λk x s=>dP x_10 k x s)).bind λo_56=>thenC o_56 (λs_50=>bif ((s_50.1.length:Int)==0)then some (s_50.2.1,s_50.2.2,([(⟨#[122,121]⟩:ByteArray)]:List ByteArray))else some (s_50.2.1,s_50.2.2,s_50.1)) (λ_=>none)else some (r_37.2.L,r_37.2.f_at,([]:List ByteArray))).bind λv_42=>(bif (r_24.1==3)then (iU (⟨v_42.1,v_42.2.1⟩:Stream) ([(⟨#[]⟩:ByteArray),(⟨#[111,118,101,114]⟩:ByteArray)]:List ByteArray)).bind λr_79=>some (([]:List Rect),r_79.2.L,r_79.2.f_at,r_79.1)else (dI (⟨v_42.1,v_42.2.1⟩:Stream) 1 2).bind λr_82=>(forL (List.range (r_82.1).toNat) (([]:List Rect),r_82.2.L,r_82.2.f_at) (λk x s=>dN k x s)).bind λo_95=>thenC o_95 (λs_90=>some (s_90.1,s_90.2.1,s_90.2.2,r_33.1)) (λ_=>none)).bind λv_75=>(jc s_13.1 ([(⟨x_10,r_21.1,r_24.1,v_42.2.2,(w64 (r_27.1*5)),(w64 ((w64 (r_27.1*5))+r_37.1)),r_30.1,v_75.1,v_75.2.2.2⟩:Alert)]:List Alert)).bind λa_103=>some (.go (a_103,v_75.2.1,v_75.2.2.1))
noncomputable def gG (s_1:Stream) (most_2:Int):Option ((List Alert)×Stream) :=
  (dI s_1 0 most_2).bind λr_3=>(IJ ([(⟨#[97,97]⟩:ByteArray),(⟨#[97,98]⟩:ByteArray),(⟨#[97,99]⟩:ByteArray),(⟨#[97,100]⟩:ByteArray),(⟨#[97,101]⟩:ByteArray),(⟨#[97,102]⟩:ByteArray)]:List ByteArray) 0 r_3.1).bind λy_6=>(forL y_6 (([]:List Alert),r_3.2.L,r_3.2.f_at) (λk x s=>fe k x s)).bind λo_19=>thenC o_19 (λs_13=>(cB s_13.1).bind λr_106=>(iR r_106 s_13.1).bind λ_=>some (r_106,(⟨s_13.2.1,s_13.2.2⟩:Stream))) (λ_=>none)
def ko (s_1:ByteArray) (s_7:Int):Option (Ctl (Int) (Bool)) :=
  bif (decide (s_7<(s_1.size:Int)))then (zl s_1 s_7).bind λb_13=>(bif (decide ((b_13.toNat:Int)>=97))then bif (decide ((b_13.toNat:Int)<=122))then some false else bif (decide (s_7>0))then bif (decide ((b_13.toNat:Int)>=48))then bif (decide ((b_13.toNat:Int)<=57))then some false else bif ((b_13.toNat:Int)==45)then some false else some (!((b_13.toNat:Int)==95))else bif ((b_13.toNat:Int)==45)then some false else some (!((b_13.toNat:Int)==95))else some true else bif (decide (s_7>0))then bif (decide ((b_13.toNat:Int)>=48))then bif (decide ((b_13.toNat:Int)<=57))then some false else bif ((b_13.toNat:Int)==45)then some false else some (!((b_13.toNat:Int)==95))else bif ((b_13.toNat:Int)==45)then some false else some (!((b_13.toNat:Int)==95))else some true).bind λv_15=>bif v_15 then some (.ret false)else some (.go (w64 (s_7+1)))else some (.brk s_7)
noncomputable def kit_IsKey (s_1:ByteArray):Option (Bool) :=
  (iJ 0 (λs=>ko s_1 s)).bind λo_10=>thenC o_10 (λs_7=>(bif (sNe s_1 (⟨#[]⟩:ByteArray))then some (decide ((s_1.size:Int)<=40))else some false).bind λv_30=>some v_30) (λr=>some r)
def aQ (n_1:Int) (low_2:Int) (high_3:Int):Option (Bool) :=
  (bif (decide (n_1<low_2))then some true else some (decide (n_1>high_3))).bind λv_4=>some v_4
noncomputable def dQ (a_1:Alert) (k_4:Nat) (x_6:ByteArray) (s_9:Unit):Option (Ctl (Unit) (Int)) :=
  (kit_IsKey x_6).bind λr_14=>bif (!r_14)then some (.ret 5)else (bif (decide ((k_4:Int)>0))then (idx a_1.Refs (w64 ((k_4:Int)-1))).bind λy_20=>some (sLe x_6 y_20)else some false).bind λv_17=>bif v_17 then some (.ret 7)else bif (sEq x_6 a_1.Id)then some (.ret 14)else some (.go ())
noncomputable def gN (a_1:Alert):Option (Int) :=
  bif (decide ((a_1.Refs.length:Int)>20))then some 2 else (forL a_1.Refs () (λk x s=>dQ a_1 k x s)).bind λo_12=>thenC o_12 (λs_9=>bif (!((a_1.Kind==1)==((a_1.Refs.length:Int)==0)))then some 3 else some 0) (λr=>some r)
def di (n_1:Int):Option (Bool) :=
  (bif (decide (n_1>=0))then some (decide (n_1<345686400000))else some false).bind λv_2=>some v_2
def iK (r_1:Rect):Option (Int) :=
  ((aQ r_1.X (-100000) 100000).bind λr_5=>bif r_5 then some true else (aQ r_1.Y (-100000) 100000).bind λr_8=>some r_8).bind λv_3=>bif v_3 then some 1 else ((aQ r_1.W 1 (w64 (100000-r_1.X))).bind λr_13=>bif r_13 then some true else (aQ r_1.H 1 (w64 (100000-r_1.Y))).bind λr_16=>some r_16).bind λv_11=>bif v_11 then some 1 else some 0
def kE (x0:ByteArray):Option (Bool) :=
  KV x0
def iO (c_2:Int) (s_8:ByteArray):Option (Ctl (ByteArray) (Unit)) :=
  (bif (decide ((s_8.size:Int)>0))then (zl s_8 (w64 ((s_8.size:Int)-1))).bind λb_16=>some ((b_16.toNat:Int)==c_2)else some false).bind λv_13=>bif v_13 then (JR s_8 0 (w64 ((s_8.size:Int)-1))).bind λy_19=>some (.go y_19)else some (.brk s_8)
noncomputable def strings_trimRightByte (s_1:ByteArray) (c_2:Int):Option (ByteArray) :=
  (iJ s_1 (λs=>iO c_2 s)).bind λo_11=>thenC o_11 (λs_8=>some s_8) (λ_=>none)
def iZ (c_2:Int) (s_8:ByteArray):Option (Ctl (ByteArray) (Unit)) :=
  (bif (decide ((s_8.size:Int)>0))then (zl s_8 0).bind λb_16=>some ((b_16.toNat:Int)==c_2)else some false).bind λv_13=>bif v_13 then (JR s_8 1 s_8.size).bind λy_19=>some (.go y_19)else some (.brk s_8)
noncomputable def strings_trimLeftByte (s_1:ByteArray) (c_2:Int):Option (ByteArray) :=
  (iJ s_1 (λs=>iZ c_2 s)).bind λo_11=>thenC o_11 (λs_8=>some s_8) (λ_=>none)
noncomputable def pU (s_1:ByteArray) (cutset_2:ByteArray):Option (ByteArray) :=
  (bif (sEq s_1 (⟨#[]⟩:ByteArray))then some true else some (sEq cutset_2 (⟨#[]⟩:ByteArray))).bind λv_3=>bif v_3 then some s_1 else (bif ((cutset_2.size:Int)==1)then (zl cutset_2 0).bind λb_10=>some (decide ((b_10.toNat:Int)<128))else some false).bind λv_7=>bif v_7 then (zl cutset_2 0).bind λb_13=>(strings_trimRightByte s_1 (b_13.toNat:Int)).bind λr_15=>(zl cutset_2 0).bind λb_17=>(strings_trimLeftByte r_15 (b_17.toNat:Int)).bind λr_19=>some r_19 else none
def strings_Contains (x0:ByteArray) (x1:ByteArray):Option (Bool) :=
  CB x0 x1
def pz (s_1:ByteArray) (s_7:Int):Option (Ctl (Int) (Bool)) :=
  bif (decide (s_7<(s_1.size:Int)))then ((zl s_1 s_7).bind λb_15=>bif (decide ((b_15.toNat:Int)<32))then some true else (zl s_1 s_7).bind λb_18=>some ((b_18.toNat:Int)==127)).bind λv_13=>bif v_13 then some (.ret false)else some (.go (w64 (s_7+1)))else some (.brk s_7)
noncomputable def lw (s_1:ByteArray):Option (Bool) :=
  (iJ 0 (λs=>pz s_1 s)).bind λo_10=>thenC o_10 (λs_7=>((kE s_1).bind λr_23=>bif r_23 then (pU s_1 (⟨#[32]⟩:ByteArray)).bind λr_26=>bif (sEq r_26 s_1)then (strings_Contains s_1 (⟨#[32,32]⟩:ByteArray)).bind λr_29=>some (!r_29)else some false else some false).bind λv_21=>some v_21) (λr=>some r)
def dU (k_29:Nat) (x_31:Rect) (s_34:Unit):Option (Ctl (Unit) (Int)) :=
  (iK x_31).bind λr_40=>bif (r_40 != 0)then some (.ret r_40)else some (.go ())
noncomputable def fO (a_1:Alert):Option (Int) :=
  ((kit_IsKey a_1.Id).bind λr_5=>bif (!r_5)then some true else (kit_IsKey a_1.Sender).bind λr_8=>some (!r_8)).bind λv_3=>bif v_3 then some 5 else (aQ a_1.Kind 1 3).bind λr_11=>bif r_11 then some 4 else (gN a_1).bind λr_14=>bif (r_14 != 0)then some r_14 else ((di a_1.At).bind λr_19=>bif (!r_19)then some true else (aQ a_1.Until (w64 (a_1.At+1)) (w64 (a_1.At+2592000000))).bind λr_22=>bif r_22 then some true else (aQ a_1.Weight 1 9).bind λr_25=>some r_25).bind λv_17=>bif v_17 then some 1 else bif (decide ((a_1.Areas.length:Int)>20))then some 2 else (forL a_1.Areas () (λk x s=>dU k x s)).bind λo_37=>thenC o_37 (λs_34=>bif (!((a_1.Kind==3)==((a_1.Areas.length:Int)==0)))then some 3 else bif (decide ((a_1.Text.size:Int)>500))then some 2 else ((lw a_1.Text).bind λr_47=>bif (!r_47)then some true else bif (sEq a_1.Text (⟨#[]⟩:ByteArray))then some (!(a_1.Kind==3))else some false).bind λv_45=>bif v_45 then some 3 else some 0) (λr=>some r)
def cmp_isNaN_int (x_1:Int):Option (Bool) :=
  some (x_1 != x_1)
def cmp_Compare_int (x_1:Int) (y_2:Int):Option (Int) :=
  (cmp_isNaN_int x_1).bind λr_3=>(cmp_isNaN_int y_2).bind λr_5=>bif r_3 then bif r_5 then some 0 else some (-1)else bif r_5 then some 1 else bif (decide (x_1<y_2))then some (-1)else bif (decide (x_1>y_2))then some 1 else some 0
def iL (a_1:ByteArray) (b_2:ByteArray):Option (Int) :=
  some (Em a_1 b_2)
def strings_Compare (a_1:ByteArray) (b_2:ByteArray):Option (Int) :=
  (iL a_1 b_2).bind λr_3=>some r_3
def qy (k_2:Nat) (x_4:Int) (s_7:Unit):Option (Ctl (Unit) (Int)) :=
  bif (x_4 != 0)then some (.ret x_4)else some (.go ())
def qd (vals_1:(List Int)):Option (Int) :=
  (forL vals_1 () (λk x s=>qy k x s)).bind λo_10=>thenC o_10 (λs_7=>some 0) (λr=>some r)
def gL (a_1:Alert) (b_2:Alert):Option (Int) :=
  (cmp_Compare_int a_1.At b_2.At).bind λr_5=>(strings_Compare a_1.Id b_2.Id).bind λr_7=>(qd ([r_5,r_7]:List Int)).bind λr_9=>some r_9
noncomputable def fG (l_1:(List Alert)) (k_3:Nat) (x_5:Alert) (s_8:Unit):Option (Ctl (Unit) (Int)) :=
  (fO x_5).bind λr_14=>bif (r_14 != 0)then some (.ret r_14)else (bif (decide ((k_3:Int)>0))then (idx l_1 (w64 ((k_3:Int)-1))).bind λy_20=>(gL y_20 x_5).bind λr_22=>some (decide (r_22>=0))else some false).bind λv_17=>bif v_17 then some (.ret 7)else some (.go ())
def fE (k_26:Nat) (x_28:Alert) (s_31:(List (ByteArray×Bool))):Option (Ctl ((List (ByteArray×Bool))) (Int)) :=
  bif ((kw eqS s_31 x_28.Id).getD false)then some (.ret 6)else some (.go (pR eqS s_31 x_28.Id true))
noncomputable def bW (l_1:(List Alert)):Option (Int) :=
  bif (decide ((l_1.length:Int)>300))then some 2 else (forL l_1 () (λk x s=>fG l_1 k x s)).bind λo_11=>thenC o_11 (λs_8=>(forL l_1 ([]:List (ByteArray×Bool)) (λk x s=>fE k x s)).bind λo_34=>thenC o_34 (λs_31=>some 0) (λr=>some r)) (λr=>some r)
def dG (n_1:Int):Option Bool :=
  bif (decide (n_1<0))then none else bif (decide ((w64 (n_1-(w64 (0-0))))>0))then (zN (w64 (n_1-(w64 (0-0)))) 128).bind λ_=>some true else some false
def bv (k_2:Nat) (x_4:(List Alert)) (s_7:Int):Option (Ctl (Int) (Unit)) :=
  (bif (decide ((w64 (s_7+(x_4.length:Int)))<0))then none else some ()).bind λv_12=>some (.go (w64 (s_7+(x_4.length:Int))))
def bu (k_18:Nat) (x_20:(List Alert)) (s_23:(List Alert)):Option (Ctl ((List Alert)) (Unit)) :=
  (jc s_23 x_20).bind λa_30=>some (.go a_30)
def dF (slices_1:(List (List Alert))):Option ((List Alert)) :=
  (forL slices_1 0 (λk x s=>bv k x s)).bind λo_10=>thenC o_10 (λs_7=>(dG s_7).bind λb_15=>(forL slices_1 ([]:List Alert) (λk x s=>bu k x s)).bind λo_28=>thenC o_28 (λs_23=>some s_23) (λ_=>none)) (λ_=>none)
def iw (s_1:(List ByteArray)):Option ((List ByteArray)) :=
  (jc [] s_1).bind λa_4=>some a_4
def fQ (s_1:(List Rect)):Option ((List Rect)) :=
  (jc [] s_1).bind λa_4=>some a_4
def qK (a_1:Alert):Option (Alert) :=
  (iw a_1.Refs).bind λr_4=>(fQ a_1.Areas).bind λr_6=>some (⟨a_1.Id,a_1.Sender,a_1.Kind,r_4,a_1.At,a_1.Until,a_1.Weight,r_6,a_1.Text⟩:Alert)
def bN (s2_2:(List ByteArray)) (k_4:Nat) (x_6:ByteArray) (s_9:Unit):Option (Ctl (Unit) (Bool)) :=
  (idx s2_2 (k_4:Int)).bind λy_14=>bif (sNe x_6 y_14)then some (.ret false)else some (.go ())
def cK (s1_1:(List ByteArray)) (s2_2:(List ByteArray)):Option (Bool) :=
  bif ((s1_1.length:Int) != (s2_2.length:Int))then some false else (forL s1_1 () (λk x s=>bN s2_2 k x s)).bind λo_12=>thenC o_12 (λs_9=>some true) (λr=>some r)
def bZ (s2_2:(List Rect)) (k_4:Nat) (x_6:Rect) (s_9:Unit):Option (Ctl (Unit) (Bool)) :=
  (idx s2_2 (k_4:Int)).bind λy_14=>bif (!((x_6.X==y_14.X)&&((x_6.Y==y_14.Y)&&((x_6.W==y_14.W)&&((x_6.H==y_14.H)&&true)))))then some (.ret false)else some (.go ())
def dX (s1_1:(List Rect)) (s2_2:(List Rect)):Option (Bool) :=
  bif ((s1_1.length:Int) != (s2_2.length:Int))then some false else (forL s1_1 () (λk x s=>bZ s2_2 k x s)).bind λo_12=>thenC o_12 (λs_9=>some true) (λr=>some r)
def sP (a_1:Alert) (b_2:Alert):Option (Bool) :=
  (bif (sEq a_1.Id b_2.Id)then bif (sEq a_1.Sender b_2.Sender)then bif (a_1.Kind==b_2.Kind)then (cK a_1.Refs b_2.Refs).bind λr_10=>bif r_10 then bif (a_1.At==b_2.At)then bif (a_1.Until==b_2.Until)then bif (a_1.Weight==b_2.Weight)then (dX a_1.Areas b_2.Areas).bind λr_16=>bif r_16 then some (sEq a_1.Text b_2.Text)else some false else some false else some false else some false else some false else some false else some false else some false).bind λv_5=>some v_5
def eD (a_2:Int) (s_21:(List Alert)×Int):Option (Ctl ((List Alert)×Int) (Unit)) :=
  (bif (decide (s_21.2>a_2))then (inR s_21.2 s_21.1).bind λ_=>(s_21.1[(0+(s_21.2).toNat)]?).bind λe_30=>(inR (w64 (s_21.2-1)) s_21.1).bind λ_=>(s_21.1[(0+((w64 (s_21.2-1))).toNat)]?).bind λe_33=>(gL e_30 e_33).bind λr_35=>some (decide (r_35<0))else some false).bind λv_26=>bif v_26 then (inR (w64 (s_21.2-1)) s_21.1).bind λ_=>(s_21.1[(0+((w64 (s_21.2-1))).toNat)]?).bind λe_39=>(inR s_21.2 s_21.1).bind λ_=>(s_21.1[(0+(s_21.2).toNat)]?).bind λe_42=>(inR s_21.2 s_21.1).bind λ_=>(s_21.1[(0+(s_21.2).toNat)]?).bind λe_45=>(inR (w64 (s_21.2-1)) (s_21.1.set (0+(s_21.2).toNat) e_39)).bind λ_=>((s_21.1.set (0+(s_21.2).toNat) e_39)[(0+((w64 (s_21.2-1))).toNat)]?).bind λe_48=>some (.go (((s_21.1.set (0+(s_21.2).toNat) e_39).set (0+((w64 (s_21.2-1))).toNat) e_42),(w64 (s_21.2-1))))else some (.brk (s_21.1,s_21.2))
noncomputable def d9 (b_3:Int) (a_2:Int) (s_10:(List Alert)×Int):Option (Ctl ((List Alert)×Int) (Unit)) :=
  bif (decide (s_10.2<b_3))then (iJ (s_10.1,s_10.2) (λs=>eD a_2 s)).bind λo_24=>thenC o_24 (λs_21=>some (.go (s_21.1,(w64 (s_10.2+1))))) (λ_=>none)else some (.brk (s_10.1,s_10.2))
noncomputable def fo (data_1:(List Alert)) (a_2:Int) (b_3:Int):Option ((List Alert)) :=
  (iJ (data_1,(w64 (a_2+1))) (λs=>d9 b_3 a_2 s)).bind λo_13=>thenC o_13 (λs_10=>some s_10.1) (λ_=>none)
noncomputable def fT (b_3:Int) (a_2:Int) (data_1:(List Alert)) (limit_4:Int) (s_11:Unit):Option (Ctl (Unit) ((List Alert))) :=
  bif (decide ((w64 (b_3-a_2))<=12))then (fo data_1 a_2 b_3).bind λr_17=>(iR r_17 data_1).bind λ_=>some (.ret r_17)else bif (limit_4==0)then none else none
noncomputable def gW (data_1:(List Alert)) (a_2:Int) (b_3:Int) (limit_4:Int):Option ((List Alert)) :=
  (iJ () (λs=>fT b_3 a_2 data_1 limit_4 s)).bind λo_14=>thenC o_14 (λs_11=>some data_1) (λr=>some r)
noncomputable def dL (x_1:(List Alert)):Option ((List Alert)) :=
  (gJ (IntKind.u64.wrap (x_1.length:Int))).bind λr_3=>(gW x_1 0 (x_1.length:Int) r_3).bind λr_5=>(iR r_5 x_1).bind λ_=>some r_5
noncomputable def iQ (a_1:(List Alert)) (b_2:(List Alert)) (k_3:Nat) (x_5:Nat) (s_8:Unit):Option (Ctl (Unit) ((List Alert)×Int)) :=
  (idx ([a_1,b_2]:List (List Alert)) (k_3:Int)).bind λy_13=>(bW y_13).bind λr_15=>bif (r_15 != 0)then some (.ret (([]:(List Alert)),r_15))else some (.go ())
def jD (k_21:Nat) (x_23:Alert) (s_26:(List (ByteArray×Alert))×(List Alert)):Option (Ctl ((List (ByteArray×Alert))×(List Alert)) ((List Alert)×Int)) :=
  bif (!((kw eqS s_26.1 x_23.Id).isSome))then (qK x_23).bind λr_37=>(jc s_26.2 ([r_37]:List Alert)).bind λa_39=>some (.go ((pR eqS s_26.1 x_23.Id x_23),a_39))else (sP ((kw eqS s_26.1 x_23.Id).getD (⟨(⟨#[]⟩:ByteArray),(⟨#[]⟩:ByteArray),0,([]:List ByteArray),0,0,0,([]:List Rect),(⟨#[]⟩:ByteArray)⟩:Alert)) x_23).bind λr_42=>bif (!r_42)then some (.ret (([]:(List Alert)),13))else some (.go (s_26.1,s_26.2))
noncomputable def oQ (a_1:(List Alert)) (b_2:(List Alert)):Option ((List Alert)×Int) :=
  (forL (List.range (2:Int).toNat) () (λk x s=>iQ a_1 b_2 k x s)).bind λo_11=>thenC o_11 (λs_8=>(dF ([a_1,b_2]:List (List Alert))).bind λr_19=>(forL r_19 (([]:List (ByteArray×Alert)),([]:List Alert)) (λk x s=>jD k x s)).bind λo_32=>thenC o_32 (λs_26=>bif (decide ((s_26.2.length:Int)>300))then some (([]:(List Alert)),2)else (dL s_26.2).bind λr_46=>(iR r_46 s_26.2).bind λ_=>some (r_46,0)) (λr=>some r)) (λr=>some r)
def jS (atv_1:Int):Option (Int) :=
  (di atv_1).bind λr_2=>bif (!r_2)then some 1 else some 0
def lD (o_1:Alert) (p_2:ByteArray) (p_3:Alert):Option (Bool) :=
  (bif (sEq o_1.Id p_2)then bif (sEq o_1.Sender p_3.Sender)then (gL o_1 p_3).bind λr_9=>some (decide (r_9<0))else some false else some false).bind λv_5=>some v_5
def bD (f_2:Alert->Option Bool) (k_3:Nat) (x_5:Alert) (s_8:Unit):Option (Ctl (Unit) (Int)) :=
  (f_2 x_5).bind λr_13=>bif r_13 then some (.ret (k_3:Int))else some (.go ())
def bf (s_1:(List Alert)) (f_2:Alert->Option Bool):Option (Int) :=
  (forL s_1 () (λk x s=>bD f_2 k x s)).bind λo_11=>thenC o_11 (λs_8=>some (-1)) (λr=>some r)
def oz (l_1:(List Alert)) (a_2:Alert) (ref_3:ByteArray):Option (Int) :=
  (bf l_1 (λx0=>lD x0 ref_3 a_2)).bind λr_6=>some r_6
def nY (k_2:Nat) (x_4:Alert) (s_7:(List Int)):Option (Ctl ((List Int)) (Unit)) :=
  (jc s_7 ([x_4.Until]:List Int)).bind λa_16=>some (.go a_16)
def lZ (l_1:(List Alert)) (x_21:Alert) (k_30:Nat) (x_32:ByteArray) (s_35:(List Int)):Option (Ctl ((List Int)) (Unit)) :=
  (oz l_1 x_21 x_32).bind λr_40=>(bif (decide (r_40>=0))then (inR r_40 s_35).bind λ_=>(s_35[(0+(r_40).toNat)]?).bind λe_46=>(inR r_40 s_35).bind λ_=>(s_35[(0+(r_40).toNat)]?).bind λe_49=>some (s_35.set (0+(r_40).toNat) (yD e_46 x_21.At))else some s_35).bind λv_42=>some (.go v_42)
def nV (l_1:(List Alert)) (k_19:Nat) (x_21:Alert) (s_24:(List Int)):Option (Ctl ((List Int)) (Unit)) :=
  (forL x_21.Refs s_24 (λk x s=>lZ l_1 x_21 k x s)).bind λo_38=>thenC o_38 (λs_35=>some (.go s_35)) (λ_=>none)
def sS (l_1:(List Alert)):Option ((List Int)) :=
  (forL l_1 ([]:List Int) (λk x s=>nY k x s)).bind λo_13=>thenC o_13 (λs_7=>(forL l_1 s_7 (λk x s=>nV l_1 k x s)).bind λo_27=>thenC o_27 (λs_24=>some s_24) (λ_=>none)) (λ_=>none)
def sN (a_1:Alert) (endv_2:Int) (atv_3:Int):Option (Bool) :=
  (bif (a_1.Kind != 3)then bif (decide (a_1.At<=atv_3))then some (decide (atv_3<endv_2))else some false else some false).bind λv_5=>some v_5
def lc (r_9:(List Int)) (atv_2:Int) (k_11:Nat) (x_13:Alert) (s_16:(List ByteArray)):Option (Ctl ((List ByteArray)) (Unit)) :=
  (idx r_9 (k_11:Int)).bind λy_25=>(sN x_13 y_25 atv_2).bind λr_27=>(bif r_27 then (jc s_16 ([x_13.Id]:List ByteArray)).bind λa_33=>some a_33 else some s_16).bind λv_29=>some (.go v_29)
noncomputable def nS (l_1:(List Alert)) (atv_2:Int):Option ((List ByteArray)×Int) :=
  (bW l_1).bind λr_3=>bif (r_3 != 0)then some (([]:(List ByteArray)),r_3)else (jS atv_2).bind λr_6=>bif (r_6 != 0)then some (([]:(List ByteArray)),r_6)else (sS l_1).bind λr_9=>(forL l_1 ([]:List ByteArray) (λk x s=>lc r_9 atv_2 k x s)).bind λo_22=>thenC o_22 (λs_16=>some (s_16,0)) (λ_=>none)
def xc (k_2:Nat) (x_4:Int) (s_7:Unit):Option (Ctl (Unit) (Int)) :=
  bif (x_4 != 0)then some (.ret x_4)else some (.go ())
def p9 (l_1:(List Int)):Option (Int) :=
  (forL l_1 () (λk x s=>xc k x s)).bind λo_10=>thenC o_10 (λs_7=>some 0) (λr=>some r)
def pu  : Option ((List ByteArray)) :=
  some ([(⟨#[]⟩:ByteArray),(⟨#[110,101,119]⟩:ByteArray),(⟨#[117,112,100,97,116,101]⟩:ByteArray),(⟨#[99,97,110,99,101,108]⟩:ByteArray)]:List ByteArray)
def strconv_Itoa (x0:Int):Option (ByteArray) :=
  Nf x0
def strings_Join (x0:(List ByteArray)) (x1:ByteArray):Option (ByteArray) :=
  Mw x0 x1
def kZ (k_2:Nat) (x_4:Int) (s_7:(List ByteArray)):Option (Ctl ((List ByteArray)) (Unit)) :=
  (strconv_Itoa x_4).bind λr_15=>(jc s_7 ([r_15]:List ByteArray)).bind λa_17=>some (.go a_17)
def mD (l_1:(List Int)):Option (ByteArray) :=
  (forL l_1 ([]:List ByteArray) (λk x s=>kZ k x s)).bind λo_13=>thenC o_13 (λs_7=>(strings_Join s_7 (⟨#[32]⟩:ByteArray)).bind λr_20=>some r_20) (λ_=>none)
def iW (k_37:Nat) (x_39:ByteArray) (s_42:ByteArray):Option (Ctl (ByteArray) (Unit)) :=
  (nR (⟨#[114,101,102,32]⟩:ByteArray) x_39).bind λs_47=>(nR s_47 (⟨#[10]⟩:ByteArray)).bind λs_49=>(nR s_42 s_49).bind λs_51=>some (.go s_51)
def iY (k_53:Nat) (x_55:Rect) (s_58:ByteArray):Option (Ctl (ByteArray) (Unit)) :=
  (mD ([x_55.X,x_55.Y,x_55.W,x_55.H]:List Int)).bind λr_64=>(nR (⟨#[97,114,101,97,32]⟩:ByteArray) r_64).bind λs_66=>(nR s_66 (⟨#[10]⟩:ByteArray)).bind λs_68=>(nR s_58 s_68).bind λs_70=>some (.go s_70)
def ku (k_2:Nat) (x_4:Alert) (s_7:ByteArray):Option (Ctl (ByteArray) (Unit)) :=
  (nR (⟨#[97,108,101,114,116,32]⟩:ByteArray) x_4.Id).bind λs_13=>(nR s_13 (⟨#[32]⟩:ByteArray)).bind λs_15=>(nR s_15 x_4.Sender).bind λs_17=>(nR s_17 (⟨#[32]⟩:ByteArray)).bind λs_19=>(pu).bind λr_21=>(idx r_21 x_4.Kind).bind λy_23=>(nR s_19 y_23).bind λs_25=>(nR s_25 (⟨#[32]⟩:ByteArray)).bind λs_27=>(mD ([x_4.At,x_4.Until,x_4.Weight]:List Int)).bind λr_29=>(nR s_27 r_29).bind λs_31=>(nR s_31 (⟨#[10]⟩:ByteArray)).bind λs_33=>(nR s_7 s_33).bind λs_35=>(forL x_4.Refs s_35 (λk x s=>iW k x s)).bind λo_45=>thenC o_45 (λs_42=>(forL x_4.Areas s_42 (λk x s=>iY k x s)).bind λo_61=>thenC o_61 (λs_58=>(bif (sNe x_4.Text (⟨#[]⟩:ByteArray))then (nR (⟨#[116,101,120,116,32]⟩:ByteArray) x_4.Text).bind λs_75=>(nR s_75 (⟨#[10]⟩:ByteArray)).bind λs_77=>(nR s_58 s_77).bind λs_79=>some s_79 else some s_58).bind λv_72=>some (.go v_72)) (λ_=>none)) (λ_=>none)
def kN (l_1:(List Alert)):Option (ByteArray) :=
  (forL l_1 (⟨#[]⟩:ByteArray) (λk x s=>ku k x s)).bind λo_10=>thenC o_10 (λs_7=>some s_7) (λ_=>none)
def nU (a_1:Alert) (b_2:Alert):Option (Bool) :=
  (kN ([a_1]:List Alert)).bind λr_5=>(kN ([b_2]:List Alert)).bind λr_7=>some (sEq r_5 r_7)
def aY (s2_2:(List Alert)) (k_5:Nat) (x_7:Alert) (s_10:Unit):Option (Ctl (Unit) (Bool)) :=
  (idx s2_2 (k_5:Int)).bind λy_16=>(nU x_7 y_16).bind λr_19=>bif (!r_19)then some (.ret false)else some (.go ())
def aO (s1_1:(List Alert)) (s2_2:(List Alert)):Option (Bool) :=
  bif ((s1_1.length:Int) != (s2_2.length:Int))then some false else (forL s1_1 () (λk x s=>aY s2_2 k x s)).bind λo_13=>thenC o_13 (λs_10=>some true) (λr=>some r)
def gq (v_2:ByteArray) (k_3:Nat) (x_5:ByteArray) (s_8:Unit):Option (Ctl (Unit) (Int)) :=
  bif (sEq v_2 x_5)then some (.ret (k_3:Int))else some (.go ())
def iq (s_1:(List ByteArray)) (v_2:ByteArray):Option (Int) :=
  (forL s_1 () (λk x s=>gq v_2 k x s)).bind λo_11=>thenC o_11 (λs_8=>some (-1)) (λr=>some r)
def cO (s_1:(List ByteArray)) (v_2:ByteArray):Option (Bool) :=
  (iq s_1 v_2).bind λr_3=>some (decide (r_3>=0))
def ib (o_1:Alert) (p_2:Alert) (p_3:Int):Option (Bool) :=
  (bif (decide (p_2.At<o_1.At))then some true else bif (p_2.At==o_1.At)then some (sLt p_2.Id o_1.Id)else some false).bind λv_5=>(bif v_5 then bif (sEq o_1.Sender p_2.Sender)then (cO o_1.Refs p_2.Id).bind λr_13=>bif r_13 then some (decide (o_1.At<=p_3))else some false else some false else some false).bind λv_9=>some v_9
def bE (s_1:(List Alert)) (f_2:Alert->Option Bool):Option (Bool) :=
  (bf s_1 f_2).bind λr_3=>some (decide (r_3>=0))
def kW (a_1:Alert) (p_2:ByteArray):Option (Bool) :=
  some (sEq a_1.Id p_2)
def cmp_isNaN_string (x_1:ByteArray):Option (Bool) :=
  some (sNe x_1 x_1)
def cmp_Less_string (x_1:ByteArray) (y_2:ByteArray):Option (Bool) :=
  ((cmp_isNaN_string x_1).bind λr_5=>bif r_5 then (cmp_isNaN_string y_2).bind λr_8=>bif (!r_8)then some true else some (sLt x_1 y_2)else some (sLt x_1 y_2)).bind λv_3=>some v_3
def bR (a_2:Int) (s_20:(List ByteArray)×Int):Option (Ctl ((List ByteArray)×Int) (Unit)) :=
  (bif (decide (s_20.2>a_2))then (inR s_20.2 s_20.1).bind λ_=>(s_20.1[(0+(s_20.2).toNat)]?).bind λe_29=>(inR (w64 (s_20.2-1)) s_20.1).bind λ_=>(s_20.1[(0+((w64 (s_20.2-1))).toNat)]?).bind λe_32=>(cmp_Less_string e_29 e_32).bind λr_34=>some r_34 else some false).bind λv_25=>bif v_25 then (inR (w64 (s_20.2-1)) s_20.1).bind λ_=>(s_20.1[(0+((w64 (s_20.2-1))).toNat)]?).bind λe_38=>(inR s_20.2 s_20.1).bind λ_=>(s_20.1[(0+(s_20.2).toNat)]?).bind λe_41=>(inR s_20.2 s_20.1).bind λ_=>(s_20.1[(0+(s_20.2).toNat)]?).bind λe_44=>(inR (w64 (s_20.2-1)) (s_20.1.set (0+(s_20.2).toNat) e_38)).bind λ_=>((s_20.1.set (0+(s_20.2).toNat) e_38)[(0+((w64 (s_20.2-1))).toNat)]?).bind λe_47=>some (.go (((s_20.1.set (0+(s_20.2).toNat) e_38).set (0+((w64 (s_20.2-1))).toNat) e_41),(w64 (s_20.2-1))))else some (.brk (s_20.1,s_20.2))
noncomputable def bT (b_3:Int) (a_2:Int) (s_9:(List ByteArray)×Int):Option (Ctl ((List ByteArray)×Int) (Unit)) :=
  bif (decide (s_9.2<b_3))then (iJ (s_9.1,s_9.2) (λs=>bR a_2 s)).bind λo_23=>thenC o_23 (λs_20=>some (.go (s_20.1,(w64 (s_9.2+1))))) (λ_=>none)else some (.brk (s_9.1,s_9.2))
noncomputable def dh (data_1:(List ByteArray)) (a_2:Int) (b_3:Int):Option ((List ByteArray)) :=
  (iJ (data_1,(w64 (a_2+1))) (λs=>bT b_3 a_2 s)).bind λo_12=>thenC o_12 (λs_9=>some s_9.1) (λ_=>none)
noncomputable def dD (b_3:Int) (a_2:Int) (data_1:(List ByteArray)) (limit_4:Int) (s_10:Unit):Option (Ctl (Unit) ((List ByteArray))) :=
  bif (decide ((w64 (b_3-a_2))<=12))then (dh data_1 a_2 b_3).bind λr_16=>(iR r_16 data_1).bind λ_=>some (.ret r_16)else bif (limit_4==0)then none else none
noncomputable def dR (data_1:(List ByteArray)) (a_2:Int) (b_3:Int) (limit_4:Int):Option ((List ByteArray)) :=
  (iJ () (λs=>dD b_3 a_2 data_1 limit_4 s)).bind λo_13=>thenC o_13 (λs_10=>some data_1) (λr=>some r)
noncomputable def eU (x_1:(List ByteArray)):Option ((List ByteArray)) :=
  (gJ (IntKind.u64.wrap (x_1.length:Int))).bind λr_2=>(dR x_1 0 (x_1.length:Int) r_2).bind λr_4=>(iR r_4 x_1).bind λ_=>some r_4
def jN (l_1:(List Alert)) (x_18:Alert) (m_11:Nat) (k_16:Nat) (k_29:Nat) (x_31:ByteArray) (s_34:(List (List Int))):Option (Ctl ((List (List Int))) (Unit)) :=
  (oz l_1 x_18 x_31).bind λr_41=>(bif (decide (r_41>=0))then (inN r_41 m_11).bind λ_=>(s_34[(0+(r_41).toNat)]?).bind λr_48=>(jc r_48 ([(k_16:Int)]:List Int)).bind λa_50=>(inN (k_16:Int) m_11).bind λ_=>(neN (0+(r_41).toNat) (0+((k_16:Int)).toNat)).bind λ_=>(s_34[(0+((k_16:Int)).toNat)]?).bind λr_57=>(jc r_57 ([r_41]:List Int)).bind λa_60=>(inN r_41 m_11).bind λ_=>(s_34[(0+(r_41).toNat)]?).bind λr_66=>(inN (k_16:Int) m_11).bind λ_=>((s_34.set (0+(r_41).toNat) a_50)[(0+((k_16:Int)).toNat)]?).bind λr_69=>some ((s_34.set (0+(r_41).toNat) a_50).set (0+((k_16:Int)).toNat) a_60)else some s_34).bind λv_43=>some (.go v_43)
def jM (l_1:(List Alert)) (m_11:Nat) (k_16:Nat) (x_18:Alert) (s_21:(List (List Int))):Option (Ctl ((List (List Int))) (Unit)) :=
  (forL x_18.Refs s_21 (λk x s=>jN l_1 x_18 m_11 k_16 k x s)).bind λo_39=>thenC o_39 (λs_34=>some (.go s_34)) (λ_=>none)
def jO (r_101:(List Int)) (s_21:(List (List Int))) (e_98:Int) (k_103:Nat) (x_105:Nat) (s_108:(List (Int×Bool))×(List Int)×Nat):Option (Ctl ((List (Int×Bool))×(List Int)×Nat) (Unit)) :=
  (inR (k_103:Int) r_101).bind λ_=>(s_21[(0+(e_98).toNat)]?).bind λr_118=>(r_118[(0+((k_103:Int)).toNat)]?).bind λe_120=>(bif (!((kw eqI s_108.1 e_120).getD false))then (leN s_108.2.2 s_108.2.1.length).bind λ_=>(jc (s_108.2.1.drop s_108.2.2) ([e_120]:List Int)).bind λa_126=>some ((pR eqI s_108.1 e_120 true),a_126,0)else some (s_108.1,s_108.2.1,s_108.2.2)).bind λv_122=>some (.go (v_122.1,v_122.2.1,v_122.2.2))
def lW (l_1:(List Alert)) (m_11:Nat) (s_21:(List (List Int))) (s_78:(List (Int×Bool))×(List Int)×(List ByteArray)×Nat):Option (Ctl ((List (Int×Bool))×(List Int)×(List ByteArray)×Nat) (Unit)) :=
  bif (decide ((((s_78.2.1.length-s_78.2.2.2):Nat):Int)>0))then (inN 0 (s_78.2.1.length-s_78.2.2.2)).bind λ_=>(s_78.2.1[(s_78.2.2.2+(0:Int).toNat)]?).bind λe_90=>(idx l_1 e_90).bind λy_92=>(jc s_78.2.2.1 ([y_92.Id]:List ByteArray)).bind λa_94=>(inN 0 (s_78.2.1.length-s_78.2.2.2)).bind λ_=>(s_78.2.1[(s_78.2.2.2+(0:Int).toNat)]?).bind λe_98=>(inN e_98 m_11).bind λ_=>(s_21[(0+(e_98).toNat)]?).bind λr_101=>(forL (List.range ((r_101.length:Int)).toNat) (s_78.1,s_78.2.1,s_78.2.2.2) (λk x s=>jO r_101 s_21 e_98 k x s)).bind λo_115=>thenC o_115 (λs_108=>(ltN s_108.2.2 s_108.2.1.length).bind λ_=>some (.go (s_108.1,s_108.2.1,a_94,(s_108.2.2+1)))) (λ_=>none)else some (.brk (s_78.1,s_78.2.1,s_78.2.2.1,s_78.2.2.2))
noncomputable def lK (l_1:(List Alert)) (id_2:ByteArray):Option ((List ByteArray)×Int) :=
  (bW l_1).bind λr_4=>bif (r_4 != 0)then some (([]:(List ByteArray)),r_4)else (bf l_1 (λx0=>kW x0 id_2)).bind λr_7=>bif (decide (r_7<0))then some (([]:(List ByteArray)),8)else (mkN (l_1.length:Int) 24).bind λm_11=>(nzI (l_1.length:Int)).bind λ_=>(forL l_1 (List.replicate m_11 ([]:List Int)) (λk x s=>jM l_1 m_11 k x s)).bind λo_26=>thenC o_26 (λs_21=>(iJ ((pR eqI ([]:List (Int×Bool)) r_7 true),([r_7]:List Int),([]:List ByteArray),0) (λs=>lW l_1 m_11 s_21 s)).bind λo_86=>thenC o_86 (λs_78=>(eU s_78.2.2.1).bind λr_131=>(iR r_131 s_78.2.2.1).bind λ_=>some (r_131,0)) (λ_=>none)) (λ_=>none)
def mP (k_3:Nat) (x_5:Rect) (s_8:Unit):Option (Ctl (Unit) (Int)) :=
  (iK x_5).bind λr_14=>bif (r_14 != 0)then some (.ret r_14)else some (.go ())
def ma (l_1:(List Rect)):Option (Int) :=
  bif (decide ((l_1.length:Int)>2000))then some 2 else (forL l_1 () (λk x s=>mP k x s)).bind λo_11=>thenC o_11 (λs_8=>some 0) (λr=>some r)
def iE (n_1:Int):Option Bool :=
  bif (decide (n_1<0))then none else bif (decide ((w64 (n_1-(w64 (0-0))))>0))then (zN (w64 (n_1-(w64 (0-0)))) 32).bind λ_=>some true else some false
def gX (k_2:Nat) (x_4:(List Rect)) (s_7:Int):Option (Ctl (Int) (Unit)) :=
  (bif (decide ((w64 (s_7+(x_4.length:Int)))<0))then none else some ()).bind λv_12=>some (.go (w64 (s_7+(x_4.length:Int))))
def gU (k_18:Nat) (x_20:(List Rect)) (s_23:(List Rect)):Option (Ctl ((List Rect)) (Unit)) :=
  (jc s_23 x_20).bind λa_30=>some (.go a_30)
def fC (slices_1:(List (List Rect))):Option ((List Rect)) :=
  (forL slices_1 0 (λk x s=>gX k x s)).bind λo_10=>thenC o_10 (λs_7=>(iE s_7).bind λb_15=>(forL slices_1 ([]:List Rect) (λk x s=>gU k x s)).bind λo_28=>thenC o_28 (λs_23=>some s_23) (λ_=>none)) (λ_=>none)
def jk (x:(List Int)):Option ((List Int)) :=
  ML x
def gP (s_1:(List Int)) (s_8:Int) (s_28:(List Int)×Int×Int):Option (Ctl ((List Int)×Int×Int) (Unit)) :=
  bif (decide (s_28.2.2<(((((s_1.length:Int)).toNat-(s_8).toNat):Nat):Int)))then (inN s_28.2.2 (((s_1.length:Int)).toNat-(s_8).toNat)).bind λ_=>(s_28.1[(((s_8).toNat)+(s_28.2.2).toNat)]?).bind λe_35=>(inN (w64 (s_28.2.2-1)) (((s_1.length:Int)).toNat-(s_8).toNat)).bind λ_=>(s_28.1[(((s_8).toNat)+((w64 (s_28.2.2-1))).toNat)]?).bind λe_38=>(bif (e_35 != e_38)then (inN s_28.2.2 (((s_1.length:Int)).toNat-(s_8).toNat)).bind λ_=>(s_28.1[(((s_8).toNat)+(s_28.2.2).toNat)]?).bind λe_44=>(inR s_28.2.1 s_28.1).bind λ_=>(s_28.1[(0+(s_28.2.1).toNat)]?).bind λe_47=>some ((s_28.1.set (0+(s_28.2.1).toNat) e_44),(w64 (s_28.2.1+1)))else some (s_28.1,s_28.2.1)).bind λv_40=>some (.go (v_40.1,v_40.2,(w64 (s_28.2.2+1))))else some (.brk (s_28.1,s_28.2.1,s_28.2.2))
noncomputable def eQ (s_1:(List Int)) (s_8:Int):Option (Ctl (Int) ((List Int))) :=
  bif (decide (s_8<(s_1.length:Int)))then (inR s_8 s_1).bind λ_=>(s_1[(0+(s_8).toNat)]?).bind λe_15=>(inR (w64 (s_8-1)) s_1).bind λ_=>(s_1[(0+((w64 (s_8-1))).toNat)]?).bind λe_18=>bif (e_15==e_18)then (neL s_1).bind λ_=>(Dm s_1 s_8 (s_1.length:Int)).bind λ_=>(iJ (s_1,s_8,1) (λs=>gP s_1 s_8 s)).bind λo_31=>thenC o_31 (λs_28=>(Dm s_28.1 s_28.2.1 (s_28.1.length:Int)).bind λ_=>(Dm (s_28.1.take ((s_28.2.1).toNat)++List.replicate (((s_28.1.length:Int)).toNat-(s_28.2.1).toNat) 0++s_28.1.drop (((s_28.2.1).toNat)+(((s_28.1.length:Int)).toNat-(s_28.2.1).toNat))) 0 s_28.2.1).bind λ_=>some (.ret (cutL (s_28.1.take ((s_28.2.1).toNat)++List.replicate (((s_28.1.length:Int)).toNat-(s_28.2.1).toNat) 0++s_28.1.drop (((s_28.2.1).toNat)+(((s_28.1.length:Int)).toNat-(s_28.2.1).toNat))) 0 ((s_28.2.1).toNat)))) (λ_=>none)else some (.go (w64 (s_8+1)))else some (.brk s_8)
noncomputable def gm (s_1:(List Int)):Option ((List Int)) :=
  bif (decide ((s_1.length:Int)<2))then some s_1 else (iJ 1 (λs=>eQ s_1 s)).bind λo_11=>thenC o_11 (λs_8=>some s_1) (λr=>some r)
def uR (a_1:Run) (b_2:Run):Option (Int) :=
  some (w64 (a_1.f_from-b_2.f_from))
def cZ (a_2:Int) (s_21:(List Run)×Int):Option (Ctl ((List Run)×Int) (Unit)) :=
  (bif (decide (s_21.2>a_2))then (inR s_21.2 s_21.1).bind λ_=>(s_21.1[(0+(s_21.2).toNat)]?).bind λe_30=>(inR (w64 (s_21.2-1)) s_21.1).bind λ_=>(s_21.1[(0+((w64 (s_21.2-1))).toNat)]?).bind λe_33=>(uR e_30 e_33).bind λr_35=>some (decide (r_35<0))else some false).bind λv_26=>bif v_26 then (inR (w64 (s_21.2-1)) s_21.1).bind λ_=>(s_21.1[(0+((w64 (s_21.2-1))).toNat)]?).bind λe_39=>(inR s_21.2 s_21.1).bind λ_=>(s_21.1[(0+(s_21.2).toNat)]?).bind λe_42=>(inR s_21.2 s_21.1).bind λ_=>(s_21.1[(0+(s_21.2).toNat)]?).bind λe_45=>(inR (w64 (s_21.2-1)) (s_21.1.set (0+(s_21.2).toNat) e_39)).bind λ_=>((s_21.1.set (0+(s_21.2).toNat) e_39)[(0+((w64 (s_21.2-1))).toNat)]?).bind λe_48=>some (.go (((s_21.1.set (0+(s_21.2).toNat) e_39).set (0+((w64 (s_21.2-1))).toNat) e_42),(w64 (s_21.2-1))))else some (.brk (s_21.1,s_21.2))
noncomputable def bH (b_3:Int) (a_2:Int) (s_10:(List Run)×Int):Option (Ctl ((List Run)×Int) (Unit)) :=
  bif (decide (s_10.2<b_3))then (iJ (s_10.1,s_10.2) (λs=>cZ a_2 s)).bind λo_24=>thenC o_24 (λs_21=>some (.go (s_21.1,(w64 (s_10.2+1))))) (λ_=>none)else some (.brk (s_10.1,s_10.2))
noncomputable def bO (data_1:(List Run)) (a_2:Int) (b_3:Int):Option ((List Run)) :=
  (iJ (data_1,(w64 (a_2+1))) (λs=>bH b_3 a_2 s)).bind λo_13=>thenC o_13 (λs_10=>some s_10.1) (λ_=>none)
noncomputable def cz (b_3:Int) (a_2:Int) (data_1:(List Run)) (limit_4:Int) (s_11:Unit):Option (Ctl (Unit) ((List Run))) :=
  bif (decide ((w64 (b_3-a_2))<=12))then (bO data_1 a_2 b_3).bind λr_17=>(iR r_17 data_1).bind λ_=>some (.ret r_17)else bif (limit_4==0)then none else none
noncomputable def dA (data_1:(List Run)) (a_2:Int) (b_3:Int) (limit_4:Int):Option ((List Run)) :=
  (iJ () (λs=>cz b_3 a_2 data_1 limit_4 s)).bind λo_14=>thenC o_14 (λs_11=>some data_1) (λr=>some r)
noncomputable def bQ (x_1:(List Run)):Option ((List Run)) :=
  (gJ (IntKind.u64.wrap (x_1.length:Int))).bind λr_3=>(dA x_1 0 (x_1.length:Int) r_3).bind λr_5=>(iR r_5 x_1).bind λ_=>some r_5
def pI (y_2:Int) (k_3:Nat) (x_5:Rect) (s_8:(List Run)):Option (Ctl ((List Run)) (Unit)) :=
  (bif (decide (x_5.Y<=y_2))then some (decide (y_2<(w64 (x_5.Y+x_5.H))))else some false).bind λv_17=>(bif v_17 then (jc s_8 ([(⟨x_5.X,(w64 (x_5.X+x_5.W))⟩:Run)]:List Run)).bind λa_24=>some a_24 else some s_8).bind λv_20=>some (.go v_20)
def o9 (k_30:Nat) (x_32:Run) (s_35:(List Run)):Option (Ctl ((List Run)) (Unit)) :=
  (bif (decide ((w64 ((s_35.length:Int)-1))>=0))then (inR (w64 ((s_35.length:Int)-1)) s_35).bind λ_=>(s_35[(0+((w64 ((s_35.length:Int)-1))).toNat)]?).bind λe_48=>some (decide (x_32.f_from<=e_48.f_to))else some false).bind λv_44=>(bif v_44 then (inR (w64 ((s_35.length:Int)-1)) s_35).bind λ_=>(s_35[(0+((w64 ((s_35.length:Int)-1))).toNat)]?).bind λe_55=>(inR (w64 ((s_35.length:Int)-1)) s_35).bind λ_=>(s_35[(0+((w64 ((s_35.length:Int)-1))).toNat)]?).bind λe_58=>some (s_35.set (0+((w64 ((s_35.length:Int)-1))).toNat) (⟨e_58.f_from,(vH e_55.f_to x_32.f_to)⟩:Run))else (jc s_35 ([x_32]:List Run)).bind λa_60=>some a_60).bind λv_50=>some (.go v_50)
noncomputable def oM (l_1:(List Rect)) (y_2:Int):Option ((List Run)) :=
  (forL l_1 ([]:List Run) (λk x s=>pI y_2 k x s)).bind λo_14=>thenC o_14 (λs_8=>(bQ s_8).bind λr_27=>(iR r_27 s_8).bind λ_=>(forL r_27 ([]:List Run) (λk x s=>o9 k x s)).bind λo_41=>thenC o_41 (λs_35=>some s_35) (λ_=>none)) (λ_=>none)
def pM (m_2:(List Run)) (x_5:Run) (s_22:Int):Option (Ctl (Int) (Unit)) :=
  (bif (decide (s_22<(m_2.length:Int)))then (idx m_2 s_22).bind λy_30=>some (decide (y_30.f_to<=x_5.f_from))else some false).bind λv_27=>bif v_27 then some (.go (w64 (s_22+1)))else some (.brk s_22)
def pK (m_2:(List Run)) (x_5:Run) (s_38:(List Run)×Int×Int):Option (Ctl ((List Run)×Int×Int) (Unit)) :=
  (bif (decide (s_38.2.1<(m_2.length:Int)))then (idx m_2 s_38.2.1).bind λy_48=>some (decide (y_48.f_from<x_5.f_to))else some false).bind λv_45=>bif v_45 then (idx m_2 s_38.2.1).bind λy_51=>(bif (decide (y_51.f_from>s_38.2.2))then (idx m_2 s_38.2.1).bind λy_57=>(jc s_38.1 ([(⟨s_38.2.2,y_57.f_from⟩:Run)]:List Run)).bind λa_59=>some a_59 else some s_38.1).bind λv_53=>(idx m_2 s_38.2.1).bind λy_62=>some (.go (v_53,(w64 (s_38.2.1+1)),(vH s_38.2.2 y_62.f_to)))else some (.brk (s_38.1,s_38.2.1,s_38.2.2))
noncomputable def mr (m_2:(List Run)) (k_3:Nat) (x_5:Run) (s_8:(List Run)×Int):Option (Ctl ((List Run)×Int) (Unit)) :=
  (iJ s_8.2 (λs=>pM m_2 x_5 s)).bind λo_25=>thenC o_25 (λs_22=>(iJ (s_8.1,s_22,x_5.f_from) (λs=>pK m_2 x_5 s)).bind λo_43=>thenC o_43 (λs_38=>(bif (decide (s_38.2.2<x_5.f_to))then (jc s_38.1 ([(⟨s_38.2.2,x_5.f_to⟩:Run)]:List Run)).bind λa_68=>some a_68 else some s_38.1).bind λv_64=>some (.go (v_64,s_22))) (λ_=>none)) (λ_=>none)
noncomputable def qF (l_1:(List Run)) (m_2:(List Run)):Option ((List Run)) :=
  (forL l_1 (([]:List Run),0) (λk x s=>mr m_2 k x s)).bind λo_14=>thenC o_14 (λs_8=>some s_8.1) (λ_=>none)
def fU (s2_2:(List Run)) (k_4:Nat) (x_6:Run) (s_9:Unit):Option (Ctl (Unit) (Bool)) :=
  (idx s2_2 (k_4:Int)).bind λy_14=>bif (!((x_6.f_from==y_14.f_from)&&((x_6.f_to==y_14.f_to)&&true)))then some (.ret false)else some (.go ())
def eG (s1_1:(List Run)) (s2_2:(List Run)):Option (Bool) :=
  bif ((s1_1.length:Int) != (s2_2.length:Int))then some false else (forL s1_1 () (λk x s=>fU s2_2 k x s)).bind λo_12=>thenC o_12 (λs_9=>some true) (λr=>some r)
def ny (k_5:Nat) (x_7:Rect) (s_10:(List Int)):Option (Ctl ((List Int)) (Unit)) :=
  (jc s_10 ([x_7.Y,(w64 (x_7.Y+x_7.H))]:List Int)).bind λa_19=>some (.go a_19)
def nz (s_32:(List Rect)×(List Run)×Int) (x_29:Int) (k_54:Nat) (x_56:Run) (s_59:(List Rect)):Option (Ctl ((List Rect)) (Unit)) :=
  (jc s_59 ([(⟨x_56.f_from,s_32.2.2,(w64 (x_56.f_to-x_56.f_from)),(w64 (x_29-s_32.2.2))⟩:Rect)]:List Rect)).bind λa_67=>some (.go a_67)
noncomputable def lg (r_25:(List Int)) (l_1:(List Rect)) (m_2:(List Rect)) (k_27:Nat) (x_29:Int) (s_32:(List Rect)×(List Run)×Int):Option (Ctl ((List Rect)×(List Run)×Int) (Unit)) :=
  (bif (decide ((w64 ((k_27:Int)+1))<(r_25.length:Int)))then (oM l_1 x_29).bind λr_45=>(oM m_2 x_29).bind λr_47=>(qF r_45 r_47).bind λr_49=>some r_49 else some ([]:List Run)).bind λv_42=>(eG s_32.2.1 v_42).bind λr_51=>bif r_51 then some (.go (s_32.1,s_32.2.1,s_32.2.2))else (forL s_32.2.1 s_32.1 (λk x s=>nz s_32 x_29 k x s)).bind λo_64=>thenC o_64 (λs_59=>some (.go (s_59,v_42,x_29))) (λ_=>none)
noncomputable def ol (l_1:(List Rect)) (m_2:(List Rect)):Option ((List Rect)) :=
  (fC ([l_1,m_2]:List (List Rect))).bind λr_3=>(forL r_3 ([]:List Int) (λk x s=>ny k x s)).bind λo_16=>thenC o_16 (λs_10=>(jk s_10).bind λr_22=>(iR r_22 s_10).bind λ_=>(gm r_22).bind λr_25=>(forL r_25 (([]:List Rect),([]:List Run),0) (λk x s=>lg r_25 l_1 m_2 k x s)).bind λo_38=>thenC o_38 (λs_32=>some s_32.1) (λ_=>none)) (λ_=>none)
def uh (k_2:Nat) (x_4:Rect) (s_7:Int):Option (Ctl (Int) (Unit)) :=
  some (.go (w64 (s_7+(w64 (x_4.W*x_4.H)))))
def uB (l_1:(List Rect)):Option (Int) :=
  (forL l_1 0 (λk x s=>uh k x s)).bind λo_10=>thenC o_10 (λs_7=>some s_7) (λ_=>none)
noncomputable def qJ (l_1:(List Rect)):Option (Int×Int) :=
  (ma l_1).bind λr_2=>bif (r_2 != 0)then some (0,r_2)else (ol l_1 ([]:List Rect)).bind λr_5=>(uB r_5).bind λr_7=>some (r_7,0)
def BK (n_1:Int):Option (Bool) :=
  (bif (decide (n_1>=0))then some (decide (n_1<=4000))else some false).bind λv_2=>some v_2
def kP (l_1:(List Int)) (k_3:Nat) (x_5:Int) (s_8:Unit):Option (Ctl (Unit) (Int)) :=
  (BK x_5).bind λr_13=>bif (!r_13)then some (.ret 1)else (bif (decide ((k_3:Int)>0))then (idx l_1 (w64 ((k_3:Int)-1))).bind λy_19=>some (decide (x_5<=y_19))else some false).bind λv_16=>bif v_16 then some (.ret 7)else some (.go ())
def jY (l_1:(List Int)):Option (Int) :=
  bif (decide ((l_1.length:Int)>100))then some 2 else (forL l_1 () (λk x s=>kP l_1 k x s)).bind λo_11=>thenC o_11 (λs_8=>some 0) (λr=>some r)
noncomputable def jy (l_1:(List ByteArray)) (k_2:Nat) (x_4:ByteArray) (s_7:Unit):Option (Ctl (Unit) (Int)) :=
  (kit_IsKey x_4).bind λr_12=>bif (!r_12)then some (.ret 5)else (bif (decide ((k_2:Int)>0))then (idx l_1 (w64 ((k_2:Int)-1))).bind λy_18=>some (sLe x_4 y_18)else some false).bind λv_15=>bif v_15 then some (.ret 7)else some (.go ())
noncomputable def jP (l_1:(List ByteArray)):Option (Int) :=
  (forL l_1 () (λk x s=>jy l_1 k x s)).bind λo_10=>thenC o_10 (λs_7=>some 0) (λr=>some r)
noncomputable def jG (l_1:(List ByteArray)):Option (Int) :=
  bif (decide ((l_1.length:Int)>20))then some 2 else (jP l_1).bind λr_3=>some r_3
noncomputable def je (e_1:Entry):Option (Int) :=
  ((kit_IsKey e_1.Key).bind λr_5=>bif (!r_5)then some true else (kit_IsKey e_1.Item).bind λr_8=>some (!r_8)).bind λv_3=>bif v_3 then some 5 else ((aQ e_1.Version 0 1000000).bind λr_13=>bif r_13 then some true else (aQ e_1.First 0 e_1.Last).bind λr_16=>bif r_16 then some true else bif (decide (e_1.Last>4000))then some true else (aQ e_1.Every 1 400).bind λr_20=>bif r_20 then some true else (aQ e_1.Days 1 127).bind λr_23=>some r_23).bind λv_11=>bif v_11 then some 1 else (jY e_1.Except).bind λr_26=>bif (r_26 != 0)then some r_26 else ((aQ e_1.From 0 1439).bind λr_31=>bif r_31 then some true else (aQ e_1.To 0 1439).bind λr_34=>bif r_34 then some true else (aQ e_1.Prio 0 9).bind λr_37=>some r_37).bind λv_29=>bif v_29 then some 1 else (jG e_1.Tags).bind λr_40=>some r_40
noncomputable def gM (l_1:(List Entry)) (k_3:Nat) (x_5:Entry) (s_8:Unit):Option (Ctl (Unit) (Int)) :=
  (je x_5).bind λr_14=>bif (r_14 != 0)then some (.ret r_14)else (bif (decide ((k_3:Int)>0))then (idx l_1 (w64 ((k_3:Int)-1))).bind λy_20=>some (sLe x_5.Key y_20.Key)else some false).bind λv_17=>bif v_17 then some (.ret 7)else some (.go ())
noncomputable def iH (l_1:(List Entry)):Option (Int) :=
  bif (decide ((l_1.length:Int)>200))then some 2 else (forL l_1 () (λk x s=>gM l_1 k x s)).bind λo_11=>thenC o_11 (λs_8=>some 0) (λr=>some r)
def kv (wv_1:Window):Option (Int) :=
  ((aQ wv_1.From 0 wv_1.To).bind λr_5=>bif r_5 then some true else some (decide (wv_1.To>345686400000))).bind λv_3=>bif v_3 then some 1 else bif (decide ((w64 (wv_1.To-wv_1.From))>34560000000))then some 2 else some 0
def cmp_Less_int (x_1:Int) (y_2:Int):Option (Bool) :=
  ((cmp_isNaN_int x_1).bind λr_5=>bif r_5 then (cmp_isNaN_int y_2).bind λr_8=>bif (!r_8)then some true else some (decide (x_1<y_2))else some (decide (x_1<y_2))).bind λv_3=>some v_3
def jm (x_1:Int):Option (Bool) :=
  some (x_1 != x_1)
def fK (x_1:(List Int)) (target_2:Int) (s_8:Int×Int):Option (Ctl (Int×Int) (Unit)) :=
  bif (decide (s_8.1<s_8.2))then (Oj .u64 (IntKind.u64.wrap (w64 (s_8.1+s_8.2))) 1).bind λq_14=>(idx x_1 (w64 q_14)).bind λy_16=>(cmp_Less_int y_16 target_2).bind λr_18=>bif r_18 then some (.go ((w64 ((w64 q_14)+1)),s_8.2))else some (.go (s_8.1,(w64 q_14)))else some (.brk (s_8.1,s_8.2))
noncomputable def fu (x_1:(List Int)) (target_2:Int):Option (Int×Bool) :=
  (iJ (0,(x_1.length:Int)) (λs=>fK x_1 target_2 s)).bind λo_11=>thenC o_11 (λs_8=>(bif (decide (s_8.1<(x_1.length:Int)))then (idx x_1 s_8.1).bind λy_24=>bif (y_24==target_2)then some true else (idx x_1 s_8.1).bind λy_27=>(jm y_27).bind λr_29=>bif r_29 then (jm target_2).bind λr_32=>some r_32 else some false else some false).bind λv_21=>some (s_8.1,v_21)) (λ_=>none)
noncomputable def mM (e_1:Entry) (d_2:Int):Option (Bool) :=
  ((aQ d_2 e_1.First e_1.Last).bind λr_6=>bif r_6 then some true else (Jj .i64 (w64 (d_2-e_1.First)) e_1.Every).bind λq_9=>bif (q_9 != 0)then some true else (shlO .i64 1 (d_2.tmod 7)).bind λq_12=>some ((QS .i64 e_1.Days q_12)==0)).bind λv_4=>bif v_4 then some false else (fu e_1.Except d_2).bind λr_15=>some (!r_15.2)
def om (e_1:Entry) (zone_2:Int) (d_3:Int):Option (Window) :=
  (bif (decide ((w64 (e_1.To-e_1.From))<=0))then some (w64 ((w64 (e_1.To-e_1.From))+1440))else some (w64 (e_1.To-e_1.From))).bind λv_6=>some (⟨(w64 ((w64 ((w64 ((w64 (d_3*1440))+e_1.From))-zone_2))*60000)),(w64 ((w64 ((w64 ((w64 ((w64 (d_3*1440))+e_1.From))-zone_2))*60000))+(w64 (v_6*60000))))⟩:Window)
noncomputable def jR (wv_3:Window) (zone_2:Int) (e_1:Entry) (s_15:(List Window)×Int):Option (Ctl ((List Window)×Int) (Unit)) :=
  bif (decide (s_15.2<=(yD (w64 ((w64 ((w64 (wv_3.To+(w64 (zone_2*60000)))).tdiv 86400000))+1)) e_1.Last)))then (mM e_1 s_15.2).bind λr_24=>bif (!r_24)then some (.go (s_15.1,(w64 (s_15.2+1))))else (om e_1 zone_2 s_15.2).bind λr_27=>(bif (decide (r_27.From<wv_3.To))then some (decide (r_27.To>wv_3.From))else some false).bind λv_30=>(bif v_30 then (jc s_15.1 ([r_27]:List Window)).bind λa_37=>some a_37 else some s_15.1).bind λv_33=>some (.go (v_33,(w64 (s_15.2+1))))else some (.brk (s_15.1,s_15.2))
noncomputable def mF (e_1:Entry) (zone_2:Int) (wv_3:Window):Option ((List Window)) :=
  (bif e_1.Gone then some true else some (decide (wv_3.From>=wv_3.To))).bind λv_6=>bif v_6 then some ([]:(List Window))else (iJ (([]:List Window),(vH (w64 ((w64 ((w64 (wv_3.From+(w64 (zone_2*60000)))).tdiv 86400000))-2)) e_1.First)) (λs=>jR wv_3 zone_2 e_1 s)).bind λo_21=>thenC o_21 (λs_15=>some s_15.1) (λ_=>none)
def xk (t_1:Window) (wv_2:Window):Option (Window) :=
  some (⟨(vH t_1.From wv_2.From),(yD t_1.To wv_2.To)⟩:Window)
def mf (wv_3:Window) (k_19:Nat) (x_21:Nat) (s_24:(List Window)):Option (Ctl ((List Window)) (Unit)) :=
  (inR (k_19:Int) s_24).bind λ_=>(s_24[(0+((k_19:Int)).toNat)]?).bind λe_30=>(xk e_30 wv_3).bind λr_33=>(inR (k_19:Int) s_24).bind λ_=>(s_24[(0+((k_19:Int)).toNat)]?).bind λe_36=>some (.go (s_24.set (0+((k_19:Int)).toNat) r_33))
noncomputable def mV (e_1:Entry) (zone_2:Int) (wv_3:Window):Option ((List Window)×Int) :=
  (iH ([e_1]:List Entry)).bind λr_6=>bif (r_6 != 0)then some (([]:(List Window)),r_6)else (aQ zone_2 (-1440) 1440).bind λr_9=>bif r_9 then some (([]:(List Window)),1)else (kv wv_3).bind λr_12=>bif (r_12 != 0)then some (([]:(List Window)),r_12)else (mF e_1 zone_2 wv_3).bind λr_15=>(forL (List.range ((r_15.length:Int)).toNat) r_15 (λk x s=>mf wv_3 k x s)).bind λo_27=>thenC o_27 (λs_24=>some (s_24,0)) (λ_=>none)
def pF (wv_1:Window):Option (Bool) :=
  (bif (decide (wv_1.From>=0))then bif (decide (wv_1.From<wv_1.To))then some (decide (wv_1.To<=345686400000))else some false else some false).bind λv_3=>some v_3
noncomputable def jZ (l_1:(List ByteArray)):Option (Int) :=
  bif (decide ((l_1.length:Int)>20))then some 2 else (jP l_1).bind λr_3=>some r_3
noncomputable def fZ (l_1:(List Campaign)) (k_3:Nat) (x_5:Campaign) (s_8:Unit):Option (Ctl (Unit) (Int)) :=
  ((kit_IsKey x_5.Key).bind λr_16=>bif (!r_16)then some true else bif (sNe x_5.Class (⟨#[]⟩:ByteArray))then (kit_IsKey x_5.Class).bind λr_20=>some (!r_20)else some false).bind λv_14=>bif v_14 then some (.ret 5)else (bif (decide ((k_3:Int)>0))then (idx l_1 (w64 ((k_3:Int)-1))).bind λy_26=>some (sLe x_5.Key y_26.Key)else some false).bind λv_23=>bif v_23 then some (.ret 7)else ((pF x_5.Time).bind λr_31=>bif (!r_31)then some true else (aQ x_5.Goal 0 1000000).bind λr_34=>bif r_34 then some true else (aQ x_5.Most 0 1000000).bind λr_37=>bif r_37 then some true else (aQ x_5.Cents 0 1000000000).bind λr_40=>some r_40).bind λv_29=>bif v_29 then some (.ret 1)else (jZ x_5.Tags).bind λr_43=>bif (r_43 != 0)then some (.ret r_43)else some (.go ())
noncomputable def iA (l_1:(List Campaign)):Option (Int) :=
  bif (decide ((l_1.length:Int)>30))then some 2 else (forL l_1 () (λk x s=>fZ l_1 k x s)).bind λo_11=>thenC o_11 (λs_8=>some 0) (λr=>some r)
def uF (c_1:Campaign) (atv_2:Int):Option (Int) :=
  bif (decide (atv_2<c_1.Time.From))then some 0 else bif (decide (atv_2>=c_1.Time.To))then some c_1.Goal else (Lv .i64 (w64 (c_1.Goal*(w64 (atv_2-c_1.Time.From)))) (w64 (c_1.Time.To-c_1.Time.From))).bind λq_6=>some q_6
noncomputable def qG (c_1:Campaign) (atv_2:Int):Option (Int×Int) :=
  (iA ([c_1]:List Campaign)).bind λr_4=>bif (r_4 != 0)then some (0,r_4)else (di atv_2).bind λr_7=>bif (!r_7)then some (0,1)else (uF c_1 atv_2).bind λr_10=>some (r_10,0)
def lL (a_1:Beat) (b_2:Beat):Option (Int) :=
  (strings_Compare a_1.Player b_2.Player).bind λr_5=>(cmp_Compare_int a_1.At b_2.At).bind λr_7=>(qd ([r_5,r_7]:List Int)).bind λr_9=>some r_9
noncomputable def jg (l_1:(List Beat)) (k_3:Nat) (x_5:Beat) (s_8:Unit):Option (Ctl (Unit) (Int)) :=
  (kit_IsKey x_5.Player).bind λr_14=>bif (!r_14)then some (.ret 5)else ((di x_5.At).bind λr_19=>bif (!r_19)then some true else (aQ x_5.Clock 0 345686399999).bind λr_22=>some r_22).bind λv_17=>bif v_17 then some (.ret 1)else (bif (decide ((k_3:Int)>0))then (idx l_1 (w64 ((k_3:Int)-1))).bind λy_28=>(lL y_28 x_5).bind λr_30=>some (decide (r_30>=0))else some false).bind λv_25=>bif v_25 then some (.ret 7)else (bif (decide ((k_3:Int)>0))then (idx l_1 (w64 ((k_3:Int)-1))).bind λy_36=>bif (sEq x_5.Player y_36.Player)then (idx l_1 (w64 ((k_3:Int)-1))).bind λy_39=>some (decide (x_5.Clock<=y_39.Clock))else some false else some false).bind λv_33=>bif v_33 then some (.ret 16)else some (.go ())
noncomputable def kM (l_1:(List Beat)):Option (Int) :=
  bif (decide ((l_1.length:Int)>500))then some 2 else (forL l_1 () (λk x s=>jg l_1 k x s)).bind λo_11=>thenC o_11 (λs_8=>some 0) (λr=>some r)
def qf (player_2:ByteArray) (back_3:Bool) (k_4:Nat) (x_6:Beat) (s_9:(List Beat_)):Option (Ctl ((List Beat_)) (Unit)) :=
  (bif (sNe x_6.Player player_2)then some s_9 else bif back_3 then (jc s_9 ([(⟨x_6.At,x_6.Clock⟩:Beat_)]:List Beat_)).bind λa_23=>some a_23 else (jc s_9 ([(⟨x_6.Clock,x_6.At⟩:Beat_)]:List Beat_)).bind λa_26=>some a_26).bind λv_18=>some (.go v_18)
def qx (l_1:(List Beat)) (player_2:ByteArray) (back_3:Bool):Option ((List Beat_)) :=
  (forL l_1 ([]:List Beat_) (λk x s=>qf player_2 back_3 k x s)).bind λo_15=>thenC o_15 (λs_9=>some s_9) (λ_=>none)
def oo (l_1:(List Beat_)) (n_2:Int) (s_9:Int):Option (Ctl (Int) (Unit)) :=
  (bif (decide (s_9<(l_1.length:Int)))then (idx l_1 s_9).bind λy_17=>some (decide (y_17.f_from<=n_2))else some false).bind λv_14=>bif v_14 then some (.go (w64 (s_9+1)))else some (.brk s_9)
noncomputable def pG (l_1:(List Beat_)) (n_2:Int):Option (Int×Int) :=
  bif ((l_1.length:Int)==0)then some (0,8)else (iJ 0 (λs=>oo l_1 n_2 s)).bind λo_12=>thenC o_12 (λs_9=>bif (s_9==0)then (idx l_1 0).bind λy_21=>(idx l_1 0).bind λy_23=>(di (w64 (y_21.f_to-(w64 (y_23.f_from-n_2))))).bind λr_25=>bif (!r_25)then some (0,11)else some ((w64 (y_21.f_to-(w64 (y_23.f_from-n_2)))),0)else bif (s_9==(l_1.length:Int))then (idx l_1 (w64 (s_9-1))).bind λy_29=>(idx l_1 (w64 (s_9-1))).bind λy_31=>(di (w64 ((w64 (y_29.f_to+n_2))-y_31.f_from))).bind λr_33=>bif (!r_33)then some (0,11)else some ((w64 ((w64 (y_29.f_to+n_2))-y_31.f_from)),0)else (idx l_1 (w64 (s_9-1))).bind λy_36=>(idx l_1 s_9).bind λy_38=>(bif (decide ((w64 (y_38.f_from-y_36.f_from))>2592000000))then some true else some (decide ((w64 (y_38.f_to-y_36.f_to))>2592000000))).bind λv_42=>bif v_42 then some (0,2)else (Lv .i64 (w64 ((w64 (n_2-y_36.f_from))*(w64 (y_38.f_to-y_36.f_to)))) (w64 (y_38.f_from-y_36.f_from))).bind λq_46=>(di (w64 (y_36.f_to+q_46))).bind λr_48=>bif (!r_48)then some (0,11)else some ((w64 (y_36.f_to+q_46)),0)) (λ_=>none)
noncomputable def qL (l_1:(List Beat)) (player_2:ByteArray) (n_3:Int) (back_4:Bool):Option (Int×Int) :=
  (kM l_1).bind λr_5=>bif (r_5 != 0)then some (0,r_5)else (kit_IsKey player_2).bind λr_8=>bif (!r_8)then some (0,5)else (di n_3).bind λr_11=>bif (!r_11)then some (0,1)else (qx l_1 player_2 back_4).bind λr_14=>(pG r_14 n_3).bind λr_16=>some (r_16.1,r_16.2)
noncomputable def qI (l_1:(List Beat)) (player_2:ByteArray) (clock_3:Int):Option (Int×Int) :=
  (qL l_1 player_2 clock_3 false).bind λr_4=>some (r_4.1,r_4.2)
noncomputable def jh (l_1:(List Post)) (k_3:Nat) (x_5:Post) (s_8:Unit):Option (Ctl (Unit) (Int)) :=
  (kit_IsKey x_5.Player).bind λr_14=>bif (!r_14)then some (.ret 5)else ((aQ x_5.X (-100000) 100000).bind λr_19=>bif r_19 then some true else (aQ x_5.Y (-100000) 100000).bind λr_22=>some r_22).bind λv_17=>bif v_17 then some (.ret 1)else (bif (decide ((k_3:Int)>0))then (idx l_1 (w64 ((k_3:Int)-1))).bind λy_28=>some (sLe x_5.Player y_28.Player)else some false).bind λv_25=>bif v_25 then some (.ret 7)else some (.go ())
noncomputable def lh (l_1:(List Post)):Option (Int) :=
  bif (decide ((l_1.length:Int)>500))then some 2 else (forL l_1 () (λk x s=>jh l_1 k x s)).bind λo_11=>thenC o_11 (λs_8=>some 0) (λr=>some r)
noncomputable def lX (l_1:(List Alert)) (posts_2:(List Post)):Option (Int) :=
  (bW l_1).bind λr_3=>bif (r_3 != 0)then some r_3 else (lh posts_2).bind λr_6=>some r_6
def rA (r_1:Rect) (p_2:Post):Option (Bool) :=
  (bif (decide (r_1.X<=p_2.X))then bif (decide (p_2.X<(w64 (r_1.X+r_1.W))))then bif (decide (r_1.Y<=p_2.Y))then some (decide (p_2.Y<(w64 (r_1.Y+r_1.H))))else some false else some false else some false).bind λv_4=>some v_4
def fP (f_2:Rect->Option Bool) (k_3:Nat) (x_5:Rect) (s_8:Unit):Option (Ctl (Unit) (Int)) :=
  (f_2 x_5).bind λr_13=>bif r_13 then some (.ret (k_3:Int))else some (.go ())
def gZ (s_1:(List Rect)) (f_2:Rect->Option Bool):Option (Int) :=
  (forL s_1 () (λk x s=>fP f_2 k x s)).bind λo_11=>thenC o_11 (λs_8=>some (-1)) (λr=>some r)
def fV (s_1:(List Rect)) (f_2:Rect->Option Bool):Option (Bool) :=
  (gZ s_1 f_2).bind λr_3=>some (decide (r_3>=0))
def qC (a_1:Alert) (p_2:Post):Option (Bool) :=
  (fV a_1.Areas (λx0=>rA x0 p_2)).bind λr_5=>some r_5
noncomputable def nX (a_1:Alert) (p_2:Post):Option (Bool×Int) :=
  (lX ([a_1]:List Alert) ([p_2]:List Post)).bind λr_5=>bif (r_5 != 0)then some (false,r_5)else (qC a_1 p_2).bind λr_8=>some (r_8,0)
noncomputable def qg  : Option (Bool) :=
  (qJ ([(⟨0,0,2,2⟩:Rect),(⟨1,1,2,2⟩:Rect)]:List Rect)).bind λr_1=>(mV (⟨(⟨#[97]⟩:ByteArray),(⟨#[98]⟩:ByteArray),0,0,0,1,127,([]:List Int),1,2,0,([]:List ByteArray),false⟩:Entry) 0 (⟨0,86400000⟩:Window)).bind λr_3=>(qG (⟨(⟨#[97]⟩:ByteArray),(⟨#[]⟩:ByteArray),(⟨0,100⟩:Window),([]:List ByteArray),10,0,0⟩:Campaign) 50).bind λr_5=>(qI ([(⟨(⟨#[112]⟩:ByteArray),0,100⟩:Beat),(⟨(⟨#[112]⟩:ByteArray),1000,1300⟩:Beat)]:List Beat) (⟨#[112]⟩:ByteArray) 700).bind λr_7=>(nX (⟨(⟨#[97]⟩:ByteArray),(⟨#[115]⟩:ByteArray),1,([]:List ByteArray),0,5,1,([(⟨0,0,2,2⟩:Rect)]:List Rect),(⟨#[120]⟩:ByteArray)⟩:Alert) (⟨(⟨#[112]⟩:ByteArray),1,1⟩:Post)).bind λr_10=>((p9 ([r_1.2,r_3.2,r_5.2,r_7.2,r_10.2]:List Int)).bind λr_14=>bif (r_14==0)then bif (r_1.1==7)then bif ((r_3.1.length:Int)==1)then bif (r_5.1==5)then bif (r_7.1==500)then some r_10.1 else some false else some false else some false else some false else some false).bind λv_12=>some v_12
def iI (k_10:Nat) (x_12:Alert) (s_15:(List Alert)×(List Alert)×(List Int)×Int):Option (Ctl ((List Alert)×(List Alert)×(List Int)×Int) (Unit)) :=
  (iB (⟨s_15.2.2.1,s_15.2.2.2⟩:Stream) 3).bind λr_27=>(bif (r_27.1==0)then (jc s_15.1 ([x_12]:List Alert)).bind λa_35=>some (a_35,s_15.2.1)else bif (r_27.1==1)then (jc s_15.2.1 ([x_12]:List Alert)).bind λa_39=>some (s_15.1,a_39)else (jc s_15.1 ([x_12]:List Alert)).bind λa_42=>(jc s_15.2.1 ([x_12]:List Alert)).bind λa_51=>some (a_42,a_51)).bind λv_30=>some (.go (v_30.1,v_30.2,r_27.2.L,r_27.2.f_at))
noncomputable def gD (r_3:(List Alert)×Stream) (r_99:(List ByteArray)×Int) (k_107:Nat) (x_109:ByteArray) (s_112:Unit):Option (Ctl (Unit) (Bool)) :=
  (lK r_3.1 x_109).bind λr_117=>(bif (r_117.2 != 0)then some true else (cK r_117.1 r_99.1).bind λr_122=>some (!r_122)).bind λv_119=>bif v_119 then some (.ret false)else some (.go ())
noncomputable def gy (r_64:(List ByteArray)×Int) (r_3:(List Alert)×Stream) (r_6:Int×Stream) (k_77:Nat) (x_79:Alert) (s_82:Unit):Option (Ctl (Unit) (Bool)) :=
  (cO r_64.1 x_79.Id).bind λr_88=>(bE r_3.1 (λx0=>ib x0 x_79 r_6.1)).bind λr_90=>(bif (x_79.Kind != 3)then bif (decide (x_79.At<=r_6.1))then bif (decide (r_6.1<x_79.Until))then some (!(r_88==(!r_90)))else some (!(r_88==false))else some (!(r_88==false))else some (!(r_88==false))).bind λv_93=>bif v_93 then some (.ret false)else (lK r_3.1 x_79.Id).bind λr_99=>(bif (r_99.2 != 0)then some true else (cO r_99.1 x_79.Id).bind λr_104=>some (!r_104)).bind λv_101=>bif v_101 then some (.ret false)else (forL r_99.1 () (λk x s=>gD r_3 r_99 k x s)).bind λo_115=>thenC o_115 (λs_112=>some (.go ())) (λr=>some (.ret r))
noncomputable def lH (l_1:(List Int)):Option (Bool) :=
  (gG (⟨l_1,0⟩:Stream) 6).bind λr_3=>(dI r_3.2 0 60).bind λr_6=>(forL r_3.1 (([]:List Alert),([]:List Alert),r_6.2.L,r_6.2.f_at) (λk x s=>iI k x s)).bind λo_24=>thenC o_24 (λs_15=>(oQ s_15.1 s_15.2.1).bind λr_60=>(oQ s_15.2.1 s_15.1).bind λr_62=>(nS r_3.1 r_6.1).bind λr_64=>((p9 ([r_60.2,r_62.2,r_64.2]:List Int)).bind λr_68=>bif (r_68 != 0)then some true else (aO r_60.1 r_3.1).bind λr_71=>bif (!r_71)then some true else (aO r_62.1 r_3.1).bind λr_74=>some (!r_74)).bind λv_66=>bif v_66 then some false else (forL r_3.1 () (λk x s=>gy r_64 r_3 r_6 k x s)).bind λo_85=>thenC o_85 (λs_82=>(qg).bind λr_125=>some r_125) (λr=>some r)) (λ_=>none)
end Go.Proofs.YtkjlhdminmpmkabGreatDoor.Law

