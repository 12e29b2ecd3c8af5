/-
  The functions of the program, as plain functions over data (written by a program of ours).
-/
import Derived.Test.YticmkhcacamhkaaGreatDoorEng5
open Go Go.Eng
namespace Go.Proofs.YticmkhcacamhkaaGreatDoor.Law
set_option maxRecDepth 100000
set_option linter.unusedVariables false
set_option maxHeartbeats 1000000
structure Stream where
  L:(List Int)
  f_at:Int
def Stream.enc (s:Stream):List D:=[dl eI s.L,.int .i64 s.f_at]

structure Rect where
  X:Int
  Y:Int
  W:Int
  H:Int
def Rect.enc (s:Rect):List D:=[.int .i64 s.X,.int .i64 s.Y,.int .i64 s.W,.int .i64 s.H]

structure Alert where
  Id:ByteArray
  Sender:ByteArray
  Kind:Int
  Refs:(List ByteArray)
  At:Int
  Until:Int
  Weight:Int
  Areas:(List Rect)
  Text:ByteArray
def Alert.enc (s:Alert):List D:=[.str s.Id,.str s.Sender,.int .i64 s.Kind,dl eS s.Refs,.int .i64 s.At,.int .i64 s.Until,.int .i64 s.Weight,dl Rect.enc s.Areas,.str s.Text]

structure Entry where
  Key:ByteArray
  Item:ByteArray
  Version:Int
  First:Int
  Last:Int
  Every:Int
  Days:Int
  Except:(List Int)
  From:Int
  To:Int
  Prio:Int
  Tags:(List ByteArray)
  Gone:Bool
def Entry.enc (s:Entry):List D:=[.str s.Key,.str s.Item,.int .i64 s.Version,.int .i64 s.First,.int .i64 s.Last,.int .i64 s.Every,.int .i64 s.Days,dl eI s.Except,.int .i64 s.From,.int .i64 s.To,.int .i64 s.Prio,dl eS s.Tags,.bool s.Gone]

structure Post where
  Player:ByteArray
  X:Int
  Y:Int
def Post.enc (s:Post):List D:=[.str s.Player,.int .i64 s.X,.int .i64 s.Y]

structure Window where
  From:Int
  To:Int
def Window.enc (s:Window):List D:=[.int .i64 s.From,.int .i64 s.To]

structure Slot_ where
  Time:Window
  Entry:ByteArray
def Slot_.enc (s:Slot_):List D:=[.int .i64 s.Time.From,.int .i64 s.Time.To,.str s.Entry]

structure Player where
  Key:ByteArray
  Screen:ByteArray
  Zone:Int
  Tags:(List ByteArray)
def Player.enc (s:Player):List D:=[.str s.Key,.str s.Screen,.int .i64 s.Zone,dl eS s.Tags]

structure Span where
  f_e:(Option Entry)
  f_time:Window
def Span.enc (s:Span):List D:=[dP Entry.enc s.f_e,.int .i64 s.f_time.From,.int .i64 s.f_time.To]

structure Run where
  f_from:Int
  f_to:Int
def Run.enc (s:Run):List D:=[.int .i64 s.f_from,.int .i64 s.f_to]

structure Campaign where
  Key:ByteArray
  Class:ByteArray
  Time:Window
  Tags:(List ByteArray)
  Goal:Int
  Most:Int
  Cents:Int
def Campaign.enc (s:Campaign):List D:=[.str s.Key,.str s.Class,.int .i64 s.Time.From,.int .i64 s.Time.To,dl eS s.Tags,.int .i64 s.Goal,.int .i64 s.Most,.int .i64 s.Cents]

structure Beat where
  Player:ByteArray
  At:Int
  Clock:Int
def Beat.enc (s:Beat):List D:=[.str s.Player,.int .i64 s.At,.int .i64 s.Clock]

structure Beat_ where
  f_from:Int
  f_to:Int
def Beat_.enc (s:Beat_):List D:=[.int .i64 s.f_from,.int .i64 s.f_to]

def sQ (x_1:Int) (n_2:Int):Option (Int) :=
  bif (decide (n_2<1))then some 0 else (IJ .i64 x_1 n_2).bind λq_4=>(bif (decide (q_4<0))then some (w64 (q_4+n_2))else some q_4).bind λv_6=>some v_6
def iA (s_1:Stream) (n_2:Int):Option (Int×Stream) :=
  bif ((s_1.L.length:Int)==0)then (sQ (w64 ((w64 (s_1.f_at+1))*7919)) n_2).bind λr_4=>some (r_4,(⟨s_1.L,(w64 (s_1.f_at+1))⟩:Stream))else (IJ .i64 (w64 ((w64 (s_1.f_at+1))-1)) (s_1.L.length:Int)).bind λq_6=>(Lc .i64 (w64 ((w64 (s_1.f_at+1))-1)) (s_1.L.length:Int)).bind λq_8=>(idx s_1.L q_6).bind λy_10=>(sQ y_10 1073741824).bind λr_12=>(sQ (w64 (r_12+(w64 (q_8*(w64 (7919+q_6)))))) n_2).bind λr_14=>some (r_14,(⟨s_1.L,(w64 (s_1.f_at+1))⟩:Stream))
def bT (s_1:Stream) (low_2:Int) (high_3:Int):Option (Int×Stream) :=
  bif (decide (high_3<low_2))then some (low_2,s_1)else (iA s_1 (w64 ((w64 (high_3-low_2))+1))).bind λr_5=>some ((w64 (low_2+r_5.1)),r_5.2)
def iG (s_1:Stream) (l_2:(List ByteArray)):Option (ByteArray×Stream) :=
  (iA s_1 (l_2.length:Int)).bind λr_3=>(idx l_2 r_3.1).bind λy_6=>some (y_6,r_3.2)
def dH (s_1:Stream) (l_2:(List Int)):Option (Int×Stream) :=
  (iA s_1 (l_2.length:Int)).bind λr_3=>(idx l_2 r_3.1).bind λy_6=>some (y_6,r_3.2)
def gH (s_1:Stream) (n_2:Int):Option (Bool×Stream) :=
  (iA s_1 n_2).bind λr_3=>some ((r_3.1==0),r_3.2)
def jA (s_1:Stream):Option (Rect×Stream) :=
  (bT s_1 (-2) 8).bind λr_3=>(bT r_3.2 (-2) 8).bind λr_6=>(bT r_6.2 1 5).bind λr_9=>(bT r_9.2 1 5).bind λr_12=>some ((⟨r_3.1,r_6.1,r_9.1,r_12.1⟩:Rect),r_12.2)
def mq (a_1:Alert) (b_2:Alert):Option (Int) :=
  bif (a_1.At != b_2.At)then some (w64 (a_1.At-b_2.At))else bif (sLt a_1.Id b_2.Id)then some (-1)else some 1
def rM (x_1:Int):Option (Int) :=
  (bif (decide (x_1>=4294967296))then (Ce .u64 x_1 32).bind λq_5=>some (q_5,32)else some (x_1,0)).bind λv_2=>(bif (decide (v_2.1>=65536))then (Ce .u64 v_2.1 16).bind λq_10=>some (q_10,(w64 (v_2.2+16)))else some (v_2.1,v_2.2)).bind λv_7=>(bif (decide (v_7.1>=256))then (Ce .u64 v_7.1 8).bind λq_15=>some (q_15,(w64 (v_7.2+8)))else some (v_7.1,v_7.2)).bind λv_12=>(q9 (⟨#[0,1,2,2,3,3,3,3,4,4,4,4,4,4,4,4,5,5,5,5,5,5,5,5,5,5,5,5,5,5,5,5,6,6,6,6,6,6,6,6,6,6,6,6,6,6,6,6,6,6,6,6,6,6,6,6,6,6,6,6,6,6,6,6,7,7,7,7,7,7,7,7,7,7,7,7,7,7,7,7,7,7,7,7,7,7,7,7,7,7,7,7,7,7,7,7,7,7,7,7,7,7,7,7,7,7,7,7,7,7,7,7,7,7,7,7,7,7,7,7,7,7,7,7,7,7,7,7,8,8,8,8,8,8,8,8,8,8,8,8,8,8,8,8,8,8,8,8,8,8,8,8,8,8,8,8,8,8,8,8,8,8,8,8,8,8,8,8,8,8,8,8,8,8,8,8,8,8,8,8,8,8,8,8,8,8,8,8,8,8,8,8,8,8,8,8,8,8,8,8,8,8,8,8,8,8,8,8,8,8,8,8,8,8,8,8,8,8,8,8,8,8,8,8,8,8,8,8,8,8,8,8,8,8,8,8,8,8,8,8,8,8,8,8,8,8,8,8,8,8,8,8,8,8,8,8]⟩:ByteArray) (IntKind.u8.wrap v_12.1)).bind λb_17=>some (w64 (v_12.2+(w64 (b_17.toNat:Int))))
def fO (x_1:Int):Option (Int) :=
  (rM x_1).bind λr_2=>some r_2
def eQ (a_2:Int) (s_21:(List Alert)×Int):Option (Ctl ((List Alert)×Int) (Unit)) :=
  (bif (decide (s_21.2>a_2))then (inR s_21.2 s_21.1).bind λ_=>(s_21.1[(0+(s_21.2).toNat)]?).bind λe_30=>(inR (w64 (s_21.2-1)) s_21.1).bind λ_=>(s_21.1[(0+((w64 (s_21.2-1))).toNat)]?).bind λe_33=>(mq e_30 e_33).bind λr_35=>some (decide (r_35<0))else some false).bind λv_26=>bif v_26 then (inR (w64 (s_21.2-1)) s_21.1).bind λ_=>(s_21.1[(0+((w64 (s_21.2-1))).toNat)]?).bind λe_39=>(inR s_21.2 s_21.1).bind λ_=>(s_21.1[(0+(s_21.2).toNat)]?).bind λe_42=>(inR s_21.2 s_21.1).bind λ_=>(s_21.1[(0+(s_21.2).toNat)]?).bind λe_45=>(inR (w64 (s_21.2-1)) (s_21.1.set (0+(s_21.2).toNat) e_39)).bind λ_=>((s_21.1.set (0+(s_21.2).toNat) e_39)[(0+((w64 (s_21.2-1))).toNat)]?).bind λe_48=>some (.go (((s_21.1.set (0+(s_21.2).toNat) e_39).set (0+((w64 (s_21.2-1))).toNat) e_42),(w64 (s_21.2-1))))else some (.brk (s_21.1,s_21.2))
noncomputable def eO (b_3:Int) (a_2:Int) (s_10:(List Alert)×Int):Option (Ctl ((List Alert)×Int) (Unit)) :=
  bif (decide (s_10.2<b_3))then (fC (s_10.1,s_10.2) (λs=>eQ a_2 s)).bind λo_24=>thenC o_24 (λs_21=>some (.go (s_21.1,(w64 (s_10.2+1))))) (λ_=>none)else some (.brk (s_10.1,s_10.2))
noncomputable def fD (data_1:(List Alert)) (a_2:Int) (b_3:Int):Option ((List Alert)) :=
  (fC (data_1,(w64 (a_2+1))) (λs=>eO b_3 a_2 s)).bind λo_13=>thenC o_13 (λs_10=>some s_10.1) (λ_=>none)
noncomputable def fQ (b_3:Int) (a_2:Int) (data_1:(List Alert)) (limit_4:Int) (s_11:Unit):Option (Ctl (Unit) ((List Alert))) :=
  bif (decide ((w64 (b_3-a_2))<=12))then (fD data_1 a_2 b_3).bind λr_17=>(iJ r_17 data_1).bind λ_=>some (.ret r_17)else bif (limit_4==0)then none else none
noncomputable def gK (data_1:(List Alert)) (a_2:Int) (b_3:Int) (limit_4:Int):Option ((List Alert)) :=
  (fC () (λs=>fQ b_3 a_2 data_1 limit_4 s)).bind λo_14=>thenC o_14 (λs_11=>some data_1) (λr=>some r)
noncomputable def dm (x_1:(List Alert)):Option ((List Alert)) :=
  (fO (IntKind.u64.wrap (x_1.length:Int))).bind λr_3=>(gK x_1 0 (x_1.length:Int) r_3).bind λr_5=>(iJ r_5 x_1).bind λ_=>some r_5
def dZ (x_10:ByteArray) (k_45:Nat) (x_47:ByteArray) (s_50:(List ByteArray)×(List Int)×Int):Option (Ctl ((List ByteArray)×(List Int)×Int) (Unit)) :=
  (bif (sNe x_47 x_10)then (gH (⟨s_50.2.1,s_50.2.2⟩:Stream) 3).bind λr_61=>some (r_61.1,r_61.2.L,r_61.2.f_at)else some (false,s_50.2.1,s_50.2.2)).bind λv_58=>(bif v_58.1 then (lX s_50.1 ([x_47]:List ByteArray)).bind λa_68=>some a_68 else some s_50.1).bind λv_64=>some (.go (v_64,v_58.2.1,v_58.2.2))
def dY (k_85:Nat) (x_87:Nat) (s_90:(List Rect)×(List Int)×Int):Option (Ctl ((List Rect)×(List Int)×Int) (Unit)) :=
  (jA (⟨s_90.2.1,s_90.2.2⟩:Stream)).bind λr_97=>(lX s_90.1 ([r_97.1]:List Rect)).bind λa_100=>some (.go (a_100,r_97.2.L,r_97.2.f_at))
def fA (k_8:Nat) (x_10:ByteArray) (s_13:(List Alert)×(List Int)×Int):Option (Ctl ((List Alert)×(List Int)×Int) (Unit)) :=
  (iG (⟨s_13.2.1,s_13.2.2⟩:Stream) ([(⟨#[119,120]⟩:ByteArray),(⟨#[119,120]⟩:ByteArray),(⟨#[102,105,114,101]⟩:ByteArray)]:List ByteArray)).bind λr_21=>(dH r_21.2 ([1,1,2,2,3]:List Int)).bind λr_24=>(bT r_24.2 0 6).bind λr_27=>(dH r_27.2 ([1,5,5,9]:List Int)).bind λr_30=>(iG r_30.2 ([(⟨#[102,108,111,111,100]⟩:ByteArray),(⟨#[102,105,114,101,32,105,110,32,116,104,101,32,109,97,108,108]⟩:ByteArray)]:List ByteArray)).bind λr_33=>(dH r_33.2 ([1,10,20,50]:List Int)).bind λr_37=>(bif (r_24.1 != 1)then (forL ([(⟨#[97,97]⟩:ByteArray),(⟨#[97,98]⟩:ByteArray),(⟨#[97,99]⟩:ByteArray),(⟨#[97,100]⟩:ByteArray),(⟨#[122,122]⟩:ByteArray)]:List ByteArray) (([]:List ByteArray),r_37.2.L,r_37.2.f_at) (λk x s=>dZ x_10 k x s)).bind λo_56=>thenC o_56 (λs_50=>bif ((s_50.1.length:Int)==0)then some (s_50.2.1,s_50.2.2,([(⟨#[122,121]⟩:ByteArray)]:List ByteArray))else some (s_50.2.1,s_50.2.2,s_50.1)) (λ_=>none)else some (r_37.2.L,r_37.2.f_at,([]:List ByteArray))).bind λv_42=>(bif (r_24.1==3)then (iG (⟨v_42.1,v_42.2.1⟩:Stream) ([(⟨#[]⟩:ByteArray),(⟨#[111,118,101,114]⟩:ByteArray)]:List ByteArray)).bind λr_79=>some (([]:List Rect),r_79.2.L,r_79.2.f_at,r_79.1)else (bT (⟨v_42.1,v_42.2.1⟩:Stream) 1 2).bind λr_82=>(forL (List.range (r_82.1).toNat) (([]:List Rect),r_82.2.L,r_82.2.f_at) (λk x s=>dY k x s)).bind λo_95=>thenC o_95 (λs_90=>some (s_90.1,s_90.2.1,s_90.2.2,r_33.1)) (λ_=>none)).bind λv_75=>(lX s_13.1 ([(⟨x_10,r_21.1,r_24.1,v_42.2.2,(w64 (r_27.1*5)),(w64 ((w64 (r_27.1*5))+r_37.1)),r_30.1,v_75.1,v_75.2.2.2⟩:Alert)]:List Alert)).bind λa_103=>some (.go (a_103,v_75.2.1,v_75.2.2.1))
noncomputable def gz (s_1:Stream) (most_2:Int):Option ((List Alert)×Stream) :=
  (bT s_1 0 most_2).bind λr_3=>(Ht ([(⟨#[97,97]⟩:ByteArray),(⟨#[97,98]⟩:ByteArray),(⟨#[97,99]⟩:ByteArray),(⟨#[97,100]⟩:ByteArray),(⟨#[97,101]⟩:ByteArray),(⟨#[97,102]⟩:ByteArray)]:List ByteArray) 0 r_3.1).bind λy_6=>(forL y_6 (([]:List Alert),r_3.2.L,r_3.2.f_at) (λk x s=>fA k x s)).bind λo_19=>thenC o_19 (λs_13=>(dm s_13.1).bind λr_106=>(iJ r_106 s_13.1).bind λ_=>some (r_106,(⟨s_13.2.1,s_13.2.2⟩:Stream))) (λ_=>none)
def iO (k_50:Nat) (x_52:Int) (s_55:(List Int)×(List Int)×Int):Option (Ctl ((List Int)×(List Int)×Int) (Unit)) :=
  (gH (⟨s_55.2.1,s_55.2.2⟩:Stream) 4).bind λr_63=>(bif r_63.1 then (lX s_55.1 ([x_52]:List Int)).bind λa_70=>some a_70 else some s_55.1).bind λv_66=>some (.go (v_66,r_63.2.L,r_63.2.f_at))
def iM (k_73:Nat) (x_75:ByteArray) (s_78:(List ByteArray)×(List Int)×Int):Option (Ctl ((List ByteArray)×(List Int)×Int) (Unit)) :=
  (gH (⟨s_78.2.1,s_78.2.2⟩:Stream) 4).bind λr_86=>(bif r_86.1 then (lX s_78.1 ([x_75]:List ByteArray)).bind λa_93=>some a_93 else some s_78.1).bind λv_89=>some (.go (v_89,r_86.2.L,r_86.2.f_at))
def eY (k_2:Nat) (x_4:ByteArray) (s_7:(List Entry)×(List Int)×Int):Option (Ctl ((List Entry)×(List Int)×Int) (Unit)) :=
  (gH (⟨s_7.2.1,s_7.2.2⟩:Stream) 4).bind λr_15=>bif r_15.1 then some (.go (s_7.1,r_15.2.L,r_15.2.f_at))else (iG r_15.2 ([(⟨#[105,97]⟩:ByteArray),(⟨#[105,98]⟩:ByteArray),(⟨#[105,99]⟩:ByteArray)]:List ByteArray)).bind λr_19=>(bT r_19.2 0 2).bind λr_22=>(dH r_22.2 ([0,0,1,3]:List Int)).bind λr_25=>(dH r_25.2 ([1,1,2,3,7]:List Int)).bind λr_28=>(dH r_28.2 ([127,127,31,96,1,2]:List Int)).bind λr_31=>(dH r_31.2 ([0,0,60,600,1380]:List Int)).bind λr_34=>(dH r_34.2 ([0,60,120,600,720,1439]:List Int)).bind λr_37=>(dH r_37.2 ([0,0,1,5]:List Int)).bind λr_40=>(gH r_40.2 8).bind λr_43=>(dH r_43.2 ([0,1,5,10,30]:List Int)).bind λr_47=>(forL ([1,2,8]:List Int) (([]:List Int),r_47.2.L,r_47.2.f_at) (λk x s=>iO k x s)).bind λo_61=>thenC o_61 (λs_55=>(forL ([(⟨#[99,105,116,121]⟩:ByteArray),(⟨#[109,97,108,108]⟩:ByteArray)]:List ByteArray) (([]:List ByteArray),s_55.2.1,s_55.2.2) (λk x s=>iM k x s)).bind λo_84=>thenC o_84 (λs_78=>(lX s_7.1 ([(⟨x_4,r_19.1,r_22.1,r_25.1,(w64 (r_25.1+r_47.1)),r_28.1,r_31.1,s_55.1,r_34.1,r_37.1,r_40.1,s_78.1,r_43.1⟩:Entry)]:List Entry)).bind λa_96=>some (.go (a_96,s_78.2.1,s_78.2.2))) (λ_=>none)) (λ_=>none)
def iw (s_1:Stream):Option ((List Entry)×Stream) :=
  (forL ([(⟨#[101,97]⟩:ByteArray),(⟨#[101,98]⟩:ByteArray),(⟨#[101,99]⟩:ByteArray),(⟨#[101,100]⟩:ByteArray)]:List ByteArray) (([]:List Entry),s_1.L,s_1.f_at) (λk x s=>eY k x s)).bind λo_13=>thenC o_13 (λs_7=>some (s_7.1,(⟨s_7.2.1,s_7.2.2⟩:Stream))) (λ_=>none)
def kv (s_1:ByteArray) (s_7:Int):Option (Ctl (Int) (Bool)) :=
  bif (decide (s_7<(s_1.size:Int)))then (q9 s_1 s_7).bind λb_13=>(bif (decide ((b_13.toNat:Int)>=97))then bif (decide ((b_13.toNat:Int)<=122))then some false else bif (decide (s_7>0))then bif (decide ((b_13.toNat:Int)>=48))then bif (decide ((b_13.toNat:Int)<=57))then some false else bif ((b_13.toNat:Int)==45)then some false else some (!((b_13.toNat:Int)==95))else bif ((b_13.toNat:Int)==45)then some false else some (!((b_13.toNat:Int)==95))else some true else bif (decide (s_7>0))then bif (decide ((b_13.toNat:Int)>=48))then bif (decide ((b_13.toNat:Int)<=57))then some false else bif ((b_13.toNat:Int)==45)then some false else some (!((b_13.toNat:Int)==95))else bif ((b_13.toNat:Int)==45)then some false else some (!((b_13.toNat:Int)==95))else some true).bind λv_15=>bif v_15 then some (.ret false)else some (.go (w64 (s_7+1)))else some (.brk s_7)
noncomputable def kit_IsKey (s_1:ByteArray):Option (Bool) :=
  (fC 0 (λs=>kv s_1 s)).bind λo_10=>thenC o_10 (λs_7=>(bif (sNe s_1 (⟨#[]⟩:ByteArray))then some (decide ((s_1.size:Int)<=40))else some false).bind λv_30=>some v_30) (λr=>some r)
def aQ (n_1:Int) (low_2:Int) (high_3:Int):Option (Bool) :=
  (bif (decide (n_1<low_2))then some true else some (decide (n_1>high_3))).bind λv_4=>some v_4
noncomputable def jV (a_1:Alert) (k_4:Nat) (x_6:ByteArray) (s_9:Unit):Option (Ctl (Unit) (Int)) :=
  (kit_IsKey x_6).bind λr_14=>bif (!r_14)then some (.ret 5)else (bif (decide ((k_4:Int)>0))then (idx a_1.Refs (w64 ((k_4:Int)-1))).bind λy_20=>some (sLe x_6 y_20)else some false).bind λv_17=>bif v_17 then some (.ret 7)else bif (sEq x_6 a_1.Id)then some (.ret 14)else some (.go ())
noncomputable def l5 (a_1:Alert):Option (Int) :=
  bif (decide ((a_1.Refs.length:Int)>20))then some 2 else (forL a_1.Refs () (λk x s=>jV a_1 k x s)).bind λo_12=>thenC o_12 (λs_9=>bif (!((a_1.Kind==1)==((a_1.Refs.length:Int)==0)))then some 3 else some 0) (λr=>some r)
def dS (n_1:Int):Option (Bool) :=
  (bif (decide (n_1>=0))then some (decide (n_1<345686400000))else some false).bind λv_2=>some v_2
def iT (r_1:Rect):Option (Int) :=
  ((aQ r_1.X (-100000) 100000).bind λr_5=>bif r_5 then some true else (aQ r_1.Y (-100000) 100000).bind λr_8=>some r_8).bind λv_3=>bif v_3 then some 1 else ((aQ r_1.W 1 (w64 (100000-r_1.X))).bind λr_13=>bif r_13 then some true else (aQ r_1.H 1 (w64 (100000-r_1.Y))).bind λr_16=>some r_16).bind λv_11=>bif v_11 then some 1 else some 0
def bE (s_1:ByteArray):Option (Int) :=
  (q9 s_1 0).bind λb_2=>(q9 s_1 1).bind λb_4=>(AZ .u64 (IntKind.u64.wrap (b_4.toNat:Int)) 8).bind λq_6=>(q9 s_1 2).bind λb_8=>(AZ .u64 (IntKind.u64.wrap (b_8.toNat:Int)) 16).bind λq_10=>(q9 s_1 3).bind λb_12=>(AZ .u64 (IntKind.u64.wrap (b_12.toNat:Int)) 24).bind λq_14=>(q9 s_1 4).bind λb_16=>(AZ .u64 (IntKind.u64.wrap (b_16.toNat:Int)) 32).bind λq_18=>(q9 s_1 5).bind λb_20=>(AZ .u64 (IntKind.u64.wrap (b_20.toNat:Int)) 40).bind λq_22=>(q9 s_1 6).bind λb_24=>(AZ .u64 (IntKind.u64.wrap (b_24.toNat:Int)) 48).bind λq_26=>(q9 s_1 7).bind λb_28=>(AZ .u64 (IntKind.u64.wrap (b_28.toNat:Int)) 56).bind λq_30=>some (orI .u64 (orI .u64 (orI .u64 (orI .u64 (orI .u64 (orI .u64 (orI .u64 (IntKind.u64.wrap (b_2.toNat:Int)) q_6) q_10) q_14) q_18) q_22) q_26) q_30)
def gZ (s_45:ByteArray):Option (Ctl (ByteArray) (Unit)) :=
  (bif (decide ((s_45.size:Int)>32))then (bE s_45).bind λr_53=>(vF s_45 8 s_45.size).bind λy_55=>(bE y_55).bind λr_57=>(vF s_45 16 s_45.size).bind λy_59=>(bE y_59).bind λr_61=>(vF s_45 24 s_45.size).bind λy_63=>(bE y_63).bind λr_65=>some ((ru .u64 (orI .u64 (orI .u64 r_53 r_57) (orI .u64 r_61 r_65)) 9259542123273814144)==0)else some false).bind λv_50=>bif v_50 then (vF s_45 32 s_45.size).bind λy_68=>some (.go y_68)else some (.brk s_45)
noncomputable def fF (s_7:ByteArray):Option (Ctl (ByteArray) (Unit)) :=
  bif (decide ((s_7.size:Int)>0))then (q9 s_7 0).bind λb_13=>bif (decide ((b_13.toNat:Int)<128))then (vF s_7 1 s_7.size).bind λy_16=>(bif (decide ((y_16.size:Int)>8))then (bE y_16).bind λr_21=>some ((ru .u64 r_21 9259542123273814144)==0)else some false).bind λv_18=>(bif v_18 then (vF y_16 8 y_16.size).bind λy_26=>(bif (decide ((y_26.size:Int)>16))then (bE y_26).bind λr_31=>(vF y_26 8 y_26.size).bind λy_33=>(bE y_33).bind λr_35=>some ((ru .u64 (orI .u64 r_31 r_35) 9259542123273814144)==0)else some false).bind λv_28=>bif v_28 then (vF y_26 16 y_26.size).bind λy_38=>(fC y_38 (λs=>gZ s)).bind λo_48=>thenC o_48 (λs_45=>some s_45) (λ_=>none)else some y_26 else some y_16).bind λv_23=>some (.go v_23)else none else some (.brk s_7)
noncomputable def gG (s_1:ByteArray):Option (Bool) :=
  (fC s_1 (λs=>fF s)).bind λo_10=>thenC o_10 (λs_7=>some true) (λ_=>none)
def iZ (c_2:Int) (s_8:ByteArray):Option (Ctl (ByteArray) (Unit)) :=
  (bif (decide ((s_8.size:Int)>0))then (q9 s_8 (w64 ((s_8.size:Int)-1))).bind λb_16=>some ((b_16.toNat:Int)==c_2)else some false).bind λv_13=>bif v_13 then (vF s_8 0 (w64 ((s_8.size:Int)-1))).bind λy_19=>some (.go y_19)else some (.brk s_8)
noncomputable def strings_trimRightByte (s_1:ByteArray) (c_2:Int):Option (ByteArray) :=
  (fC s_1 (λs=>iZ c_2 s)).bind λo_11=>thenC o_11 (λs_8=>some s_8) (λ_=>none)
def ji (c_2:Int) (s_8:ByteArray):Option (Ctl (ByteArray) (Unit)) :=
  (bif (decide ((s_8.size:Int)>0))then (q9 s_8 0).bind λb_16=>some ((b_16.toNat:Int)==c_2)else some false).bind λv_13=>bif v_13 then (vF s_8 1 s_8.size).bind λy_19=>some (.go y_19)else some (.brk s_8)
noncomputable def strings_trimLeftByte (s_1:ByteArray) (c_2:Int):Option (ByteArray) :=
  (fC s_1 (λs=>ji c_2 s)).bind λo_11=>thenC o_11 (λs_8=>some s_8) (λ_=>none)
noncomputable def qc (s_1:ByteArray) (cutset_2:ByteArray):Option (ByteArray) :=
  (bif (sEq s_1 (⟨#[]⟩:ByteArray))then some true else some (sEq cutset_2 (⟨#[]⟩:ByteArray))).bind λv_3=>bif v_3 then some s_1 else (bif ((cutset_2.size:Int)==1)then (q9 cutset_2 0).bind λb_10=>some (decide ((b_10.toNat:Int)<128))else some false).bind λv_7=>bif v_7 then (q9 cutset_2 0).bind λb_13=>(strings_trimRightByte s_1 (b_13.toNat:Int)).bind λr_15=>(q9 cutset_2 0).bind λb_17=>(strings_trimLeftByte r_15 (b_17.toNat:Int)).bind λr_19=>some r_19 else none
def strings_Contains (x0:ByteArray) (x1:ByteArray):Option (Bool) :=
  Bu x0 x1
def pY (s_1:ByteArray) (s_7:Int):Option (Ctl (Int) (Bool)) :=
  bif (decide (s_7<(s_1.size:Int)))then ((q9 s_1 s_7).bind λb_15=>bif (decide ((b_15.toNat:Int)<32))then some true else (q9 s_1 s_7).bind λb_18=>some ((b_18.toNat:Int)==127)).bind λv_13=>bif v_13 then some (.ret false)else some (.go (w64 (s_7+1)))else some (.brk s_7)
noncomputable def o5 (s_1:ByteArray):Option (Bool) :=
  (fC 0 (λs=>pY s_1 s)).bind λo_10=>thenC o_10 (λs_7=>((gG s_1).bind λr_23=>bif r_23 then (qc s_1 (⟨#[32]⟩:ByteArray)).bind λr_26=>bif (sEq r_26 s_1)then (strings_Contains s_1 (⟨#[32,32]⟩:ByteArray)).bind λr_29=>some (!r_29)else some false else some false).bind λv_21=>some v_21) (λr=>some r)
def jy (k_29:Nat) (x_31:Rect) (s_34:Unit):Option (Ctl (Unit) (Int)) :=
  (iT x_31).bind λr_40=>bif (r_40 != 0)then some (.ret r_40)else some (.go ())
noncomputable def kU (a_1:Alert):Option (Int) :=
  ((kit_IsKey a_1.Id).bind λr_5=>bif (!r_5)then some true else (kit_IsKey a_1.Sender).bind λr_8=>some (!r_8)).bind λv_3=>bif v_3 then some 5 else (aQ a_1.Kind 1 3).bind λr_11=>bif r_11 then some 4 else (l5 a_1).bind λr_14=>bif (r_14 != 0)then some r_14 else ((dS a_1.At).bind λr_19=>bif (!r_19)then some true else (aQ a_1.Until (w64 (a_1.At+1)) (w64 (a_1.At+2592000000))).bind λr_22=>bif r_22 then some true else (aQ a_1.Weight 1 9).bind λr_25=>some r_25).bind λv_17=>bif v_17 then some 1 else bif (decide ((a_1.Areas.length:Int)>20))then some 2 else (forL a_1.Areas () (λk x s=>jy k x s)).bind λo_37=>thenC o_37 (λs_34=>bif (!((a_1.Kind==3)==((a_1.Areas.length:Int)==0)))then some 3 else bif (decide ((a_1.Text.size:Int)>500))then some 2 else ((o5 a_1.Text).bind λr_47=>bif (!r_47)then some true else bif (sEq a_1.Text (⟨#[]⟩:ByteArray))then some (!(a_1.Kind==3))else some false).bind λv_45=>bif v_45 then some 3 else some 0) (λr=>some r)
def cmp_isNaN_int (x_1:Int):Option (Bool) :=
  some (x_1 != x_1)
def cmp_Compare_int (x_1:Int) (y_2:Int):Option (Int) :=
  (cmp_isNaN_int x_1).bind λr_3=>(cmp_isNaN_int y_2).bind λr_5=>bif r_3 then bif r_5 then some 0 else some (-1)else bif r_5 then some 1 else bif (decide (x_1<y_2))then some (-1)else bif (decide (x_1>y_2))then some 1 else some 0
def iV (a_1:ByteArray) (b_2:ByteArray):Option (Int) :=
  some (wm a_1 b_2)
def strings_Compare (a_1:ByteArray) (b_2:ByteArray):Option (Int) :=
  (iV a_1 b_2).bind λr_3=>some r_3
def mD (k_2:Nat) (x_4:Int) (s_7:Unit):Option (Ctl (Unit) (Int)) :=
  bif (x_4 != 0)then some (.ret x_4)else some (.go ())
def jw (vals_1:(List Int)):Option (Int) :=
  (forL vals_1 () (λk x s=>mD k x s)).bind λo_10=>thenC o_10 (λs_7=>some 0) (λr=>some r)
def jG (a_1:Alert) (b_2:Alert):Option (Int) :=
  (cmp_Compare_int a_1.At b_2.At).bind λr_5=>(strings_Compare a_1.Id b_2.Id).bind λr_7=>(jw ([r_5,r_7]:List Int)).bind λr_9=>some r_9
noncomputable def jd (l_1:(List Alert)) (k_3:Nat) (x_5:Alert) (s_8:Unit):Option (Ctl (Unit) (Int)) :=
  (kU x_5).bind λr_14=>bif (r_14 != 0)then some (.ret r_14)else (bif (decide ((k_3:Int)>0))then (idx l_1 (w64 ((k_3:Int)-1))).bind λy_20=>(jG y_20 x_5).bind λr_22=>some (decide (r_22>=0))else some false).bind λv_17=>bif v_17 then some (.ret 7)else some (.go ())
def gU (k_26:Nat) (x_28:Alert) (s_31:(List (ByteArray×Bool))):Option (Ctl ((List (ByteArray×Bool))) (Int)) :=
  bif ((Kq eqS s_31 x_28.Id).getD false)then some (.ret 6)else some (.go (ND eqS s_31 x_28.Id true))
noncomputable def kE (l_1:(List Alert)):Option (Int) :=
  bif (decide ((l_1.length:Int)>300))then some 2 else (forL l_1 () (λk x s=>jd l_1 k x s)).bind λo_11=>thenC o_11 (λs_8=>(forL l_1 ([]:List (ByteArray×Bool)) (λk x s=>gU k x s)).bind λo_34=>thenC o_34 (λs_31=>some 0) (λr=>some r)) (λr=>some r)
noncomputable def jC (l_1:(List Post)) (k_3:Nat) (x_5:Post) (s_8:Unit):Option (Ctl (Unit) (Int)) :=
  (kit_IsKey x_5.Player).bind λr_14=>bif (!r_14)then some (.ret 5)else ((aQ x_5.X (-100000) 100000).bind λr_19=>bif r_19 then some true else (aQ x_5.Y (-100000) 100000).bind λr_22=>some r_22).bind λv_17=>bif v_17 then some (.ret 1)else (bif (decide ((k_3:Int)>0))then (idx l_1 (w64 ((k_3:Int)-1))).bind λy_28=>some (sLe x_5.Player y_28.Player)else some false).bind λv_25=>bif v_25 then some (.ret 7)else some (.go ())
noncomputable def kN (l_1:(List Post)):Option (Int) :=
  bif (decide ((l_1.length:Int)>500))then some 2 else (forL l_1 () (λk x s=>jC l_1 k x s)).bind λo_11=>thenC o_11 (λs_8=>some 0) (λr=>some r)
noncomputable def lZ (l_1:(List Alert)) (posts_2:(List Post)):Option (Int) :=
  (kE l_1).bind λr_3=>bif (r_3 != 0)then some r_3 else (kN posts_2).bind λr_6=>some r_6
def lJ (o_1:Alert) (p_2:ByteArray) (p_3:Alert):Option (Bool) :=
  (bif (sEq o_1.Id p_2)then bif (sEq o_1.Sender p_3.Sender)then (jG o_1 p_3).bind λr_9=>some (decide (r_9<0))else some false else some false).bind λv_5=>some v_5
def dN (f_2:Alert->Option Bool) (k_3:Nat) (x_5:Alert) (s_8:Unit):Option (Ctl (Unit) (Int)) :=
  (f_2 x_5).bind λr_13=>bif r_13 then some (.ret (k_3:Int))else some (.go ())
def eG (s_1:(List Alert)) (f_2:Alert->Option Bool):Option (Int) :=
  (forL s_1 () (λk x s=>dN f_2 k x s)).bind λo_11=>thenC o_11 (λs_8=>some (-1)) (λr=>some r)
def qC (l_1:(List Alert)) (a_2:Alert) (ref_3:ByteArray):Option (Int) :=
  (eG l_1 (λx0=>lJ x0 ref_3 a_2)).bind λr_6=>some r_6
def oF (k_2:Nat) (x_4:Alert) (s_7:(List Int)):Option (Ctl ((List Int)) (Unit)) :=
  (lX s_7 ([x_4.Until]:List Int)).bind λa_16=>some (.go a_16)
def mo (l_1:(List Alert)) (x_21:Alert) (k_30:Nat) (x_32:ByteArray) (s_35:(List Int)):Option (Ctl ((List Int)) (Unit)) :=
  (qC l_1 x_21 x_32).bind λr_40=>(bif (decide (r_40>=0))then (inR r_40 s_35).bind λ_=>(s_35[(0+(r_40).toNat)]?).bind λe_46=>(inR r_40 s_35).bind λ_=>(s_35[(0+(r_40).toNat)]?).bind λe_49=>some (s_35.set (0+(r_40).toNat) (lD e_46 x_21.At))else some s_35).bind λv_42=>some (.go v_42)
def oC (l_1:(List Alert)) (k_19:Nat) (x_21:Alert) (s_24:(List Int)):Option (Ctl ((List Int)) (Unit)) :=
  (forL x_21.Refs s_24 (λk x s=>mo l_1 x_21 k x s)).bind λo_38=>thenC o_38 (λs_35=>some (.go s_35)) (λ_=>none)
def uj (l_1:(List Alert)):Option ((List Int)) :=
  (forL l_1 ([]:List Int) (λk x s=>oF k x s)).bind λo_13=>thenC o_13 (λs_7=>(forL l_1 s_7 (λk x s=>oC l_1 k x s)).bind λo_27=>thenC o_27 (λs_24=>some s_24) (λ_=>none)) (λ_=>none)
def dC (x:(List Int)):Option ((List Int)) :=
  Ki x
def bU (s_1:(List Int)) (s_8:Int) (s_28:(List Int)×Int×Int):Option (Ctl ((List Int)×Int×Int) (Unit)) :=
  bif (decide (s_28.2.2<(((((s_1.length:Int)).toNat-(s_8).toNat):Nat):Int)))then (inN s_28.2.2 (((s_1.length:Int)).toNat-(s_8).toNat)).bind λ_=>(s_28.1[(((s_8).toNat)+(s_28.2.2).toNat)]?).bind λe_35=>(inN (w64 (s_28.2.2-1)) (((s_1.length:Int)).toNat-(s_8).toNat)).bind λ_=>(s_28.1[(((s_8).toNat)+((w64 (s_28.2.2-1))).toNat)]?).bind λe_38=>(bif (e_35 != e_38)then (inN s_28.2.2 (((s_1.length:Int)).toNat-(s_8).toNat)).bind λ_=>(s_28.1[(((s_8).toNat)+(s_28.2.2).toNat)]?).bind λe_44=>(inR s_28.2.1 s_28.1).bind λ_=>(s_28.1[(0+(s_28.2.1).toNat)]?).bind λe_47=>some ((s_28.1.set (0+(s_28.2.1).toNat) e_44),(w64 (s_28.2.1+1)))else some (s_28.1,s_28.2.1)).bind λv_40=>some (.go (v_40.1,v_40.2,(w64 (s_28.2.2+1))))else some (.brk (s_28.1,s_28.2.1,s_28.2.2))
noncomputable def aY (s_1:(List Int)) (s_8:Int):Option (Ctl (Int) ((List Int))) :=
  bif (decide (s_8<(s_1.length:Int)))then (inR s_8 s_1).bind λ_=>(s_1[(0+(s_8).toNat)]?).bind λe_15=>(inR (w64 (s_8-1)) s_1).bind λ_=>(s_1[(0+((w64 (s_8-1))).toNat)]?).bind λe_18=>bif (e_15==e_18)then (neL s_1).bind λ_=>(qY s_1 s_8 (s_1.length:Int)).bind λ_=>(fC (s_1,s_8,1) (λs=>bU s_1 s_8 s)).bind λo_31=>thenC o_31 (λs_28=>(qY s_28.1 s_28.2.1 (s_28.1.length:Int)).bind λ_=>(qY (s_28.1.take ((s_28.2.1).toNat)++List.replicate (((s_28.1.length:Int)).toNat-(s_28.2.1).toNat) 0++s_28.1.drop (((s_28.2.1).toNat)+(((s_28.1.length:Int)).toNat-(s_28.2.1).toNat))) 0 s_28.2.1).bind λ_=>some (.ret (cutL (s_28.1.take ((s_28.2.1).toNat)++List.replicate (((s_28.1.length:Int)).toNat-(s_28.2.1).toNat) 0++s_28.1.drop (((s_28.2.1).toNat)+(((s_28.1.length:Int)).toNat-(s_28.2.1).toNat))) 0 ((s_28.2.1).toNat)))) (λ_=>none)else some (.go (w64 (s_8+1)))else some (.brk s_8)
noncomputable def bO (s_1:(List Int)):Option ((List Int)) :=
  bif (decide ((s_1.length:Int)<2))then some s_1 else (fC 1 (λs=>aY s_1 s)).bind λo_11=>thenC o_11 (λs_8=>some s_1) (λr=>some r)
def tY (a_1:Alert) (endv_2:Int) (atv_3:Int):Option (Bool) :=
  (bif (a_1.Kind != 3)then bif (decide (a_1.At<=atv_3))then some (decide (atv_3<endv_2))else some false else some false).bind λv_5=>some v_5
def mh (r_1:Rect) (p_2:Post):Option (Bool) :=
  (bif (decide (r_1.X<=p_2.X))then bif (decide (p_2.X<(w64 (r_1.X+r_1.W))))then bif (decide (r_1.Y<=p_2.Y))then some (decide (p_2.Y<(w64 (r_1.Y+r_1.H))))else some false else some false else some false).bind λv_4=>some v_4
def bH (f_2:Rect->Option Bool) (k_3:Nat) (x_5:Rect) (s_8:Unit):Option (Ctl (Unit) (Int)) :=
  (f_2 x_5).bind λr_13=>bif r_13 then some (.ret (k_3:Int))else some (.go ())
def fo (s_1:(List Rect)) (f_2:Rect->Option Bool):Option (Int) :=
  (forL s_1 () (λk x s=>bH f_2 k x s)).bind λo_11=>thenC o_11 (λs_8=>some (-1)) (λr=>some r)
def dx (s_1:(List Rect)) (f_2:Rect->Option Bool):Option (Bool) :=
  (fo s_1 f_2).bind λr_3=>some (decide (r_3>=0))
def oo (a_1:Alert) (p_2:Post):Option (Bool) :=
  (dx a_1.Areas (λx0=>mh x0 p_2)).bind λr_5=>some r_5
def nO (a_1:Alert) (b_2:Alert):Option (Int) :=
  (cmp_Compare_int b_2.Weight a_1.Weight).bind λr_5=>(cmp_Compare_int b_2.At a_1.At).bind λr_7=>(strings_Compare a_1.Id b_2.Id).bind λr_9=>(jw ([r_5,r_7,r_9]:List Int)).bind λr_11=>some r_11
def eU (a_2:Int) (s_21:(List Alert)×Int):Option (Ctl ((List Alert)×Int) (Unit)) :=
  (bif (decide (s_21.2>a_2))then (inR s_21.2 s_21.1).bind λ_=>(s_21.1[(0+(s_21.2).toNat)]?).bind λe_30=>(inR (w64 (s_21.2-1)) s_21.1).bind λ_=>(s_21.1[(0+((w64 (s_21.2-1))).toNat)]?).bind λe_33=>(nO e_30 e_33).bind λr_35=>some (decide (r_35<0))else some false).bind λv_26=>bif v_26 then (inR (w64 (s_21.2-1)) s_21.1).bind λ_=>(s_21.1[(0+((w64 (s_21.2-1))).toNat)]?).bind λe_39=>(inR s_21.2 s_21.1).bind λ_=>(s_21.1[(0+(s_21.2).toNat)]?).bind λe_42=>(inR s_21.2 s_21.1).bind λ_=>(s_21.1[(0+(s_21.2).toNat)]?).bind λe_45=>(inR (w64 (s_21.2-1)) (s_21.1.set (0+(s_21.2).toNat) e_39)).bind λ_=>((s_21.1.set (0+(s_21.2).toNat) e_39)[(0+((w64 (s_21.2-1))).toNat)]?).bind λe_48=>some (.go (((s_21.1.set (0+(s_21.2).toNat) e_39).set (0+((w64 (s_21.2-1))).toNat) e_42),(w64 (s_21.2-1))))else some (.brk (s_21.1,s_21.2))
noncomputable def eP (b_3:Int) (a_2:Int) (s_10:(List Alert)×Int):Option (Ctl ((List Alert)×Int) (Unit)) :=
  bif (decide (s_10.2<b_3))then (fC (s_10.1,s_10.2) (λs=>eU a_2 s)).bind λo_24=>thenC o_24 (λs_21=>some (.go (s_21.1,(w64 (s_10.2+1))))) (λ_=>none)else some (.brk (s_10.1,s_10.2))
noncomputable def fE (data_1:(List Alert)) (a_2:Int) (b_3:Int):Option ((List Alert)) :=
  (fC (data_1,(w64 (a_2+1))) (λs=>eP b_3 a_2 s)).bind λo_13=>thenC o_13 (λs_10=>some s_10.1) (λ_=>none)
noncomputable def fU (b_3:Int) (a_2:Int) (data_1:(List Alert)) (limit_4:Int) (s_11:Unit):Option (Ctl (Unit) ((List Alert))) :=
  bif (decide ((w64 (b_3-a_2))<=12))then (fE data_1 a_2 b_3).bind λr_17=>(iJ r_17 data_1).bind λ_=>some (.ret r_17)else bif (limit_4==0)then none else none
noncomputable def gN (data_1:(List Alert)) (a_2:Int) (b_3:Int) (limit_4:Int):Option ((List Alert)) :=
  (fC () (λs=>fU b_3 a_2 data_1 limit_4 s)).bind λo_14=>thenC o_14 (λs_11=>some data_1) (λr=>some r)
noncomputable def di (x_1:(List Alert)):Option ((List Alert)) :=
  (fO (IntKind.u64.wrap (x_1.length:Int))).bind λr_3=>(gN x_1 0 (x_1.length:Int) r_3).bind λr_5=>(iJ r_5 x_1).bind λ_=>some r_5
def mf (endv_2:(List Int)) (atv_4:Int) (p_3:Post) (k_6:Nat) (x_8:Alert) (s_11:(List Alert)):Option (Ctl ((List Alert)) (Unit)) :=
  ((idx endv_2 (k_6:Int)).bind λy_22=>(tY x_8 y_22 atv_4).bind λr_24=>bif r_24 then (oo x_8 p_3).bind λr_27=>some r_27 else some false).bind λv_20=>(bif v_20 then (lX s_11 ([x_8]:List Alert)).bind λa_33=>some a_33 else some s_11).bind λv_29=>some (.go v_29)
noncomputable def qa (l_1:(List Alert)) (endv_2:(List Int)) (p_3:Post) (atv_4:Int):Option ((List Alert)) :=
  (forL l_1 ([]:List Alert) (λk x s=>mf endv_2 atv_4 p_3 k x s)).bind λo_17=>thenC o_17 (λs_11=>(di s_11).bind λr_36=>(iJ r_36 s_11).bind λ_=>some r_36) (λ_=>none)
def kY (x_11:Alert) (y_22:Int) (wv_3:Window) (k_24:Nat) (x_26:Nat) (s_29:(List Int)):Option (Ctl ((List Int)) (Unit)) :=
  (idx ([x_11.At,y_22]:List Int) (k_24:Int)).bind λy_36=>(bif (decide (wv_3.From<y_36))then some (decide (y_36<wv_3.To))else some false).bind λv_38=>(bif v_38 then (lX s_29 ([y_36]:List Int)).bind λa_45=>some a_45 else some s_29).bind λv_41=>some (.go v_41)
def jJ (r_6:(List Int)) (wv_3:Window) (k_9:Nat) (x_11:Alert) (s_14:(List Int)):Option (Ctl ((List Int)) (Unit)) :=
  (idx r_6 (k_9:Int)).bind λy_22=>(forL (List.range (2:Int).toNat) s_14 (λk x s=>kY x_11 y_22 wv_3 k x s)).bind λo_34=>thenC o_34 (λs_29=>some (.go s_29)) (λ_=>none)
noncomputable def jL (r_52:(List Int)) (l_1:(List Alert)) (r_6:(List Int)) (p_2:Post) (s_59:(List Slot_)×Int):Option (Ctl ((List Slot_)×Int) (Unit)) :=
  bif (decide ((w64 (s_59.2+1))<(r_52.length:Int)))then (idx r_52 s_59.2).bind λy_68=>(qa l_1 r_6 p_2 y_68).bind λr_70=>(bif (decide ((r_70.length:Int)>0))then (idx r_70 0).bind λy_75=>some y_75.Id else some (⟨#[]⟩:ByteArray)).bind λv_72=>(bif (decide ((w64 ((s_59.1.length:Int)-1))>=0))then (inR (w64 ((s_59.1.length:Int)-1)) s_59.1).bind λ_=>(s_59.1[(0+((w64 ((s_59.1.length:Int)-1))).toNat)]?).bind λe_81=>some (sEq e_81.Entry v_72)else some false).bind λv_77=>(bif v_77 then (idx r_52 (w64 (s_59.2+1))).bind λy_87=>(inR (w64 ((s_59.1.length:Int)-1)) s_59.1).bind λ_=>(s_59.1[(0+((w64 ((s_59.1.length:Int)-1))).toNat)]?).bind λe_90=>some (s_59.1.set (0+((w64 ((s_59.1.length:Int)-1))).toNat) (⟨(⟨e_90.Time.From,y_87⟩:Window),e_90.Entry⟩:Slot_))else (idx r_52 s_59.2).bind λy_92=>(idx r_52 (w64 (s_59.2+1))).bind λy_94=>(lX s_59.1 ([(⟨(⟨y_92,y_94⟩:Window),v_72⟩:Slot_)]:List Slot_)).bind λa_96=>some a_96).bind λv_83=>some (.go (v_83,(w64 (s_59.2+1))))else some (.brk (s_59.1,s_59.2))
noncomputable def ol (l_1:(List Alert)) (p_2:Post) (wv_3:Window):Option ((List Slot_)) :=
  (uj l_1).bind λr_6=>(forL l_1 ([wv_3.From,wv_3.To]:List Int) (λk x s=>jJ r_6 wv_3 k x s)).bind λo_19=>thenC o_19 (λs_14=>(neL s_14).bind λ_=>(dC s_14).bind λr_49=>(iJ r_49 s_14).bind λ_=>(bO r_49).bind λr_52=>(fC (([]:List Slot_),0) (λs=>jL r_52 l_1 r_6 p_2 s)).bind λo_65=>thenC o_65 (λs_59=>some s_59.1) (λ_=>none)) (λ_=>none)
noncomputable def oq (l_1:(List Alert)) (p_2:Post) (wv_3:Window):Option ((List Slot_)×Int) :=
  (lZ l_1 ([p_2]:List Post)).bind λr_6=>bif (r_6 != 0)then some (([]:(List Slot_)),r_6)else ((aQ wv_3.From 0 wv_3.To).bind λr_11=>bif r_11 then some true else some (decide (wv_3.To>345686400000))).bind λv_9=>bif v_9 then some (([]:(List Slot_)),1)else (ol l_1 p_2 wv_3).bind λr_15=>some (r_15,0)
def iP (s_1:Stream):Option (Player×Stream) :=
  (dH s_1 ([0,0,60,(-90),1440]:List Int)).bind λr_3=>(iA r_3.2 3).bind λr_6=>(idx ([([]:List ByteArray),([(⟨#[99,105,116,121]⟩:ByteArray)]:List ByteArray),([(⟨#[99,105,116,121]⟩:ByteArray),(⟨#[109,97,108,108]⟩:ByteArray)]:List ByteArray)]:List (List ByteArray)) r_6.1).bind λy_9=>some ((⟨(⟨#[112]⟩:ByteArray),(⟨#[115,97]⟩:ByteArray),r_3.1,y_9⟩:Player),r_6.2)
def vz (n_1:Int):Option (Bool) :=
  (bif (decide (n_1>=0))then some (decide (n_1<=4000))else some false).bind λv_2=>some v_2
def jg (l_1:(List Int)) (k_3:Nat) (x_5:Int) (s_8:Unit):Option (Ctl (Unit) (Int)) :=
  (vz x_5).bind λr_13=>bif (!r_13)then some (.ret 1)else (bif (decide ((k_3:Int)>0))then (idx l_1 (w64 ((k_3:Int)-1))).bind λy_19=>some (decide (x_5<=y_19))else some false).bind λv_16=>bif v_16 then some (.ret 7)else some (.go ())
def gW (l_1:(List Int)):Option (Int) :=
  bif (decide ((l_1.length:Int)>100))then some 2 else (forL l_1 () (λk x s=>jg l_1 k x s)).bind λo_11=>thenC o_11 (λs_8=>some 0) (λr=>some r)
noncomputable def iX (l_1:(List ByteArray)) (k_2:Nat) (x_4:ByteArray) (s_7:Unit):Option (Ctl (Unit) (Int)) :=
  (kit_IsKey x_4).bind λr_12=>bif (!r_12)then some (.ret 5)else (bif (decide ((k_2:Int)>0))then (idx l_1 (w64 ((k_2:Int)-1))).bind λy_18=>some (sLe x_4 y_18)else some false).bind λv_15=>bif v_15 then some (.ret 7)else some (.go ())
noncomputable def jq (l_1:(List ByteArray)):Option (Int) :=
  (forL l_1 () (λk x s=>iX l_1 k x s)).bind λo_10=>thenC o_10 (λs_7=>some 0) (λr=>some r)
noncomputable def fM (l_1:(List ByteArray)):Option (Int) :=
  bif (decide ((l_1.length:Int)>20))then some 2 else (jq l_1).bind λr_3=>some r_3
noncomputable def fZ (e_1:Entry):Option (Int) :=
  ((kit_IsKey e_1.Key).bind λr_5=>bif (!r_5)then some true else (kit_IsKey e_1.Item).bind λr_8=>some (!r_8)).bind λv_3=>bif v_3 then some 5 else ((aQ e_1.Version 0 1000000).bind λr_13=>bif r_13 then some true else (aQ e_1.First 0 e_1.Last).bind λr_16=>bif r_16 then some true else bif (decide (e_1.Last>4000))then some true else (aQ e_1.Every 1 400).bind λr_20=>bif r_20 then some true else (aQ e_1.Days 1 127).bind λr_23=>some r_23).bind λv_11=>bif v_11 then some 1 else (gW e_1.Except).bind λr_26=>bif (r_26 != 0)then some r_26 else ((aQ e_1.From 0 1439).bind λr_31=>bif r_31 then some true else (aQ e_1.To 0 1439).bind λr_34=>bif r_34 then some true else (aQ e_1.Prio 0 9).bind λr_37=>some r_37).bind λv_29=>bif v_29 then some 1 else (fM e_1.Tags).bind λr_40=>some r_40
noncomputable def fB (l_1:(List Entry)) (k_3:Nat) (x_5:Entry) (s_8:Unit):Option (Ctl (Unit) (Int)) :=
  (fZ x_5).bind λr_14=>bif (r_14 != 0)then some (.ret r_14)else (bif (decide ((k_3:Int)>0))then (idx l_1 (w64 ((k_3:Int)-1))).bind λy_20=>some (sLe x_5.Key y_20.Key)else some false).bind λv_17=>bif v_17 then some (.ret 7)else some (.go ())
noncomputable def eF (l_1:(List Entry)):Option (Int) :=
  bif (decide ((l_1.length:Int)>200))then some 2 else (forL l_1 () (λk x s=>fB l_1 k x s)).bind λo_11=>thenC o_11 (λs_8=>some 0) (λr=>some r)
noncomputable def jb (p_1:Player):Option (Int) :=
  ((kit_IsKey p_1.Key).bind λr_5=>bif (!r_5)then some true else (kit_IsKey p_1.Screen).bind λr_8=>some (!r_8)).bind λv_3=>bif v_3 then some 5 else (aQ p_1.Zone (-1440) 1440).bind λr_11=>bif r_11 then some 1 else (fM p_1.Tags).bind λr_14=>some r_14
def fJ (wv_1:Window):Option (Int) :=
  ((aQ wv_1.From 0 wv_1.To).bind λr_5=>bif r_5 then some true else some (decide (wv_1.To>345686400000))).bind λv_3=>bif v_3 then some 1 else bif (decide ((w64 (wv_1.To-wv_1.From))>34560000000))then some 2 else some 0
noncomputable def lN (l_1:(List Entry)) (p_2:Player) (wv_3:Window):Option (Int) :=
  (eF l_1).bind λr_6=>bif (r_6 != 0)then some r_6 else (jb p_2).bind λr_9=>bif (r_9 != 0)then some r_9 else (fJ wv_3).bind λr_12=>some r_12
def cmp_isNaN_string (x_1:ByteArray):Option (Bool) :=
  some (sNe x_1 x_1)
def cmp_Less_string (x_1:ByteArray) (y_2:ByteArray):Option (Bool) :=
  ((cmp_isNaN_string x_1).bind λr_5=>bif r_5 then (cmp_isNaN_string y_2).bind λr_8=>bif (!r_8)then some true else some (sLt x_1 y_2)else some (sLt x_1 y_2)).bind λv_3=>some v_3
def slices_isNaN_string (x_1:ByteArray):Option (Bool) :=
  some (sNe x_1 x_1)
def aX (x_1:(List ByteArray)) (target_2:ByteArray) (s_8:Int×Int):Option (Ctl (Int×Int) (Unit)) :=
  bif (decide (s_8.1<s_8.2))then (Ce .u64 (IntKind.u64.wrap (w64 (s_8.1+s_8.2))) 1).bind λq_14=>(idx x_1 (w64 q_14)).bind λy_16=>(cmp_Less_string y_16 target_2).bind λr_18=>bif r_18 then some (.go ((w64 ((w64 q_14)+1)),s_8.2))else some (.go (s_8.1,(w64 q_14)))else some (.brk (s_8.1,s_8.2))
noncomputable def dM (x_1:(List ByteArray)) (target_2:ByteArray):Option (Int×Bool) :=
  (fC (0,(x_1.length:Int)) (λs=>aX x_1 target_2 s)).bind λo_11=>thenC o_11 (λs_8=>(bif (decide (s_8.1<(x_1.length:Int)))then (idx x_1 s_8.1).bind λy_24=>bif (sEq y_24 target_2)then some true else (idx x_1 s_8.1).bind λy_27=>(slices_isNaN_string y_27).bind λr_29=>bif r_29 then (slices_isNaN_string target_2).bind λr_32=>some r_32 else some false else some false).bind λv_21=>some (s_8.1,v_21)) (λ_=>none)
noncomputable def jK (p_2:Player) (k_5:Nat) (x_7:ByteArray) (s_10:Unit):Option (Ctl (Unit) (Bool)) :=
  (dM p_2.Tags x_7).bind λr_15=>bif (!r_15.2)then some (.ret false)else some (.go ())
noncomputable def nZ (e_1:Entry) (p_2:Player):Option (Bool) :=
  (forL e_1.Tags () (λk x s=>jK p_2 k x s)).bind λo_13=>thenC o_13 (λs_10=>some true) (λr=>some r)
def cmp_Less_int (x_1:Int) (y_2:Int):Option (Bool) :=
  ((cmp_isNaN_int x_1).bind λr_5=>bif r_5 then (cmp_isNaN_int y_2).bind λr_8=>bif (!r_8)then some true else some (decide (x_1<y_2))else some (decide (x_1<y_2))).bind λv_3=>some v_3
def gX (x_1:Int):Option (Bool) :=
  some (x_1 != x_1)
def bu (x_1:(List Int)) (target_2:Int) (s_8:Int×Int):Option (Ctl (Int×Int) (Unit)) :=
  bif (decide (s_8.1<s_8.2))then (Ce .u64 (IntKind.u64.wrap (w64 (s_8.1+s_8.2))) 1).bind λq_14=>(idx x_1 (w64 q_14)).bind λy_16=>(cmp_Less_int y_16 target_2).bind λr_18=>bif r_18 then some (.go ((w64 ((w64 q_14)+1)),s_8.2))else some (.go (s_8.1,(w64 q_14)))else some (.brk (s_8.1,s_8.2))
noncomputable def dA (x_1:(List Int)) (target_2:Int):Option (Int×Bool) :=
  (fC (0,(x_1.length:Int)) (λs=>bu x_1 target_2 s)).bind λo_11=>thenC o_11 (λs_8=>(bif (decide (s_8.1<(x_1.length:Int)))then (idx x_1 s_8.1).bind λy_24=>bif (y_24==target_2)then some true else (idx x_1 s_8.1).bind λy_27=>(gX y_27).bind λr_29=>bif r_29 then (gX target_2).bind λr_32=>some r_32 else some false else some false).bind λv_21=>some (s_8.1,v_21)) (λ_=>none)
noncomputable def jT (e_1:Entry) (d_2:Int):Option (Bool) :=
  ((aQ d_2 e_1.First e_1.Last).bind λr_6=>bif r_6 then some true else (IJ .i64 (w64 (d_2-e_1.First)) e_1.Every).bind λq_9=>bif (q_9 != 0)then some true else (AZ .i64 1 (d_2.tmod 7)).bind λq_12=>some ((ru .i64 e_1.Days q_12)==0)).bind λv_4=>bif v_4 then some false else (dA e_1.Except d_2).bind λr_15=>some (!r_15.2)
def kr (e_1:Entry) (zone_2:Int) (d_3:Int):Option (Window) :=
  (bif (decide ((w64 (e_1.To-e_1.From))<=0))then some (w64 ((w64 (e_1.To-e_1.From))+1440))else some (w64 (e_1.To-e_1.From))).bind λv_6=>some (⟨(w64 ((w64 ((w64 ((w64 (d_3*1440))+e_1.From))-zone_2))*60000)),(w64 ((w64 ((w64 ((w64 ((w64 (d_3*1440))+e_1.From))-zone_2))*60000))+(w64 (v_6*60000))))⟩:Window)
noncomputable def eH (wv_3:Window) (zone_2:Int) (e_1:Entry) (s_15:(List Window)×Int):Option (Ctl ((List Window)×Int) (Unit)) :=
  bif (decide (s_15.2<=(lD (w64 ((w64 ((w64 (wv_3.To+(w64 (zone_2*60000)))).tdiv 86400000))+1)) e_1.Last)))then (jT e_1 s_15.2).bind λr_24=>bif (!r_24)then some (.go (s_15.1,(w64 (s_15.2+1))))else (kr e_1 zone_2 s_15.2).bind λr_27=>(bif (decide (r_27.From<wv_3.To))then some (decide (r_27.To>wv_3.From))else some false).bind λv_30=>(bif v_30 then (lX s_15.1 ([r_27]:List Window)).bind λa_37=>some a_37 else some s_15.1).bind λv_33=>some (.go (v_33,(w64 (s_15.2+1))))else some (.brk (s_15.1,s_15.2))
noncomputable def gD (e_1:Entry) (zone_2:Int) (wv_3:Window):Option ((List Window)) :=
  (bif e_1.Gone then some true else some (decide (wv_3.From>=wv_3.To))).bind λv_6=>bif v_6 then some ([]:(List Window))else (fC (([]:List Window),(jE (w64 ((w64 ((w64 (wv_3.From+(w64 (zone_2*60000)))).tdiv 86400000))-2)) e_1.First)) (λs=>eH wv_3 zone_2 e_1 s)).bind λo_21=>thenC o_21 (λs_15=>some s_15.1) (λ_=>none)
def iC (l_1:(List Entry)) (k_6:Nat) (k_24:Nat) (x_26:Window) (s_29:(List Span)):Option (Ctl ((List Span)) (Unit)) :=
  (idx l_1 (k_6:Int)).bind λy_37=>(lX s_29 ([(⟨(some y_37),x_26⟩:Span)]:List Span)).bind λa_39=>some (.go a_39)
noncomputable def iE (p_2:Player) (wv_3:Window) (l_1:(List Entry)) (k_6:Nat) (x_8:Entry) (s_11:(List Span)):Option (Ctl ((List Span)) (Unit)) :=
  (nZ x_8 p_2).bind λr_19=>bif (!r_19)then some (.go s_11)else (gD x_8 p_2.Zone wv_3).bind λr_22=>(forL r_22 s_11 (λk x s=>iC l_1 k_6 k x s)).bind λo_34=>thenC o_34 (λs_29=>some (.go s_29)) (λ_=>none)
noncomputable def je (l_1:(List Entry)) (p_2:Player) (wv_3:Window):Option ((List Span)) :=
  (forL l_1 ([]:List Span) (λk x s=>iE p_2 wv_3 l_1 k x s)).bind λo_17=>thenC o_17 (λs_11=>some s_11) (λ_=>none)
def iY (a_1:Span) (b_2:Span):Option (Int) :=
  (cmp_Compare_int a_1.f_time.From b_2.f_time.From).bind λr_5=>some r_5
noncomputable def ic (x:(List Span)):Option ((List Span)) :=
  zu (λa b=>iY a b) x
def sw (t_1:Window) (wv_2:Window):Option (Window) :=
  some (⟨(jE t_1.From wv_2.From),(lD t_1.To wv_2.To)⟩:Window)
def kI (wv_3:Window) (k_9:Nat) (x_11:Span) (s_14:(List Int)):Option (Ctl ((List Int)) (Unit)) :=
  (sw x_11.f_time wv_3).bind λr_22=>(lX s_14 ([r_22.From,r_22.To]:List Int)).bind λa_25=>some (.go a_25)
noncomputable def mR (l_1:(List Entry)) (p_2:Player) (wv_3:Window):Option ((List Int)) :=
  (je l_1 p_2 wv_3).bind λr_7=>(forL r_7 ([wv_3.From,wv_3.To]:List Int) (λk x s=>kI wv_3 k x s)).bind λo_19=>thenC o_19 (λs_14=>(neL s_14).bind λ_=>(dC s_14).bind λr_29=>(iJ r_29 s_14).bind λ_=>(bO r_29).bind λr_32=>some r_32) (λ_=>none)
def fK (s_1:Span) (p_2:(List Int)) (p_3:Int):Option (Bool) :=
  (idx p_2 p_3).bind λy_5=>some (decide (s_1.f_time.To<=y_5))
def dI (s_1:(List Span)) (f2_3:(List Int)) (f2_4:Int) (k_5:Nat) (x_7:Nat) (s_10:Unit):Option (Ctl (Unit) (Int)) :=
  (inR (k_5:Int) s_1).bind λ_=>(s_1[(0+((k_5:Int)).toNat)]?).bind λe_16=>(fK e_16 f2_3 f2_4).bind λr_18=>bif r_18 then some (.ret (k_5:Int))else some (.go ())
def dR (s_1:(List Span)) (f2_3:(List Int)) (f2_4:Int):Option (Int) :=
  (forL (List.range ((s_1.length:Int)).toNat) () (λk x s=>dI s_1 f2_3 f2_4 k x s)).bind λo_13=>thenC o_13 (λs_10=>some (-1)) (λr=>some r)
def dG (del2_3:(List Int)) (del2_4:Int) (s_13:(List Span)×Int×Int):Option (Ctl ((List Span)×Int×Int) (Unit)) :=
  bif (decide (s_13.2.2<(s_13.1.length:Int)))then (inR s_13.2.2 s_13.1).bind λ_=>(s_13.1[(0+(s_13.2.2).toNat)]?).bind λe_20=>(fK e_20 del2_3 del2_4).bind λr_23=>(bif (!r_23)then (inR s_13.2.1 s_13.1).bind λ_=>(s_13.1[(0+(s_13.2.1).toNat)]?).bind λe_30=>some ((s_13.1.set (0+(s_13.2.1).toNat) e_20),(w64 (s_13.2.1+1)))else some (s_13.1,s_13.2.1)).bind λv_26=>some (.go (v_26.1,v_26.2,(w64 (s_13.2.2+1))))else some (.brk (s_13.1,s_13.2.1,s_13.2.2))
noncomputable def bI (s_1:(List Span)) (del2_3:(List Int)) (del2_4:Int):Option ((List Span)) :=
  (dR s_1 del2_3 del2_4).bind λr_5=>bif (r_5==(-1))then some s_1 else (fC (s_1,r_5,(w64 (r_5+1))) (λs=>dG del2_3 del2_4 s)).bind λo_16=>thenC o_16 (λs_13=>(qY s_13.1 s_13.2.1 (s_13.1.length:Int)).bind λ_=>(qY (s_13.1.take ((s_13.2.1).toNat)++List.replicate (((s_13.1.length:Int)).toNat-(s_13.2.1).toNat) (⟨none,(⟨0,0⟩:Window)⟩:Span)++s_13.1.drop (((s_13.2.1).toNat)+(((s_13.1.length:Int)).toNat-(s_13.2.1).toNat))) 0 s_13.2.1).bind λ_=>some ((s_13.1.take ((s_13.2.1).toNat)++List.replicate (((s_13.1.length:Int)).toNat-(s_13.2.1).toNat) (⟨none,(⟨0,0⟩:Window)⟩:Span)++s_13.1.drop (((s_13.2.1).toNat)+(((s_13.1.length:Int)).toNat-(s_13.2.1).toNat))).take ((s_13.2.1).toNat))) (λ_=>none)
def dX (f_2:Span->Option Bool) (k_3:Nat) (x_5:Span) (s_8:Unit):Option (Ctl (Unit) (Int)) :=
  (f_2 x_5).bind λr_13=>bif r_13 then some (.ret (k_3:Int))else some (.go ())
def bP (s_1:(List Span)) (f_2:Span->Option Bool):Option (Int) :=
  (forL s_1 () (λk x s=>dX f_2 k x s)).bind λo_11=>thenC o_11 (λs_8=>some (-1)) (λr=>some r)
def dF (r_5:Int) (s_14:Unit):Option (Ctl (Unit) (Unit)) :=
  bif (decide ((w64 (r_5+1))<0))then none else some (.brk ())
noncomputable def bJ (del2_3:(List Int)) (del2_4:Int):Option (Unit) :=
  (bP ([]:List Span) (λx0=>fK x0 del2_3 del2_4)).bind λr_5=>bif (r_5==(-1))then some ()else (fC () (λs=>dF r_5 s)).bind λo_17=>thenC o_17 (λs_14=>none) (λ_=>none)
def iU (a_1:Span) (b_2:Span):Option (Int) :=
  (b_2.f_e).bind λy_5=>(a_1.f_e).bind λy_7=>(cmp_Compare_int y_5.Prio y_7.Prio).bind λr_9=>(cmp_Compare_int b_2.f_time.From a_1.f_time.From).bind λr_11=>(b_2.f_e).bind λy_13=>(a_1.f_e).bind λy_15=>(strings_Compare y_13.Key y_15.Key).bind λr_17=>(jw ([r_9,r_11,r_17]:List Int)).bind λr_19=>some r_19
def aZ (x_1:(List Span)) (s_16:Int×(Option Entry)×Int×Int):Option (Ctl (Int×(Option Entry)×Int×Int) (Unit)) :=
  bif (decide (s_16.1<(x_1.length:Int)))then (inR s_16.1 x_1).bind λ_=>(x_1[(0+(s_16.1).toNat)]?).bind λe_23=>(iU e_23 (⟨s_16.2.1,(⟨s_16.2.2.1,s_16.2.2.2⟩:Window)⟩:Span)).bind λr_25=>(bif (decide (r_25<0))then (inR s_16.1 x_1).bind λ_=>(x_1[(0+(s_16.1).toNat)]?).bind λe_31=>some (e_31.f_e,e_31.f_time.From,e_31.f_time.To)else some (s_16.2.1,s_16.2.2.1,s_16.2.2.2)).bind λv_27=>some (.go ((w64 (s_16.1+1)),v_27.1,v_27.2.1,v_27.2.2))else some (.brk (s_16.1,s_16.2.1,s_16.2.2.1,s_16.2.2.2))
noncomputable def bv (x_1:(List Span)):Option (Span) :=
  (bif (decide ((x_1.length:Int)<1))then none else some ()).bind λv_4=>(inR 0 x_1).bind λ_=>(x_1[(0+(0:Int).toNat)]?).bind λe_8=>(fC (1,e_8.f_e,e_8.f_time.From,e_8.f_time.To) (λs=>aZ x_1 s)).bind λo_19=>thenC o_19 (λs_16=>some (⟨s_16.2.1,(⟨s_16.2.2.1,s_16.2.2.2⟩:Window)⟩:Span)) (λ_=>none)
def gm (r_10:(List Span)) (r_13:(List Int)) (s_22:(List Slot_)×(List Span)×Int×Int) (s_43:(List Span)×Int):Option (Ctl ((List Span)×Int) (Unit)) :=
  (bif (decide (s_43.2<(r_10.length:Int)))then (inR s_43.2 r_10).bind λ_=>(r_10[(0+(s_43.2).toNat)]?).bind λe_54=>(idx r_13 s_22.2.2.2).bind λy_56=>some (decide (e_54.f_time.From<=y_56))else some false).bind λv_50=>bif v_50 then (inR s_43.2 r_10).bind λ_=>(r_10[(0+(s_43.2).toNat)]?).bind λe_60=>(lX s_43.1 ([e_60]:List Span)).bind λa_62=>some (.go (a_62,(w64 (s_43.2+1))))else some (.brk (s_43.1,s_43.2))
noncomputable def gq (r_13:(List Int)) (r_10:(List Span)) (s_22:(List Slot_)×(List Span)×Int×Int):Option (Ctl ((List Slot_)×(List Span)×Int×Int) (Unit)) :=
  bif (decide ((w64 (s_22.2.2.2+1))<(r_13.length:Int)))then (fC (s_22.2.1,s_22.2.2.1) (λs=>gm r_10 r_13 s_22 s)).bind λo_48=>thenC o_48 (λs_43=>(bI s_43.1 r_13 s_22.2.2.2).bind λr_65=>(leL r_65 s_43.1).bind λ_=>(bJ r_13 s_22.2.2.2).bind λ_=>(bif (decide ((r_65.length:Int)>0))then (neL r_65).bind λ_=>(bv r_65).bind λr_73=>(r_73.f_e).bind λy_75=>some y_75.Key else some (⟨#[]⟩:ByteArray)).bind λv_69=>(bif (decide ((w64 ((s_22.1.length:Int)-1))>=0))then (inR (w64 ((s_22.1.length:Int)-1)) s_22.1).bind λ_=>(s_22.1[(0+((w64 ((s_22.1.length:Int)-1))).toNat)]?).bind λe_81=>some (sEq e_81.Entry v_69)else some false).bind λv_77=>(bif v_77 then (idx r_13 (w64 (s_22.2.2.2+1))).bind λy_87=>(inR (w64 ((s_22.1.length:Int)-1)) s_22.1).bind λ_=>(s_22.1[(0+((w64 ((s_22.1.length:Int)-1))).toNat)]?).bind λe_90=>some (s_22.1.set (0+((w64 ((s_22.1.length:Int)-1))).toNat) (⟨(⟨e_90.Time.From,y_87⟩:Window),e_90.Entry⟩:Slot_))else (idx r_13 s_22.2.2.2).bind λy_92=>(idx r_13 (w64 (s_22.2.2.2+1))).bind λy_94=>(lX s_22.1 ([(⟨(⟨y_92,y_94⟩:Window),v_69⟩:Slot_)]:List Slot_)).bind λa_96=>some a_96).bind λv_83=>some (.go (v_83,r_65,s_43.2,(w64 (s_22.2.2.2+1))))) (λ_=>none)else some (.brk (s_22.1,s_22.2.1,s_22.2.2.1,s_22.2.2.2))
noncomputable def kT (l_1:(List Entry)) (p_2:Player) (wv_3:Window):Option ((List Slot_)) :=
  (je l_1 p_2 wv_3).bind λr_6=>(ic r_6).bind λr_10=>(iJ r_10 r_6).bind λ_=>(mR l_1 p_2 wv_3).bind λr_13=>(fC (([]:List Slot_),([]:List Span),0,0) (λs=>gq r_13 r_10 s)).bind λo_35=>thenC o_35 (λs_22=>some s_22.1) (λ_=>none)
noncomputable def kP (l_1:(List Entry)) (p_2:Player) (wv_3:Window):Option ((List Slot_)×Int) :=
  (lN l_1 p_2 wv_3).bind λr_6=>bif (r_6 != 0)then some (([]:(List Slot_)),r_6)else (kT l_1 p_2 wv_3).bind λr_9=>some (r_9,0)
def mY (k_3:Nat) (x_5:Rect) (s_8:Unit):Option (Ctl (Unit) (Int)) :=
  (iT x_5).bind λr_14=>bif (r_14 != 0)then some (.ret r_14)else some (.go ())
def mJ (l_1:(List Rect)):Option (Int) :=
  bif (decide ((l_1.length:Int)>2000))then some 2 else (forL l_1 () (λk x s=>mY k x s)).bind λo_11=>thenC o_11 (λs_8=>some 0) (λr=>some r)
def iL (n_1:Int):Option Bool :=
  bif (decide (n_1<0))then none else bif (decide ((w64 (n_1-(w64 (0-0))))>0))then (zN (w64 (n_1-(w64 (0-0)))) 32).bind λ_=>some true else some false
def gP (k_2:Nat) (x_4:(List Rect)) (s_7:Int):Option (Ctl (Int) (Unit)) :=
  (bif (decide ((w64 (s_7+(x_4.length:Int)))<0))then none else some ()).bind λv_12=>some (.go (w64 (s_7+(x_4.length:Int))))
def gL (k_18:Nat) (x_20:(List Rect)) (s_23:(List Rect)):Option (Ctl ((List Rect)) (Unit)) :=
  (lX s_23 x_20).bind λa_30=>some (.go a_30)
def fI (slices_1:(List (List Rect))):Option ((List Rect)) :=
  (forL slices_1 0 (λk x s=>gP k x s)).bind λo_10=>thenC o_10 (λs_7=>(iL s_7).bind λb_15=>(forL slices_1 ([]:List Rect) (λk x s=>gL k x s)).bind λo_28=>thenC o_28 (λs_23=>some s_23) (λ_=>none)) (λ_=>none)
def uU (a_1:Run) (b_2:Run):Option (Int) :=
  some (w64 (a_1.f_from-b_2.f_from))
def dw (a_2:Int) (s_21:(List Run)×Int):Option (Ctl ((List Run)×Int) (Unit)) :=
  (bif (decide (s_21.2>a_2))then (inR s_21.2 s_21.1).bind λ_=>(s_21.1[(0+(s_21.2).toNat)]?).bind λe_30=>(inR (w64 (s_21.2-1)) s_21.1).bind λ_=>(s_21.1[(0+((w64 (s_21.2-1))).toNat)]?).bind λe_33=>(uU e_30 e_33).bind λr_35=>some (decide (r_35<0))else some false).bind λv_26=>bif v_26 then (inR (w64 (s_21.2-1)) s_21.1).bind λ_=>(s_21.1[(0+((w64 (s_21.2-1))).toNat)]?).bind λe_39=>(inR s_21.2 s_21.1).bind λ_=>(s_21.1[(0+(s_21.2).toNat)]?).bind λe_42=>(inR s_21.2 s_21.1).bind λ_=>(s_21.1[(0+(s_21.2).toNat)]?).bind λe_45=>(inR (w64 (s_21.2-1)) (s_21.1.set (0+(s_21.2).toNat) e_39)).bind λ_=>((s_21.1.set (0+(s_21.2).toNat) e_39)[(0+((w64 (s_21.2-1))).toNat)]?).bind λe_48=>some (.go (((s_21.1.set (0+(s_21.2).toNat) e_39).set (0+((w64 (s_21.2-1))).toNat) e_42),(w64 (s_21.2-1))))else some (.brk (s_21.1,s_21.2))
noncomputable def bQ (b_3:Int) (a_2:Int) (s_10:(List Run)×Int):Option (Ctl ((List Run)×Int) (Unit)) :=
  bif (decide (s_10.2<b_3))then (fC (s_10.1,s_10.2) (λs=>dw a_2 s)).bind λo_24=>thenC o_24 (λs_21=>some (.go (s_21.1,(w64 (s_10.2+1))))) (λ_=>none)else some (.brk (s_10.1,s_10.2))
noncomputable def bX (data_1:(List Run)) (a_2:Int) (b_3:Int):Option ((List Run)) :=
  (fC (data_1,(w64 (a_2+1))) (λs=>bQ b_3 a_2 s)).bind λo_13=>thenC o_13 (λs_10=>some s_10.1) (λ_=>none)
noncomputable def dh (b_3:Int) (a_2:Int) (data_1:(List Run)) (limit_4:Int) (s_11:Unit):Option (Ctl (Unit) ((List Run))) :=
  bif (decide ((w64 (b_3-a_2))<=12))then (bX data_1 a_2 b_3).bind λr_17=>(iJ r_17 data_1).bind λ_=>some (.ret r_17)else bif (limit_4==0)then none else none
noncomputable def dD (data_1:(List Run)) (a_2:Int) (b_3:Int) (limit_4:Int):Option ((List Run)) :=
  (fC () (λs=>dh b_3 a_2 data_1 limit_4 s)).bind λo_14=>thenC o_14 (λs_11=>some data_1) (λr=>some r)
noncomputable def cz (x_1:(List Run)):Option ((List Run)) :=
  (fO (IntKind.u64.wrap (x_1.length:Int))).bind λr_3=>(dD x_1 0 (x_1.length:Int) r_3).bind λr_5=>(iJ r_5 x_1).bind λ_=>some r_5
def o7 (y_2:Int) (k_3:Nat) (x_5:Rect) (s_8:(List Run)):Option (Ctl ((List Run)) (Unit)) :=
  (bif (decide (x_5.Y<=y_2))then some (decide (y_2<(w64 (x_5.Y+x_5.H))))else some false).bind λv_17=>(bif v_17 then (lX s_8 ([(⟨x_5.X,(w64 (x_5.X+x_5.W))⟩:Run)]:List Run)).bind λa_24=>some a_24 else some s_8).bind λv_20=>some (.go v_20)
def pq (k_30:Nat) (x_32:Run) (s_35:(List Run)):Option (Ctl ((List Run)) (Unit)) :=
  (bif (decide ((w64 ((s_35.length:Int)-1))>=0))then (inR (w64 ((s_35.length:Int)-1)) s_35).bind λ_=>(s_35[(0+((w64 ((s_35.length:Int)-1))).toNat)]?).bind λe_48=>some (decide (x_32.f_from<=e_48.f_to))else some false).bind λv_44=>(bif v_44 then (inR (w64 ((s_35.length:Int)-1)) s_35).bind λ_=>(s_35[(0+((w64 ((s_35.length:Int)-1))).toNat)]?).bind λe_55=>(inR (w64 ((s_35.length:Int)-1)) s_35).bind λ_=>(s_35[(0+((w64 ((s_35.length:Int)-1))).toNat)]?).bind λe_58=>some (s_35.set (0+((w64 ((s_35.length:Int)-1))).toNat) (⟨e_58.f_from,(jE e_55.f_to x_32.f_to)⟩:Run))else (lX s_35 ([x_32]:List Run)).bind λa_60=>some a_60).bind λv_50=>some (.go v_50)
noncomputable def oU (l_1:(List Rect)) (y_2:Int):Option ((List Run)) :=
  (forL l_1 ([]:List Run) (λk x s=>o7 y_2 k x s)).bind λo_14=>thenC o_14 (λs_8=>(cz s_8).bind λr_27=>(iJ r_27 s_8).bind λ_=>(forL r_27 ([]:List Run) (λk x s=>pq k x s)).bind λo_41=>thenC o_41 (λs_35=>some s_35) (λ_=>none)) (λ_=>none)
def pz (m_2:(List Run)) (x_5:Run) (s_22:Int):Option (Ctl (Int) (Unit)) :=
  (bif (decide (s_22<(m_2.length:Int)))then (idx m_2 s_22).bind λy_30=>some (decide (y_30.f_to<=x_5.f_from))else some false).bind λv_27=>bif v_27 then some (.go (w64 (s_22+1)))else some (.brk s_22)
def pJ (m_2:(List Run)) (x_5:Run) (s_38:(List Run)×Int×Int):Option (Ctl ((List Run)×Int×Int) (Unit)) :=
  (bif (decide (s_38.2.1<(m_2.length:Int)))then (idx m_2 s_38.2.1).bind λy_48=>some (decide (y_48.f_from<x_5.f_to))else some false).bind λv_45=>bif v_45 then (idx m_2 s_38.2.1).bind λy_51=>(bif (decide (y_51.f_from>s_38.2.2))then (idx m_2 s_38.2.1).bind λy_57=>(lX s_38.1 ([(⟨s_38.2.2,y_57.f_from⟩:Run)]:List Run)).bind λa_59=>some a_59 else some s_38.1).bind λv_53=>(idx m_2 s_38.2.1).bind λy_62=>some (.go (v_53,(w64 (s_38.2.1+1)),(jE s_38.2.2 y_62.f_to)))else some (.brk (s_38.1,s_38.2.1,s_38.2.2))
noncomputable def nu (m_2:(List Run)) (k_3:Nat) (x_5:Run) (s_8:(List Run)×Int):Option (Ctl ((List Run)×Int) (Unit)) :=
  (fC s_8.2 (λs=>pz m_2 x_5 s)).bind λo_25=>thenC o_25 (λs_22=>(fC (s_8.1,s_22,x_5.f_from) (λs=>pJ m_2 x_5 s)).bind λo_43=>thenC o_43 (λs_38=>(bif (decide (s_38.2.2<x_5.f_to))then (lX s_38.1 ([(⟨s_38.2.2,x_5.f_to⟩:Run)]:List Run)).bind λa_68=>some a_68 else some s_38.1).bind λv_64=>some (.go (v_64,s_22))) (λ_=>none)) (λ_=>none)
noncomputable def qO (l_1:(List Run)) (m_2:(List Run)):Option ((List Run)) :=
  (forL l_1 (([]:List Run),0) (λk x s=>nu m_2 k x s)).bind λo_14=>thenC o_14 (λs_8=>some s_8.1) (λ_=>none)
def fP (s2_2:(List Run)) (k_4:Nat) (x_6:Run) (s_9:Unit):Option (Ctl (Unit) (Bool)) :=
  (idx s2_2 (k_4:Int)).bind λy_14=>bif (!((x_6.f_from==y_14.f_from)&&((x_6.f_to==y_14.f_to)&&true)))then some (.ret false)else some (.go ())
def eZ (s1_1:(List Run)) (s2_2:(List Run)):Option (Bool) :=
  bif ((s1_1.length:Int) != (s2_2.length:Int))then some false else (forL s1_1 () (λk x s=>fP s2_2 k x s)).bind λo_12=>thenC o_12 (λs_9=>some true) (λr=>some r)
def nK (k_5:Nat) (x_7:Rect) (s_10:(List Int)):Option (Ctl ((List Int)) (Unit)) :=
  (lX s_10 ([x_7.Y,(w64 (x_7.Y+x_7.H))]:List Int)).bind λa_19=>some (.go a_19)
def nI (s_32:(List Rect)×(List Run)×Int) (x_29:Int) (k_54:Nat) (x_56:Run) (s_59:(List Rect)):Option (Ctl ((List Rect)) (Unit)) :=
  (lX s_59 ([(⟨x_56.f_from,s_32.2.2,(w64 (x_56.f_to-x_56.f_from)),(w64 (x_29-s_32.2.2))⟩:Rect)]:List Rect)).bind λa_67=>some (.go a_67)
noncomputable def kZ (r_25:(List Int)) (l_1:(List Rect)) (m_2:(List Rect)) (k_27:Nat) (x_29:Int) (s_32:(List Rect)×(List Run)×Int):Option (Ctl ((List Rect)×(List Run)×Int) (Unit)) :=
  (bif (decide ((w64 ((k_27:Int)+1))<(r_25.length:Int)))then (oU l_1 x_29).bind λr_45=>(oU m_2 x_29).bind λr_47=>(qO r_45 r_47).bind λr_49=>some r_49 else some ([]:List Run)).bind λv_42=>(eZ s_32.2.1 v_42).bind λr_51=>bif r_51 then some (.go (s_32.1,s_32.2.1,s_32.2.2))else (forL s_32.2.1 s_32.1 (λk x s=>nI s_32 x_29 k x s)).bind λo_64=>thenC o_64 (λs_59=>some (.go (s_59,v_42,x_29))) (λ_=>none)
noncomputable def oD (l_1:(List Rect)) (m_2:(List Rect)):Option ((List Rect)) :=
  (fI ([l_1,m_2]:List (List Rect))).bind λr_3=>(forL r_3 ([]:List Int) (λk x s=>nK k x s)).bind λo_16=>thenC o_16 (λs_10=>(dC s_10).bind λr_22=>(iJ r_22 s_10).bind λ_=>(bO r_22).bind λr_25=>(forL r_25 (([]:List Rect),([]:List Run),0) (λk x s=>kZ r_25 l_1 m_2 k x s)).bind λo_38=>thenC o_38 (λs_32=>some s_32.1) (λ_=>none)) (λ_=>none)
def sS (k_2:Nat) (x_4:Rect) (s_7:Int):Option (Ctl (Int) (Unit)) :=
  some (.go (w64 (s_7+(w64 (x_4.W*x_4.H)))))
def uD (l_1:(List Rect)):Option (Int) :=
  (forL l_1 0 (λk x s=>sS k x s)).bind λo_10=>thenC o_10 (λs_7=>some s_7) (λ_=>none)
noncomputable def qW (l_1:(List Rect)):Option (Int×Int) :=
  (mJ l_1).bind λr_2=>bif (r_2 != 0)then some (0,r_2)else (oD l_1 ([]:List Rect)).bind λr_5=>(uD r_5).bind λr_7=>some (r_7,0)
def qb (wv_1:Window):Option (Bool) :=
  (bif (decide (wv_1.From>=0))then bif (decide (wv_1.From<wv_1.To))then some (decide (wv_1.To<=345686400000))else some false else some false).bind λv_3=>some v_3
noncomputable def kH (l_1:(List ByteArray)):Option (Int) :=
  bif (decide ((l_1.length:Int)>20))then some 2 else (jq l_1).bind λr_3=>some r_3
noncomputable def fV (l_1:(List Campaign)) (k_3:Nat) (x_5:Campaign) (s_8:Unit):Option (Ctl (Unit) (Int)) :=
  ((kit_IsKey x_5.Key).bind λr_16=>bif (!r_16)then some true else bif (sNe x_5.Class (⟨#[]⟩:ByteArray))then (kit_IsKey x_5.Class).bind λr_20=>some (!r_20)else some false).bind λv_14=>bif v_14 then some (.ret 5)else (bif (decide ((k_3:Int)>0))then (idx l_1 (w64 ((k_3:Int)-1))).bind λy_26=>some (sLe x_5.Key y_26.Key)else some false).bind λv_23=>bif v_23 then some (.ret 7)else ((qb x_5.Time).bind λr_31=>bif (!r_31)then some true else (aQ x_5.Goal 0 1000000).bind λr_34=>bif r_34 then some true else (aQ x_5.Most 0 1000000).bind λr_37=>bif r_37 then some true else (aQ x_5.Cents 0 1000000000).bind λr_40=>some r_40).bind λv_29=>bif v_29 then some (.ret 1)else (kH x_5.Tags).bind λr_43=>bif (r_43 != 0)then some (.ret r_43)else some (.go ())
noncomputable def iB (l_1:(List Campaign)):Option (Int) :=
  bif (decide ((l_1.length:Int)>30))then some 2 else (forL l_1 () (λk x s=>fV l_1 k x s)).bind λo_11=>thenC o_11 (λs_8=>some 0) (λr=>some r)
def uI (c_1:Campaign) (atv_2:Int):Option (Int) :=
  bif (decide (atv_2<c_1.Time.From))then some 0 else bif (decide (atv_2>=c_1.Time.To))then some c_1.Goal else (Lc .i64 (w64 (c_1.Goal*(w64 (atv_2-c_1.Time.From)))) (w64 (c_1.Time.To-c_1.Time.From))).bind λq_6=>some q_6
noncomputable def qP (c_1:Campaign) (atv_2:Int):Option (Int×Int) :=
  (iB ([c_1]:List Campaign)).bind λr_4=>bif (r_4 != 0)then some (0,r_4)else (dS atv_2).bind λr_7=>bif (!r_7)then some (0,1)else (uI c_1 atv_2).bind λr_10=>some (r_10,0)
def lM (a_1:Beat) (b_2:Beat):Option (Int) :=
  (strings_Compare a_1.Player b_2.Player).bind λr_5=>(cmp_Compare_int a_1.At b_2.At).bind λr_7=>(jw ([r_5,r_7]:List Int)).bind λr_9=>some r_9
noncomputable def jB (l_1:(List Beat)) (k_3:Nat) (x_5:Beat) (s_8:Unit):Option (Ctl (Unit) (Int)) :=
  (kit_IsKey x_5.Player).bind λr_14=>bif (!r_14)then some (.ret 5)else ((dS x_5.At).bind λr_19=>bif (!r_19)then some true else (aQ x_5.Clock 0 345686399999).bind λr_22=>some r_22).bind λv_17=>bif v_17 then some (.ret 1)else (bif (decide ((k_3:Int)>0))then (idx l_1 (w64 ((k_3:Int)-1))).bind λy_28=>(lM y_28 x_5).bind λr_30=>some (decide (r_30>=0))else some false).bind λv_25=>bif v_25 then some (.ret 7)else (bif (decide ((k_3:Int)>0))then (idx l_1 (w64 ((k_3:Int)-1))).bind λy_36=>bif (sEq x_5.Player y_36.Player)then (idx l_1 (w64 ((k_3:Int)-1))).bind λy_39=>some (decide (x_5.Clock<=y_39.Clock))else some false else some false).bind λv_33=>bif v_33 then some (.ret 16)else some (.go ())
noncomputable def kM (l_1:(List Beat)):Option (Int) :=
  bif (decide ((l_1.length:Int)>500))then some 2 else (forL l_1 () (λk x s=>jB l_1 k x s)).bind λo_11=>thenC o_11 (λs_8=>some 0) (λr=>some r)
def qz (player_2:ByteArray) (back_3:Bool) (k_4:Nat) (x_6:Beat) (s_9:(List Beat_)):Option (Ctl ((List Beat_)) (Unit)) :=
  (bif (sNe x_6.Player player_2)then some s_9 else bif back_3 then (lX s_9 ([(⟨x_6.At,x_6.Clock⟩:Beat_)]:List Beat_)).bind λa_23=>some a_23 else (lX s_9 ([(⟨x_6.Clock,x_6.At⟩:Beat_)]:List Beat_)).bind λa_26=>some a_26).bind λv_18=>some (.go v_18)
def qM (l_1:(List Beat)) (player_2:ByteArray) (back_3:Bool):Option ((List Beat_)) :=
  (forL l_1 ([]:List Beat_) (λk x s=>qz player_2 back_3 k x s)).bind λo_15=>thenC o_15 (λs_9=>some s_9) (λ_=>none)
def oG (l_1:(List Beat_)) (n_2:Int) (s_9:Int):Option (Ctl (Int) (Unit)) :=
  (bif (decide (s_9<(l_1.length:Int)))then (idx l_1 s_9).bind λy_17=>some (decide (y_17.f_from<=n_2))else some false).bind λv_14=>bif v_14 then some (.go (w64 (s_9+1)))else some (.brk s_9)
noncomputable def pu (l_1:(List Beat_)) (n_2:Int):Option (Int×Int) :=
  bif ((l_1.length:Int)==0)then some (0,8)else (fC 0 (λs=>oG l_1 n_2 s)).bind λo_12=>thenC o_12 (λs_9=>bif (s_9==0)then (idx l_1 0).bind λy_21=>(idx l_1 0).bind λy_23=>(dS (w64 (y_21.f_to-(w64 (y_23.f_from-n_2))))).bind λr_25=>bif (!r_25)then some (0,11)else some ((w64 (y_21.f_to-(w64 (y_23.f_from-n_2)))),0)else bif (s_9==(l_1.length:Int))then (idx l_1 (w64 (s_9-1))).bind λy_29=>(idx l_1 (w64 (s_9-1))).bind λy_31=>(dS (w64 ((w64 (y_29.f_to+n_2))-y_31.f_from))).bind λr_33=>bif (!r_33)then some (0,11)else some ((w64 ((w64 (y_29.f_to+n_2))-y_31.f_from)),0)else (idx l_1 (w64 (s_9-1))).bind λy_36=>(idx l_1 s_9).bind λy_38=>(bif (decide ((w64 (y_38.f_from-y_36.f_from))>2592000000))then some true else some (decide ((w64 (y_38.f_to-y_36.f_to))>2592000000))).bind λv_42=>bif v_42 then some (0,2)else (Lc .i64 (w64 ((w64 (n_2-y_36.f_from))*(w64 (y_38.f_to-y_36.f_to)))) (w64 (y_38.f_from-y_36.f_from))).bind λq_46=>(dS (w64 (y_36.f_to+q_46))).bind λr_48=>bif (!r_48)then some (0,11)else some ((w64 (y_36.f_to+q_46)),0)) (λ_=>none)
noncomputable def rq (l_1:(List Beat)) (player_2:ByteArray) (n_3:Int) (back_4:Bool):Option (Int×Int) :=
  (kM l_1).bind λr_5=>bif (r_5 != 0)then some (0,r_5)else (kit_IsKey player_2).bind λr_8=>bif (!r_8)then some (0,5)else (dS n_3).bind λr_11=>bif (!r_11)then some (0,1)else (qM l_1 player_2 back_4).bind λr_14=>(pu r_14 n_3).bind λr_16=>some (r_16.1,r_16.2)
noncomputable def qR (l_1:(List Beat)) (player_2:ByteArray) (clock_3:Int):Option (Int×Int) :=
  (rq l_1 player_2 clock_3 false).bind λr_4=>some (r_4.1,r_4.2)
def mI (wv_3:Window) (k_19:Nat) (x_21:Nat) (s_24:(List Window)):Option (Ctl ((List Window)) (Unit)) :=
  (inR (k_19:Int) s_24).bind λ_=>(s_24[(0+((k_19:Int)).toNat)]?).bind λe_30=>(sw e_30 wv_3).bind λr_33=>(inR (k_19:Int) s_24).bind λ_=>(s_24[(0+((k_19:Int)).toNat)]?).bind λe_36=>some (.go (s_24.set (0+((k_19:Int)).toNat) r_33))
noncomputable def nA (e_1:Entry) (zone_2:Int) (wv_3:Window):Option ((List Window)×Int) :=
  (eF ([e_1]:List Entry)).bind λr_6=>bif (r_6 != 0)then some (([]:(List Window)),r_6)else (aQ zone_2 (-1440) 1440).bind λr_9=>bif r_9 then some (([]:(List Window)),1)else (fJ wv_3).bind λr_12=>bif (r_12 != 0)then some (([]:(List Window)),r_12)else (gD e_1 zone_2 wv_3).bind λr_15=>(forL (List.range ((r_15.length:Int)).toNat) r_15 (λk x s=>mI wv_3 k x s)).bind λo_27=>thenC o_27 (λs_24=>some (s_24,0)) (λ_=>none)
noncomputable def jM  : Option (Bool) :=
  (qW ([(⟨0,0,2,2⟩:Rect),(⟨1,1,2,2⟩:Rect)]:List Rect)).bind λr_1=>(qP (⟨(⟨#[97]⟩:ByteArray),(⟨#[]⟩:ByteArray),(⟨0,100⟩:Window),([]:List ByteArray),10,0,0⟩:Campaign) 50).bind λr_3=>(qR ([(⟨(⟨#[112]⟩:ByteArray),0,100⟩:Beat),(⟨(⟨#[112]⟩:ByteArray),1000,1300⟩:Beat)]:List Beat) (⟨#[112]⟩:ByteArray) 700).bind λr_5=>(nA (⟨(⟨#[97]⟩:ByteArray),(⟨#[98]⟩:ByteArray),0,0,0,1,127,([]:List Int),1,2,0,([]:List ByteArray),false⟩:Entry) 0 (⟨0,86400000⟩:Window)).bind λr_7=>(bif (r_1.2==0)then bif (r_3.2==0)then bif (r_5.2==0)then bif (r_7.2==0)then bif (r_1.1==7)then bif (r_3.1==5)then bif (r_5.1==500)then some ((r_7.1.length:Int)==1)else some false else some false else some false else some false else some false else some false else some false).bind λv_9=>some v_9
def ek (x_36:Slot_) (k_45:Nat) (x_47:Slot_) (s_50:Int):Option (Ctl (Int) (Unit)) :=
  some (.go (w64 (s_50+(jE 0 (w64 ((lD x_36.Time.To x_47.Time.To)-(jE x_36.Time.From x_47.Time.From)))))))
def d9 (r_28:(List Slot_)×Int) (k_34:Nat) (x_36:Slot_) (s_39:Int):Option (Ctl (Int) (Unit)) :=
  (forL r_28.1 s_39 (λk x s=>ek x_36 k x s)).bind λo_53=>thenC o_53 (λs_50=>some (.go s_50)) (λ_=>none)
noncomputable def ja (l_1:(List Int)):Option (Bool) :=
  (gz (⟨l_1,0⟩:Stream) 5).bind λr_3=>(bT r_3.2 (-2) 8).bind λr_6=>(bT r_6.2 (-2) 8).bind λr_9=>(iw r_9.2).bind λr_12=>(bT r_12.2 0 20).bind λr_15=>(bT r_15.2 20 100).bind λr_18=>(oq r_3.1 (⟨(⟨#[112,97]⟩:ByteArray),r_6.1,r_9.1⟩:Post) (⟨r_15.1,r_18.1⟩:Window)).bind λr_23=>(iP r_18.2).bind λr_25=>(kP r_12.1 r_25.1 (⟨r_15.1,r_18.1⟩:Window)).bind λr_28=>(bif (r_23.2 != 0)then some true else some (r_28.2 != 0)).bind λv_30=>bif v_30 then some false else (forL r_23.1 0 (λk x s=>d9 r_28 k x s)).bind λo_42=>thenC o_42 (λs_39=>(bif (s_39==(w64 (r_18.1-r_15.1)))then (jM).bind λr_59=>some r_59 else some false).bind λv_56=>some v_56) (λ_=>none)
end Go.Proofs.YticmkhcacamhkaaGreatDoor.Law

