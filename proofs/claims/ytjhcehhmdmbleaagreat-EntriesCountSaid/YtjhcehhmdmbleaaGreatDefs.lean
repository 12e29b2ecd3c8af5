/-
  The functions of the program, as plain functions over data (written by a program of ours).
-/
import Derived.Test.YtjhcehhmdmbleaaGreatEng5
open Go Go.Eng
namespace Go.Proofs.YtjhcehhmdmbleaaGreat.Law
set_option maxRecDepth 100000
set_option linter.unusedVariables false
set_option maxHeartbeats 1000000
structure Stream where
  L:(List Int)
  f_at:Int
def Stream.enc (s:Stream):List D := [dl eI s.L,.int .i64 s.f_at]

structure Entry where
  Key:ByteArray
  Item:ByteArray
  Version:Int
  First:Int
  Last:Int
  Every:Int
  Days:Int
  Except:(List Int)
  From:Int
  To:Int
  Prio:Int
  Tags:(List ByteArray)
  Gone:Bool
def Entry.enc (s:Entry):List D := [.str s.Key,.str s.Item,.int .i64 s.Version,.int .i64 s.First,.int .i64 s.Last,.int .i64 s.Every,.int .i64 s.Days,dl eI s.Except,.int .i64 s.From,.int .i64 s.To,.int .i64 s.Prio,dl eS s.Tags,.bool s.Gone]

structure Player where
  Key:ByteArray
  Screen:ByteArray
  Zone:Int
  Tags:(List ByteArray)
def Player.enc (s:Player):List D := [.str s.Key,.str s.Screen,.int .i64 s.Zone,dl eS s.Tags]

structure Window where
  From:Int
  To:Int
def Window.enc (s:Window):List D := [.int .i64 s.From,.int .i64 s.To]

structure Span where
  f_e:(Option Entry)
  f_time:Window
def Span.enc (s:Span):List D := [dP Entry.enc s.f_e,.int .i64 s.f_time.From,.int .i64 s.f_time.To]

structure Slot_ where
  Time:Window
  Entry:ByteArray
def Slot_.enc (s:Slot_):List D := [.int .i64 s.Time.From,.int .i64 s.Time.To,.str s.Entry]

def mk_Below (x_1:Int) (n_2:Int):Option (Int) :=
  bif (decide (n_2 < 1))then some 0 else (remO .i64 x_1 n_2).bind fun q_4=>(bif (decide (q_4 < 0))then some (w64 (q_4 + n_2))else some q_4).bind fun v_6=>some v_6
def mk_Stream_Next (s_1:Stream) (n_2:Int):Option (Int×Stream) :=
  bif ((s_1.L.length:Int) == 0)then (mk_Below (w64 ((w64 (s_1.f_at + 1)) * 7919)) n_2).bind fun r_4=>some (r_4,(⟨s_1.L,(w64 (s_1.f_at + 1))⟩:Stream))else (remO .i64 (w64 ((w64 (s_1.f_at + 1)) - 1)) (s_1.L.length:Int)).bind fun q_6=>(quoO .i64 (w64 ((w64 (s_1.f_at + 1)) - 1)) (s_1.L.length:Int)).bind fun q_8=>(idx s_1.L q_6).bind fun y_10=>(mk_Below y_10 1073741824).bind fun r_12=>(mk_Below (w64 (r_12 + (w64 (q_8 * (w64 (7919 + q_6)))))) n_2).bind fun r_14=>some (r_14,(⟨s_1.L,(w64 (s_1.f_at + 1))⟩:Stream))
def mk_Stream_Flip (s_1:Stream) (n_2:Int):Option (Bool×Stream) :=
  (mk_Stream_Next s_1 n_2).bind fun r_3=>some ((r_3.1 == 0),r_3.2)
def mk_Stream_Some (s_1:Stream) (l_2:(List ByteArray)):Option (ByteArray×Stream) :=
  (mk_Stream_Next s_1 (l_2.length:Int)).bind fun r_3=>(idx l_2 r_3.1).bind fun y_6=>some (y_6,r_3.2)
def mk_Stream_Range (s_1:Stream) (low_2:Int) (high_3:Int):Option (Int×Stream) :=
  bif (decide (high_3 < low_2))then some (low_2,s_1)else (mk_Stream_Next s_1 (w64 ((w64 (high_3 - low_2)) + 1))).bind fun r_5=>some ((w64 (low_2 + r_5.1)),r_5.2)
def mk_Stream_Pick (s_1:Stream) (l_2:(List Int)):Option (Int×Stream) :=
  (mk_Stream_Next s_1 (l_2.length:Int)).bind fun r_3=>(idx l_2 r_3.1).bind fun y_6=>some (y_6,r_3.2)
def mk_Stream_RightEntries_L1 (k_50:Nat) (x_52:Int) (s_55:(List Int)×(List Int)×Int):Option (Ctl ((List Int)×(List Int)×Int) (Unit)) :=
  (mk_Stream_Flip (⟨s_55.2.1,s_55.2.2⟩:Stream) 4).bind fun r_63=>(bif r_63.1 then (appL s_55.1 ([x_52]:List Int)).bind fun a_70=>some a_70 else some s_55.1).bind fun v_66=>some (.go (v_66,r_63.2.L,r_63.2.f_at))
def mk_Stream_RightEntries_L2 (k_73:Nat) (x_75:ByteArray) (s_78:(List ByteArray)×(List Int)×Int):Option (Ctl ((List ByteArray)×(List Int)×Int) (Unit)) :=
  (mk_Stream_Flip (⟨s_78.2.1,s_78.2.2⟩:Stream) 4).bind fun r_86=>(bif r_86.1 then (appL s_78.1 ([x_75]:List ByteArray)).bind fun a_93=>some a_93 else some s_78.1).bind fun v_89=>some (.go (v_89,r_86.2.L,r_86.2.f_at))
def mk_Stream_RightEntries_L3 (k_2:Nat) (x_4:ByteArray) (s_7:(List Entry)×(List Int)×Int):Option (Ctl ((List Entry)×(List Int)×Int) (Unit)) :=
  (mk_Stream_Flip (⟨s_7.2.1,s_7.2.2⟩:Stream) 4).bind fun r_15=>bif r_15.1 then some (.go (s_7.1,r_15.2.L,r_15.2.f_at))else (mk_Stream_Some r_15.2 ([(⟨#[105,97]⟩:ByteArray),(⟨#[105,98]⟩:ByteArray),(⟨#[105,99]⟩:ByteArray)]:List ByteArray)).bind fun r_19=>(mk_Stream_Range r_19.2 0 2).bind fun r_22=>(mk_Stream_Pick r_22.2 ([0,0,1,3]:List Int)).bind fun r_25=>(mk_Stream_Pick r_25.2 ([1,1,2,3,7]:List Int)).bind fun r_28=>(mk_Stream_Pick r_28.2 ([127,127,31,96,1,2]:List Int)).bind fun r_31=>(mk_Stream_Pick r_31.2 ([0,0,60,600,1380]:List Int)).bind fun r_34=>(mk_Stream_Pick r_34.2 ([0,60,120,600,720,1439]:List Int)).bind fun r_37=>(mk_Stream_Pick r_37.2 ([0,0,1,5]:List Int)).bind fun r_40=>(mk_Stream_Flip r_40.2 8).bind fun r_43=>(mk_Stream_Pick r_43.2 ([0,1,5,10,30]:List Int)).bind fun r_47=>(forL ([1,2,8]:List Int) (([]:List Int),r_47.2.L,r_47.2.f_at) (fun k x s=>mk_Stream_RightEntries_L1 k x s)).bind fun o_61=>thenC o_61 (fun s_55=>(forL ([(⟨#[99,105,116,121]⟩:ByteArray),(⟨#[109,97,108,108]⟩:ByteArray)]:List ByteArray) (([]:List ByteArray),s_55.2.1,s_55.2.2) (fun k x s=>mk_Stream_RightEntries_L2 k x s)).bind fun o_84=>thenC o_84 (fun s_78=>(appL s_7.1 ([(⟨x_4,r_19.1,r_22.1,r_25.1,(w64 (r_25.1 + r_47.1)),r_28.1,r_31.1,s_55.1,r_34.1,r_37.1,r_40.1,s_78.1,r_43.1⟩:Entry)]:List Entry)).bind fun a_96=>some (.go (a_96,s_78.2.1,s_78.2.2))) (fun _=>none)) (fun _=>none)
def mk_Stream_RightEntries (s_1:Stream):Option ((List Entry)×Stream) :=
  (forL ([(⟨#[101,97]⟩:ByteArray),(⟨#[101,98]⟩:ByteArray),(⟨#[101,99]⟩:ByteArray),(⟨#[101,100]⟩:ByteArray)]:List ByteArray) (([]:List Entry),s_1.L,s_1.f_at) (fun k x s=>mk_Stream_RightEntries_L3 k x s)).bind fun o_13=>thenC o_13 (fun s_7=>some (s_7.1,(⟨s_7.2.1,s_7.2.2⟩:Stream))) (fun _=>none)
def mk_Stream_Odd (s_1:Stream) (low_2:Int) (high_3:Int):Option (Int×Stream) :=
  (mk_Stream_Flip s_1 12).bind fun r_4=>bif r_4.1 then (mk_Stream_Pick r_4.2 ([(w64 (low_2 - 1)),(w64 (high_3 + 1)),low_2,high_3,(-1099511627776),1099511627776]:List Int)).bind fun r_8=>some (r_8.1,r_8.2)else (mk_Stream_Range r_4.2 low_2 high_3).bind fun r_11=>some (r_11.1,r_11.2)
def slices_Clone_int_int (s_1:(List Int)):Option ((List Int)) :=
  (appL [] s_1).bind fun a_4=>some a_4
def mk_Stream_Entries (s_1:Stream):Option ((List Entry)×Stream) :=
  (mk_Stream_RightEntries s_1).bind fun r_2=>(bif (decide ((r_2.1.length:Int) > 0))then (mk_Stream_Flip r_2.2 10).bind fun r_9=>some (r_9.1,r_9.2.L,r_9.2.f_at)else some (false,r_2.2.L,r_2.2.f_at)).bind fun v_6=>(bif v_6.1 then (mk_Stream_Next (⟨v_6.2.1,v_6.2.2⟩:Stream) (r_2.1.length:Int)).bind fun r_15=>(inR r_15.1 r_2.1).bind fun _=>(mk_Stream_Next r_15.2 6).bind fun r_19=>bif (r_19.1 == 0)then (r_2.1[(0 + (r_15.1).toNat)]?).bind fun e_23=>(mk_Stream_Some r_19.2 ([e_23.Key,(⟨#[]⟩:ByteArray),(⟨#[65]⟩:ByteArray),(⟨#[101,97]⟩:ByteArray)]:List ByteArray)).bind fun r_25=>(mk_Stream_Some r_25.2 ([(⟨#[105,97]⟩:ByteArray),(⟨#[]⟩:ByteArray),(⟨#[66]⟩:ByteArray)]:List ByteArray)).bind fun r_28=>(r_2.1[(0 + (r_15.1).toNat)]?).bind fun e_31=>((r_2.1.set (0 + (r_15.1).toNat) (⟨r_25.1,e_31.Item,e_31.Version,e_31.First,e_31.Last,e_31.Every,e_31.Days,e_31.Except,e_31.From,e_31.To,e_31.Prio,e_31.Tags,e_31.Gone⟩:Entry))[(0 + (r_15.1).toNat)]?).bind fun e_33=>some (((r_2.1.set (0 + (r_15.1).toNat) (⟨r_25.1,e_31.Item,e_31.Version,e_31.First,e_31.Last,e_31.Every,e_31.Days,e_31.Except,e_31.From,e_31.To,e_31.Prio,e_31.Tags,e_31.Gone⟩:Entry)).set (0 + (r_15.1).toNat) (⟨e_33.Key,r_28.1,e_33.Version,e_33.First,e_33.Last,e_33.Every,e_33.Days,e_33.Except,e_33.From,e_33.To,e_33.Prio,e_33.Tags,e_33.Gone⟩:Entry)),r_28.2.L,r_28.2.f_at)else bif (r_19.1 == 1)then (mk_Stream_Odd r_19.2 0 10).bind fun r_36=>(mk_Stream_Odd r_36.2 0 4000).bind fun r_39=>(r_2.1[(0 + (r_15.1).toNat)]?).bind fun e_42=>((r_2.1.set (0 + (r_15.1).toNat) (⟨e_42.Key,e_42.Item,e_42.Version,r_36.1,e_42.Last,e_42.Every,e_42.Days,e_42.Except,e_42.From,e_42.To,e_42.Prio,e_42.Tags,e_42.Gone⟩:Entry))[(0 + (r_15.1).toNat)]?).bind fun e_44=>some (((r_2.1.set (0 + (r_15.1).toNat) (⟨e_42.Key,e_42.Item,e_42.Version,r_36.1,e_42.Last,e_42.Every,e_42.Days,e_42.Except,e_42.From,e_42.To,e_42.Prio,e_42.Tags,e_42.Gone⟩:Entry)).set (0 + (r_15.1).toNat) (⟨e_44.Key,e_44.Item,e_44.Version,e_44.First,r_39.1,e_44.Every,e_44.Days,e_44.Except,e_44.From,e_44.To,e_44.Prio,e_44.Tags,e_44.Gone⟩:Entry)),r_39.2.L,r_39.2.f_at)else bif (r_19.1 == 2)then (mk_Stream_Odd r_19.2 1 400).bind fun r_47=>(mk_Stream_Odd r_47.2 1 127).bind fun r_50=>(r_2.1[(0 + (r_15.1).toNat)]?).bind fun e_53=>((r_2.1.set (0 + (r_15.1).toNat) (⟨e_53.Key,e_53.Item,e_53.Version,e_53.First,e_53.Last,r_47.1,e_53.Days,e_53.Except,e_53.From,e_53.To,e_53.Prio,e_53.Tags,e_53.Gone⟩:Entry))[(0 + (r_15.1).toNat)]?).bind fun e_55=>some (((r_2.1.set (0 + (r_15.1).toNat) (⟨e_53.Key,e_53.Item,e_53.Version,e_53.First,e_53.Last,r_47.1,e_53.Days,e_53.Except,e_53.From,e_53.To,e_53.Prio,e_53.Tags,e_53.Gone⟩:Entry)).set (0 + (r_15.1).toNat) (⟨e_55.Key,e_55.Item,e_55.Version,e_55.First,e_55.Last,e_55.Every,r_50.1,e_55.Except,e_55.From,e_55.To,e_55.Prio,e_55.Tags,e_55.Gone⟩:Entry)),r_50.2.L,r_50.2.f_at)else bif (r_19.1 == 3)then (r_2.1[(0 + (r_15.1).toNat)]?).bind fun e_58=>(slices_Clone_int_int e_58.Except).bind fun r_60=>(mk_Stream_Odd r_19.2 0 4000).bind fun r_64=>(appL r_60 ([r_64.1]:List Int)).bind fun a_67=>(r_2.1[(0 + (r_15.1).toNat)]?).bind fun e_70=>some ((r_2.1.set (0 + (r_15.1).toNat) (⟨e_70.Key,e_70.Item,e_70.Version,e_70.First,e_70.Last,e_70.Every,e_70.Days,a_67,e_70.From,e_70.To,e_70.Prio,e_70.Tags,e_70.Gone⟩:Entry)),r_64.2.L,r_64.2.f_at)else bif (r_19.1 == 4)then (mk_Stream_Odd r_19.2 0 1439).bind fun r_73=>(mk_Stream_Odd r_73.2 0 1439).bind fun r_76=>(r_2.1[(0 + (r_15.1).toNat)]?).bind fun e_79=>((r_2.1.set (0 + (r_15.1).toNat) (⟨e_79.Key,e_79.Item,e_79.Version,e_79.First,e_79.Last,e_79.Every,e_79.Days,e_79.Except,r_73.1,e_79.To,e_79.Prio,e_79.Tags,e_79.Gone⟩:Entry))[(0 + (r_15.1).toNat)]?).bind fun e_81=>some (((r_2.1.set (0 + (r_15.1).toNat) (⟨e_79.Key,e_79.Item,e_79.Version,e_79.First,e_79.Last,e_79.Every,e_79.Days,e_79.Except,r_73.1,e_79.To,e_79.Prio,e_79.Tags,e_79.Gone⟩:Entry)).set (0 + (r_15.1).toNat) (⟨e_81.Key,e_81.Item,e_81.Version,e_81.First,e_81.Last,e_81.Every,e_81.Days,e_81.Except,e_81.From,r_76.1,e_81.Prio,e_81.Tags,e_81.Gone⟩:Entry)),r_76.2.L,r_76.2.f_at)else (mk_Stream_Next r_19.2 3).bind fun r_83=>(idx ([([(⟨#[109,97,108,108]⟩:ByteArray),(⟨#[99,105,116,121]⟩:ByteArray)]:List ByteArray),([(⟨#[]⟩:ByteArray)]:List ByteArray),([(⟨#[97]⟩:ByteArray),(⟨#[97]⟩:ByteArray)]:List ByteArray)]:List (List ByteArray)) r_83.1).bind fun y_86=>(mk_Stream_Odd r_83.2 0 9).bind fun r_88=>(r_2.1[(0 + (r_15.1).toNat)]?).bind fun e_91=>((r_2.1.set (0 + (r_15.1).toNat) (⟨e_91.Key,e_91.Item,e_91.Version,e_91.First,e_91.Last,e_91.Every,e_91.Days,e_91.Except,e_91.From,e_91.To,e_91.Prio,y_86,e_91.Gone⟩:Entry))[(0 + (r_15.1).toNat)]?).bind fun e_93=>some (((r_2.1.set (0 + (r_15.1).toNat) (⟨e_91.Key,e_91.Item,e_91.Version,e_91.First,e_91.Last,e_91.Every,e_91.Days,e_91.Except,e_91.From,e_91.To,e_91.Prio,y_86,e_91.Gone⟩:Entry)).set (0 + (r_15.1).toNat) (⟨e_93.Key,e_93.Item,e_93.Version,e_93.First,e_93.Last,e_93.Every,e_93.Days,e_93.Except,e_93.From,e_93.To,r_88.1,e_93.Tags,e_93.Gone⟩:Entry)),r_88.2.L,r_88.2.f_at)else some (r_2.1,v_6.2.1,v_6.2.2)).bind fun v_12=>some (v_12.1,(⟨v_12.2.1,v_12.2.2⟩:Stream))
def mk_Stream_RightPlayer (s_1:Stream):Option (Player×Stream) :=
  (mk_Stream_Pick s_1 ([0,0,60,(-90),1440]:List Int)).bind fun r_3=>(mk_Stream_Next r_3.2 3).bind fun r_6=>(idx ([([]:List ByteArray),([(⟨#[99,105,116,121]⟩:ByteArray)]:List ByteArray),([(⟨#[99,105,116,121]⟩:ByteArray),(⟨#[109,97,108,108]⟩:ByteArray)]:List ByteArray)]:List (List ByteArray)) r_6.1).bind fun y_9=>some ((⟨(⟨#[112]⟩:ByteArray),(⟨#[115,97]⟩:ByteArray),r_3.1,y_9⟩:Player),r_6.2)
def mk_Stream_Player (s_1:Stream):Option (Player×Stream) :=
  (mk_Stream_RightPlayer s_1).bind fun r_3=>(mk_Stream_Flip r_3.2 15).bind fun r_7=>(bif r_7.1 then (mk_Stream_Some r_7.2 ([(⟨#[112]⟩:ByteArray),(⟨#[]⟩:ByteArray)]:List ByteArray)).bind fun r_13=>(mk_Stream_Some r_13.2 ([(⟨#[115,97]⟩:ByteArray),(⟨#[65]⟩:ByteArray)]:List ByteArray)).bind fun r_16=>(mk_Stream_Odd r_16.2 (-1440) 1440).bind fun r_19=>(mk_Stream_Next r_19.2 3).bind fun r_22=>(idx ([([(⟨#[109,97,108,108]⟩:ByteArray),(⟨#[99,105,116,121]⟩:ByteArray)]:List ByteArray),([(⟨#[]⟩:ByteArray)]:List ByteArray),([]:List ByteArray)]:List (List ByteArray)) r_22.1).bind fun y_25=>some (r_22.2.L,r_22.2.f_at,r_13.1,r_16.1,r_19.1,y_25)else some (r_7.2.L,r_7.2.f_at,r_3.1.Key,r_3.1.Screen,r_3.1.Zone,r_3.1.Tags)).bind fun v_10=>some ((⟨v_10.2.2.1,v_10.2.2.2.1,v_10.2.2.2.2.1,v_10.2.2.2.2.2⟩:Player),(⟨v_10.1,v_10.2.1⟩:Stream))
def mk_Stream_Moment (s_1:Stream):Option (Int×Stream) :=
  (mk_Stream_Pick s_1 ([0,0,1,2,3,5,8]:List Int)).bind fun r_2=>(mk_Stream_Pick r_2.2 ([0,60,120,600,720,1380,1439]:List Int)).bind fun r_5=>(mk_Stream_Pick r_5.2 ([0,0,1,30000,(-1)]:List Int)).bind fun r_8=>some ((w64 ((w64 ((w64 (r_2.1 * 86400000)) + (w64 (r_5.1 * 60000)))) + r_8.1)),r_8.2)
def kit_IsKey_L1 (s_1:ByteArray) (s_7:Int):Option (Ctl (Int) (Bool)) :=
  bif (decide (s_7 < (s_1.size:Int)))then (idxS s_1 s_7).bind fun b_13=>(bif (decide ((b_13.toNat:Int)≥97))then bif (decide ((b_13.toNat:Int)≤122))then some false else bif (decide (s_7 > 0))then bif (decide ((b_13.toNat:Int)≥48))then bif (decide ((b_13.toNat:Int)≤57))then some false else bif ((b_13.toNat:Int) == 45)then some false else some (!((b_13.toNat:Int) == 95))else bif ((b_13.toNat:Int) == 45)then some false else some (!((b_13.toNat:Int) == 95))else some true else bif (decide (s_7 > 0))then bif (decide ((b_13.toNat:Int)≥48))then bif (decide ((b_13.toNat:Int)≤57))then some false else bif ((b_13.toNat:Int) == 45)then some false else some (!((b_13.toNat:Int) == 95))else bif ((b_13.toNat:Int) == 45)then some false else some (!((b_13.toNat:Int) == 95))else some true).bind fun v_15=>bif v_15 then some (.ret false)else some (.go (w64 (s_7 + 1)))else some (.brk s_7)
noncomputable def kit_IsKey (s_1:ByteArray):Option (Bool) :=
  (loopO 0 (fun s=>kit_IsKey_L1 s_1 s)).bind fun o_10=>thenC o_10 (fun s_7=>(bif (sNe s_1 (⟨#[]⟩:ByteArray))then some (decide ((s_1.size:Int)≤40))else some false).bind fun v_30=>some v_30) (fun r=>some r)
def kit_Outside (n_1:Int) (low_2:Int) (high_3:Int):Option (Bool) :=
  (bif (decide (n_1 < low_2))then some true else some (decide (n_1 > high_3))).bind fun v_4=>some v_4
def kit_IsDay (n_1:Int):Option (Bool) :=
  (bif (decide (n_1≥0))then some (decide (n_1≤4000))else some false).bind fun v_2=>some v_2
def schedule_exceptFault_L1 (l_1:(List Int)) (k_3:Nat) (x_5:Int) (s_8:Unit):Option (Ctl (Unit) (Int)) :=
  (kit_IsDay x_5).bind fun r_13=>bif (!r_13)then some (.ret 1)else (bif (decide ((k_3:Int) > 0))then (idx l_1 (w64 ((k_3:Int) - 1))).bind fun y_19=>some (decide (x_5≤y_19))else some false).bind fun v_16=>bif v_16 then some (.ret 7)else some (.go ())
def schedule_exceptFault (l_1:(List Int)):Option (Int) :=
  bif (decide ((l_1.length:Int) > 100))then some 2 else (forL l_1 () (fun k x s=>schedule_exceptFault_L1 l_1 k x s)).bind fun o_11=>thenC o_11 (fun s_8=>some 0) (fun r=>some r)
noncomputable def kit_RisingFault_L1 (l_1:(List ByteArray)) (k_2:Nat) (x_4:ByteArray) (s_7:Unit):Option (Ctl (Unit) (Int)) :=
  (kit_IsKey x_4).bind fun r_12=>bif (!r_12)then some (.ret 5)else (bif (decide ((k_2:Int) > 0))then (idx l_1 (w64 ((k_2:Int) - 1))).bind fun y_18=>some (sLe x_4 y_18)else some false).bind fun v_15=>bif v_15 then some (.ret 7)else some (.go ())
noncomputable def kit_RisingFault (l_1:(List ByteArray)):Option (Int) :=
  (forL l_1 () (fun k x s=>kit_RisingFault_L1 l_1 k x s)).bind fun o_10=>thenC o_10 (fun s_7=>some 0) (fun r=>some r)
noncomputable def schedule_tagsFault (l_1:(List ByteArray)):Option (Int) :=
  bif (decide ((l_1.length:Int) > 20))then some 2 else (kit_RisingFault l_1).bind fun r_3=>some r_3
noncomputable def schedule_entryFault (e_1:Entry):Option (Int) :=
  ((kit_IsKey e_1.Key).bind fun r_5=>bif (!r_5)then some true else (kit_IsKey e_1.Item).bind fun r_8=>some (!r_8)).bind fun v_3=>bif v_3 then some 5 else ((kit_Outside e_1.Version 0 1000000).bind fun r_13=>bif r_13 then some true else (kit_Outside e_1.First 0 e_1.Last).bind fun r_16=>bif r_16 then some true else bif (decide (e_1.Last > 4000))then some true else (kit_Outside e_1.Every 1 400).bind fun r_20=>bif r_20 then some true else (kit_Outside e_1.Days 1 127).bind fun r_23=>some r_23).bind fun v_11=>bif v_11 then some 1 else (schedule_exceptFault e_1.Except).bind fun r_26=>bif (r_26 != 0)then some r_26 else ((kit_Outside e_1.From 0 1439).bind fun r_31=>bif r_31 then some true else (kit_Outside e_1.To 0 1439).bind fun r_34=>bif r_34 then some true else (kit_Outside e_1.Prio 0 9).bind fun r_37=>some r_37).bind fun v_29=>bif v_29 then some 1 else (schedule_tagsFault e_1.Tags).bind fun r_40=>some r_40
noncomputable def schedule_CheckEntries_L1 (l_1:(List Entry)) (k_3:Nat) (x_5:Entry) (s_8:Unit):Option (Ctl (Unit) (Int)) :=
  (schedule_entryFault x_5).bind fun r_14=>bif (r_14 != 0)then some (.ret r_14)else (bif (decide ((k_3:Int) > 0))then (idx l_1 (w64 ((k_3:Int) - 1))).bind fun y_20=>some (sLe x_5.Key y_20.Key)else some false).bind fun v_17=>bif v_17 then some (.ret 7)else some (.go ())
noncomputable def schedule_CheckEntries (l_1:(List Entry)):Option (Int) :=
  bif (decide ((l_1.length:Int) > 200))then some 2 else (forL l_1 () (fun k x s=>schedule_CheckEntries_L1 l_1 k x s)).bind fun o_11=>thenC o_11 (fun s_8=>some 0) (fun r=>some r)
noncomputable def schedule_CheckPlayer (p_1:Player):Option (Int) :=
  ((kit_IsKey p_1.Key).bind fun r_5=>bif (!r_5)then some true else (kit_IsKey p_1.Screen).bind fun r_8=>some (!r_8)).bind fun v_3=>bif v_3 then some 5 else (kit_Outside p_1.Zone (-1440) 1440).bind fun r_11=>bif r_11 then some 1 else (schedule_tagsFault p_1.Tags).bind fun r_14=>some r_14
def kit_IsMoment (n_1:Int):Option (Bool) :=
  (bif (decide (n_1≥0))then some (decide (n_1 < 345686400000))else some false).bind fun v_2=>some v_2
noncomputable def schedule_momentFault (l_1:(List Entry)) (p_2:Player) (atv_3:Int):Option (Int) :=
  (schedule_CheckEntries l_1).bind fun r_5=>bif (r_5 != 0)then some r_5 else (schedule_CheckPlayer p_2).bind fun r_8=>bif (r_8 != 0)then some r_8 else (kit_IsMoment atv_3).bind fun r_11=>bif (!r_11)then some 1 else some 0
def cmp_isNaN_string (x_1:ByteArray):Option (Bool) :=
  some (sNe x_1 x_1)
def cmp_Less_string (x_1:ByteArray) (y_2:ByteArray):Option (Bool) :=
  ((cmp_isNaN_string x_1).bind fun r_5=>bif r_5 then (cmp_isNaN_string y_2).bind fun r_8=>bif (!r_8)then some true else some (sLt x_1 y_2)else some (sLt x_1 y_2)).bind fun v_3=>some v_3
def slices_isNaN_string (x_1:ByteArray):Option (Bool) :=
  some (sNe x_1 x_1)
def slices_BinarySearch_string_string_L1 (x_1:(List ByteArray)) (target_2:ByteArray) (s_8:Int×Int):Option (Ctl (Int×Int) (Unit)) :=
  bif (decide (s_8.1 < s_8.2))then (shrO .u64 (IntKind.u64.wrap (w64 (s_8.1 + s_8.2))) 1).bind fun q_14=>(idx x_1 (w64 q_14)).bind fun y_16=>(cmp_Less_string y_16 target_2).bind fun r_18=>bif r_18 then some (.go ((w64 ((w64 q_14) + 1)),s_8.2))else some (.go (s_8.1,(w64 q_14)))else some (.brk (s_8.1,s_8.2))
noncomputable def slices_BinarySearch_string_string (x_1:(List ByteArray)) (target_2:ByteArray):Option (Int×Bool) :=
  (loopO (0,(x_1.length:Int)) (fun s=>slices_BinarySearch_string_string_L1 x_1 target_2 s)).bind fun o_11=>thenC o_11 (fun s_8=>(bif (decide (s_8.1 < (x_1.length:Int)))then (idx x_1 s_8.1).bind fun y_24=>bif (sEq y_24 target_2)then some true else (idx x_1 s_8.1).bind fun y_27=>(slices_isNaN_string y_27).bind fun r_29=>bif r_29 then (slices_isNaN_string target_2).bind fun r_32=>some r_32 else some false else some false).bind fun v_21=>some (s_8.1,v_21)) (fun _=>none)
noncomputable def schedule_fits_L1 (p_2:Player) (k_5:Nat) (x_7:ByteArray) (s_10:Unit):Option (Ctl (Unit) (Bool)) :=
  (slices_BinarySearch_string_string p_2.Tags x_7).bind fun r_15=>bif (!r_15.2)then some (.ret false)else some (.go ())
noncomputable def schedule_fits (e_1:Entry) (p_2:Player):Option (Bool) :=
  (forL e_1.Tags () (fun k x s=>schedule_fits_L1 p_2 k x s)).bind fun o_13=>thenC o_13 (fun s_10=>some true) (fun r=>some r)
def cmp_isNaN_int (x_1:Int):Option (Bool) :=
  some (x_1 != x_1)
def cmp_Less_int (x_1:Int) (y_2:Int):Option (Bool) :=
  ((cmp_isNaN_int x_1).bind fun r_5=>bif r_5 then (cmp_isNaN_int y_2).bind fun r_8=>bif (!r_8)then some true else some (decide (x_1 < y_2))else some (decide (x_1 < y_2))).bind fun v_3=>some v_3
def slices_isNaN_int (x_1:Int):Option (Bool) :=
  some (x_1 != x_1)
def slices_BinarySearch_int_int_L1 (x_1:(List Int)) (target_2:Int) (s_8:Int×Int):Option (Ctl (Int×Int) (Unit)) :=
  bif (decide (s_8.1 < s_8.2))then (shrO .u64 (IntKind.u64.wrap (w64 (s_8.1 + s_8.2))) 1).bind fun q_14=>(idx x_1 (w64 q_14)).bind fun y_16=>(cmp_Less_int y_16 target_2).bind fun r_18=>bif r_18 then some (.go ((w64 ((w64 q_14) + 1)),s_8.2))else some (.go (s_8.1,(w64 q_14)))else some (.brk (s_8.1,s_8.2))
noncomputable def slices_BinarySearch_int_int (x_1:(List Int)) (target_2:Int):Option (Int×Bool) :=
  (loopO (0,(x_1.length:Int)) (fun s=>slices_BinarySearch_int_int_L1 x_1 target_2 s)).bind fun o_11=>thenC o_11 (fun s_8=>(bif (decide (s_8.1 < (x_1.length:Int)))then (idx x_1 s_8.1).bind fun y_24=>bif (y_24 == target_2)then some true else (idx x_1 s_8.1).bind fun y_27=>(slices_isNaN_int y_27).bind fun r_29=>bif r_29 then (slices_isNaN_int target_2).bind fun r_32=>some r_32 else some false else some false).bind fun v_21=>some (s_8.1,v_21)) (fun _=>none)
noncomputable def schedule_isDay (e_1:Entry) (d_2:Int):Option (Bool) :=
  ((kit_Outside d_2 e_1.First e_1.Last).bind fun r_6=>bif r_6 then some true else (remO .i64 (w64 (d_2 - e_1.First)) e_1.Every).bind fun q_9=>bif (q_9 != 0)then some true else (shlO .i64 1 (d_2.tmod 7)).bind fun q_12=>some ((andI .i64 e_1.Days q_12) == 0)).bind fun v_4=>bif v_4 then some false else (slices_BinarySearch_int_int e_1.Except d_2).bind fun r_15=>some (!r_15.2)
def schedule_timeOf (e_1:Entry) (zone_2:Int) (d_3:Int):Option (Window) :=
  (bif (decide ((w64 (e_1.To - e_1.From))≤0))then some (w64 ((w64 (e_1.To - e_1.From)) + 1440))else some (w64 (e_1.To - e_1.From))).bind fun v_6=>some (⟨(w64 ((w64 ((w64 ((w64 (d_3 * 1440)) + e_1.From)) - zone_2)) * 60000)),(w64 ((w64 ((w64 ((w64 ((w64 (d_3 * 1440)) + e_1.From)) - zone_2)) * 60000)) + (w64 (v_6 * 60000))))⟩:Window)
noncomputable def schedule_times_L1 (wv_3:Window) (zone_2:Int) (e_1:Entry) (s_15:(List Window)×Int):Option (Ctl ((List Window)×Int) (Unit)) :=
  bif (decide (s_15.2≤(minI (w64 ((w64 ((w64 (wv_3.To + (w64 (zone_2 * 60000)))).tdiv 86400000)) + 1)) e_1.Last)))then (schedule_isDay e_1 s_15.2).bind fun r_24=>bif (!r_24)then some (.go (s_15.1,(w64 (s_15.2 + 1))))else (schedule_timeOf e_1 zone_2 s_15.2).bind fun r_27=>(bif (decide (r_27.From < wv_3.To))then some (decide (r_27.To > wv_3.From))else some false).bind fun v_30=>(bif v_30 then (appL s_15.1 ([r_27]:List Window)).bind fun a_37=>some a_37 else some s_15.1).bind fun v_33=>some (.go (v_33,(w64 (s_15.2 + 1))))else some (.brk (s_15.1,s_15.2))
noncomputable def schedule_times (e_1:Entry) (zone_2:Int) (wv_3:Window):Option ((List Window)) :=
  (bif e_1.Gone then some true else some (decide (wv_3.From≥wv_3.To))).bind fun v_6=>bif v_6 then some ([]:(List Window))else (loopO (([]:List Window),(maxI (w64 ((w64 ((w64 (wv_3.From + (w64 (zone_2 * 60000)))).tdiv 86400000)) - 2)) e_1.First)) (fun s=>schedule_times_L1 wv_3 zone_2 e_1 s)).bind fun o_21=>thenC o_21 (fun s_15=>some s_15.1) (fun _=>none)
def schedule_spans_L1 (l_1:(List Entry)) (k_6:Nat) (k_24:Nat) (x_26:Window) (s_29:(List Span)):Option (Ctl ((List Span)) (Unit)) :=
  (idx l_1 (k_6:Int)).bind fun y_37=>(appL s_29 ([(⟨(some y_37),x_26⟩:Span)]:List Span)).bind fun a_39=>some (.go a_39)
noncomputable def schedule_spans_L2 (p_2:Player) (wv_3:Window) (l_1:(List Entry)) (k_6:Nat) (x_8:Entry) (s_11:(List Span)):Option (Ctl ((List Span)) (Unit)) :=
  (schedule_fits x_8 p_2).bind fun r_19=>bif (!r_19)then some (.go s_11)else (schedule_times x_8 p_2.Zone wv_3).bind fun r_22=>(forL r_22 s_11 (fun k x s=>schedule_spans_L1 l_1 k_6 k x s)).bind fun o_34=>thenC o_34 (fun s_29=>some (.go s_29)) (fun _=>none)
noncomputable def schedule_spans (l_1:(List Entry)) (p_2:Player) (wv_3:Window):Option ((List Span)) :=
  (forL l_1 ([]:List Span) (fun k x s=>schedule_spans_L2 p_2 wv_3 l_1 k x s)).bind fun o_17=>thenC o_17 (fun s_11=>some s_11) (fun _=>none)
def cmp_Compare_int (x_1:Int) (y_2:Int):Option (Int) :=
  (cmp_isNaN_int x_1).bind fun r_3=>(cmp_isNaN_int y_2).bind fun r_5=>bif r_3 then bif r_5 then some 0 else some (-1)else bif r_5 then some 1 else bif (decide (x_1 < y_2))then some (-1)else bif (decide (x_1 > y_2))then some 1 else some 0
def internal_bytealg_CompareString (a_1:ByteArray) (b_2:ByteArray):Option (Int) :=
  some (cmpB a_1 b_2)
def strings_Compare (a_1:ByteArray) (b_2:ByteArray):Option (Int) :=
  (internal_bytealg_CompareString a_1 b_2).bind fun r_3=>some r_3
def cmp_Or_int_L1 (k_2:Nat) (x_4:Int) (s_7:Unit):Option (Ctl (Unit) (Int)) :=
  bif (x_4 != 0)then some (.ret x_4)else some (.go ())
def cmp_Or_int (vals_1:(List Int)):Option (Int) :=
  (forL vals_1 () (fun k x s=>cmp_Or_int_L1 k x s)).bind fun o_10=>thenC o_10 (fun s_7=>some 0) (fun r=>some r)
def schedule_compare (a_1:Span) (b_2:Span):Option (Int) :=
  (b_2.f_e).bind fun y_5=>(a_1.f_e).bind fun y_7=>(cmp_Compare_int y_5.Prio y_7.Prio).bind fun r_9=>(cmp_Compare_int b_2.f_time.From a_1.f_time.From).bind fun r_11=>(b_2.f_e).bind fun y_13=>(a_1.f_e).bind fun y_15=>(strings_Compare y_13.Key y_15.Key).bind fun r_17=>(cmp_Or_int ([r_9,r_11,r_17]:List Int)).bind fun r_19=>some r_19
def math_bits_Len64 (x_1:Int):Option (Int) :=
  (bif (decide (x_1≥4294967296))then (shrO .u64 x_1 32).bind fun q_5=>some (q_5,32)else some (x_1,0)).bind fun v_2=>(bif (decide (v_2.1≥65536))then (shrO .u64 v_2.1 16).bind fun q_10=>some (q_10,(w64 (v_2.2 + 16)))else some (v_2.1,v_2.2)).bind fun v_7=>(bif (decide (v_7.1≥256))then (shrO .u64 v_7.1 8).bind fun q_15=>some (q_15,(w64 (v_7.2 + 8)))else some (v_7.1,v_7.2)).bind fun v_12=>(idxS (⟨#[0,1,2,2,3,3,3,3,4,4,4,4,4,4,4,4,5,5,5,5,5,5,5,5,5,5,5,5,5,5,5,5,6,6,6,6,6,6,6,6,6,6,6,6,6,6,6,6,6,6,6,6,6,6,6,6,6,6,6,6,6,6,6,6,7,7,7,7,7,7,7,7,7,7,7,7,7,7,7,7,7,7,7,7,7,7,7,7,7,7,7,7,7,7,7,7,7,7,7,7,7,7,7,7,7,7,7,7,7,7,7,7,7,7,7,7,7,7,7,7,7,7,7,7,7,7,7,7,8,8,8,8,8,8,8,8,8,8,8,8,8,8,8,8,8,8,8,8,8,8,8,8,8,8,8,8,8,8,8,8,8,8,8,8,8,8,8,8,8,8,8,8,8,8,8,8,8,8,8,8,8,8,8,8,8,8,8,8,8,8,8,8,8,8,8,8,8,8,8,8,8,8,8,8,8,8,8,8,8,8,8,8,8,8,8,8,8,8,8,8,8,8,8,8,8,8,8,8,8,8,8,8,8,8,8,8,8,8,8,8,8,8,8,8,8,8,8,8,8,8,8,8,8,8,8,8]⟩:ByteArray) (IntKind.u8.wrap v_12.1)).bind fun b_17=>some (w64 (v_12.2 + (w64 (b_17.toNat:Int))))
def math_bits_Len (x_1:Int):Option (Int) :=
  (math_bits_Len64 x_1).bind fun r_2=>some r_2
def slices_insertionSortCmpFunc_schedule_span_v1_L1 (a_2:Int) (s_21:(List Span)×Int):Option (Ctl ((List Span)×Int) (Unit)) :=
  (bif (decide (s_21.2 > a_2))then (inR s_21.2 s_21.1).bind fun _=>(s_21.1[(0 + (s_21.2).toNat)]?).bind fun e_30=>(inR (w64 (s_21.2 - 1)) s_21.1).bind fun _=>(s_21.1[(0 + ((w64 (s_21.2 - 1))).toNat)]?).bind fun e_33=>(schedule_compare e_30 e_33).bind fun r_35=>some (decide (r_35 < 0))else some false).bind fun v_26=>bif v_26 then (inR (w64 (s_21.2 - 1)) s_21.1).bind fun _=>(s_21.1[(0 + ((w64 (s_21.2 - 1))).toNat)]?).bind fun e_39=>(inR s_21.2 s_21.1).bind fun _=>(s_21.1[(0 + (s_21.2).toNat)]?).bind fun e_42=>(inR s_21.2 s_21.1).bind fun _=>(s_21.1[(0 + (s_21.2).toNat)]?).bind fun e_45=>(inR (w64 (s_21.2 - 1)) (s_21.1.set (0 + (s_21.2).toNat) e_39)).bind fun _=>((s_21.1.set (0 + (s_21.2).toNat) e_39)[(0 + ((w64 (s_21.2 - 1))).toNat)]?).bind fun e_48=>some (.go (((s_21.1.set (0 + (s_21.2).toNat) e_39).set (0 + ((w64 (s_21.2 - 1))).toNat) e_42),(w64 (s_21.2 - 1))))else some (.brk (s_21.1,s_21.2))
noncomputable def slices_insertionSortCmpFunc_schedule_span_v1_L2 (b_3:Int) (a_2:Int) (s_10:(List Span)×Int):Option (Ctl ((List Span)×Int) (Unit)) :=
  bif (decide (s_10.2 < b_3))then (loopO (s_10.1,s_10.2) (fun s=>slices_insertionSortCmpFunc_schedule_span_v1_L1 a_2 s)).bind fun o_24=>thenC o_24 (fun s_21=>some (.go (s_21.1,(w64 (s_10.2 + 1))))) (fun _=>none)else some (.brk (s_10.1,s_10.2))
noncomputable def slices_insertionSortCmpFunc_schedule_span_v1 (data_1:(List Span)) (a_2:Int) (b_3:Int):Option ((List Span)) :=
  (loopO (data_1,(w64 (a_2 + 1))) (fun s=>slices_insertionSortCmpFunc_schedule_span_v1_L2 b_3 a_2 s)).bind fun o_13=>thenC o_13 (fun s_10=>some s_10.1) (fun _=>none)
noncomputable def slices_pdqsortCmpFunc_schedule_span_v1_L1 (b_3:Int) (a_2:Int) (data_1:(List Span)) (limit_4:Int) (s_11:Unit):Option (Ctl (Unit) ((List Span))) :=
  bif (decide ((w64 (b_3 - a_2))≤12))then (slices_insertionSortCmpFunc_schedule_span_v1 data_1 a_2 b_3).bind fun r_17=>(sameL r_17 data_1).bind fun _=>some (.ret r_17)else bif (limit_4 == 0)then none else none
noncomputable def slices_pdqsortCmpFunc_schedule_span_v1 (data_1:(List Span)) (a_2:Int) (b_3:Int) (limit_4:Int):Option ((List Span)) :=
  (loopO () (fun s=>slices_pdqsortCmpFunc_schedule_span_v1_L1 b_3 a_2 data_1 limit_4 s)).bind fun o_14=>thenC o_14 (fun s_11=>some data_1) (fun r=>some r)
noncomputable def slices_SortFunc_schedule_span_schedule_span_v1 (x_1:(List Span)):Option ((List Span)) :=
  (math_bits_Len (IntKind.u64.wrap (x_1.length:Int))).bind fun r_3=>(slices_pdqsortCmpFunc_schedule_span_v1 x_1 0 (x_1.length:Int) r_3).bind fun r_5=>(sameL r_5 x_1).bind fun _=>some r_5
noncomputable def schedule_on (l_1:(List Entry)) (p_2:Player) (atv_3:Int):Option ((List Span)) :=
  (schedule_spans l_1 p_2 (⟨atv_3,(w64 (atv_3 + 1))⟩:Window)).bind fun r_5=>(slices_SortFunc_schedule_span_schedule_span_v1 r_5).bind fun r_9=>(sameL r_9 r_5).bind fun _=>some r_9
noncomputable def schedule_On (l_1:(List Entry)) (p_2:Player) (atv_3:Int):Option (ByteArray×Bool×Int) :=
  (schedule_momentFault l_1 p_2 atv_3).bind fun r_5=>bif (r_5 != 0)then some ((⟨#[]⟩:ByteArray),false,r_5)else (schedule_on l_1 p_2 atv_3).bind fun r_8=>bif ((r_8.length:Int) == 0)then some ((⟨#[]⟩:ByteArray),false,0)else (idx r_8 0).bind fun y_11=>(y_11.f_e).bind fun y_13=>some (y_13.Key,true,0)
def schedule_Why_L1 (k_10:Nat) (x_12:Span) (s_15:(List ByteArray)):Option (Ctl ((List ByteArray)) (Unit)) :=
  (x_12.f_e).bind fun y_24=>(appL s_15 ([y_24.Key]:List ByteArray)).bind fun a_26=>some (.go a_26)
noncomputable def schedule_Why (l_1:(List Entry)) (p_2:Player) (atv_3:Int):Option ((List ByteArray)×Int) :=
  (schedule_momentFault l_1 p_2 atv_3).bind fun r_5=>bif (r_5 != 0)then some (([]:(List ByteArray)),r_5)else (schedule_on l_1 p_2 atv_3).bind fun r_8=>(forL r_8 ([]:List ByteArray) (fun k x s=>schedule_Why_L1 k x s)).bind fun o_21=>thenC o_21 (fun s_15=>some (s_15,0)) (fun _=>none)
def schedule_through_1 (a_1:Span) (b_2:Span):Option (Int) :=
  (cmp_Compare_int a_1.f_time.From b_2.f_time.From).bind fun r_5=>some r_5
noncomputable def slices_sort_by_schedule_through_1 (x:(List Span)):Option ((List Span)) :=
  sortF (fun a b=>schedule_through_1 a b) x
def schedule_cut (t_1:Window) (wv_2:Window):Option (Window) :=
  some (⟨(maxI t_1.From wv_2.From),(minI t_1.To wv_2.To)⟩:Window)
def slices_Sort_int_int_v1 (x:(List Int)):Option ((List Int)) :=
  sortI x
def slices_Compact_int_int_v1_L1 (s_1:(List Int)) (s_8:Int) (s_28:(List Int)×Int×Int):Option (Ctl ((List Int)×Int×Int) (Unit)) :=
  bif (decide (s_28.2.2 < (((((s_1.length:Int)).toNat - (s_8).toNat):Nat):Int)))then (inN s_28.2.2 (((s_1.length:Int)).toNat - (s_8).toNat)).bind fun _=>(s_28.1[(((s_8).toNat) + (s_28.2.2).toNat)]?).bind fun e_35=>(inN (w64 (s_28.2.2 - 1)) (((s_1.length:Int)).toNat - (s_8).toNat)).bind fun _=>(s_28.1[(((s_8).toNat) + ((w64 (s_28.2.2 - 1))).toNat)]?).bind fun e_38=>(bif (e_35 != e_38)then (inN s_28.2.2 (((s_1.length:Int)).toNat - (s_8).toNat)).bind fun _=>(s_28.1[(((s_8).toNat) + (s_28.2.2).toNat)]?).bind fun e_44=>(inR s_28.2.1 s_28.1).bind fun _=>(s_28.1[(0 + (s_28.2.1).toNat)]?).bind fun e_47=>some ((s_28.1.set (0 + (s_28.2.1).toNat) e_44),(w64 (s_28.2.1 + 1)))else some (s_28.1,s_28.2.1)).bind fun v_40=>some (.go (v_40.1,v_40.2,(w64 (s_28.2.2 + 1))))else some (.brk (s_28.1,s_28.2.1,s_28.2.2))
noncomputable def slices_Compact_int_int_v1_L2 (s_1:(List Int)) (s_8:Int):Option (Ctl (Int) ((List Int))) :=
  bif (decide (s_8 < (s_1.length:Int)))then (inR s_8 s_1).bind fun _=>(s_1[(0 + (s_8).toNat)]?).bind fun e_15=>(inR (w64 (s_8 - 1)) s_1).bind fun _=>(s_1[(0 + ((w64 (s_8 - 1))).toNat)]?).bind fun e_18=>bif (e_15 == e_18)then (neL s_1).bind fun _=>(subR s_1 s_8 (s_1.length:Int)).bind fun _=>(loopO (s_1,s_8,1) (fun s=>slices_Compact_int_int_v1_L1 s_1 s_8 s)).bind fun o_31=>thenC o_31 (fun s_28=>(subR s_28.1 s_28.2.1 (s_28.1.length:Int)).bind fun _=>(subR (s_28.1.take ((s_28.2.1).toNat)++List.replicate (((s_28.1.length:Int)).toNat - (s_28.2.1).toNat) 0++s_28.1.drop (((s_28.2.1).toNat) + (((s_28.1.length:Int)).toNat - (s_28.2.1).toNat))) 0 s_28.2.1).bind fun _=>some (.ret (cutL (s_28.1.take ((s_28.2.1).toNat)++List.replicate (((s_28.1.length:Int)).toNat - (s_28.2.1).toNat) 0++s_28.1.drop (((s_28.2.1).toNat) + (((s_28.1.length:Int)).toNat - (s_28.2.1).toNat))) 0 ((s_28.2.1).toNat)))) (fun _=>none)else some (.go (w64 (s_8 + 1)))else some (.brk s_8)
noncomputable def slices_Compact_int_int_v1 (s_1:(List Int)):Option ((List Int)) :=
  bif (decide ((s_1.length:Int) < 2))then some s_1 else (loopO 1 (fun s=>slices_Compact_int_int_v1_L2 s_1 s)).bind fun o_11=>thenC o_11 (fun s_8=>some s_1) (fun r=>some r)
def schedule_Edges_L1 (wv_3:Window) (k_9:Nat) (x_11:Span) (s_14:(List Int)):Option (Ctl ((List Int)) (Unit)) :=
  (schedule_cut x_11.f_time wv_3).bind fun r_22=>(appL s_14 ([r_22.From,r_22.To]:List Int)).bind fun a_25=>some (.go a_25)
noncomputable def schedule_Edges (l_1:(List Entry)) (p_2:Player) (wv_3:Window):Option ((List Int)) :=
  (schedule_spans l_1 p_2 wv_3).bind fun r_7=>(forL r_7 ([wv_3.From,wv_3.To]:List Int) (fun k x s=>schedule_Edges_L1 wv_3 k x s)).bind fun o_19=>thenC o_19 (fun s_14=>(neL s_14).bind fun _=>(slices_Sort_int_int_v1 s_14).bind fun r_29=>(sameL r_29 s_14).bind fun _=>(slices_Compact_int_int_v1 r_29).bind fun r_32=>some r_32) (fun _=>none)
def schedule_through_2 (s_1:Span) (p_2:(List Int)) (p_3:Int):Option (Bool) :=
  (idx p_2 p_3).bind fun y_5=>some (decide (s_1.f_time.To≤y_5))
def slices_IndexFunc_schedule_span_schedule_span_v1_L1 (s_1:(List Span)) (f2_3:(List Int)) (f2_4:Int) (k_5:Nat) (x_7:Nat) (s_10:Unit):Option (Ctl (Unit) (Int)) :=
  (inR (k_5:Int) s_1).bind fun _=>(s_1[(0 + ((k_5:Int)).toNat)]?).bind fun e_16=>(schedule_through_2 e_16 f2_3 f2_4).bind fun r_18=>bif r_18 then some (.ret (k_5:Int))else some (.go ())
def slices_IndexFunc_schedule_span_schedule_span_v1 (s_1:(List Span)) (f2_3:(List Int)) (f2_4:Int):Option (Int) :=
  (forL (List.range ((s_1.length:Int)).toNat) () (fun k x s=>slices_IndexFunc_schedule_span_schedule_span_v1_L1 s_1 f2_3 f2_4 k x s)).bind fun o_13=>thenC o_13 (fun s_10=>some (-1)) (fun r=>some r)
def slices_DeleteFunc_schedule_span_schedule_span_v1_L1 (del2_3:(List Int)) (del2_4:Int) (s_13:(List Span)×Int×Int):Option (Ctl ((List Span)×Int×Int) (Unit)) :=
  bif (decide (s_13.2.2 < (s_13.1.length:Int)))then (inR s_13.2.2 s_13.1).bind fun _=>(s_13.1[(0 + (s_13.2.2).toNat)]?).bind fun e_20=>(schedule_through_2 e_20 del2_3 del2_4).bind fun r_23=>(bif (!r_23)then (inR s_13.2.1 s_13.1).bind fun _=>(s_13.1[(0 + (s_13.2.1).toNat)]?).bind fun e_30=>some ((s_13.1.set (0 + (s_13.2.1).toNat) e_20),(w64 (s_13.2.1 + 1)))else some (s_13.1,s_13.2.1)).bind fun v_26=>some (.go (v_26.1,v_26.2,(w64 (s_13.2.2 + 1))))else some (.brk (s_13.1,s_13.2.1,s_13.2.2))
noncomputable def slices_DeleteFunc_schedule_span_schedule_span_v1 (s_1:(List Span)) (del2_3:(List Int)) (del2_4:Int):Option ((List Span)) :=
  (slices_IndexFunc_schedule_span_schedule_span_v1 s_1 del2_3 del2_4).bind fun r_5=>bif (r_5 == (-1))then some s_1 else (loopO (s_1,r_5,(w64 (r_5 + 1))) (fun s=>slices_DeleteFunc_schedule_span_schedule_span_v1_L1 del2_3 del2_4 s)).bind fun o_16=>thenC o_16 (fun s_13=>(subR s_13.1 s_13.2.1 (s_13.1.length:Int)).bind fun _=>(subR (s_13.1.take ((s_13.2.1).toNat)++List.replicate (((s_13.1.length:Int)).toNat - (s_13.2.1).toNat) (⟨none,(⟨0,0⟩:Window)⟩:Span)++s_13.1.drop (((s_13.2.1).toNat) + (((s_13.1.length:Int)).toNat - (s_13.2.1).toNat))) 0 s_13.2.1).bind fun _=>some ((s_13.1.take ((s_13.2.1).toNat)++List.replicate (((s_13.1.length:Int)).toNat - (s_13.2.1).toNat) (⟨none,(⟨0,0⟩:Window)⟩:Span)++s_13.1.drop (((s_13.2.1).toNat) + (((s_13.1.length:Int)).toNat - (s_13.2.1).toNat))).take ((s_13.2.1).toNat))) (fun _=>none)
def slices_IndexFunc_schedule_span_schedule_span_L1 (f_2:Span→Option Bool) (k_3:Nat) (x_5:Span) (s_8:Unit):Option (Ctl (Unit) (Int)) :=
  (f_2 x_5).bind fun r_13=>bif r_13 then some (.ret (k_3:Int))else some (.go ())
def slices_IndexFunc_schedule_span_schedule_span (s_1:(List Span)) (f_2:Span→Option Bool):Option (Int) :=
  (forL s_1 () (fun k x s=>slices_IndexFunc_schedule_span_schedule_span_L1 f_2 k x s)).bind fun o_11=>thenC o_11 (fun s_8=>some (-1)) (fun r=>some r)
def slices_DeleteFunc_schedule_span_schedule_span_v2_L1 (r_5:Int) (s_14:Unit):Option (Ctl (Unit) (Unit)) :=
  bif (decide ((w64 (r_5 + 1)) < 0))then none else some (.brk ())
noncomputable def slices_DeleteFunc_schedule_span_schedule_span_v2 (del2_3:(List Int)) (del2_4:Int):Option (Unit) :=
  (slices_IndexFunc_schedule_span_schedule_span ([]:List Span) (fun x0=>schedule_through_2 x0 del2_3 del2_4)).bind fun r_5=>bif (r_5 == (-1))then some ()else (loopO () (fun s=>slices_DeleteFunc_schedule_span_schedule_span_v2_L1 r_5 s)).bind fun o_17=>thenC o_17 (fun s_14=>none) (fun _=>none)
def slices_MinFunc_schedule_span_schedule_span_v1_L1 (x_1:(List Span)) (s_16:Int×(Option Entry)×Int×Int):Option (Ctl (Int×(Option Entry)×Int×Int) (Unit)) :=
  bif (decide (s_16.1 < (x_1.length:Int)))then (inR s_16.1 x_1).bind fun _=>(x_1[(0 + (s_16.1).toNat)]?).bind fun e_23=>(schedule_compare e_23 (⟨s_16.2.1,(⟨s_16.2.2.1,s_16.2.2.2⟩:Window)⟩:Span)).bind fun r_25=>(bif (decide (r_25 < 0))then (inR s_16.1 x_1).bind fun _=>(x_1[(0 + (s_16.1).toNat)]?).bind fun e_31=>some (e_31.f_e,e_31.f_time.From,e_31.f_time.To)else some (s_16.2.1,s_16.2.2.1,s_16.2.2.2)).bind fun v_27=>some (.go ((w64 (s_16.1 + 1)),v_27.1,v_27.2.1,v_27.2.2))else some (.brk (s_16.1,s_16.2.1,s_16.2.2.1,s_16.2.2.2))
noncomputable def slices_MinFunc_schedule_span_schedule_span_v1 (x_1:(List Span)):Option (Span) :=
  (bif (decide ((x_1.length:Int) < 1))then none else some ()).bind fun v_4=>(inR 0 x_1).bind fun _=>(x_1[(0 + (0:Int).toNat)]?).bind fun e_8=>(loopO (1,e_8.f_e,e_8.f_time.From,e_8.f_time.To) (fun s=>slices_MinFunc_schedule_span_schedule_span_v1_L1 x_1 s)).bind fun o_19=>thenC o_19 (fun s_16=>some (⟨s_16.2.1,(⟨s_16.2.2.1,s_16.2.2.2⟩:Window)⟩:Span)) (fun _=>none)
def schedule_through_L1 (r_10:(List Span)) (r_13:(List Int)) (s_22:(List Slot_)×(List Span)×Int×Int) (s_43:(List Span)×Int):Option (Ctl ((List Span)×Int) (Unit)) :=
  (bif (decide (s_43.2 < (r_10.length:Int)))then (inR s_43.2 r_10).bind fun _=>(r_10[(0 + (s_43.2).toNat)]?).bind fun e_54=>(idx r_13 s_22.2.2.2).bind fun y_56=>some (decide (e_54.f_time.From≤y_56))else some false).bind fun v_50=>bif v_50 then (inR s_43.2 r_10).bind fun _=>(r_10[(0 + (s_43.2).toNat)]?).bind fun e_60=>(appL s_43.1 ([e_60]:List Span)).bind fun a_62=>some (.go (a_62,(w64 (s_43.2 + 1))))else some (.brk (s_43.1,s_43.2))
noncomputable def schedule_through_L2 (r_13:(List Int)) (r_10:(List Span)) (s_22:(List Slot_)×(List Span)×Int×Int):Option (Ctl ((List Slot_)×(List Span)×Int×Int) (Unit)) :=
  bif (decide ((w64 (s_22.2.2.2 + 1)) < (r_13.length:Int)))then (loopO (s_22.2.1,s_22.2.2.1) (fun s=>schedule_through_L1 r_10 r_13 s_22 s)).bind fun o_48=>thenC o_48 (fun s_43=>(slices_DeleteFunc_schedule_span_schedule_span_v1 s_43.1 r_13 s_22.2.2.2).bind fun r_65=>(leL r_65 s_43.1).bind fun _=>(slices_DeleteFunc_schedule_span_schedule_span_v2 r_13 s_22.2.2.2).bind fun _=>(bif (decide ((r_65.length:Int) > 0))then (neL r_65).bind fun _=>(slices_MinFunc_schedule_span_schedule_span_v1 r_65).bind fun r_73=>(r_73.f_e).bind fun y_75=>some y_75.Key else some (⟨#[]⟩:ByteArray)).bind fun v_69=>(bif (decide ((w64 ((s_22.1.length:Int) - 1))≥0))then (inR (w64 ((s_22.1.length:Int) - 1)) s_22.1).bind fun _=>(s_22.1[(0 + ((w64 ((s_22.1.length:Int) - 1))).toNat)]?).bind fun e_81=>some (sEq e_81.Entry v_69)else some false).bind fun v_77=>(bif v_77 then (idx r_13 (w64 (s_22.2.2.2 + 1))).bind fun y_87=>(inR (w64 ((s_22.1.length:Int) - 1)) s_22.1).bind fun _=>(s_22.1[(0 + ((w64 ((s_22.1.length:Int) - 1))).toNat)]?).bind fun e_90=>some (s_22.1.set (0 + ((w64 ((s_22.1.length:Int) - 1))).toNat) (⟨(⟨e_90.Time.From,y_87⟩:Window),e_90.Entry⟩:Slot_))else (idx r_13 s_22.2.2.2).bind fun y_92=>(idx r_13 (w64 (s_22.2.2.2 + 1))).bind fun y_94=>(appL s_22.1 ([(⟨(⟨y_92,y_94⟩:Window),v_69⟩:Slot_)]:List Slot_)).bind fun a_96=>some a_96).bind fun v_83=>some (.go (v_83,r_65,s_43.2,(w64 (s_22.2.2.2 + 1))))) (fun _=>none)else some (.brk (s_22.1,s_22.2.1,s_22.2.2.1,s_22.2.2.2))
noncomputable def schedule_through (l_1:(List Entry)) (p_2:Player) (wv_3:Window):Option ((List Slot_)) :=
  (schedule_spans l_1 p_2 wv_3).bind fun r_6=>(slices_sort_by_schedule_through_1 r_6).bind fun r_10=>(sameL r_10 r_6).bind fun _=>(schedule_Edges l_1 p_2 wv_3).bind fun r_13=>(loopO (([]:List Slot_),([]:List Span),0,0) (fun s=>schedule_through_L2 r_13 r_10 s)).bind fun o_35=>thenC o_35 (fun s_22=>some s_22.1) (fun _=>none)
noncomputable def schedule_Next (l_1:(List Entry)) (p_2:Player) (atv_3:Int):Option (Int×Int) :=
  (schedule_momentFault l_1 p_2 atv_3).bind fun r_5=>bif (r_5 != 0)then some (0,r_5)else (schedule_through l_1 p_2 (⟨atv_3,(minI (w64 ((w64 (atv_3 + 34560000000)) + 1)) 345686400000)⟩:Window)).bind fun r_8=>bif (decide ((r_8.length:Int) < 2))then some ((-1),0)else (idx r_8 1).bind fun y_11=>some (y_11.Time.From,0)
def ref_in (n_1:Int) (low_2:Int) (high_3:Int):Option (Bool) :=
  (bif (decide (low_2≤n_1))then some (decide (n_1≤high_3))else some false).bind fun v_4=>some v_4
def internal_stringslite_IndexByte (s_1:ByteArray) (c_2:Int):Option (Int) :=
  some (ixB s_1 c_2)
def strings_IndexByte (s_1:ByteArray) (c_2:Int):Option (Int) :=
  (internal_stringslite_IndexByte s_1 c_2).bind fun r_3=>some r_3
def ref_only_L1 (s_1:ByteArray) (somev_2:ByteArray) (k_3:Nat) (x_5:Nat) (s_8:Unit):Option (Ctl (Unit) (Bool)) :=
  (idxS s_1 (k_3:Int)).bind fun b_13=>(strings_IndexByte somev_2 (b_13.toNat:Int)).bind fun r_15=>bif (decide (r_15 < 0))then some (.ret false)else some (.go ())
def ref_only (s_1:ByteArray) (somev_2:ByteArray):Option (Bool) :=
  (forL (List.range ((s_1.size:Int)).toNat) () (fun k x s=>ref_only_L1 s_1 somev_2 k x s)).bind fun o_11=>thenC o_11 (fun s_8=>some true) (fun r=>some r)
def ref_Key (s_1:ByteArray):Option (Bool) :=
  ((ref_in (s_1.size:Int) 1 40).bind fun r_4=>bif r_4 then (subS s_1 0 1).bind fun y_7=>(ref_only y_7 (⟨#[97,98,99,100,101,102,103,104,105,106,107,108,109,110,111,112,113,114,115,116,117,118,119,120,121,122]⟩:ByteArray)).bind fun r_9=>bif r_9 then (ref_only s_1 (⟨#[97,98,99,100,101,102,103,104,105,106,107,108,109,110,111,112,113,114,115,116,117,118,119,120,121,122,48,49,50,51,52,53,54,55,56,57,45,95]⟩:ByteArray)).bind fun r_12=>some r_12 else some false else some false).bind fun v_2=>some v_2
def ref_risingFault_L1 (l_1:(List ByteArray)) (k_2:Nat) (x_4:ByteArray) (s_7:Unit):Option (Ctl (Unit) (Int)) :=
  (ref_Key x_4).bind fun r_12=>bif (!r_12)then some (.ret 5)else (bif (decide ((k_2:Int) > 0))then (idx l_1 (w64 ((k_2:Int) - 1))).bind fun y_18=>some (sLe x_4 y_18)else some false).bind fun v_15=>bif v_15 then some (.ret 7)else some (.go ())
def ref_risingFault (l_1:(List ByteArray)):Option (Int) :=
  (forL l_1 () (fun k x s=>ref_risingFault_L1 l_1 k x s)).bind fun o_10=>thenC o_10 (fun s_7=>some 0) (fun r=>some r)
def ref_TagsFault (l_1:(List ByteArray)):Option (Int) :=
  bif (decide ((l_1.length:Int) > 20))then some 2 else (ref_risingFault l_1).bind fun r_3=>some r_3
def ref_entryFault_L1 (e_1:Entry) (k_27:Nat) (x_29:Int) (s_32:Unit):Option (Ctl (Unit) (Int)) :=
  (ref_in x_29 0 4000).bind fun r_37=>bif (!r_37)then some (.ret 1)else (bif (decide ((k_27:Int) > 0))then (idx e_1.Except (w64 ((k_27:Int) - 1))).bind fun y_43=>some (decide (x_29≤y_43))else some false).bind fun v_40=>bif v_40 then some (.ret 7)else some (.go ())
def ref_entryFault (e_1:Entry):Option (Int) :=
  ((ref_Key e_1.Key).bind fun r_5=>bif (!r_5)then some true else (ref_Key e_1.Item).bind fun r_8=>some (!r_8)).bind fun v_3=>bif v_3 then some 5 else ((ref_in e_1.Version 0 1000000).bind fun r_13=>bif (!r_13)then some true else (ref_in e_1.First 0 e_1.Last).bind fun r_16=>bif (!r_16)then some true else bif (decide (e_1.Last > 4000))then some true else (ref_in e_1.Every 1 400).bind fun r_20=>bif (!r_20)then some true else (ref_in e_1.Days 1 127).bind fun r_23=>some (!r_23)).bind fun v_11=>bif v_11 then some 1 else bif (decide ((e_1.Except.length:Int) > 100))then some 2 else (forL e_1.Except () (fun k x s=>ref_entryFault_L1 e_1 k x s)).bind fun o_35=>thenC o_35 (fun s_32=>((ref_in e_1.From 0 1439).bind fun r_48=>bif (!r_48)then some true else (ref_in e_1.To 0 1439).bind fun r_51=>bif (!r_51)then some true else (ref_in e_1.Prio 0 9).bind fun r_54=>some (!r_54)).bind fun v_46=>bif v_46 then some 1 else (ref_TagsFault e_1.Tags).bind fun r_57=>some r_57) (fun r=>some r)
def ref_EntriesFault_L1 (k_3:Nat) (x_5:Entry) (s_8:ByteArray):Option (Ctl (ByteArray) (Int)) :=
  (ref_entryFault x_5).bind fun r_14=>bif (r_14 != 0)then some (.ret r_14)else bif (sLe x_5.Key s_8)then some (.ret 7)else some (.go x_5.Key)
def ref_EntriesFault (l_1:(List Entry)):Option (Int) :=
  bif (decide ((l_1.length:Int) > 200))then some 2 else (forL l_1 (⟨#[]⟩:ByteArray) (fun k x s=>ref_EntriesFault_L1 k x s)).bind fun o_11=>thenC o_11 (fun s_8=>some 0) (fun r=>some r)
def ref_PlayerFault (p_1:Player):Option (Int) :=
  ((ref_Key p_1.Key).bind fun r_5=>bif (!r_5)then some true else (ref_Key p_1.Screen).bind fun r_8=>some (!r_8)).bind fun v_3=>bif v_3 then some 5 else (ref_in p_1.Zone (-1440) 1440).bind fun r_11=>bif (!r_11)then some 1 else (ref_TagsFault p_1.Tags).bind fun r_14=>some r_14
def ref_Moment (atv_1:Int):Option (Bool) :=
  (ref_in atv_1 0 345686399999).bind fun r_2=>some r_2
def law_when (is_1:Bool) (e_2:Int):Option (Int) :=
  bif is_1 then some e_2 else some 0
def law_momentFault (atv_1:Int):Option (Int) :=
  (ref_Moment atv_1).bind fun r_2=>(law_when (!r_2) 1).bind fun r_4=>some r_4
def law_errs_L1 (k_2:Nat) (x_4:Int) (s_7:Unit):Option (Ctl (Unit) (Int)) :=
  bif (x_4 != 0)then some (.ret x_4)else some (.go ())
def law_errs (l_1:(List Int)):Option (Int) :=
  (forL l_1 () (fun k x s=>law_errs_L1 k x s)).bind fun o_10=>thenC o_10 (fun s_7=>some 0) (fun r=>some r)
def schedule_windowFault (wv_1:Window):Option (Int) :=
  ((kit_Outside wv_1.From 0 wv_1.To).bind fun r_5=>bif r_5 then some true else some (decide (wv_1.To > 345686400000))).bind fun v_3=>bif v_3 then some 1 else bif (decide ((w64 (wv_1.To - wv_1.From)) > 34560000000))then some 2 else some 0
def schedule_Times_L1 (wv_3:Window) (k_19:Nat) (x_21:Nat) (s_24:(List Window)):Option (Ctl ((List Window)) (Unit)) :=
  (inR (k_19:Int) s_24).bind fun _=>(s_24[(0 + ((k_19:Int)).toNat)]?).bind fun e_30=>(schedule_cut e_30 wv_3).bind fun r_33=>(inR (k_19:Int) s_24).bind fun _=>(s_24[(0 + ((k_19:Int)).toNat)]?).bind fun e_36=>some (.go (s_24.set (0 + ((k_19:Int)).toNat) r_33))
noncomputable def schedule_Times (e_1:Entry) (zone_2:Int) (wv_3:Window):Option ((List Window)×Int) :=
  (schedule_CheckEntries ([e_1]:List Entry)).bind fun r_6=>bif (r_6 != 0)then some (([]:(List Window)),r_6)else (kit_Outside zone_2 (-1440) 1440).bind fun r_9=>bif r_9 then some (([]:(List Window)),1)else (schedule_windowFault wv_3).bind fun r_12=>bif (r_12 != 0)then some (([]:(List Window)),r_12)else (schedule_times e_1 zone_2 wv_3).bind fun r_15=>(forL (List.range ((r_15.length:Int)).toNat) r_15 (fun k x s=>schedule_Times_L1 wv_3 k x s)).bind fun o_27=>thenC o_27 (fun s_24=>some (s_24,0)) (fun _=>none)
noncomputable def law_timed  : Option (Bool) :=
  (schedule_Times (⟨(⟨#[97]⟩:ByteArray),(⟨#[98]⟩:ByteArray),0,0,0,1,127,([]:List Int),1,2,0,([]:List ByteArray),false⟩:Entry) 0 (⟨0,86400000⟩:Window)).bind fun r_1=>(bif (r_1.2 == 0)then bif ((r_1.1.length:Int) == 1)then (idx r_1.1 0).bind fun y_7=>some (y_7.From == 60000)else some false else some false).bind fun v_3=>some v_3
def ref_floor (a_1:Int) (b_2:Int):Option (Int) :=
  (remO .i64 a_1 b_2).bind fun q_3=>bif (decide (q_3 < 0))then (quoO .i64 a_1 b_2).bind fun q_6=>some (w64 (q_6 - 1))else (quoO .i64 a_1 b_2).bind fun q_8=>some q_8
def ref_timeOf (e_1:Entry) (zone_2:Int) (d_3:Int):Option (Window) :=
  (bif (decide (e_1.To≤e_1.From))then some (w64 (e_1.To + 1440))else some e_1.To).bind fun v_6=>some (⟨(w64 ((w64 ((w64 (d_3 * 86400000)) - (w64 (zone_2 * 60000)))) + (w64 (e_1.From * 60000)))),(w64 ((w64 ((w64 (d_3 * 86400000)) - (w64 (zone_2 * 60000)))) + (w64 (v_6 * 60000))))⟩:Window)
def slices_Index_int_int_L1 (v_2:Int) (k_3:Nat) (x_5:Int) (s_8:Unit):Option (Ctl (Unit) (Int)) :=
  bif (v_2 == x_5)then some (.ret (k_3:Int))else some (.go ())
def slices_Index_int_int (s_1:(List Int)) (v_2:Int):Option (Int) :=
  (forL s_1 () (fun k x s=>slices_Index_int_int_L1 v_2 k x s)).bind fun o_11=>thenC o_11 (fun s_8=>some (-1)) (fun r=>some r)
def slices_Contains_int_int (s_1:(List Int)) (v_2:Int):Option (Bool) :=
  (slices_Index_int_int s_1 v_2).bind fun r_3=>some (decide (r_3≥0))
def ref_dayOf (e_1:Entry) (d_2:Int):Option (Bool) :=
  ((ref_in d_2 e_1.First e_1.Last).bind fun r_6=>bif r_6 then (remO .i64 (w64 (d_2 - e_1.First)) e_1.Every).bind fun q_9=>bif (q_9 == 0)then (shrO .i64 e_1.Days (d_2.tmod 7)).bind fun q_12=>bif ((andI .i64 q_12 1) == 1)then (slices_Contains_int_int e_1.Except d_2).bind fun r_15=>some (!r_15)else some false else some false else some false).bind fun v_4=>some v_4
def ref_began_L1 (e_1:Entry) (zone_2:Int) (atv_3:Int) (k_7:Nat) (x_9:Int) (s_12:Unit):Option (Ctl (Unit) (Int×Bool)) :=
  (ref_timeOf e_1 zone_2 x_9).bind fun r_17=>(bif (!e_1.Gone)then (ref_dayOf e_1 x_9).bind fun r_23=>bif r_23 then bif (decide (r_17.From≤atv_3))then some (decide (atv_3 < r_17.To))else some false else some false else some false).bind fun v_20=>bif v_20 then some (.ret (r_17.From,true))else some (.go ())
def ref_began (e_1:Entry) (zone_2:Int) (atv_3:Int):Option (Int×Bool) :=
  (ref_floor (w64 (atv_3 + (w64 (zone_2 * 60000)))) 86400000).bind fun r_5=>(forL ([(w64 (r_5 - 1)),r_5]:List Int) () (fun k x s=>ref_began_L1 e_1 zone_2 atv_3 k x s)).bind fun o_15=>thenC o_15 (fun s_12=>some (0,false)) (fun r=>some r)
def slices_Index_string_string_L1 (v_2:ByteArray) (k_3:Nat) (x_5:ByteArray) (s_8:Unit):Option (Ctl (Unit) (Int)) :=
  bif (sEq v_2 x_5)then some (.ret (k_3:Int))else some (.go ())
def slices_Index_string_string (s_1:(List ByteArray)) (v_2:ByteArray):Option (Int) :=
  (forL s_1 () (fun k x s=>slices_Index_string_string_L1 v_2 k x s)).bind fun o_11=>thenC o_11 (fun s_8=>some (-1)) (fun r=>some r)
def slices_Contains_string_string (s_1:(List ByteArray)) (v_2:ByteArray):Option (Bool) :=
  (slices_Index_string_string s_1 v_2).bind fun r_3=>some (decide (r_3≥0))
def ref_FitsOf_1 (t_1:ByteArray) (p_2:Player):Option (Bool) :=
  (slices_Contains_string_string p_2.Tags t_1).bind fun r_3=>some (!r_3)
def slices_IndexFunc_string_string_L1 (f_2:ByteArray→Option Bool) (k_3:Nat) (x_5:ByteArray) (s_8:Unit):Option (Ctl (Unit) (Int)) :=
  (f_2 x_5).bind fun r_13=>bif r_13 then some (.ret (k_3:Int))else some (.go ())
def slices_IndexFunc_string_string (s_1:(List ByteArray)) (f_2:ByteArray→Option Bool):Option (Int) :=
  (forL s_1 () (fun k x s=>slices_IndexFunc_string_string_L1 f_2 k x s)).bind fun o_11=>thenC o_11 (fun s_8=>some (-1)) (fun r=>some r)
def slices_ContainsFunc_string_string (s_1:(List ByteArray)) (f_2:ByteArray→Option Bool):Option (Bool) :=
  (slices_IndexFunc_string_string s_1 f_2).bind fun r_3=>some (decide (r_3≥0))
def ref_FitsOf (e_1:Entry) (p_2:Player):Option (Bool) :=
  (slices_ContainsFunc_string_string e_1.Tags (fun x0=>ref_FitsOf_1 x0 p_2)).bind fun r_5=>some (!r_5)
def slices_Compare_int_int_L1 (s2_2:(List Int)) (k_3:Nat) (x_5:Int) (s_8:Unit):Option (Ctl (Unit) (Int)) :=
  bif (decide ((k_3:Int)≥(s2_2.length:Int)))then some (.ret 1)else (idx s2_2 (k_3:Int)).bind fun y_14=>(cmp_Compare_int x_5 y_14).bind fun r_16=>bif (r_16 != 0)then some (.ret r_16)else some (.go ())
def slices_Compare_int_int (s1_1:(List Int)) (s2_2:(List Int)):Option (Int) :=
  (forL s1_1 () (fun k x s=>slices_Compare_int_int_L1 s2_2 k x s)).bind fun o_11=>thenC o_11 (fun s_8=>bif (decide ((s1_1.length:Int) < (s2_2.length:Int)))then some (-1)else some 0) (fun r=>some r)
def ref_WhyOf_1 (a_1:Entry) (b_2:Entry) (p_3:Player) (p_4:Int):Option (Int) :=
  (ref_began a_1 p_3.Zone p_4).bind fun r_7=>(ref_began b_2 p_3.Zone p_4).bind fun r_9=>(slices_Compare_int_int ([b_2.Prio,r_9.1]:List Int) ([a_1.Prio,r_7.1]:List Int)).bind fun r_11=>bif (r_11 != 0)then some r_11 else (strings_Compare b_2.Key a_1.Key).bind fun r_14=>some r_14
def slices_insertionSortCmpFunc_api_Entry_v1_L1 (a_2:Int) (cmp4_5:Player) (cmp4_6:Int) (s_23:(List Entry)×Int):Option (Ctl ((List Entry)×Int) (Unit)) :=
  (bif (decide (s_23.2 > a_2))then (inR s_23.2 s_23.1).bind fun _=>(s_23.1[(0 + (s_23.2).toNat)]?).bind fun e_32=>(inR (w64 (s_23.2 - 1)) s_23.1).bind fun _=>(s_23.1[(0 + ((w64 (s_23.2 - 1))).toNat)]?).bind fun e_35=>(ref_WhyOf_1 e_32 e_35 cmp4_5 cmp4_6).bind fun r_37=>some (decide (r_37 < 0))else some false).bind fun v_28=>bif v_28 then (inR (w64 (s_23.2 - 1)) s_23.1).bind fun _=>(s_23.1[(0 + ((w64 (s_23.2 - 1))).toNat)]?).bind fun e_42=>(inR s_23.2 s_23.1).bind fun _=>(s_23.1[(0 + (s_23.2).toNat)]?).bind fun e_45=>(inR s_23.2 s_23.1).bind fun _=>(s_23.1[(0 + (s_23.2).toNat)]?).bind fun e_48=>(inR (w64 (s_23.2 - 1)) (s_23.1.set (0 + (s_23.2).toNat) e_42)).bind fun _=>((s_23.1.set (0 + (s_23.2).toNat) e_42)[(0 + ((w64 (s_23.2 - 1))).toNat)]?).bind fun e_51=>some (.go (((s_23.1.set (0 + (s_23.2).toNat) e_42).set (0 + ((w64 (s_23.2 - 1))).toNat) e_45),(w64 (s_23.2 - 1))))else some (.brk (s_23.1,s_23.2))
noncomputable def slices_insertionSortCmpFunc_api_Entry_v1_L2 (b_3:Int) (a_2:Int) (cmp4_5:Player) (cmp4_6:Int) (s_12:(List Entry)×Int):Option (Ctl ((List Entry)×Int) (Unit)) :=
  bif (decide (s_12.2 < b_3))then (loopO (s_12.1,s_12.2) (fun s=>slices_insertionSortCmpFunc_api_Entry_v1_L1 a_2 cmp4_5 cmp4_6 s)).bind fun o_26=>thenC o_26 (fun s_23=>some (.go (s_23.1,(w64 (s_12.2 + 1))))) (fun _=>none)else some (.brk (s_12.1,s_12.2))
noncomputable def slices_insertionSortCmpFunc_api_Entry_v1 (data_1:(List Entry)) (a_2:Int) (b_3:Int) (cmp4_5:Player) (cmp4_6:Int):Option ((List Entry)) :=
  (loopO (data_1,(w64 (a_2 + 1))) (fun s=>slices_insertionSortCmpFunc_api_Entry_v1_L2 b_3 a_2 cmp4_5 cmp4_6 s)).bind fun o_15=>thenC o_15 (fun s_12=>some s_12.1) (fun _=>none)
noncomputable def slices_pdqsortCmpFunc_api_Entry_v1_L1 (b_3:Int) (a_2:Int) (data_1:(List Entry)) (cmp5_6:Player) (cmp5_7:Int) (limit_4:Int) (s_13:Unit):Option (Ctl (Unit) ((List Entry))) :=
  bif (decide ((w64 (b_3 - a_2))≤12))then (slices_insertionSortCmpFunc_api_Entry_v1 data_1 a_2 b_3 cmp5_6 cmp5_7).bind fun r_19=>(sameL r_19 data_1).bind fun _=>some (.ret r_19)else bif (limit_4 == 0)then none else none
noncomputable def slices_pdqsortCmpFunc_api_Entry_v1 (data_1:(List Entry)) (a_2:Int) (b_3:Int) (limit_4:Int) (cmp5_6:Player) (cmp5_7:Int):Option ((List Entry)) :=
  (loopO () (fun s=>slices_pdqsortCmpFunc_api_Entry_v1_L1 b_3 a_2 data_1 cmp5_6 cmp5_7 limit_4 s)).bind fun o_16=>thenC o_16 (fun s_13=>some data_1) (fun r=>some r)
noncomputable def slices_SortFunc_api_Entry_api_Entry_v1 (x_1:(List Entry)) (cmp2_3:Player) (cmp2_4:Int):Option ((List Entry)) :=
  (math_bits_Len (IntKind.u64.wrap (x_1.length:Int))).bind fun r_5=>(slices_pdqsortCmpFunc_api_Entry_v1 x_1 0 (x_1.length:Int) r_5 cmp2_3 cmp2_4).bind fun r_7=>(sameL r_7 x_1).bind fun _=>some r_7
def ref_WhyOf_L1 (p_2:Player) (atv_3:Int) (k_6:Nat) (x_8:Entry) (s_11:(List Entry)):Option (Ctl ((List Entry)) (Unit)) :=
  (ref_began x_8 p_2.Zone atv_3).bind fun r_20=>(bif r_20.2 then (ref_FitsOf x_8 p_2).bind fun r_25=>some r_25 else some false).bind fun v_22=>(bif v_22 then (appL s_11 ([x_8]:List Entry)).bind fun a_31=>some a_31 else some s_11).bind fun v_27=>some (.go v_27)
noncomputable def ref_WhyOf (l_1:(List Entry)) (p_2:Player) (atv_3:Int):Option ((List Entry)) :=
  (forL l_1 ([]:List Entry) (fun k x s=>ref_WhyOf_L1 p_2 atv_3 k x s)).bind fun o_17=>thenC o_17 (fun s_11=>(slices_SortFunc_api_Entry_api_Entry_v1 s_11 p_2 atv_3).bind fun r_34=>(sameL r_34 s_11).bind fun _=>some r_34) (fun _=>none)
noncomputable def ref_onOf (l_1:(List Entry)) (p_2:Player) (atv_3:Int):Option (Entry) :=
  (ref_WhyOf l_1 p_2 atv_3).bind fun r_6=>bif (decide ((r_6.length:Int) > 0))then (idx r_6 0).bind fun y_9=>some y_9 else some (⟨(⟨#[]⟩:ByteArray),(⟨#[]⟩:ByteArray),0,0,0,0,0,([]:List Int),0,0,0,([]:List ByteArray),false⟩:Entry)
noncomputable def ref_OnOf (l_1:(List Entry)) (p_2:Player) (atv_3:Int):Option (ByteArray×Bool) :=
  (ref_onOf l_1 p_2 atv_3).bind fun r_5=>some (r_5.Key,(sNe r_5.Key (⟨#[]⟩:ByteArray)))
def ref_keysOf_L1 (k_2:Nat) (x_4:Entry) (s_7:(List ByteArray)):Option (Ctl ((List ByteArray)) (Unit)) :=
  (appL s_7 ([x_4.Key]:List ByteArray)).bind fun a_16=>some (.go a_16)
def ref_keysOf (l_1:(List Entry)):Option ((List ByteArray)) :=
  (forL l_1 ([]:List ByteArray) (fun k x s=>ref_keysOf_L1 k x s)).bind fun o_13=>thenC o_13 (fun s_7=>some s_7) (fun _=>none)
noncomputable def ref_WhyKeys (l_1:(List Entry)) (p_2:Player) (atv_3:Int):Option ((List ByteArray)) :=
  (ref_WhyOf l_1 p_2 atv_3).bind fun r_5=>(ref_keysOf r_5).bind fun r_7=>some r_7
def slices_Equal_string_string_L1 (s2_2:(List ByteArray)) (k_4:Nat) (x_6:ByteArray) (s_9:Unit):Option (Ctl (Unit) (Bool)) :=
  (idx s2_2 (k_4:Int)).bind fun y_14=>bif (sNe x_6 y_14)then some (.ret false)else some (.go ())
def slices_Equal_string_string (s1_1:(List ByteArray)) (s2_2:(List ByteArray)):Option (Bool) :=
  bif ((s1_1.length:Int) != (s2_2.length:Int))then some false else (forL s1_1 () (fun k x s=>slices_Equal_string_string_L1 s2_2 k x s)).bind fun o_12=>thenC o_12 (fun s_9=>some true) (fun r=>some r)
def ref_TimesOf_L1 (e_1:Entry) (zone_2:Int) (wv_3:Window) (s_11:(List Window)×Int):Option (Ctl ((List Window)×Int) (Unit)) :=
  bif (decide (s_11.2≤e_1.Last))then (ref_timeOf e_1 zone_2 s_11.2).bind fun r_20=>(bif (!e_1.Gone)then (ref_dayOf e_1 s_11.2).bind fun r_26=>bif r_26 then some (decide ((maxI r_20.From wv_3.From) < (minI r_20.To wv_3.To)))else some false else some false).bind fun v_23=>(bif v_23 then (appL s_11.1 ([(⟨(maxI r_20.From wv_3.From),(minI r_20.To wv_3.To)⟩:Window)]:List Window)).bind fun a_33=>some a_33 else some s_11.1).bind fun v_29=>some (.go (v_29,(w64 (s_11.2 + 1))))else some (.brk (s_11.1,s_11.2))
noncomputable def ref_TimesOf (e_1:Entry) (zone_2:Int) (wv_3:Window):Option ((List Window)) :=
  (loopO (([]:List Window),e_1.First) (fun s=>ref_TimesOf_L1 e_1 zone_2 wv_3 s)).bind fun o_17=>thenC o_17 (fun s_11=>some s_11.1) (fun _=>none)
def ref_bounds_L1 (k_21:Nat) (x_23:Window) (s_26:(List Int)):Option (Ctl ((List Int)) (Unit)) :=
  (appL s_26 ([x_23.From,x_23.To]:List Int)).bind fun a_34=>some (.go a_34)
noncomputable def ref_bounds_L2 (zone_2:Int) (wv_3:Window) (k_6:Nat) (x_8:Entry) (s_11:(List Int)):Option (Ctl ((List Int)) (Unit)) :=
  (ref_TimesOf x_8 zone_2 wv_3).bind fun r_19=>(forL r_19 s_11 (fun k x s=>ref_bounds_L1 k x s)).bind fun o_31=>thenC o_31 (fun s_26=>some (.go s_26)) (fun _=>none)
noncomputable def ref_bounds (l_1:(List Entry)) (zone_2:Int) (wv_3:Window):Option ((List Int)) :=
  (forL l_1 ([wv_3.From,wv_3.To]:List Int) (fun k x s=>ref_bounds_L2 zone_2 wv_3 k x s)).bind fun o_16=>thenC o_16 (fun s_11=>(neL s_11).bind fun _=>(slices_Sort_int_int_v1 s_11).bind fun r_38=>(sameL r_38 s_11).bind fun _=>(slices_Compact_int_int_v1 r_38).bind fun r_41=>some r_41) (fun _=>none)
noncomputable def ref_ThroughOf_L1 (r_6:(List Int)) (l_1:(List Entry)) (p_2:Player) (s_13:(List Slot_)×Int):Option (Ctl ((List Slot_)×Int) (Unit)) :=
  bif (decide (s_13.2 < (r_6.length:Int)))then (idx r_6 (w64 (s_13.2 - 1))).bind fun y_22=>(ref_onOf l_1 p_2 y_22).bind fun r_24=>(bif (decide ((w64 ((s_13.1.length:Int) - 1))≥0))then (inR (w64 ((s_13.1.length:Int) - 1)) s_13.1).bind fun _=>(s_13.1[(0 + ((w64 ((s_13.1.length:Int) - 1))).toNat)]?).bind fun e_30=>some (sEq e_30.Entry r_24.Key)else some false).bind fun v_26=>bif v_26 then (idx r_6 s_13.2).bind fun y_33=>(inR (w64 ((s_13.1.length:Int) - 1)) s_13.1).bind fun _=>(s_13.1[(0 + ((w64 ((s_13.1.length:Int) - 1))).toNat)]?).bind fun e_36=>some (.go ((s_13.1.set (0 + ((w64 ((s_13.1.length:Int) - 1))).toNat) (⟨(⟨e_36.Time.From,y_33⟩:Window),e_36.Entry⟩:Slot_)),(w64 (s_13.2 + 1))))else (idx r_6 (w64 (s_13.2 - 1))).bind fun y_38=>(idx r_6 s_13.2).bind fun y_40=>(appL s_13.1 ([(⟨(⟨y_38,y_40⟩:Window),r_24.Key⟩:Slot_)]:List Slot_)).bind fun a_42=>some (.go (a_42,(w64 (s_13.2 + 1))))else some (.brk (s_13.1,s_13.2))
noncomputable def ref_ThroughOf (l_1:(List Entry)) (p_2:Player) (wv_3:Window):Option ((List Slot_)) :=
  (ref_bounds l_1 p_2.Zone wv_3).bind fun r_6=>(loopO (([]:List Slot_),1) (fun s=>ref_ThroughOf_L1 r_6 l_1 p_2 s)).bind fun o_19=>thenC o_19 (fun s_13=>some s_13.1) (fun _=>none)
noncomputable def ref_NextOf (l_1:(List Entry)) (p_2:Player) (atv_3:Int):Option (Int) :=
  (ref_ThroughOf l_1 p_2 (⟨atv_3,(w64 ((w64 (atv_3 + 34560000000)) + 1))⟩:Window)).bind fun r_5=>(bif (decide ((r_5.length:Int) < 2))then some true else (idx r_5 1).bind fun y_10=>some (decide (y_10.Time.From≥345686400000))).bind fun v_7=>bif v_7 then some (-1)else (idx r_5 1).bind fun y_13=>some y_13.Time.From
noncomputable def law_EntriesCount (l_1:(List Int)):Option (Bool) :=
  (mk_Stream_Entries (⟨l_1,0⟩:Stream)).bind fun r_3=>(mk_Stream_Player r_3.2).bind fun r_6=>(mk_Stream_Moment r_6.2).bind fun r_9=>(mk_Stream_Flip r_9.2 25).bind fun r_13=>(bif r_13.1 then (mk_Stream_Pick r_13.2 ([345686399999,345686400000,345254400000]:List Int)).bind fun r_19=>some (r_19.1,r_19.2.L,r_19.2.f_at)else some (r_9.1,r_13.2.L,r_13.2.f_at)).bind fun v_16=>(schedule_On r_3.1 r_6.1 v_16.1).bind fun r_22=>(schedule_Why r_3.1 r_6.1 v_16.1).bind fun r_24=>(schedule_Next r_3.1 r_6.1 v_16.1).bind fun r_26=>(ref_EntriesFault r_3.1).bind fun r_28=>(ref_PlayerFault r_6.1).bind fun r_30=>(law_momentFault v_16.1).bind fun r_32=>(law_errs ([r_28,r_30,r_32]:List Int)).bind fun r_34=>bif (r_34 != 0)then (bif (r_22.2.2 == r_34)then bif (r_24.2 == r_34)then bif (r_26.2 == r_34)then bif (sEq r_22.1 (⟨#[]⟩:ByteArray))then bif (!r_22.2.1)then bif ((r_24.1.length:Int) == 0)then bif (r_26.1 == 0)then (law_timed).bind fun r_46=>some r_46 else some false else some false else some false else some false else some false else some false else some false).bind fun v_37=>some v_37 else (ref_OnOf r_3.1 r_6.1 v_16.1).bind fun r_48=>(bif (r_22.2.2 == 0)then bif (r_24.2 == 0)then bif (r_26.2 == 0)then bif (sEq r_22.1 r_48.1)then bif (r_22.2.1 == r_48.2)then (ref_WhyKeys r_3.1 r_6.1 v_16.1).bind fun r_57=>(slices_Equal_string_string r_24.1 r_57).bind fun r_59=>bif r_59 then (ref_NextOf r_3.1 r_6.1 v_16.1).bind fun r_62=>bif (r_26.1 == r_62)then (law_timed).bind fun r_65=>some r_65 else some false else some false else some false else some false else some false else some false else some false).bind fun v_50=>some v_50
end Go.Proofs.YtjhcehhmdmbleaaGreat.Law

