/-
  The functions of the program, as plain functions over data (written by a program of ours).
-/
import Derived.Test.YthcdokkcamcnmaaGreatDoorEng5
open Go Go.Eng
namespace Go.Proofs.YthcdokkcamcnmaaGreatDoor.Law
set_option maxRecDepth 100000
set_option linter.unusedVariables false
set_option maxHeartbeats 1000000
structure Stream where
  L:(List Int)
  f_at:Int
def Stream.enc (s:Stream):List D:=[dl eI s.L,.int .i64 s.f_at]

structure Entry where
  Key:ByteArray
  Item:ByteArray
  Version:Int
  First:Int
  Last:Int
  Every:Int
  Days:Int
  Except:(List Int)
  From:Int
  To:Int
  Prio:Int
  Tags:(List ByteArray)
  Gone:Bool
def Entry.enc (s:Entry):List D:=[.str s.Key,.str s.Item,.int .i64 s.Version,.int .i64 s.First,.int .i64 s.Last,.int .i64 s.Every,.int .i64 s.Days,dl eI s.Except,.int .i64 s.From,.int .i64 s.To,.int .i64 s.Prio,dl eS s.Tags,.bool s.Gone]
abbrev Entry.v (s:Entry):List V:=[(vS s.Key),(vS s.Item),(vI s.Version),(vI s.First),(vI s.Last),(vI s.Every),(vI s.Days),(vL eI s.Except),(vI s.From),(vI s.To),(vI s.Prio),(vL eS s.Tags),(vB s.Gone)]

structure Player where
  Key:ByteArray
  Screen:ByteArray
  Zone:Int
  Tags:(List ByteArray)
def Player.enc (s:Player):List D:=[.str s.Key,.str s.Screen,.int .i64 s.Zone,dl eS s.Tags]
abbrev Player.v (s:Player):List V:=[(vS s.Key),(vS s.Screen),(vI s.Zone),(vL eS s.Tags)]

structure Window where
  From:Int
  To:Int
def Window.enc (s:Window):List D:=[.int .i64 s.From,.int .i64 s.To]

structure Slot_ where
  Time:Window
  Entry:ByteArray
def Slot_.enc (s:Slot_):List D:=[.int .i64 s.Time.From,.int .i64 s.Time.To,.str s.Entry]
abbrev Slot_.v (s:Slot_):List V:=[(vI s.Time.From),(vI s.Time.To),(vS s.Entry)]

structure Span where
  f_e:(Option Entry)
  f_time:Window
def Span.enc (s:Span):List D:=[dP Entry.enc s.f_e,.int .i64 s.f_time.From,.int .i64 s.f_time.To]
abbrev Span.v (s:Span):List V:=[(.d (dP Entry.enc s.f_e)),(vI s.f_time.From),(vI s.f_time.To)]

structure Pair where
  Name:ByteArray
  Value:ByteArray
def Pair.enc (s:Pair):List D:=[.str s.Name,.str s.Value]

def qR (x_1:Int) (n_2:Int):Option (Int) :=
  bif (decide (n_2<1))then some 0 else (BM .i64 x_1 n_2).bind λq_4=>(bif (decide (q_4<0))then some (w64 (q_4+n_2))else some q_4).bind λv_6=>some v_6
def dX (s_1:Stream) (n_2:Int):Option (Int×Stream) :=
  bif ((s_1.L.length:Int)==0)then (qR (w64 ((w64 (s_1.f_at+1))*7919)) n_2).bind λr_4=>some (r_4,(⟨s_1.L,(w64 (s_1.f_at+1))⟩:Stream))else (BM .i64 (w64 ((w64 (s_1.f_at+1))-1)) (s_1.L.length:Int)).bind λq_6=>(Kc .i64 (w64 ((w64 (s_1.f_at+1))-1)) (s_1.L.length:Int)).bind λq_8=>(idx s_1.L q_6).bind λy_10=>(qR y_10 1073741824).bind λr_12=>(qR (w64 (r_12+(w64 (q_8*(w64 (7919+q_6)))))) n_2).bind λr_14=>some (r_14,(⟨s_1.L,(w64 (s_1.f_at+1))⟩:Stream))
def bX (s_1:Stream) (n_2:Int):Option (Bool×Stream) :=
  (dX s_1 n_2).bind λr_3=>some ((r_3.1==0),r_3.2)
def ig (s_1:Stream) (l_2:(List ByteArray)):Option (ByteArray×Stream) :=
  (dX s_1 (l_2.length:Int)).bind λr_3=>(idx l_2 r_3.1).bind λy_6=>some (y_6,r_3.2)
def jI (s_1:Stream) (low_2:Int) (high_3:Int):Option (Int×Stream) :=
  bif (decide (high_3<low_2))then some (low_2,s_1)else (dX s_1 (w64 ((w64 (high_3-low_2))+1))).bind λr_5=>some ((w64 (low_2+r_5.1)),r_5.2)
def cB (s_1:Stream) (l_2:(List Int)):Option (Int×Stream) :=
  (dX s_1 (l_2.length:Int)).bind λr_3=>(idx l_2 r_3.1).bind λy_6=>some (y_6,r_3.2)
def iK (k_50:Nat) (x_52:Int) (s_55:(List Int)×(List Int)×Int):Option (Ctl ((List Int)×(List Int)×Int) (Unit)) :=
  (bX (⟨s_55.2.1,s_55.2.2⟩:Stream) 4).bind λr_63=>(bif r_63.1 then (kW s_55.1 ([x_52]:List Int)).bind λa_70=>some a_70 else some s_55.1).bind λv_66=>some (.go (v_66,r_63.2.L,r_63.2.f_at))
def iL (k_73:Nat) (x_75:ByteArray) (s_78:(List ByteArray)×(List Int)×Int):Option (Ctl ((List ByteArray)×(List Int)×Int) (Unit)) :=
  (bX (⟨s_78.2.1,s_78.2.2⟩:Stream) 4).bind λr_86=>(bif r_86.1 then (kW s_78.1 ([x_75]:List ByteArray)).bind λa_93=>some a_93 else some s_78.1).bind λv_89=>some (.go (v_89,r_86.2.L,r_86.2.f_at))
def gq (k_2:Nat) (x_4:ByteArray) (s_7:(List Entry)×(List Int)×Int):Option (Ctl ((List Entry)×(List Int)×Int) (Unit)) :=
  (bX (⟨s_7.2.1,s_7.2.2⟩:Stream) 4).bind λr_15=>bif r_15.1 then some (.go (s_7.1,r_15.2.L,r_15.2.f_at))else (ig r_15.2 ([(⟨#[105,97]⟩:ByteArray),(⟨#[105,98]⟩:ByteArray),(⟨#[105,99]⟩:ByteArray)]:List ByteArray)).bind λr_19=>(jI r_19.2 0 2).bind λr_22=>(cB r_22.2 ([0,0,1,3]:List Int)).bind λr_25=>(cB r_25.2 ([1,1,2,3,7]:List Int)).bind λr_28=>(cB r_28.2 ([127,127,31,96,1,2]:List Int)).bind λr_31=>(cB r_31.2 ([0,0,60,600,1380]:List Int)).bind λr_34=>(cB r_34.2 ([0,60,120,600,720,1439]:List Int)).bind λr_37=>(cB r_37.2 ([0,0,1,5]:List Int)).bind λr_40=>(bX r_40.2 8).bind λr_43=>(cB r_43.2 ([0,1,5,10,30]:List Int)).bind λr_47=>(je ([1,2,8]:List Int) (([]:List Int),r_47.2.L,r_47.2.f_at) (λk x s=>iK k x s)).bind λo_61=>bv o_61 (λs_55=>(je ([(⟨#[99,105,116,121]⟩:ByteArray),(⟨#[109,97,108,108]⟩:ByteArray)]:List ByteArray) (([]:List ByteArray),s_55.2.1,s_55.2.2) (λk x s=>iL k x s)).bind λo_84=>bv o_84 (λs_78=>(kW s_7.1 ([(⟨x_4,r_19.1,r_22.1,r_25.1,(w64 (r_25.1+r_47.1)),r_28.1,r_31.1,s_55.1,r_34.1,r_37.1,r_40.1,s_78.1,r_43.1⟩:Entry)]:List Entry)).bind λa_96=>some (.go (a_96,s_78.2.1,s_78.2.2))) (λ_=>none)) (λ_=>none)
def iC (s_1:Stream):Option ((List Entry)×Stream) :=
  (je ([(⟨#[101,97]⟩:ByteArray),(⟨#[101,98]⟩:ByteArray),(⟨#[101,99]⟩:ByteArray),(⟨#[101,100]⟩:ByteArray)]:List ByteArray) (([]:List Entry),s_1.L,s_1.f_at) (λk x s=>gq k x s)).bind λo_13=>bv o_13 (λs_7=>some (s_7.1,(⟨s_7.2.1,s_7.2.2⟩:Stream))) (λ_=>none)
def ek (s_1:Stream) (low_2:Int) (high_3:Int):Option (Int×Stream) :=
  (bX s_1 12).bind λr_4=>bif r_4.1 then (cB r_4.2 ([(w64 (low_2-1)),(w64 (high_3+1)),low_2,high_3,(-1099511627776),1099511627776]:List Int)).bind λr_8=>some (r_8.1,r_8.2)else (jI r_4.2 low_2 high_3).bind λr_11=>some (r_11.1,r_11.2)
def iX (s_1:(List Int)):Option ((List Int)) :=
  (kW [] s_1).bind λa_4=>some a_4
def jT (s_1:Stream):Option ((List Entry)×Stream) :=
  (iC s_1).bind λr_2=>(bif (decide ((r_2.1.length:Int)>0))then (bX r_2.2 10).bind λr_9=>some (r_9.1,r_9.2.L,r_9.2.f_at)else some (false,r_2.2.L,r_2.2.f_at)).bind λv_6=>(bif v_6.1 then (dX (⟨v_6.2.1,v_6.2.2⟩:Stream) (r_2.1.length:Int)).bind λr_15=>(inR r_15.1 r_2.1).bind λ_=>(dX r_15.2 6).bind λr_19=>bif (r_19.1==0)then (r_2.1[(0+(r_15.1).toNat)]?).bind λe_23=>(ig r_19.2 ([e_23.Key,(⟨#[]⟩:ByteArray),(⟨#[65]⟩:ByteArray),(⟨#[101,97]⟩:ByteArray)]:List ByteArray)).bind λr_25=>(ig r_25.2 ([(⟨#[105,97]⟩:ByteArray),(⟨#[]⟩:ByteArray),(⟨#[66]⟩:ByteArray)]:List ByteArray)).bind λr_28=>(r_2.1[(0+(r_15.1).toNat)]?).bind λe_31=>((r_2.1.set (0+(r_15.1).toNat) (⟨r_25.1,e_31.Item,e_31.Version,e_31.First,e_31.Last,e_31.Every,e_31.Days,e_31.Except,e_31.From,e_31.To,e_31.Prio,e_31.Tags,e_31.Gone⟩:Entry))[(0+(r_15.1).toNat)]?).bind λe_33=>some (((r_2.1.set (0+(r_15.1).toNat) (⟨r_25.1,e_31.Item,e_31.Version,e_31.First,e_31.Last,e_31.Every,e_31.Days,e_31.Except,e_31.From,e_31.To,e_31.Prio,e_31.Tags,e_31.Gone⟩:Entry)).set (0+(r_15.1).toNat) (⟨e_33.Key,r_28.1,e_33.Version,e_33.First,e_33.Last,e_33.Every,e_33.Days,e_33.Except,e_33.From,e_33.To,e_33.Prio,e_33.Tags,e_33.Gone⟩:Entry)),r_28.2.L,r_28.2.f_at)else bif (r_19.1==1)then (ek r_19.2 0 10).bind λr_36=>(ek r_36.2 0 4000).bind λr_39=>(r_2.1[(0+(r_15.1).toNat)]?).bind λe_42=>((r_2.1.set (0+(r_15.1).toNat) (⟨e_42.Key,e_42.Item,e_42.Version,r_36.1,e_42.Last,e_42.Every,e_42.Days,e_42.Except,e_42.From,e_42.To,e_42.Prio,e_42.Tags,e_42.Gone⟩:Entry))[(0+(r_15.1).toNat)]?).bind λe_44=>some (((r_2.1.set (0+(r_15.1).toNat) (⟨e_42.Key,e_42.Item,e_42.Version,r_36.1,e_42.Last,e_42.Every,e_42.Days,e_42.Except,e_42.From,e_42.To,e_42.Prio,e_42.Tags,e_42.Gone⟩:Entry)).set (0+(r_15.1).toNat) (⟨e_44.Key,e_44.Item,e_44.Version,e_44.First,r_39.1,e_44.Every,e_44.Days,e_44.Except,e_44.From,e_44.To,e_44.Prio,e_44.Tags,e_44.Gone⟩:Entry)),r_39.2.L,r_39.2.f_at)else bif (r_19.1==2)then (ek r_19.2 1 400).bind λr_47=>(ek r_47.2 1 127).bind λr_50=>(r_2.1[(0+(r_15.1).toNat)]?).bind λe_53=>((r_2.1.set (0+(r_15.1).toNat) (⟨e_53.Key,e_53.Item,e_53.Version,e_53.First,e_53.Last,r_47.1,e_53.Days,e_53.Except,e_53.From,e_53.To,e_53.Prio,e_53.Tags,e_53.Gone⟩:Entry))[(0+(r_15.1).toNat)]?).bind λe_55=>some (((r_2.1.set (0+(r_15.1).toNat) (⟨e_53.Key,e_53.Item,e_53.Version,e_53.First,e_53.Last,r_47.1,e_53.Days,e_53.Except,e_53.From,e_53.To,e_53.Prio,e_53.Tags,e_53.Gone⟩:Entry)).set (0+(r_15.1).toNat) (⟨e_55.Key,e_55.Item,e_55.Version,e_55.First,e_55.Last,e_55.Every,r_50.1,e_55.Except,e_55.From,e_55.To,e_55.Prio,e_55.Tags,e_55.Gone⟩:Entry)),r_50.2.L,r_50.2.f_at)else bif (r_19.1==3)then (r_2.1[(0+(r_15.1).toNat)]?).bind λe_58=>(iX e_58.Except).bind λr_60=>(ek r_19.2 0 4000).bind λr_64=>(kW r_60 ([r_64.1]:List Int)).bind λa_67=>(r_2.1[(0+(r_15.1).toNat)]?).bind λe_70=>some ((r_2.1.set (0+(r_15.1).toNat) (⟨e_70.Key,e_70.Item,e_70.Version,e_70.First,e_70.Last,e_70.Every,e_70.Days,a_67,e_70.From,e_70.To,e_70.Prio,e_70.Tags,e_70.Gone⟩:Entry)),r_64.2.L,r_64.2.f_at)else bif (r_19.1==4)then (ek r_19.2 0 1439).bind λr_73=>(ek r_73.2 0 1439).bind λr_76=>(r_2.1[(0+(r_15.1).toNat)]?).bind λe_79=>((r_2.1.set (0+(r_15.1).toNat) (⟨e_79.Key,e_79.Item,e_79.Version,e_79.First,e_79.Last,e_79.Every,e_79.Days,e_79.Except,r_73.1,e_79.To,e_79.Prio,e_79.Tags,e_79.Gone⟩:Entry))[(0+(r_15.1).toNat)]?).bind λe_81=>some (((r_2.1.set (0+(r_15.1).toNat) (⟨e_79.Key,e_79.Item,e_79.Version,e_79.First,e_79.Last,e_79.Every,e_79.Days,e_79.Except,r_73.1,e_79.To,e_79.Prio,e_79.Tags,e_79.Gone⟩:Entry)).set (0+(r_15.1).toNat) (⟨e_81.Key,e_81.Item,e_81.Version,e_81.First,e_81.Last,e_81.Every,e_81.Days,e_81.Except,e_81.From,r_76.1,e_81.Prio,e_81.Tags,e_81.Gone⟩:Entry)),r_76.2.L,r_76.2.f_at)else (dX r_19.2 3).bind λr_83=>(idx ([([(⟨#[109,97,108,108]⟩:ByteArray),(⟨#[99,105,116,121]⟩:ByteArray)]:List ByteArray),([(⟨#[]⟩:ByteArray)]:List ByteArray),([(⟨#[97]⟩:ByteArray),(⟨#[97]⟩:ByteArray)]:List ByteArray)]:List (List ByteArray)) r_83.1).bind λy_86=>(ek r_83.2 0 9).bind λr_88=>(r_2.1[(0+(r_15.1).toNat)]?).bind λe_91=>((r_2.1.set (0+(r_15.1).toNat) (⟨e_91.Key,e_91.Item,e_91.Version,e_91.First,e_91.Last,e_91.Every,e_91.Days,e_91.Except,e_91.From,e_91.To,e_91.Prio,y_86,e_91.Gone⟩:Entry))[(0+(r_15.1).toNat)]?).bind λe_93=>some (((r_2.1.set (0+(r_15.1).toNat) (⟨e_91.Key,e_91.Item,e_91.Version,e_91.First,e_91.Last,e_91.Every,e_91.Days,e_91.Except,e_91.From,e_91.To,e_91.Prio,y_86,e_91.Gone⟩:Entry)).set (0+(r_15.1).toNat) (⟨e_93.Key,e_93.Item,e_93.Version,e_93.First,e_93.Last,e_93.Every,e_93.Days,e_93.Except,e_93.From,e_93.To,r_88.1,e_93.Tags,e_93.Gone⟩:Entry)),r_88.2.L,r_88.2.f_at)else some (r_2.1,v_6.2.1,v_6.2.2)).bind λv_12=>some (v_12.1,(⟨v_12.2.1,v_12.2.2⟩:Stream))
def iM (s_1:Stream):Option (Player×Stream) :=
  (cB s_1 ([0,0,60,(-90),1440]:List Int)).bind λr_3=>(dX r_3.2 3).bind λr_6=>(idx ([([]:List ByteArray),([(⟨#[99,105,116,121]⟩:ByteArray)]:List ByteArray),([(⟨#[99,105,116,121]⟩:ByteArray),(⟨#[109,97,108,108]⟩:ByteArray)]:List ByteArray)]:List (List ByteArray)) r_6.1).bind λy_9=>some ((⟨(⟨#[112]⟩:ByteArray),(⟨#[115,97]⟩:ByteArray),r_3.1,y_9⟩:Player),r_6.2)
def kw (s_1:Stream):Option (Player×Stream) :=
  (iM s_1).bind λr_3=>(bX r_3.2 15).bind λr_7=>(bif r_7.1 then (ig r_7.2 ([(⟨#[112]⟩:ByteArray),(⟨#[]⟩:ByteArray)]:List ByteArray)).bind λr_13=>(ig r_13.2 ([(⟨#[115,97]⟩:ByteArray),(⟨#[65]⟩:ByteArray)]:List ByteArray)).bind λr_16=>(ek r_16.2 (-1440) 1440).bind λr_19=>(dX r_19.2 3).bind λr_22=>(idx ([([(⟨#[109,97,108,108]⟩:ByteArray),(⟨#[99,105,116,121]⟩:ByteArray)]:List ByteArray),([(⟨#[]⟩:ByteArray)]:List ByteArray),([]:List ByteArray)]:List (List ByteArray)) r_22.1).bind λy_25=>some (r_22.2.L,r_22.2.f_at,r_13.1,r_16.1,r_19.1,y_25)else some (r_7.2.L,r_7.2.f_at,r_3.1.Key,r_3.1.Screen,r_3.1.Zone,r_3.1.Tags)).bind λv_10=>some ((⟨v_10.2.2.1,v_10.2.2.2.1,v_10.2.2.2.2.1,v_10.2.2.2.2.2⟩:Player),(⟨v_10.1,v_10.2.1⟩:Stream))
def lS (s_1:Stream):Option (Window×Stream) :=
  (cB s_1 ([0,0,1,36000000,86400000]:List Int)).bind λr_3=>(cB r_3.2 ([1,42000000,86400000,259200000,777600000]:List Int)).bind λr_6=>(bif (decide (r_3.1>r_6.1))then (bX r_6.2 3).bind λr_13=>some ((!r_13.1),r_13.2.L,r_13.2.f_at)else some (false,r_6.2.L,r_6.2.f_at)).bind λv_10=>(bif v_10.1 then some 0 else some r_3.1).bind λv_16=>(bX (⟨v_10.2.1,v_10.2.2⟩:Stream) 25).bind λr_19=>(bif r_19.1 then (ek r_19.2 0 100).bind λr_25=>(cB r_25.2 ([345686400000,345686400001,34646400000,34560000000,(-1)]:List Int)).bind λr_28=>some (r_28.2.L,r_28.2.f_at,r_25.1,r_28.1)else some (r_19.2.L,r_19.2.f_at,v_16,r_6.1)).bind λv_22=>some ((⟨v_22.2.2.1,v_22.2.2.2⟩:Window),(⟨v_22.1,v_22.2.1⟩:Stream))
def kP (s_1:ByteArray) (s_7:Int):Option (Ctl (Int) (Bool)) :=
  bif (decide (s_7<(s_1.size:Int)))then (Jn s_1 s_7).bind λb_13=>(bif (decide ((b_13.toNat:Int)>=97))then bif (decide ((b_13.toNat:Int)<=122))then some false else bif (decide (s_7>0))then bif (decide ((b_13.toNat:Int)>=48))then bif (decide ((b_13.toNat:Int)<=57))then some false else bif ((b_13.toNat:Int)==45)then some false else some (!((b_13.toNat:Int)==95))else bif ((b_13.toNat:Int)==45)then some false else some (!((b_13.toNat:Int)==95))else some true else bif (decide (s_7>0))then bif (decide ((b_13.toNat:Int)>=48))then bif (decide ((b_13.toNat:Int)<=57))then some false else bif ((b_13.toNat:Int)==45)then some false else some (!((b_13.toNat:Int)==95))else bif ((b_13.toNat:Int)==45)then some false else some (!((b_13.toNat:Int)==95))else some true).bind λv_15=>bif v_15 then some (.ret false)else some (.go (w64 (s_7+1)))else some (.brk s_7)
noncomputable def mr (s_1:ByteArray):Option (Bool) :=
  (iI 0 (λs=>kP s_1 s)).bind λo_10=>bv o_10 (λs_7=>(bif (sNe s_1 (⟨#[]⟩:ByteArray))then some (decide ((s_1.size:Int)<=40))else some false).bind λv_30=>some v_30) (λr=>some r)
def fQ (n_1:Int) (low_2:Int) (high_3:Int):Option (Bool) :=
  (bif (decide (n_1<low_2))then some true else some (decide (n_1>high_3))).bind λv_4=>some v_4
def tK (n_1:Int):Option (Bool) :=
  (bif (decide (n_1>=0))then some (decide (n_1<=4000))else some false).bind λv_2=>some v_2
def ji (l_1:(List Int)) (k_3:Nat) (x_5:Int) (s_8:Unit):Option (Ctl (Unit) (Int)) :=
  (tK x_5).bind λr_13=>bif (!r_13)then some (.ret 1)else (bif (decide ((k_3:Int)>0))then (idx l_1 (w64 ((k_3:Int)-1))).bind λy_19=>some (decide (x_5<=y_19))else some false).bind λv_16=>bif v_16 then some (.ret 7)else some (.go ())
def jb (l_1:(List Int)):Option (Int) :=
  bif (decide ((l_1.length:Int)>100))then some 2 else (je l_1 () (λk x s=>ji l_1 k x s)).bind λo_11=>bv o_11 (λs_8=>some 0) (λr=>some r)
noncomputable def kN (l_1:(List ByteArray)) (k_2:Nat) (x_4:ByteArray) (s_7:Unit):Option (Ctl (Unit) (Int)) :=
  (mr x_4).bind λr_12=>bif (!r_12)then some (.ret 5)else (bif (decide ((k_2:Int)>0))then (idx l_1 (w64 ((k_2:Int)-1))).bind λy_18=>some (sLe x_4 y_18)else some false).bind λv_15=>bif v_15 then some (.ret 7)else some (.go ())
noncomputable def nH (l_1:(List ByteArray)):Option (Int) :=
  (je l_1 () (λk x s=>kN l_1 k x s)).bind λo_10=>bv o_10 (λs_7=>some 0) (λr=>some r)
noncomputable def iO (l_1:(List ByteArray)):Option (Int) :=
  bif (decide ((l_1.length:Int)>20))then some 2 else (nH l_1).bind λr_3=>some r_3
noncomputable def jm (e_1:Entry):Option (Int) :=
  ((mr e_1.Key).bind λr_5=>bif (!r_5)then some true else (mr e_1.Item).bind λr_8=>some (!r_8)).bind λv_3=>bif v_3 then some 5 else ((fQ e_1.Version 0 1000000).bind λr_13=>bif r_13 then some true else (fQ e_1.First 0 e_1.Last).bind λr_16=>bif r_16 then some true else bif (decide (e_1.Last>4000))then some true else (fQ e_1.Every 1 400).bind λr_20=>bif r_20 then some true else (fQ e_1.Days 1 127).bind λr_23=>some r_23).bind λv_11=>bif v_11 then some 1 else (jb e_1.Except).bind λr_26=>bif (r_26 != 0)then some r_26 else ((fQ e_1.From 0 1439).bind λr_31=>bif r_31 then some true else (fQ e_1.To 0 1439).bind λr_34=>bif r_34 then some true else (fQ e_1.Prio 0 9).bind λr_37=>some r_37).bind λv_29=>bif v_29 then some 1 else (iO e_1.Tags).bind λr_40=>some r_40
noncomputable def gL (l_1:(List Entry)) (k_3:Nat) (x_5:Entry) (s_8:Unit):Option (Ctl (Unit) (Int)) :=
  (jm x_5).bind λr_14=>bif (r_14 != 0)then some (.ret r_14)else (bif (decide ((k_3:Int)>0))then (idx l_1 (w64 ((k_3:Int)-1))).bind λy_20=>some (sLe x_5.Key y_20.Key)else some false).bind λv_17=>bif v_17 then some (.ret 7)else some (.go ())
noncomputable def dW (l_1:(List Entry)):Option (Int) :=
  bif (decide ((l_1.length:Int)>200))then some 2 else (je l_1 () (λk x s=>gL l_1 k x s)).bind λo_11=>bv o_11 (λs_8=>some 0) (λr=>some r)
noncomputable def ja (p_1:Player):Option (Int) :=
  ((mr p_1.Key).bind λr_5=>bif (!r_5)then some true else (mr p_1.Screen).bind λr_8=>some (!r_8)).bind λv_3=>bif v_3 then some 5 else (fQ p_1.Zone (-1440) 1440).bind λr_11=>bif r_11 then some 1 else (iO p_1.Tags).bind λr_14=>some r_14
def gP (wv_1:Window):Option (Int) :=
  ((fQ wv_1.From 0 wv_1.To).bind λr_5=>bif r_5 then some true else some (decide (wv_1.To>345686400000))).bind λv_3=>bif v_3 then some 1 else bif (decide ((w64 (wv_1.To-wv_1.From))>34560000000))then some 2 else some 0
noncomputable def dR (l_1:(List Entry)) (p_2:Player) (wv_3:Window):Option (Int) :=
  (dW l_1).bind λr_6=>bif (r_6 != 0)then some r_6 else (ja p_2).bind λr_9=>bif (r_9 != 0)then some r_9 else (gP wv_3).bind λr_12=>some r_12
def cmp_isNaN_string (x_1:ByteArray):Option (Bool) :=
  some (sNe x_1 x_1)
def cmp_Less_string (x_1:ByteArray) (y_2:ByteArray):Option (Bool) :=
  ((cmp_isNaN_string x_1).bind λr_5=>bif r_5 then (cmp_isNaN_string y_2).bind λr_8=>bif (!r_8)then some true else some (sLt x_1 y_2)else some (sLt x_1 y_2)).bind λv_3=>some v_3
def slices_isNaN_string (x_1:ByteArray):Option (Bool) :=
  some (sNe x_1 x_1)
def aW (x_1:(List ByteArray)) (target_2:ByteArray) (s_8:Int×Int):Option (Ctl (Int×Int) (Unit)) :=
  bif (decide (s_8.1<s_8.2))then (zD .u64 (IntKind.u64.wrap (w64 (s_8.1+s_8.2))) 1).bind λq_14=>(idx x_1 (w64 q_14)).bind λy_16=>(cmp_Less_string y_16 target_2).bind λr_18=>bif r_18 then some (.go ((w64 ((w64 q_14)+1)),s_8.2))else some (.go (s_8.1,(w64 q_14)))else some (.brk (s_8.1,s_8.2))
noncomputable def dD (x_1:(List ByteArray)) (target_2:ByteArray):Option (Int×Bool) :=
  (iI (0,(x_1.length:Int)) (λs=>aW x_1 target_2 s)).bind λo_11=>bv o_11 (λs_8=>(bif (decide (s_8.1<(x_1.length:Int)))then (idx x_1 s_8.1).bind λy_24=>bif (sEq y_24 target_2)then some true else (idx x_1 s_8.1).bind λy_27=>(slices_isNaN_string y_27).bind λr_29=>bif r_29 then (slices_isNaN_string target_2).bind λr_32=>some r_32 else some false else some false).bind λv_21=>some (s_8.1,v_21)) (λ_=>none)
noncomputable def jy (p_2:Player) (k_5:Nat) (x_7:ByteArray) (s_10:Unit):Option (Ctl (Unit) (Bool)) :=
  (dD p_2.Tags x_7).bind λr_15=>bif (!r_15.2)then some (.ret false)else some (.go ())
noncomputable def nu (e_1:Entry) (p_2:Player):Option (Bool) :=
  (je e_1.Tags () (λk x s=>jy p_2 k x s)).bind λo_13=>bv o_13 (λs_10=>some true) (λr=>some r)
def cmp_isNaN_int (x_1:Int):Option (Bool) :=
  some (x_1 != x_1)
def cmp_Less_int (x_1:Int) (y_2:Int):Option (Bool) :=
  ((cmp_isNaN_int x_1).bind λr_5=>bif r_5 then (cmp_isNaN_int y_2).bind λr_8=>bif (!r_8)then some true else some (decide (x_1<y_2))else some (decide (x_1<y_2))).bind λv_3=>some v_3
def jA (x_1:Int):Option (Bool) :=
  some (x_1 != x_1)
def bC (x_1:(List Int)) (target_2:Int) (s_8:Int×Int):Option (Ctl (Int×Int) (Unit)) :=
  bif (decide (s_8.1<s_8.2))then (zD .u64 (IntKind.u64.wrap (w64 (s_8.1+s_8.2))) 1).bind λq_14=>(idx x_1 (w64 q_14)).bind λy_16=>(cmp_Less_int y_16 target_2).bind λr_18=>bif r_18 then some (.go ((w64 ((w64 q_14)+1)),s_8.2))else some (.go (s_8.1,(w64 q_14)))else some (.brk (s_8.1,s_8.2))
noncomputable def fB (x_1:(List Int)) (target_2:Int):Option (Int×Bool) :=
  (iI (0,(x_1.length:Int)) (λs=>bC x_1 target_2 s)).bind λo_11=>bv o_11 (λs_8=>(bif (decide (s_8.1<(x_1.length:Int)))then (idx x_1 s_8.1).bind λy_24=>bif (y_24==target_2)then some true else (idx x_1 s_8.1).bind λy_27=>(jA y_27).bind λr_29=>bif r_29 then (jA target_2).bind λr_32=>some r_32 else some false else some false).bind λv_21=>some (s_8.1,v_21)) (λ_=>none)
noncomputable def lQ (e_1:Entry) (d_2:Int):Option (Bool) :=
  ((fQ d_2 e_1.First e_1.Last).bind λr_6=>bif r_6 then some true else (BM .i64 (w64 (d_2-e_1.First)) e_1.Every).bind λq_9=>bif (q_9 != 0)then some true else (LA .i64 1 (d_2.tmod 7)).bind λq_12=>some ((xK .i64 e_1.Days q_12)==0)).bind λv_4=>bif v_4 then some false else (fB e_1.Except d_2).bind λr_15=>some (!r_15.2)
def kZ (e_1:Entry) (zone_2:Int) (d_3:Int):Option (Window) :=
  (bif (decide ((w64 (e_1.To-e_1.From))<=0))then some (w64 ((w64 (e_1.To-e_1.From))+1440))else some (w64 (e_1.To-e_1.From))).bind λv_6=>some (⟨(w64 ((w64 ((w64 ((w64 (d_3*1440))+e_1.From))-zone_2))*60000)),(w64 ((w64 ((w64 ((w64 ((w64 (d_3*1440))+e_1.From))-zone_2))*60000))+(w64 (v_6*60000))))⟩:Window)
noncomputable def dL (wv_3:Window) (zone_2:Int) (e_1:Entry) (s_15:(List Window)×Int):Option (Ctl ((List Window)×Int) (Unit)) :=
  bif (decide (s_15.2<=(kG (w64 ((w64 ((w64 (wv_3.To+(w64 (zone_2*60000)))).tdiv 86400000))+1)) e_1.Last)))then (lQ e_1 s_15.2).bind λr_24=>bif (!r_24)then some (.go (s_15.1,(w64 (s_15.2+1))))else (kZ e_1 zone_2 s_15.2).bind λr_27=>(bif (decide (r_27.From<wv_3.To))then some (decide (r_27.To>wv_3.From))else some false).bind λv_30=>(bif v_30 then (kW s_15.1 ([r_27]:List Window)).bind λa_37=>some a_37 else some s_15.1).bind λv_33=>some (.go (v_33,(w64 (s_15.2+1))))else some (.brk (s_15.1,s_15.2))
noncomputable def gK (e_1:Entry) (zone_2:Int) (wv_3:Window):Option ((List Window)) :=
  (bif e_1.Gone then some true else some (decide (wv_3.From>=wv_3.To))).bind λv_6=>bif v_6 then some ([]:(List Window))else (iI (([]:List Window),(j5 (w64 ((w64 ((w64 (wv_3.From+(w64 (zone_2*60000)))).tdiv 86400000))-2)) e_1.First)) (λs=>dL wv_3 zone_2 e_1 s)).bind λo_21=>bv o_21 (λs_15=>some s_15.1) (λ_=>none)
def iA (l_1:(List Entry)) (k_6:Nat) (k_24:Nat) (x_26:Window) (s_29:(List Span)):Option (Ctl ((List Span)) (Unit)) :=
  (idx l_1 (k_6:Int)).bind λy_37=>(kW s_29 ([(⟨(some y_37),x_26⟩:Span)]:List Span)).bind λa_39=>some (.go a_39)
noncomputable def iE (p_2:Player) (wv_3:Window) (l_1:(List Entry)) (k_6:Nat) (x_8:Entry) (s_11:(List Span)):Option (Ctl ((List Span)) (Unit)) :=
  (nu x_8 p_2).bind λr_19=>bif (!r_19)then some (.go s_11)else (gK x_8 p_2.Zone wv_3).bind λr_22=>(je r_22 s_11 (λk x s=>iA l_1 k_6 k x s)).bind λo_34=>bv o_34 (λs_29=>some (.go s_29)) (λ_=>none)
noncomputable def iG (l_1:(List Entry)) (p_2:Player) (wv_3:Window):Option ((List Span)) :=
  (je l_1 ([]:List Span) (λk x s=>iE p_2 wv_3 l_1 k x s)).bind λo_17=>bv o_17 (λs_11=>some s_11) (λ_=>none)
def cmp_Compare_int (x_1:Int) (y_2:Int):Option (Int) :=
  (cmp_isNaN_int x_1).bind λr_3=>(cmp_isNaN_int y_2).bind λr_5=>bif r_3 then bif r_5 then some 0 else some (-1)else bif r_5 then some 1 else bif (decide (x_1<y_2))then some (-1)else bif (decide (x_1>y_2))then some 1 else some 0
def iQ (a_1:Span) (b_2:Span):Option (Int) :=
  (cmp_Compare_int a_1.f_time.From b_2.f_time.From).bind λr_5=>some r_5
noncomputable def gZ (x:(List Span)):Option ((List Span)) :=
  EH (λa b=>iQ a b) x
def oK (t_1:Window) (wv_2:Window):Option (Window) :=
  some (⟨(j5 t_1.From wv_2.From),(kG t_1.To wv_2.To)⟩:Window)
def fZ (x:(List Int)):Option ((List Int)) :=
  KV x
def bW (s_1:(List Int)) (s_8:Int) (s_28:(List Int)×Int×Int):Option (Ctl ((List Int)×Int×Int) (Unit)) :=
  bif (decide (s_28.2.2<(((((s_1.length:Int)).toNat-(s_8).toNat):Nat):Int)))then (inN s_28.2.2 (((s_1.length:Int)).toNat-(s_8).toNat)).bind λ_=>(s_28.1[(((s_8).toNat)+(s_28.2.2).toNat)]?).bind λe_35=>(inN (w64 (s_28.2.2-1)) (((s_1.length:Int)).toNat-(s_8).toNat)).bind λ_=>(s_28.1[(((s_8).toNat)+((w64 (s_28.2.2-1))).toNat)]?).bind λe_38=>(bif (e_35 != e_38)then (inN s_28.2.2 (((s_1.length:Int)).toNat-(s_8).toNat)).bind λ_=>(s_28.1[(((s_8).toNat)+(s_28.2.2).toNat)]?).bind λe_44=>(inR s_28.2.1 s_28.1).bind λ_=>(s_28.1[(0+(s_28.2.1).toNat)]?).bind λe_47=>some ((s_28.1.set (0+(s_28.2.1).toNat) e_44),(w64 (s_28.2.1+1)))else some (s_28.1,s_28.2.1)).bind λv_40=>some (.go (v_40.1,v_40.2,(w64 (s_28.2.2+1))))else some (.brk (s_28.1,s_28.2.1,s_28.2.2))
noncomputable def bB (s_1:(List Int)) (s_8:Int):Option (Ctl (Int) ((List Int))) :=
  bif (decide (s_8<(s_1.length:Int)))then (inR s_8 s_1).bind λ_=>(s_1[(0+(s_8).toNat)]?).bind λe_15=>(inR (w64 (s_8-1)) s_1).bind λ_=>(s_1[(0+((w64 (s_8-1))).toNat)]?).bind λe_18=>bif (e_15==e_18)then (neL s_1).bind λ_=>(qI s_1 s_8 (s_1.length:Int)).bind λ_=>(iI (s_1,s_8,1) (λs=>bW s_1 s_8 s)).bind λo_31=>bv o_31 (λs_28=>(qI s_28.1 s_28.2.1 (s_28.1.length:Int)).bind λ_=>(qI (s_28.1.take ((s_28.2.1).toNat)++List.replicate (((s_28.1.length:Int)).toNat-(s_28.2.1).toNat) 0++s_28.1.drop (((s_28.2.1).toNat)+(((s_28.1.length:Int)).toNat-(s_28.2.1).toNat))) 0 s_28.2.1).bind λ_=>some (.ret (cutL (s_28.1.take ((s_28.2.1).toNat)++List.replicate (((s_28.1.length:Int)).toNat-(s_28.2.1).toNat) 0++s_28.1.drop (((s_28.2.1).toNat)+(((s_28.1.length:Int)).toNat-(s_28.2.1).toNat))) 0 ((s_28.2.1).toNat)))) (λ_=>none)else some (.go (w64 (s_8+1)))else some (.brk s_8)
noncomputable def dH (s_1:(List Int)):Option ((List Int)) :=
  bif (decide ((s_1.length:Int)<2))then some s_1 else (iI 1 (λs=>bB s_1 s)).bind λo_11=>bv o_11 (λs_8=>some s_1) (λr=>some r)
def jM (wv_3:Window) (k_9:Nat) (x_11:Span) (s_14:(List Int)):Option (Ctl ((List Int)) (Unit)) :=
  (oK x_11.f_time wv_3).bind λr_22=>(kW s_14 ([r_22.From,r_22.To]:List Int)).bind λa_25=>some (.go a_25)
noncomputable def lU (l_1:(List Entry)) (p_2:Player) (wv_3:Window):Option ((List Int)) :=
  (iG l_1 p_2 wv_3).bind λr_7=>(je r_7 ([wv_3.From,wv_3.To]:List Int) (λk x s=>jM wv_3 k x s)).bind λo_19=>bv o_19 (λs_14=>(neL s_14).bind λ_=>(fZ s_14).bind λr_29=>(jZ r_29 s_14).bind λ_=>(dH r_29).bind λr_32=>some r_32) (λ_=>none)
def fM (s_1:Span) (p_2:(List Int)) (p_3:Int):Option (Bool) :=
  (idx p_2 p_3).bind λy_5=>some (decide (s_1.f_time.To<=y_5))
def dz (s_1:(List Span)) (f2_3:(List Int)) (f2_4:Int) (k_5:Nat) (x_7:Nat) (s_10:Unit):Option (Ctl (Unit) (Int)) :=
  (inR (k_5:Int) s_1).bind λ_=>(s_1[(0+((k_5:Int)).toNat)]?).bind λe_16=>(fM e_16 f2_3 f2_4).bind λr_18=>bif r_18 then some (.ret (k_5:Int))else some (.go ())
def dN (s_1:(List Span)) (f2_3:(List Int)) (f2_4:Int):Option (Int) :=
  (je (List.range ((s_1.length:Int)).toNat) () (λk x s=>dz s_1 f2_3 f2_4 k x s)).bind λo_13=>bv o_13 (λs_10=>some (-1)) (λr=>some r)
def di (del2_3:(List Int)) (del2_4:Int) (s_13:(List Span)×Int×Int):Option (Ctl ((List Span)×Int×Int) (Unit)) :=
  bif (decide (s_13.2.2<(s_13.1.length:Int)))then (inR s_13.2.2 s_13.1).bind λ_=>(s_13.1[(0+(s_13.2.2).toNat)]?).bind λe_20=>(fM e_20 del2_3 del2_4).bind λr_23=>(bif (!r_23)then (inR s_13.2.1 s_13.1).bind λ_=>(s_13.1[(0+(s_13.2.1).toNat)]?).bind λe_30=>some ((s_13.1.set (0+(s_13.2.1).toNat) e_20),(w64 (s_13.2.1+1)))else some (s_13.1,s_13.2.1)).bind λv_26=>some (.go (v_26.1,v_26.2,(w64 (s_13.2.2+1))))else some (.brk (s_13.1,s_13.2.1,s_13.2.2))
noncomputable def bD (s_1:(List Span)) (del2_3:(List Int)) (del2_4:Int):Option ((List Span)) :=
  (dN s_1 del2_3 del2_4).bind λr_5=>bif (r_5==(-1))then some s_1 else (iI (s_1,r_5,(w64 (r_5+1))) (λs=>di del2_3 del2_4 s)).bind λo_16=>bv o_16 (λs_13=>(qI s_13.1 s_13.2.1 (s_13.1.length:Int)).bind λ_=>(qI (s_13.1.take ((s_13.2.1).toNat)++List.replicate (((s_13.1.length:Int)).toNat-(s_13.2.1).toNat) (⟨none,(⟨0,0⟩:Window)⟩:Span)++s_13.1.drop (((s_13.2.1).toNat)+(((s_13.1.length:Int)).toNat-(s_13.2.1).toNat))) 0 s_13.2.1).bind λ_=>some ((s_13.1.take ((s_13.2.1).toNat)++List.replicate (((s_13.1.length:Int)).toNat-(s_13.2.1).toNat) (⟨none,(⟨0,0⟩:Window)⟩:Span)++s_13.1.drop (((s_13.2.1).toNat)+(((s_13.1.length:Int)).toNat-(s_13.2.1).toNat))).take ((s_13.2.1).toNat))) (λ_=>none)
def dK (f_2:Span->Option Bool) (k_3:Nat) (x_5:Span) (s_8:Unit):Option (Ctl (Unit) (Int)) :=
  (f_2 x_5).bind λr_13=>bif r_13 then some (.ret (k_3:Int))else some (.go ())
def bJ (s_1:(List Span)) (f_2:Span->Option Bool):Option (Int) :=
  (je s_1 () (λk x s=>dK f_2 k x s)).bind λo_11=>bv o_11 (λs_8=>some (-1)) (λr=>some r)
def dh (r_5:Int) (s_14:Unit):Option (Ctl (Unit) (Unit)) :=
  bif (decide ((w64 (r_5+1))<0))then none else some (.brk ())
noncomputable def bG (del2_3:(List Int)) (del2_4:Int):Option (Unit) :=
  (bJ ([]:List Span) (λx0=>fM x0 del2_3 del2_4)).bind λr_5=>bif (r_5==(-1))then some ()else (iI () (λs=>dh r_5 s)).bind λo_17=>bv o_17 (λs_14=>none) (λ_=>none)
def iR (a_1:ByteArray) (b_2:ByteArray):Option (Int) :=
  some (zg a_1 b_2)
def strings_Compare (a_1:ByteArray) (b_2:ByteArray):Option (Int) :=
  (iR a_1 b_2).bind λr_3=>some r_3
def pJ (k_2:Nat) (x_4:Int) (s_7:Unit):Option (Ctl (Unit) (Int)) :=
  bif (x_4 != 0)then some (.ret x_4)else some (.go ())
def qN (vals_1:(List Int)):Option (Int) :=
  (je vals_1 () (λk x s=>pJ k x s)).bind λo_10=>bv o_10 (λs_7=>some 0) (λr=>some r)
def iV (a_1:Span) (b_2:Span):Option (Int) :=
  (b_2.f_e).bind λy_5=>(a_1.f_e).bind λy_7=>(cmp_Compare_int y_5.Prio y_7.Prio).bind λr_9=>(cmp_Compare_int b_2.f_time.From a_1.f_time.From).bind λr_11=>(b_2.f_e).bind λy_13=>(a_1.f_e).bind λy_15=>(strings_Compare y_13.Key y_15.Key).bind λr_17=>(qN ([r_9,r_11,r_17]:List Int)).bind λr_19=>some r_19
def aZ (x_1:(List Span)) (s_16:Int×(Option Entry)×Int×Int):Option (Ctl (Int×(Option Entry)×Int×Int) (Unit)) :=
  bif (decide (s_16.1<(x_1.length:Int)))then (inR s_16.1 x_1).bind λ_=>(x_1[(0+(s_16.1).toNat)]?).bind λe_23=>(iV e_23 (⟨s_16.2.1,(⟨s_16.2.2.1,s_16.2.2.2⟩:Window)⟩:Span)).bind λr_25=>(bif (decide (r_25<0))then (inR s_16.1 x_1).bind λ_=>(x_1[(0+(s_16.1).toNat)]?).bind λe_31=>some (e_31.f_e,e_31.f_time.From,e_31.f_time.To)else some (s_16.2.1,s_16.2.2.1,s_16.2.2.2)).bind λv_27=>some (.go ((w64 (s_16.1+1)),v_27.1,v_27.2.1,v_27.2.2))else some (.brk (s_16.1,s_16.2.1,s_16.2.2.1,s_16.2.2.2))
noncomputable def bn (x_1:(List Span)):Option (Span) :=
  (bif (decide ((x_1.length:Int)<1))then none else some ()).bind λv_4=>(inR 0 x_1).bind λ_=>(x_1[(0+(0:Int).toNat)]?).bind λe_8=>(iI (1,e_8.f_e,e_8.f_time.From,e_8.f_time.To) (λs=>aZ x_1 s)).bind λo_19=>bv o_19 (λs_16=>some (⟨s_16.2.1,(⟨s_16.2.2.1,s_16.2.2.2⟩:Window)⟩:Span)) (λ_=>none)
def gy (r_10:(List Span)) (r_13:(List Int)) (s_22:(List Slot_)×(List Span)×Int×Int) (s_43:(List Span)×Int):Option (Ctl ((List Span)×Int) (Unit)) :=
  (bif (decide (s_43.2<(r_10.length:Int)))then (inR s_43.2 r_10).bind λ_=>(r_10[(0+(s_43.2).toNat)]?).bind λe_54=>(idx r_13 s_22.2.2.2).bind λy_56=>some (decide (e_54.f_time.From<=y_56))else some false).bind λv_50=>bif v_50 then (inR s_43.2 r_10).bind λ_=>(r_10[(0+(s_43.2).toNat)]?).bind λe_60=>(kW s_43.1 ([e_60]:List Span)).bind λa_62=>some (.go (a_62,(w64 (s_43.2+1))))else some (.brk (s_43.1,s_43.2))
noncomputable def gz (r_13:(List Int)) (r_10:(List Span)) (s_22:(List Slot_)×(List Span)×Int×Int):Option (Ctl ((List Slot_)×(List Span)×Int×Int) (Unit)) :=
  bif (decide ((w64 (s_22.2.2.2+1))<(r_13.length:Int)))then (iI (s_22.2.1,s_22.2.2.1) (λs=>gy r_10 r_13 s_22 s)).bind λo_48=>bv o_48 (λs_43=>(bD s_43.1 r_13 s_22.2.2.2).bind λr_65=>(leL r_65 s_43.1).bind λ_=>(bG r_13 s_22.2.2.2).bind λ_=>(bif (decide ((r_65.length:Int)>0))then (neL r_65).bind λ_=>(bn r_65).bind λr_73=>(r_73.f_e).bind λy_75=>some y_75.Key else some (⟨#[]⟩:ByteArray)).bind λv_69=>(bif (decide ((w64 ((s_22.1.length:Int)-1))>=0))then (inR (w64 ((s_22.1.length:Int)-1)) s_22.1).bind λ_=>(s_22.1[(0+((w64 ((s_22.1.length:Int)-1))).toNat)]?).bind λe_81=>some (sEq e_81.Entry v_69)else some false).bind λv_77=>(bif v_77 then (idx r_13 (w64 (s_22.2.2.2+1))).bind λy_87=>(inR (w64 ((s_22.1.length:Int)-1)) s_22.1).bind λ_=>(s_22.1[(0+((w64 ((s_22.1.length:Int)-1))).toNat)]?).bind λe_90=>some (s_22.1.set (0+((w64 ((s_22.1.length:Int)-1))).toNat) (⟨(⟨e_90.Time.From,y_87⟩:Window),e_90.Entry⟩:Slot_))else (idx r_13 s_22.2.2.2).bind λy_92=>(idx r_13 (w64 (s_22.2.2.2+1))).bind λy_94=>(kW s_22.1 ([(⟨(⟨y_92,y_94⟩:Window),v_69⟩:Slot_)]:List Slot_)).bind λa_96=>some a_96).bind λv_83=>some (.go (v_83,r_65,s_43.2,(w64 (s_22.2.2.2+1))))) (λ_=>none)else some (.brk (s_22.1,s_22.2.1,s_22.2.2.1,s_22.2.2.2))
noncomputable def fq (l_1:(List Entry)) (p_2:Player) (wv_3:Window):Option ((List Slot_)) :=
  (iG l_1 p_2 wv_3).bind λr_6=>(gZ r_6).bind λr_10=>(jZ r_10 r_6).bind λ_=>(lU l_1 p_2 wv_3).bind λr_13=>(iI (([]:List Slot_),([]:List Span),0,0) (λs=>gz r_13 r_10 s)).bind λo_35=>bv o_35 (λs_22=>some s_22.1) (λ_=>none)
noncomputable def iP (l_1:(List Entry)) (p_2:Player) (wv_3:Window):Option ((List Slot_)×Int) :=
  (dR l_1 p_2 wv_3).bind λr_6=>bif (r_6 != 0)then some (([]:(List Slot_)),r_6)else (fq l_1 p_2 wv_3).bind λr_9=>some (r_9,0)
def lK (k_12:Nat) (x_14:Slot_) (s_17:(List (ByteArray×Bool))):Option (Ctl ((List (ByteArray×Bool))) (Unit)) :=
  some (.go (oI eqS s_17 x_14.Entry true))
def bO (k_25:Nat) (x_27:Span) (s_30:(List (ByteArray×Bool))×(List ByteArray)):Option (Ctl ((List (ByteArray×Bool))×(List ByteArray)) (Unit)) :=
  (x_27.f_e).bind λy_39=>(bif (!((iY eqS s_30.1 y_39.Key).getD false))then (x_27.f_e).bind λy_45=>(x_27.f_e).bind λy_47=>(kW s_30.2 ([y_47.Key]:List ByteArray)).bind λa_49=>some ((oI eqS s_30.1 y_45.Key true),a_49)else some (s_30.1,s_30.2)).bind λv_41=>some (.go (v_41.1,v_41.2))
noncomputable def jE (l_1:(List Entry)) (p_2:Player) (wv_3:Window):Option ((List ByteArray)×Int) :=
  (dR l_1 p_2 wv_3).bind λr_6=>bif (r_6 != 0)then some (([]:(List ByteArray)),r_6)else (fq l_1 p_2 wv_3).bind λr_10=>(je r_10 ([]:List (ByteArray×Bool)) (λk x s=>lK k x s)).bind λo_20=>bv o_20 (λs_17=>(iG l_1 p_2 wv_3).bind λr_23=>(je r_23 (s_17,([]:List ByteArray)) (λk x s=>bO k x s)).bind λo_36=>bv o_36 (λs_30=>some (s_30.2,0)) (λ_=>none)) (λ_=>none)
def fV (k_11:Nat) (x_13:Slot_) (s_16:(List Window)):Option (Ctl ((List Window)) (Unit)) :=
  (bif (sEq x_13.Entry (⟨#[]⟩:ByteArray))then (kW s_16 ([x_13.Time]:List Window)).bind λa_29=>some a_29 else some s_16).bind λv_25=>some (.go v_25)
noncomputable def jW (l_1:(List Entry)) (p_2:Player) (wv_3:Window):Option ((List Window)×Int) :=
  (dR l_1 p_2 wv_3).bind λr_6=>bif (r_6 != 0)then some (([]:(List Window)),r_6)else (fq l_1 p_2 wv_3).bind λr_9=>(je r_9 ([]:List Window) (λk x s=>fV k x s)).bind λo_22=>bv o_22 (λs_16=>some (s_16,0)) (λ_=>none)
def lJ (k_3:Nat) (x_5:Entry) (s_8:(List (ByteArray×ByteArray))):Option (Ctl ((List (ByteArray×ByteArray))) (Unit)) :=
  some (.go (oI eqS s_8 x_5.Key x_5.Item))
def l6 (l_1:(List Entry)):Option ((List (ByteArray×ByteArray))) :=
  (je l_1 ([]:List (ByteArray×ByteArray)) (λk x s=>lJ k x s)).bind λo_11=>bv o_11 (λs_8=>some s_8) (λ_=>none)
def rQ (m:(List (ByteArray×Int))):Option (List ByteArray) :=
  IY m
def strconv_Itoa (x0:Int):Option (ByteArray) :=
  KU x0
def jv (r_9:(List (ByteArray×ByteArray))) (k_15:Nat) (x_17:Slot_) (s_20:(List (ByteArray×Int))):Option (Ctl ((List (ByteArray×Int))) (Unit)) :=
  (bif (sNe x_17.Entry (⟨#[]⟩:ByteArray))then some (oI eqS s_20 ((iY eqS r_9 x_17.Entry).getD (⟨#[]⟩:ByteArray)) (w64 (((iY eqS s_20 ((iY eqS r_9 x_17.Entry).getD (⟨#[]⟩:ByteArray))).getD 0)+(w64 (x_17.Time.To-x_17.Time.From)))))else some s_20).bind λv_26=>some (.go v_26)
def jw (s_20:(List (ByteArray×Int))) (k_33:Nat) (x_35:ByteArray) (s_38:(List Pair)):Option (Ctl ((List Pair)) (Unit)) :=
  (strconv_Itoa ((iY eqS s_20 x_35).getD 0)).bind λr_46=>(kW s_38 ([(⟨x_35,r_46⟩:Pair)]:List Pair)).bind λa_48=>some (.go a_48)
noncomputable def jV (l_1:(List Entry)) (p_2:Player) (wv_3:Window):Option ((List Pair)×Int) :=
  (dR l_1 p_2 wv_3).bind λr_6=>bif (r_6 != 0)then some (([]:(List Pair)),r_6)else (l6 l_1).bind λr_9=>(fq l_1 p_2 wv_3).bind λr_13=>(je r_13 ([]:List (ByteArray×Int)) (λk x s=>jv r_9 k x s)).bind λo_23=>bv o_23 (λs_20=>(rQ s_20).bind λr_30=>(je r_30 ([]:List Pair) (λk x s=>jw s_20 k x s)).bind λo_44=>bv o_44 (λs_38=>some (s_38,0)) (λ_=>none)) (λ_=>none)
def kL (n_1:Int) (low_2:Int) (high_3:Int):Option (Bool) :=
  (bif (decide (low_2<=n_1))then some (decide (n_1<=high_3))else some false).bind λv_4=>some v_4
def fU (s_1:ByteArray) (c_2:Int):Option (Int) :=
  some (ixB s_1 c_2)
def strings_IndexByte (s_1:ByteArray) (c_2:Int):Option (Int) :=
  (fU s_1 c_2).bind λr_3=>some r_3
def nL (s_1:ByteArray) (somev_2:ByteArray) (k_3:Nat) (x_5:Nat) (s_8:Unit):Option (Ctl (Unit) (Bool)) :=
  (Jn s_1 (k_3:Int)).bind λb_13=>(strings_IndexByte somev_2 (b_13.toNat:Int)).bind λr_15=>bif (decide (r_15<0))then some (.ret false)else some (.go ())
def uj (s_1:ByteArray) (somev_2:ByteArray):Option (Bool) :=
  (je (List.range ((s_1.size:Int)).toNat) () (λk x s=>nL s_1 somev_2 k x s)).bind λo_11=>bv o_11 (λs_8=>some true) (λr=>some r)
def qx (s_1:ByteArray):Option (Bool) :=
  ((kL (s_1.size:Int) 1 40).bind λr_4=>bif r_4 then (IC s_1 0 1).bind λy_7=>(uj y_7 (⟨#[97,98,99,100,101,102,103,104,105,106,107,108,109,110,111,112,113,114,115,116,117,118,119,120,121,122]⟩:ByteArray)).bind λr_9=>bif r_9 then (uj s_1 (⟨#[97,98,99,100,101,102,103,104,105,106,107,108,109,110,111,112,113,114,115,116,117,118,119,120,121,122,48,49,50,51,52,53,54,55,56,57,45,95]⟩:ByteArray)).bind λr_12=>some r_12 else some false else some false).bind λv_2=>some v_2
def kT (l_1:(List ByteArray)) (k_2:Nat) (x_4:ByteArray) (s_7:Unit):Option (Ctl (Unit) (Int)) :=
  (qx x_4).bind λr_12=>bif (!r_12)then some (.ret 5)else (bif (decide ((k_2:Int)>0))then (idx l_1 (w64 ((k_2:Int)-1))).bind λy_18=>some (sLe x_4 y_18)else some false).bind λv_15=>bif v_15 then some (.ret 7)else some (.go ())
def nC (l_1:(List ByteArray)):Option (Int) :=
  (je l_1 () (λk x s=>kT l_1 k x s)).bind λo_10=>bv o_10 (λs_7=>some 0) (λr=>some r)
def lw (l_1:(List ByteArray)):Option (Int) :=
  bif (decide ((l_1.length:Int)>20))then some 2 else (nC l_1).bind λr_3=>some r_3
def lM (e_1:Entry) (k_27:Nat) (x_29:Int) (s_32:Unit):Option (Ctl (Unit) (Int)) :=
  (kL x_29 0 4000).bind λr_37=>bif (!r_37)then some (.ret 1)else (bif (decide ((k_27:Int)>0))then (idx e_1.Except (w64 ((k_27:Int)-1))).bind λy_43=>some (decide (x_29<=y_43))else some false).bind λv_40=>bif v_40 then some (.ret 7)else some (.go ())
def l8 (e_1:Entry):Option (Int) :=
  ((qx e_1.Key).bind λr_5=>bif (!r_5)then some true else (qx e_1.Item).bind λr_8=>some (!r_8)).bind λv_3=>bif v_3 then some 5 else ((kL e_1.Version 0 1000000).bind λr_13=>bif (!r_13)then some true else (kL e_1.First 0 e_1.Last).bind λr_16=>bif (!r_16)then some true else bif (decide (e_1.Last>4000))then some true else (kL e_1.Every 1 400).bind λr_20=>bif (!r_20)then some true else (kL e_1.Days 1 127).bind λr_23=>some (!r_23)).bind λv_11=>bif v_11 then some 1 else bif (decide ((e_1.Except.length:Int)>100))then some 2 else (je e_1.Except () (λk x s=>lM e_1 k x s)).bind λo_35=>bv o_35 (λs_32=>((kL e_1.From 0 1439).bind λr_48=>bif (!r_48)then some true else (kL e_1.To 0 1439).bind λr_51=>bif (!r_51)then some true else (kL e_1.Prio 0 9).bind λr_54=>some (!r_54)).bind λv_46=>bif v_46 then some 1 else (lw e_1.Tags).bind λr_57=>some r_57) (λr=>some r)
def iH (k_3:Nat) (x_5:Entry) (s_8:ByteArray):Option (Ctl (ByteArray) (Int)) :=
  (l8 x_5).bind λr_14=>bif (r_14 != 0)then some (.ret r_14)else bif (sLe x_5.Key s_8)then some (.ret 7)else some (.go x_5.Key)
def ko (l_1:(List Entry)):Option (Int) :=
  bif (decide ((l_1.length:Int)>200))then some 2 else (je l_1 (⟨#[]⟩:ByteArray) (λk x s=>iH k x s)).bind λo_11=>bv o_11 (λs_8=>some 0) (λr=>some r)
def lc (p_1:Player):Option (Int) :=
  ((qx p_1.Key).bind λr_5=>bif (!r_5)then some true else (qx p_1.Screen).bind λr_8=>some (!r_8)).bind λv_3=>bif v_3 then some 5 else (kL p_1.Zone (-1440) 1440).bind λr_11=>bif (!r_11)then some 1 else (lw p_1.Tags).bind λr_14=>some r_14
def nE (wv_1:Window):Option (Int) :=
  ((kL wv_1.From 0 wv_1.To).bind λr_5=>bif (!r_5)then some true else some (decide (wv_1.To>345686400000))).bind λv_3=>bif v_3 then some 1 else some 0
def nz (wv_1:Window):Option (Int) :=
  (nE wv_1).bind λr_3=>bif (r_3 != 0)then some r_3 else bif (decide ((w64 (wv_1.To-wv_1.From))>34560000000))then some 2 else some 0
def pV (k_2:Nat) (x_4:Int) (s_7:Unit):Option (Ctl (Unit) (Int)) :=
  bif (x_4 != 0)then some (.ret x_4)else some (.go ())
def wF (l_1:(List Int)):Option (Int) :=
  (je l_1 () (λk x s=>pV k x s)).bind λo_10=>bv o_10 (λs_7=>some 0) (λr=>some r)
def jk (wv_3:Window) (k_19:Nat) (x_21:Nat) (s_24:(List Window)):Option (Ctl ((List Window)) (Unit)) :=
  (inR (k_19:Int) s_24).bind λ_=>(s_24[(0+((k_19:Int)).toNat)]?).bind λe_30=>(oK e_30 wv_3).bind λr_33=>(inR (k_19:Int) s_24).bind λ_=>(s_24[(0+((k_19:Int)).toNat)]?).bind λe_36=>some (.go (s_24.set (0+((k_19:Int)).toNat) r_33))
noncomputable def lY (e_1:Entry) (zone_2:Int) (wv_3:Window):Option ((List Window)×Int) :=
  (dW ([e_1]:List Entry)).bind λr_6=>bif (r_6 != 0)then some (([]:(List Window)),r_6)else (fQ zone_2 (-1440) 1440).bind λr_9=>bif r_9 then some (([]:(List Window)),1)else (gP wv_3).bind λr_12=>bif (r_12 != 0)then some (([]:(List Window)),r_12)else (gK e_1 zone_2 wv_3).bind λr_15=>(je (List.range ((r_15.length:Int)).toNat) r_15 (λk x s=>jk wv_3 k x s)).bind λo_27=>bv o_27 (λs_24=>some (s_24,0)) (λ_=>none)
noncomputable def qF  : Option (Bool) :=
  (lY (⟨(⟨#[97]⟩:ByteArray),(⟨#[98]⟩:ByteArray),0,0,0,1,127,([]:List Int),1,2,0,([]:List ByteArray),false⟩:Entry) 0 (⟨0,86400000⟩:Window)).bind λr_1=>(bif (r_1.2==0)then bif ((r_1.1.length:Int)==1)then (idx r_1.1 0).bind λy_7=>some (y_7.From==60000)else some false else some false).bind λv_3=>some v_3
def mo (e_1:Entry) (zone_2:Int) (d_3:Int):Option (Window) :=
  (bif (decide (e_1.To<=e_1.From))then some (w64 (e_1.To+1440))else some e_1.To).bind λv_6=>some (⟨(w64 ((w64 ((w64 (d_3*86400000))-(w64 (zone_2*60000))))+(w64 (e_1.From*60000)))),(w64 ((w64 ((w64 (d_3*86400000))-(w64 (zone_2*60000))))+(w64 (v_6*60000))))⟩:Window)
def fG (v_2:Int) (k_3:Nat) (x_5:Int) (s_8:Unit):Option (Ctl (Unit) (Int)) :=
  bif (v_2==x_5)then some (.ret (k_3:Int))else some (.go ())
def jR (s_1:(List Int)) (v_2:Int):Option (Int) :=
  (je s_1 () (λk x s=>fG v_2 k x s)).bind λo_11=>bv o_11 (λs_8=>some (-1)) (λr=>some r)
def gQ (s_1:(List Int)) (v_2:Int):Option (Bool) :=
  (jR s_1 v_2).bind λr_3=>some (decide (r_3>=0))
def mJ (e_1:Entry) (d_2:Int):Option (Bool) :=
  ((kL d_2 e_1.First e_1.Last).bind λr_6=>bif r_6 then (BM .i64 (w64 (d_2-e_1.First)) e_1.Every).bind λq_9=>bif (q_9==0)then (zD .i64 e_1.Days (d_2.tmod 7)).bind λq_12=>bif ((xK .i64 q_12 1)==1)then (gQ e_1.Except d_2).bind λr_15=>some (!r_15)else some false else some false else some false).bind λv_4=>some v_4
def j6 (e_1:Entry) (zone_2:Int) (wv_3:Window) (s_11:(List Window)×Int):Option (Ctl ((List Window)×Int) (Unit)) :=
  bif (decide (s_11.2<=e_1.Last))then (mo e_1 zone_2 s_11.2).bind λr_20=>(bif (!e_1.Gone)then (mJ e_1 s_11.2).bind λr_26=>bif r_26 then some (decide ((j5 r_20.From wv_3.From)<(kG r_20.To wv_3.To)))else some false else some false).bind λv_23=>(bif v_23 then (kW s_11.1 ([(⟨(j5 r_20.From wv_3.From),(kG r_20.To wv_3.To)⟩:Window)]:List Window)).bind λa_33=>some a_33 else some s_11.1).bind λv_29=>some (.go (v_29,(w64 (s_11.2+1))))else some (.brk (s_11.1,s_11.2))
noncomputable def nO (e_1:Entry) (zone_2:Int) (wv_3:Window):Option ((List Window)) :=
  (iI (([]:List Window),e_1.First) (λs=>j6 e_1 zone_2 wv_3 s)).bind λo_17=>bv o_17 (λs_11=>some s_11.1) (λ_=>none)
def nA (k_21:Nat) (x_23:Window) (s_26:(List Int)):Option (Ctl ((List Int)) (Unit)) :=
  (kW s_26 ([x_23.From,x_23.To]:List Int)).bind λa_34=>some (.go a_34)
noncomputable def lD (zone_2:Int) (wv_3:Window) (k_6:Nat) (x_8:Entry) (s_11:(List Int)):Option (Ctl ((List Int)) (Unit)) :=
  (nO x_8 zone_2 wv_3).bind λr_19=>(je r_19 s_11 (λk x s=>nA k x s)).bind λo_31=>bv o_31 (λs_26=>some (.go s_26)) (λ_=>none)
noncomputable def qW (l_1:(List Entry)) (zone_2:Int) (wv_3:Window):Option ((List Int)) :=
  (je l_1 ([wv_3.From,wv_3.To]:List Int) (λk x s=>lD zone_2 wv_3 k x s)).bind λo_16=>bv o_16 (λs_11=>(neL s_11).bind λ_=>(fZ s_11).bind λr_38=>(jZ r_38 s_11).bind λ_=>(dH r_38).bind λr_41=>some r_41) (λ_=>none)
def uy (a_1:Int) (b_2:Int):Option (Int) :=
  (BM .i64 a_1 b_2).bind λq_3=>bif (decide (q_3<0))then (Kc .i64 a_1 b_2).bind λq_6=>some (w64 (q_6-1))else (Kc .i64 a_1 b_2).bind λq_8=>some q_8
def oD (e_1:Entry) (zone_2:Int) (atv_3:Int) (k_7:Nat) (x_9:Int) (s_12:Unit):Option (Ctl (Unit) (Int×Bool)) :=
  (mo e_1 zone_2 x_9).bind λr_17=>(bif (!e_1.Gone)then (mJ e_1 x_9).bind λr_23=>bif r_23 then bif (decide (r_17.From<=atv_3))then some (decide (atv_3<r_17.To))else some false else some false else some false).bind λv_20=>bif v_20 then some (.ret (r_17.From,true))else some (.go ())
def oZ (e_1:Entry) (zone_2:Int) (atv_3:Int):Option (Int×Bool) :=
  (uy (w64 (atv_3+(w64 (zone_2*60000)))) 86400000).bind λr_5=>(je ([(w64 (r_5-1)),r_5]:List Int) () (λk x s=>oD e_1 zone_2 atv_3 k x s)).bind λo_15=>bv o_15 (λs_12=>some (0,false)) (λr=>some r)
def dC (v_2:ByteArray) (k_3:Nat) (x_5:ByteArray) (s_8:Unit):Option (Ctl (Unit) (Int)) :=
  bif (sEq v_2 x_5)then some (.ret (k_3:Int))else some (.go ())
def ik (s_1:(List ByteArray)) (v_2:ByteArray):Option (Int) :=
  (je s_1 () (λk x s=>dC v_2 k x s)).bind λo_11=>bv o_11 (λs_8=>some (-1)) (λr=>some r)
def eG (s_1:(List ByteArray)) (v_2:ByteArray):Option (Bool) :=
  (ik s_1 v_2).bind λr_3=>some (decide (r_3>=0))
def oC (t_1:ByteArray) (p_2:Player):Option (Bool) :=
  (eG p_2.Tags t_1).bind λr_3=>some (!r_3)
def bQ (f_2:ByteArray->Option Bool) (k_3:Nat) (x_5:ByteArray) (s_8:Unit):Option (Ctl (Unit) (Int)) :=
  (f_2 x_5).bind λr_13=>bif r_13 then some (.ret (k_3:Int))else some (.go ())
def fT (s_1:(List ByteArray)) (f_2:ByteArray->Option Bool):Option (Int) :=
  (je s_1 () (λk x s=>bQ f_2 k x s)).bind λo_11=>bv o_11 (λs_8=>some (-1)) (λr=>some r)
def dG (s_1:(List ByteArray)) (f_2:ByteArray->Option Bool):Option (Bool) :=
  (fT s_1 f_2).bind λr_3=>some (decide (r_3>=0))
def o6 (e_1:Entry) (p_2:Player):Option (Bool) :=
  (dG e_1.Tags (λx0=>oC x0 p_2)).bind λr_5=>some (!r_5)
def dI (s2_2:(List Int)) (k_3:Nat) (x_5:Int) (s_8:Unit):Option (Ctl (Unit) (Int)) :=
  bif (decide ((k_3:Int)>=(s2_2.length:Int)))then some (.ret 1)else (idx s2_2 (k_3:Int)).bind λy_14=>(cmp_Compare_int x_5 y_14).bind λr_16=>bif (r_16 != 0)then some (.ret r_16)else some (.go ())
def iy (s1_1:(List Int)) (s2_2:(List Int)):Option (Int) :=
  (je s1_1 () (λk x s=>dI s2_2 k x s)).bind λo_11=>bv o_11 (λs_8=>bif (decide ((s1_1.length:Int)<(s2_2.length:Int)))then some (-1)else some 0) (λr=>some r)
def nN (a_1:Entry) (b_2:Entry) (p_3:Player) (p_4:Int):Option (Int) :=
  (oZ a_1 p_3.Zone p_4).bind λr_7=>(oZ b_2 p_3.Zone p_4).bind λr_9=>(iy ([b_2.Prio,r_9.1]:List Int) ([a_1.Prio,r_7.1]:List Int)).bind λr_11=>bif (r_11 != 0)then some r_11 else (strings_Compare b_2.Key a_1.Key).bind λr_14=>some r_14
def qj (x_1:Int):Option (Int) :=
  (bif (decide (x_1>=4294967296))then (zD .u64 x_1 32).bind λq_5=>some (q_5,32)else some (x_1,0)).bind λv_2=>(bif (decide (v_2.1>=65536))then (zD .u64 v_2.1 16).bind λq_10=>some (q_10,(w64 (v_2.2+16)))else some (v_2.1,v_2.2)).bind λv_7=>(bif (decide (v_7.1>=256))then (zD .u64 v_7.1 8).bind λq_15=>some (q_15,(w64 (v_7.2+8)))else some (v_7.1,v_7.2)).bind λv_12=>(Jn (⟨#[0,1,2,2,3,3,3,3,4,4,4,4,4,4,4,4,5,5,5,5,5,5,5,5,5,5,5,5,5,5,5,5,6,6,6,6,6,6,6,6,6,6,6,6,6,6,6,6,6,6,6,6,6,6,6,6,6,6,6,6,6,6,6,6,7,7,7,7,7,7,7,7,7,7,7,7,7,7,7,7,7,7,7,7,7,7,7,7,7,7,7,7,7,7,7,7,7,7,7,7,7,7,7,7,7,7,7,7,7,7,7,7,7,7,7,7,7,7,7,7,7,7,7,7,7,7,7,7,8,8,8,8,8,8,8,8,8,8,8,8,8,8,8,8,8,8,8,8,8,8,8,8,8,8,8,8,8,8,8,8,8,8,8,8,8,8,8,8,8,8,8,8,8,8,8,8,8,8,8,8,8,8,8,8,8,8,8,8,8,8,8,8,8,8,8,8,8,8,8,8,8,8,8,8,8,8,8,8,8,8,8,8,8,8,8,8,8,8,8,8,8,8,8,8,8,8,8,8,8,8,8,8,8,8,8,8,8,8,8,8,8,8,8,8,8,8,8,8,8,8,8,8,8,8,8,8]⟩:ByteArray) (IntKind.u8.wrap v_12.1)).bind λb_17=>some (w64 (v_12.2+(w64 (b_17.toNat:Int))))
def jU (x_1:Int):Option (Int) :=
  (qj x_1).bind λr_2=>some r_2
def eu (a_2:Int) (cmp4_5:Player) (cmp4_6:Int) (s_23:(List Entry)×Int):Option (Ctl ((List Entry)×Int) (Unit)) :=
  (bif (decide (s_23.2>a_2))then (inR s_23.2 s_23.1).bind λ_=>(s_23.1[(0+(s_23.2).toNat)]?).bind λe_32=>(inR (w64 (s_23.2-1)) s_23.1).bind λ_=>(s_23.1[(0+((w64 (s_23.2-1))).toNat)]?).bind λe_35=>(nN e_32 e_35 cmp4_5 cmp4_6).bind λr_37=>some (decide (r_37<0))else some false).bind λv_28=>bif v_28 then (inR (w64 (s_23.2-1)) s_23.1).bind λ_=>(s_23.1[(0+((w64 (s_23.2-1))).toNat)]?).bind λe_42=>(inR s_23.2 s_23.1).bind λ_=>(s_23.1[(0+(s_23.2).toNat)]?).bind λe_45=>(inR s_23.2 s_23.1).bind λ_=>(s_23.1[(0+(s_23.2).toNat)]?).bind λe_48=>(inR (w64 (s_23.2-1)) (s_23.1.set (0+(s_23.2).toNat) e_42)).bind λ_=>((s_23.1.set (0+(s_23.2).toNat) e_42)[(0+((w64 (s_23.2-1))).toNat)]?).bind λe_51=>some (.go (((s_23.1.set (0+(s_23.2).toNat) e_42).set (0+((w64 (s_23.2-1))).toNat) e_45),(w64 (s_23.2-1))))else some (.brk (s_23.1,s_23.2))
noncomputable def eD (b_3:Int) (a_2:Int) (cmp4_5:Player) (cmp4_6:Int) (s_12:(List Entry)×Int):Option (Ctl ((List Entry)×Int) (Unit)) :=
  bif (decide (s_12.2<b_3))then (iI (s_12.1,s_12.2) (λs=>eu a_2 cmp4_5 cmp4_6 s)).bind λo_26=>bv o_26 (λs_23=>some (.go (s_23.1,(w64 (s_12.2+1))))) (λ_=>none)else some (.brk (s_12.1,s_12.2))
noncomputable def fw (data_1:(List Entry)) (a_2:Int) (b_3:Int) (cmp4_5:Player) (cmp4_6:Int):Option ((List Entry)) :=
  (iI (data_1,(w64 (a_2+1))) (λs=>eD b_3 a_2 cmp4_5 cmp4_6 s)).bind λo_15=>bv o_15 (λs_12=>some s_12.1) (λ_=>none)
noncomputable def gp (b_3:Int) (a_2:Int) (data_1:(List Entry)) (cmp5_6:Player) (cmp5_7:Int) (limit_4:Int) (s_13:Unit):Option (Ctl (Unit) ((List Entry))) :=
  bif (decide ((w64 (b_3-a_2))<=12))then (fw data_1 a_2 b_3 cmp5_6 cmp5_7).bind λr_19=>(jZ r_19 data_1).bind λ_=>some (.ret r_19)else bif (limit_4==0)then none else none
noncomputable def gM (data_1:(List Entry)) (a_2:Int) (b_3:Int) (limit_4:Int) (cmp5_6:Player) (cmp5_7:Int):Option ((List Entry)) :=
  (iI () (λs=>gp b_3 a_2 data_1 cmp5_6 cmp5_7 limit_4 s)).bind λo_16=>bv o_16 (λs_13=>some data_1) (λr=>some r)
noncomputable def dQ (x_1:(List Entry)) (cmp2_3:Player) (cmp2_4:Int):Option ((List Entry)) :=
  (jU (IntKind.u64.wrap (x_1.length:Int))).bind λr_5=>(gM x_1 0 (x_1.length:Int) r_5 cmp2_3 cmp2_4).bind λr_7=>(jZ r_7 x_1).bind λ_=>some r_7
def oO (p_2:Player) (atv_3:Int) (k_6:Nat) (x_8:Entry) (s_11:(List Entry)):Option (Ctl ((List Entry)) (Unit)) :=
  (oZ x_8 p_2.Zone atv_3).bind λr_20=>(bif r_20.2 then (o6 x_8 p_2).bind λr_25=>some r_25 else some false).bind λv_22=>(bif v_22 then (kW s_11 ([x_8]:List Entry)).bind λa_31=>some a_31 else some s_11).bind λv_27=>some (.go v_27)
noncomputable def uD (l_1:(List Entry)) (p_2:Player) (atv_3:Int):Option ((List Entry)) :=
  (je l_1 ([]:List Entry) (λk x s=>oO p_2 atv_3 k x s)).bind λo_17=>bv o_17 (λs_11=>(dQ s_11 p_2 atv_3).bind λr_34=>(jZ r_34 s_11).bind λ_=>some r_34) (λ_=>none)
noncomputable def vX (l_1:(List Entry)) (p_2:Player) (atv_3:Int):Option (Entry) :=
  (uD l_1 p_2 atv_3).bind λr_6=>bif (decide ((r_6.length:Int)>0))then (idx r_6 0).bind λy_9=>some y_9 else some (⟨(⟨#[]⟩:ByteArray),(⟨#[]⟩:ByteArray),0,0,0,0,0,([]:List Int),0,0,0,([]:List ByteArray),false⟩:Entry)
noncomputable def jo (r_6:(List Int)) (l_1:(List Entry)) (p_2:Player) (s_13:(List Slot_)×Int):Option (Ctl ((List Slot_)×Int) (Unit)) :=
  bif (decide (s_13.2<(r_6.length:Int)))then (idx r_6 (w64 (s_13.2-1))).bind λy_22=>(vX l_1 p_2 y_22).bind λr_24=>(bif (decide ((w64 ((s_13.1.length:Int)-1))>=0))then (inR (w64 ((s_13.1.length:Int)-1)) s_13.1).bind λ_=>(s_13.1[(0+((w64 ((s_13.1.length:Int)-1))).toNat)]?).bind λe_30=>some (sEq e_30.Entry r_24.Key)else some false).bind λv_26=>bif v_26 then (idx r_6 s_13.2).bind λy_33=>(inR (w64 ((s_13.1.length:Int)-1)) s_13.1).bind λ_=>(s_13.1[(0+((w64 ((s_13.1.length:Int)-1))).toNat)]?).bind λe_36=>some (.go ((s_13.1.set (0+((w64 ((s_13.1.length:Int)-1))).toNat) (⟨(⟨e_36.Time.From,y_33⟩:Window),e_36.Entry⟩:Slot_)),(w64 (s_13.2+1))))else (idx r_6 (w64 (s_13.2-1))).bind λy_38=>(idx r_6 s_13.2).bind λy_40=>(kW s_13.1 ([(⟨(⟨y_38,y_40⟩:Window),r_24.Key⟩:Slot_)]:List Slot_)).bind λa_42=>some (.go (a_42,(w64 (s_13.2+1))))else some (.brk (s_13.1,s_13.2))
noncomputable def ic (l_1:(List Entry)) (p_2:Player) (wv_3:Window):Option ((List Slot_)) :=
  (qW l_1 p_2.Zone wv_3).bind λr_6=>(iI (([]:List Slot_),1) (λs=>jo r_6 l_1 p_2 s)).bind λo_19=>bv o_19 (λs_13=>some s_13.1) (λ_=>none)
def dF (s2_2:(List Slot_)) (k_4:Nat) (x_6:Slot_) (s_9:Unit):Option (Ctl (Unit) (Bool)) :=
  (idx s2_2 (k_4:Int)).bind λy_14=>bif (!(((x_6.Time.From==y_14.Time.From)&&((x_6.Time.To==y_14.Time.To)&&true))&&((x_6.Entry.toList==y_14.Entry.toList)&&true)))then some (.ret false)else some (.go ())
def dY (s1_1:(List Slot_)) (s2_2:(List Slot_)):Option (Bool) :=
  bif ((s1_1.length:Int) != (s2_2.length:Int))then some false else (je s1_1 () (λk x s=>dF s2_2 k x s)).bind λo_12=>bv o_12 (λs_9=>some true) (λr=>some r)
def pF (x_1:Slot_) (p_2:Entry):Option (Bool) :=
  some (sEq x_1.Entry p_2.Key)
def dS (f_2:Slot_->Option Bool) (k_3:Nat) (x_5:Slot_) (s_8:Unit):Option (Ctl (Unit) (Int)) :=
  (f_2 x_5).bind λr_13=>bif r_13 then some (.ret (k_3:Int))else some (.go ())
def eO (s_1:(List Slot_)) (f_2:Slot_->Option Bool):Option (Int) :=
  (je s_1 () (λk x s=>dS f_2 k x s)).bind λo_11=>bv o_11 (λs_8=>some (-1)) (λr=>some r)
def bT (s_1:(List Slot_)) (f_2:Slot_->Option Bool):Option (Bool) :=
  (eO s_1 f_2).bind λr_3=>some (decide (r_3>=0))
noncomputable def lX (r_6:(List Slot_)) (p_2:Player) (wv_3:Window) (k_8:Nat) (x_10:Entry) (s_13:(List ByteArray)):Option (Ctl ((List ByteArray)) (Unit)) :=
  (bT r_6 (λx0=>pF x0 x_10)).bind λr_22=>((o6 x_10 p_2).bind λr_27=>bif r_27 then (nO x_10 p_2.Zone wv_3).bind λr_30=>bif (decide ((r_30.length:Int)>0))then some (!r_22)else some false else some false).bind λv_25=>(bif v_25 then (kW s_13 ([x_10.Key]:List ByteArray)).bind λa_37=>some a_37 else some s_13).bind λv_33=>some (.go v_33)
noncomputable def qf (l_1:(List Entry)) (p_2:Player) (wv_3:Window):Option ((List ByteArray)) :=
  (ic l_1 p_2 wv_3).bind λr_6=>(je l_1 ([]:List ByteArray) (λk x s=>lX r_6 p_2 wv_3 k x s)).bind λo_19=>bv o_19 (λs_13=>some s_13) (λ_=>none)
def eF (s2_2:(List ByteArray)) (k_4:Nat) (x_6:ByteArray) (s_9:Unit):Option (Ctl (Unit) (Bool)) :=
  (idx s2_2 (k_4:Int)).bind λy_14=>bif (sNe x_6 y_14)then some (.ret false)else some (.go ())
def fI (s1_1:(List ByteArray)) (s2_2:(List ByteArray)):Option (Bool) :=
  bif ((s1_1.length:Int) != (s2_2.length:Int))then some false else (je s1_1 () (λk x s=>eF s2_2 k x s)).bind λo_12=>bv o_12 (λs_9=>some true) (λr=>some r)
def pM (k_8:Nat) (x_10:Slot_) (s_13:(List Window)):Option (Ctl ((List Window)) (Unit)) :=
  (bif (sEq x_10.Entry (⟨#[]⟩:ByteArray))then (kW s_13 ([x_10.Time]:List Window)).bind λa_26=>some a_26 else some s_13).bind λv_22=>some (.go v_22)
noncomputable def rP (l_1:(List Entry)) (p_2:Player) (wv_3:Window):Option ((List Window)) :=
  (ic l_1 p_2 wv_3).bind λr_6=>(je r_6 ([]:List Window) (λk x s=>pM k x s)).bind λo_19=>bv o_19 (λs_13=>some s_13) (λ_=>none)
def bS (s2_2:(List Window)) (k_4:Nat) (x_6:Window) (s_9:Unit):Option (Ctl (Unit) (Bool)) :=
  (idx s2_2 (k_4:Int)).bind λy_14=>bif (!((x_6.From==y_14.From)&&((x_6.To==y_14.To)&&true)))then some (.ret false)else some (.go ())
def dx (s1_1:(List Window)) (s2_2:(List Window)):Option (Bool) :=
  bif ((s1_1.length:Int) != (s2_2.length:Int))then some false else (je s1_1 () (λk x s=>bS s2_2 k x s)).bind λo_12=>bv o_12 (λs_9=>some true) (λr=>some r)
def oN (a_1:Pair) (b_2:Pair):Option (Int) :=
  (strings_Compare a_1.Name b_2.Name).bind λr_5=>some r_5
def eQ (a_2:Int) (s_21:(List Pair)×Int):Option (Ctl ((List Pair)×Int) (Unit)) :=
  (bif (decide (s_21.2>a_2))then (inR s_21.2 s_21.1).bind λ_=>(s_21.1[(0+(s_21.2).toNat)]?).bind λe_30=>(inR (w64 (s_21.2-1)) s_21.1).bind λ_=>(s_21.1[(0+((w64 (s_21.2-1))).toNat)]?).bind λe_33=>(oN e_30 e_33).bind λr_35=>some (decide (r_35<0))else some false).bind λv_26=>bif v_26 then (inR (w64 (s_21.2-1)) s_21.1).bind λ_=>(s_21.1[(0+((w64 (s_21.2-1))).toNat)]?).bind λe_39=>(inR s_21.2 s_21.1).bind λ_=>(s_21.1[(0+(s_21.2).toNat)]?).bind λe_42=>(inR s_21.2 s_21.1).bind λ_=>(s_21.1[(0+(s_21.2).toNat)]?).bind λe_45=>(inR (w64 (s_21.2-1)) (s_21.1.set (0+(s_21.2).toNat) e_39)).bind λ_=>((s_21.1.set (0+(s_21.2).toNat) e_39)[(0+((w64 (s_21.2-1))).toNat)]?).bind λe_48=>some (.go (((s_21.1.set (0+(s_21.2).toNat) e_39).set (0+((w64 (s_21.2-1))).toNat) e_42),(w64 (s_21.2-1))))else some (.brk (s_21.1,s_21.2))
noncomputable def eT (b_3:Int) (a_2:Int) (s_10:(List Pair)×Int):Option (Ctl ((List Pair)×Int) (Unit)) :=
  bif (decide (s_10.2<b_3))then (iI (s_10.1,s_10.2) (λs=>eQ a_2 s)).bind λo_24=>bv o_24 (λs_21=>some (.go (s_21.1,(w64 (s_10.2+1))))) (λ_=>none)else some (.brk (s_10.1,s_10.2))
noncomputable def fE (data_1:(List Pair)) (a_2:Int) (b_3:Int):Option ((List Pair)) :=
  (iI (data_1,(w64 (a_2+1))) (λs=>eT b_3 a_2 s)).bind λo_13=>bv o_13 (λs_10=>some s_10.1) (λ_=>none)
noncomputable def gD (b_3:Int) (a_2:Int) (data_1:(List Pair)) (limit_4:Int) (s_11:Unit):Option (Ctl (Unit) ((List Pair))) :=
  bif (decide ((w64 (b_3-a_2))<=12))then (fE data_1 a_2 b_3).bind λr_17=>(jZ r_17 data_1).bind λ_=>some (.ret r_17)else bif (limit_4==0)then none else none
noncomputable def gY (data_1:(List Pair)) (a_2:Int) (b_3:Int) (limit_4:Int):Option ((List Pair)) :=
  (iI () (λs=>gD b_3 a_2 data_1 limit_4 s)).bind λo_14=>bv o_14 (λs_11=>some data_1) (λr=>some r)
noncomputable def cz (x_1:(List Pair)):Option ((List Pair)) :=
  (jU (IntKind.u64.wrap (x_1.length:Int))).bind λr_3=>(gY x_1 0 (x_1.length:Int) r_3).bind λr_5=>(jZ r_5 x_1).bind λ_=>some r_5
def gJ (x_11:Slot_) (k_20:Nat) (x_22:Entry) (s_25:(List (ByteArray×Int))):Option (Ctl ((List (ByteArray×Int))) (Unit)) :=
  (bif (sEq x_22.Key x_11.Entry)then some (oI eqS s_25 x_22.Item (w64 (((iY eqS s_25 x_22.Item).getD 0)+(w64 (x_11.Time.To-x_11.Time.From)))))else some s_25).bind λv_31=>some (.go v_31)
def lC (l_1:(List Entry)) (k_9:Nat) (x_11:Slot_) (s_14:(List (ByteArray×Int))):Option (Ctl ((List (ByteArray×Int))) (Unit)) :=
  (je l_1 s_14 (λk x s=>gJ x_11 k x s)).bind λo_28=>bv o_28 (λs_25=>some (.go s_25)) (λ_=>none)
def jX (x_38:(ByteArray×Int)) (s_40:(List Pair)):Option (Ctl ((List Pair)) (Unit)) :=
  (strconv_Itoa x_38.2).bind λr_49=>(kW s_40 ([(⟨x_38.1,r_49⟩:Pair)]:List Pair)).bind λa_51=>some (.go a_51)
noncomputable def ry (l_1:(List Entry)) (p_2:Player) (wv_3:Window):Option ((List Pair)) :=
  (ic l_1 p_2 wv_3).bind λr_7=>(je r_7 ([]:List (ByteArray×Int)) (λk x s=>lC l_1 k x s)).bind λo_17=>bv o_17 (λs_14=>E9 s_14 (λl_57=>(yO (λx s=>jX x s) l_57 ([]:List Pair)).bind λo_47=>bv o_47 (λs_40=>(cz s_40).bind λr_54=>(jZ r_54 s_40).bind λ_=>some r_54) (λ_=>none))) (λ_=>none)
def dE (s2_2:(List Pair)) (k_4:Nat) (x_6:Pair) (s_9:Unit):Option (Ctl (Unit) (Bool)) :=
  (idx s2_2 (k_4:Int)).bind λy_14=>bif (!((x_6.Name.toList==y_14.Name.toList)&&((x_6.Value.toList==y_14.Value.toList)&&true)))then some (.ret false)else some (.go ())
def d9 (s1_1:(List Pair)) (s2_2:(List Pair)):Option (Bool) :=
  bif ((s1_1.length:Int) != (s2_2.length:Int))then some false else (je s1_1 () (λk x s=>dE s2_2 k x s)).bind λo_12=>bv o_12 (λs_9=>some true) (λr=>some r)
noncomputable def jL (l_1:(List Int)):Option (Bool) :=
  (jT (⟨l_1,0⟩:Stream)).bind λr_3=>(kw r_3.2).bind λr_6=>(lS r_6.2).bind λr_9=>(iP r_3.1 r_6.1 r_9.1).bind λr_14=>(jE r_3.1 r_6.1 r_9.1).bind λr_16=>(jW r_3.1 r_6.1 r_9.1).bind λr_18=>(jV r_3.1 r_6.1 r_9.1).bind λr_20=>(ko r_3.1).bind λr_22=>(lc r_6.1).bind λr_24=>(nz r_9.1).bind λr_26=>(wF ([r_22,r_24,r_26]:List Int)).bind λr_28=>(bif (r_14.2 != r_28)then some true else bif (r_16.2 != r_28)then some true else bif (r_18.2 != r_28)then some true else some (r_20.2 != r_28)).bind λv_30=>bif v_30 then some false else bif (r_28 != 0)then (bif ((w64 ((w64 ((w64 ((r_14.1.length:Int)+(r_16.1.length:Int)))+(r_18.1.length:Int)))+(r_20.1.length:Int)))==0)then (qF).bind λr_40=>some r_40 else some false).bind λv_37=>some v_37 else ((ic r_3.1 r_6.1 r_9.1).bind λr_44=>(dY r_14.1 r_44).bind λr_46=>bif r_46 then (qf r_3.1 r_6.1 r_9.1).bind λr_49=>(fI r_16.1 r_49).bind λr_51=>bif r_51 then (rP r_3.1 r_6.1 r_9.1).bind λr_54=>(dx r_18.1 r_54).bind λr_56=>bif r_56 then (ry r_3.1 r_6.1 r_9.1).bind λr_59=>(d9 r_20.1 r_59).bind λr_61=>bif r_61 then (qF).bind λr_64=>some r_64 else some false else some false else some false else some false).bind λv_42=>some v_42
end Go.Proofs.YthcdokkcamcnmaaGreatDoor.Law

