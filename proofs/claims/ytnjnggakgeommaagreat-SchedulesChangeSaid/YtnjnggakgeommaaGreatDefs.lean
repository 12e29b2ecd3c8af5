/-
  The functions of the program, as plain functions over data (written by a program of ours).
-/
import Derived.Test.YtnjnggakgeommaaGreatEng5
open Go Go.Eng
namespace Go.Proofs.YtnjnggakgeommaaGreat.Law
set_option maxRecDepth 100000
set_option linter.unusedVariables false
set_option maxHeartbeats 1000000
structure Stream where
  L:(List Int)
  f_at:Int
def Stream.enc (s:Stream):List D:=[dl eI s.L,.int .i64 s.f_at]

structure Entry where
  Key:ByteArray
  Item:ByteArray
  Version:Int
  First:Int
  Last:Int
  Every:Int
  Days:Int
  Except:(List Int)
  From:Int
  To:Int
  Prio:Int
  Tags:(List ByteArray)
  Gone:Bool
def Entry.enc (s:Entry):List D:=[.str s.Key,.str s.Item,.int .i64 s.Version,.int .i64 s.First,.int .i64 s.Last,.int .i64 s.Every,.int .i64 s.Days,dl eI s.Except,.int .i64 s.From,.int .i64 s.To,.int .i64 s.Prio,dl eS s.Tags,.bool s.Gone]

structure Player where
  Key:ByteArray
  Screen:ByteArray
  Zone:Int
  Tags:(List ByteArray)
def Player.enc (s:Player):List D:=[.str s.Key,.str s.Screen,.int .i64 s.Zone,dl eS s.Tags]

structure Window where
  From:Int
  To:Int
def Window.enc (s:Window):List D:=[.int .i64 s.From,.int .i64 s.To]

structure Slot_ where
  Time:Window
  Entry:ByteArray
def Slot_.enc (s:Slot_):List D:=[.int .i64 s.Time.From,.int .i64 s.Time.To,.str s.Entry]

structure Span where
  f_e:(Option Entry)
  f_time:Window
def Span.enc (s:Span):List D:=[dP Entry.enc s.f_e,.int .i64 s.f_time.From,.int .i64 s.f_time.To]

structure Pair where
  Name:ByteArray
  Value:ByteArray
def Pair.enc (s:Pair):List D:=[.str s.Name,.str s.Value]

def qm (x_1:Int) (n_2:Int):Option (Int) :=
  bif (decide (n_2<1))then some 0 else (A9 .i64 x_1 n_2).bind λq_4=>(bif (decide (q_4<0))then some (w64 (q_4+n_2))else some q_4).bind λv_6=>some v_6
def bW (s_1:Stream) (n_2:Int):Option (Int×Stream) :=
  bif ((s_1.L.length:Int)==0)then (qm (w64 ((w64 (s_1.f_at+1))*7919)) n_2).bind λr_4=>some (r_4,(⟨s_1.L,(w64 (s_1.f_at+1))⟩:Stream))else (A9 .i64 (w64 ((w64 (s_1.f_at+1))-1)) (s_1.L.length:Int)).bind λq_6=>(IJ .i64 (w64 ((w64 (s_1.f_at+1))-1)) (s_1.L.length:Int)).bind λq_8=>(idx s_1.L q_6).bind λy_10=>(qm y_10 1073741824).bind λr_12=>(qm (w64 (r_12+(w64 (q_8*(w64 (7919+q_6)))))) n_2).bind λr_14=>some (r_14,(⟨s_1.L,(w64 (s_1.f_at+1))⟩:Stream))
def bU (s_1:Stream) (n_2:Int):Option (Bool×Stream) :=
  (bW s_1 n_2).bind λr_3=>some ((r_3.1==0),r_3.2)
def fD (s_1:Stream) (l_2:(List ByteArray)):Option (ByteArray×Stream) :=
  (bW s_1 (l_2.length:Int)).bind λr_3=>(idx l_2 r_3.1).bind λy_6=>some (y_6,r_3.2)
def ik (s_1:Stream) (low_2:Int) (high_3:Int):Option (Int×Stream) :=
  bif (decide (high_3<low_2))then some (low_2,s_1)else (bW s_1 (w64 ((w64 (high_3-low_2))+1))).bind λr_5=>some ((w64 (low_2+r_5.1)),r_5.2)
def cK (s_1:Stream) (l_2:(List Int)):Option (Int×Stream) :=
  (bW s_1 (l_2.length:Int)).bind λr_3=>(idx l_2 r_3.1).bind λy_6=>some (y_6,r_3.2)
def iA (k_50:Nat) (x_52:Int) (s_55:(List Int)×(List Int)×Int):Option (Ctl ((List Int)×(List Int)×Int) (Unit)) :=
  (bU (⟨s_55.2.1,s_55.2.2⟩:Stream) 4).bind λr_63=>(bif r_63.1 then (ll s_55.1 ([x_52]:List Int)).bind λa_70=>some a_70 else some s_55.1).bind λv_66=>some (.go (v_66,r_63.2.L,r_63.2.f_at))
def iw (k_73:Nat) (x_75:ByteArray) (s_78:(List ByteArray)×(List Int)×Int):Option (Ctl ((List ByteArray)×(List Int)×Int) (Unit)) :=
  (bU (⟨s_78.2.1,s_78.2.2⟩:Stream) 4).bind λr_86=>(bif r_86.1 then (ll s_78.1 ([x_75]:List ByteArray)).bind λa_93=>some a_93 else some s_78.1).bind λv_89=>some (.go (v_89,r_86.2.L,r_86.2.f_at))
def fT (k_2:Nat) (x_4:ByteArray) (s_7:(List Entry)×(List Int)×Int):Option (Ctl ((List Entry)×(List Int)×Int) (Unit)) :=
  (bU (⟨s_7.2.1,s_7.2.2⟩:Stream) 4).bind λr_15=>bif r_15.1 then some (.go (s_7.1,r_15.2.L,r_15.2.f_at))else (fD r_15.2 ([(⟨#[105,97]⟩:ByteArray),(⟨#[105,98]⟩:ByteArray),(⟨#[105,99]⟩:ByteArray)]:List ByteArray)).bind λr_19=>(ik r_19.2 0 2).bind λr_22=>(cK r_22.2 ([0,0,1,3]:List Int)).bind λr_25=>(cK r_25.2 ([1,1,2,3,7]:List Int)).bind λr_28=>(cK r_28.2 ([127,127,31,96,1,2]:List Int)).bind λr_31=>(cK r_31.2 ([0,0,60,600,1380]:List Int)).bind λr_34=>(cK r_34.2 ([0,60,120,600,720,1439]:List Int)).bind λr_37=>(cK r_37.2 ([0,0,1,5]:List Int)).bind λr_40=>(bU r_40.2 8).bind λr_43=>(cK r_43.2 ([0,1,5,10,30]:List Int)).bind λr_47=>(iY ([1,2,8]:List Int) (([]:List Int),r_47.2.L,r_47.2.f_at) (λk x s=>iA k x s)).bind λo_61=>bD o_61 (λs_55=>(iY ([(⟨#[99,105,116,121]⟩:ByteArray),(⟨#[109,97,108,108]⟩:ByteArray)]:List ByteArray) (([]:List ByteArray),s_55.2.1,s_55.2.2) (λk x s=>iw k x s)).bind λo_84=>bD o_84 (λs_78=>(ll s_7.1 ([(⟨x_4,r_19.1,r_22.1,r_25.1,(w64 (r_25.1+r_47.1)),r_28.1,r_31.1,s_55.1,r_34.1,r_37.1,r_40.1,s_78.1,r_43.1⟩:Entry)]:List Entry)).bind λa_96=>some (.go (a_96,s_78.2.1,s_78.2.2))) (λ_=>none)) (λ_=>none)
def ib (s_1:Stream):Option ((List Entry)×Stream) :=
  (iY ([(⟨#[101,97]⟩:ByteArray),(⟨#[101,98]⟩:ByteArray),(⟨#[101,99]⟩:ByteArray),(⟨#[101,100]⟩:ByteArray)]:List ByteArray) (([]:List Entry),s_1.L,s_1.f_at) (λk x s=>fT k x s)).bind λo_13=>bD o_13 (λs_7=>some (s_7.1,(⟨s_7.2.1,s_7.2.2⟩:Stream))) (λ_=>none)
def eD (s_1:Stream) (low_2:Int) (high_3:Int):Option (Int×Stream) :=
  (bU s_1 12).bind λr_4=>bif r_4.1 then (cK r_4.2 ([(w64 (low_2-1)),(w64 (high_3+1)),low_2,high_3,(-1099511627776),1099511627776]:List Int)).bind λr_8=>some (r_8.1,r_8.2)else (ik r_4.2 low_2 high_3).bind λr_11=>some (r_11.1,r_11.2)
def iQ (s_1:(List Int)):Option ((List Int)) :=
  (ll [] s_1).bind λa_4=>some a_4
def iZ (s_1:Stream):Option ((List Entry)×Stream) :=
  (ib s_1).bind λr_2=>(bif (decide ((r_2.1.length:Int)>0))then (bU r_2.2 10).bind λr_9=>some (r_9.1,r_9.2.L,r_9.2.f_at)else some (false,r_2.2.L,r_2.2.f_at)).bind λv_6=>(bif v_6.1 then (bW (⟨v_6.2.1,v_6.2.2⟩:Stream) (r_2.1.length:Int)).bind λr_15=>(inR r_15.1 r_2.1).bind λ_=>(bW r_15.2 6).bind λr_19=>bif (r_19.1==0)then (r_2.1[(0+(r_15.1).toNat)]?).bind λe_23=>(fD r_19.2 ([e_23.Key,(⟨#[]⟩:ByteArray),(⟨#[65]⟩:ByteArray),(⟨#[101,97]⟩:ByteArray)]:List ByteArray)).bind λr_25=>(fD r_25.2 ([(⟨#[105,97]⟩:ByteArray),(⟨#[]⟩:ByteArray),(⟨#[66]⟩:ByteArray)]:List ByteArray)).bind λr_28=>(r_2.1[(0+(r_15.1).toNat)]?).bind λe_31=>((r_2.1.set (0+(r_15.1).toNat) (⟨r_25.1,e_31.Item,e_31.Version,e_31.First,e_31.Last,e_31.Every,e_31.Days,e_31.Except,e_31.From,e_31.To,e_31.Prio,e_31.Tags,e_31.Gone⟩:Entry))[(0+(r_15.1).toNat)]?).bind λe_33=>some (((r_2.1.set (0+(r_15.1).toNat) (⟨r_25.1,e_31.Item,e_31.Version,e_31.First,e_31.Last,e_31.Every,e_31.Days,e_31.Except,e_31.From,e_31.To,e_31.Prio,e_31.Tags,e_31.Gone⟩:Entry)).set (0+(r_15.1).toNat) (⟨e_33.Key,r_28.1,e_33.Version,e_33.First,e_33.Last,e_33.Every,e_33.Days,e_33.Except,e_33.From,e_33.To,e_33.Prio,e_33.Tags,e_33.Gone⟩:Entry)),r_28.2.L,r_28.2.f_at)else bif (r_19.1==1)then (eD r_19.2 0 10).bind λr_36=>(eD r_36.2 0 4000).bind λr_39=>(r_2.1[(0+(r_15.1).toNat)]?).bind λe_42=>((r_2.1.set (0+(r_15.1).toNat) (⟨e_42.Key,e_42.Item,e_42.Version,r_36.1,e_42.Last,e_42.Every,e_42.Days,e_42.Except,e_42.From,e_42.To,e_42.Prio,e_42.Tags,e_42.Gone⟩:Entry))[(0+(r_15.1).toNat)]?).bind λe_44=>some (((r_2.1.set (0+(r_15.1).toNat) (⟨e_42.Key,e_42.Item,e_42.Version,r_36.1,e_42.Last,e_42.Every,e_42.Days,e_42.Except,e_42.From,e_42.To,e_42.Prio,e_42.Tags,e_42.Gone⟩:Entry)).set (0+(r_15.1).toNat) (⟨e_44.Key,e_44.Item,e_44.Version,e_44.First,r_39.1,e_44.Every,e_44.Days,e_44.Except,e_44.From,e_44.To,e_44.Prio,e_44.Tags,e_44.Gone⟩:Entry)),r_39.2.L,r_39.2.f_at)else bif (r_19.1==2)then (eD r_19.2 1 400).bind λr_47=>(eD r_47.2 1 127).bind λr_50=>(r_2.1[(0+(r_15.1).toNat)]?).bind λe_53=>((r_2.1.set (0+(r_15.1).toNat) (⟨e_53.Key,e_53.Item,e_53.Version,e_53.First,e_53.Last,r_47.1,e_53.Days,e_53.Except,e_53.From,e_53.To,e_53.Prio,e_53.Tags,e_53.Gone⟩:Entry))[(0+(r_15.1).toNat)]?).bind λe_55=>some (((r_2.1.set (0+(r_15.1).toNat) (⟨e_53.Key,e_53.Item,e_53.Version,e_53.First,e_53.Last,r_47.1,e_53.Days,e_53.Except,e_53.From,e_53.To,e_53.Prio,e_53.Tags,e_53.Gone⟩:Entry)).set (0+(r_15.1).toNat) (⟨e_55.Key,e_55.Item,e_55.Version,e_55.First,e_55.Last,e_55.Every,r_50.1,e_55.Except,e_55.From,e_55.To,e_55.Prio,e_55.Tags,e_55.Gone⟩:Entry)),r_50.2.L,r_50.2.f_at)else bif (r_19.1==3)then (r_2.1[(0+(r_15.1).toNat)]?).bind λe_58=>(iQ e_58.Except).bind λr_60=>(eD r_19.2 0 4000).bind λr_64=>(ll r_60 ([r_64.1]:List Int)).bind λa_67=>(r_2.1[(0+(r_15.1).toNat)]?).bind λe_70=>some ((r_2.1.set (0+(r_15.1).toNat) (⟨e_70.Key,e_70.Item,e_70.Version,e_70.First,e_70.Last,e_70.Every,e_70.Days,a_67,e_70.From,e_70.To,e_70.Prio,e_70.Tags,e_70.Gone⟩:Entry)),r_64.2.L,r_64.2.f_at)else bif (r_19.1==4)then (eD r_19.2 0 1439).bind λr_73=>(eD r_73.2 0 1439).bind λr_76=>(r_2.1[(0+(r_15.1).toNat)]?).bind λe_79=>((r_2.1.set (0+(r_15.1).toNat) (⟨e_79.Key,e_79.Item,e_79.Version,e_79.First,e_79.Last,e_79.Every,e_79.Days,e_79.Except,r_73.1,e_79.To,e_79.Prio,e_79.Tags,e_79.Gone⟩:Entry))[(0+(r_15.1).toNat)]?).bind λe_81=>some (((r_2.1.set (0+(r_15.1).toNat) (⟨e_79.Key,e_79.Item,e_79.Version,e_79.First,e_79.Last,e_79.Every,e_79.Days,e_79.Except,r_73.1,e_79.To,e_79.Prio,e_79.Tags,e_79.Gone⟩:Entry)).set (0+(r_15.1).toNat) (⟨e_81.Key,e_81.Item,e_81.Version,e_81.First,e_81.Last,e_81.Every,e_81.Days,e_81.Except,e_81.From,r_76.1,e_81.Prio,e_81.Tags,e_81.Gone⟩:Entry)),r_76.2.L,r_76.2.f_at)else (bW r_19.2 3).bind λr_83=>(idx ([([(⟨#[109,97,108,108]⟩:ByteArray),(⟨#[99,105,116,121]⟩:ByteArray)]:List ByteArray),([(⟨#[]⟩:ByteArray)]:List ByteArray),([(⟨#[97]⟩:ByteArray),(⟨#[97]⟩:ByteArray)]:List ByteArray)]:List (List ByteArray)) r_83.1).bind λy_86=>(eD r_83.2 0 9).bind λr_88=>(r_2.1[(0+(r_15.1).toNat)]?).bind λe_91=>((r_2.1.set (0+(r_15.1).toNat) (⟨e_91.Key,e_91.Item,e_91.Version,e_91.First,e_91.Last,e_91.Every,e_91.Days,e_91.Except,e_91.From,e_91.To,e_91.Prio,y_86,e_91.Gone⟩:Entry))[(0+(r_15.1).toNat)]?).bind λe_93=>some (((r_2.1.set (0+(r_15.1).toNat) (⟨e_91.Key,e_91.Item,e_91.Version,e_91.First,e_91.Last,e_91.Every,e_91.Days,e_91.Except,e_91.From,e_91.To,e_91.Prio,y_86,e_91.Gone⟩:Entry)).set (0+(r_15.1).toNat) (⟨e_93.Key,e_93.Item,e_93.Version,e_93.First,e_93.Last,e_93.Every,e_93.Days,e_93.Except,e_93.From,e_93.To,r_88.1,e_93.Tags,e_93.Gone⟩:Entry)),r_88.2.L,r_88.2.f_at)else some (r_2.1,v_6.2.1,v_6.2.2)).bind λv_12=>some (v_12.1,(⟨v_12.2.1,v_12.2.2⟩:Stream))
def iB (s_1:Stream):Option (Player×Stream) :=
  (cK s_1 ([0,0,60,(-90),1440]:List Int)).bind λr_3=>(bW r_3.2 3).bind λr_6=>(idx ([([]:List ByteArray),([(⟨#[99,105,116,121]⟩:ByteArray)]:List ByteArray),([(⟨#[99,105,116,121]⟩:ByteArray),(⟨#[109,97,108,108]⟩:ByteArray)]:List ByteArray)]:List (List ByteArray)) r_6.1).bind λy_9=>some ((⟨(⟨#[112]⟩:ByteArray),(⟨#[115,97]⟩:ByteArray),r_3.1,y_9⟩:Player),r_6.2)
def j6 (s_1:Stream):Option (Player×Stream) :=
  (iB s_1).bind λr_3=>(bU r_3.2 15).bind λr_7=>(bif r_7.1 then (fD r_7.2 ([(⟨#[112]⟩:ByteArray),(⟨#[]⟩:ByteArray)]:List ByteArray)).bind λr_13=>(fD r_13.2 ([(⟨#[115,97]⟩:ByteArray),(⟨#[65]⟩:ByteArray)]:List ByteArray)).bind λr_16=>(eD r_16.2 (-1440) 1440).bind λr_19=>(bW r_19.2 3).bind λr_22=>(idx ([([(⟨#[109,97,108,108]⟩:ByteArray),(⟨#[99,105,116,121]⟩:ByteArray)]:List ByteArray),([(⟨#[]⟩:ByteArray)]:List ByteArray),([]:List ByteArray)]:List (List ByteArray)) r_22.1).bind λy_25=>some (r_22.2.L,r_22.2.f_at,r_13.1,r_16.1,r_19.1,y_25)else some (r_7.2.L,r_7.2.f_at,r_3.1.Key,r_3.1.Screen,r_3.1.Zone,r_3.1.Tags)).bind λv_10=>some ((⟨v_10.2.2.1,v_10.2.2.2.1,v_10.2.2.2.2.1,v_10.2.2.2.2.2⟩:Player),(⟨v_10.1,v_10.2.1⟩:Stream))
def lF (s_1:Stream):Option (Window×Stream) :=
  (cK s_1 ([0,0,1,36000000,86400000]:List Int)).bind λr_3=>(cK r_3.2 ([1,42000000,86400000,259200000,777600000]:List Int)).bind λr_6=>(bif (decide (r_3.1>r_6.1))then (bU r_6.2 3).bind λr_13=>some ((!r_13.1),r_13.2.L,r_13.2.f_at)else some (false,r_6.2.L,r_6.2.f_at)).bind λv_10=>(bif v_10.1 then some 0 else some r_3.1).bind λv_16=>(bU (⟨v_10.2.1,v_10.2.2⟩:Stream) 25).bind λr_19=>(bif r_19.1 then (eD r_19.2 0 100).bind λr_25=>(cK r_25.2 ([345686400000,345686400001,34646400000,34560000000,(-1)]:List Int)).bind λr_28=>some (r_28.2.L,r_28.2.f_at,r_25.1,r_28.1)else some (r_19.2.L,r_19.2.f_at,v_16,r_6.1)).bind λv_22=>some ((⟨v_22.2.2.1,v_22.2.2.2⟩:Window),(⟨v_22.1,v_22.2.1⟩:Stream))
def bZ (s_1:(List Entry)):Option ((List Entry)) :=
  (ll [] s_1).bind λa_4=>some a_4
def kP (s_1:ByteArray) (s_7:Int):Option (Ctl (Int) (Bool)) :=
  bif (decide (s_7<(s_1.size:Int)))then (IR s_1 s_7).bind λb_13=>(bif (decide ((b_13.toNat:Int)>=97))then bif (decide ((b_13.toNat:Int)<=122))then some false else bif (decide (s_7>0))then bif (decide ((b_13.toNat:Int)>=48))then bif (decide ((b_13.toNat:Int)<=57))then some false else bif ((b_13.toNat:Int)==45)then some false else some (!((b_13.toNat:Int)==95))else bif ((b_13.toNat:Int)==45)then some false else some (!((b_13.toNat:Int)==95))else some true else bif (decide (s_7>0))then bif (decide ((b_13.toNat:Int)>=48))then bif (decide ((b_13.toNat:Int)<=57))then some false else bif ((b_13.toNat:Int)==45)then some false else some (!((b_13.toNat:Int)==95))else bif ((b_13.toNat:Int)==45)then some false else some (!((b_13.toNat:Int)==95))else some true).bind λv_15=>bif v_15 then some (.ret false)else some (.go (w64 (s_7+1)))else some (.brk s_7)
noncomputable def lW (s_1:ByteArray):Option (Bool) :=
  (gY 0 (λs=>kP s_1 s)).bind λo_10=>bD o_10 (λs_7=>(bif (sNe s_1 (⟨#[]⟩:ByteArray))then some (decide ((s_1.size:Int)<=40))else some false).bind λv_30=>some v_30) (λr=>some r)
def fJ (n_1:Int) (low_2:Int) (high_3:Int):Option (Bool) :=
  (bif (decide (n_1<low_2))then some true else some (decide (n_1>high_3))).bind λv_4=>some v_4
def sG (n_1:Int):Option (Bool) :=
  (bif (decide (n_1>=0))then some (decide (n_1<=4000))else some false).bind λv_2=>some v_2
def ja (l_1:(List Int)) (k_3:Nat) (x_5:Int) (s_8:Unit):Option (Ctl (Unit) (Int)) :=
  (sG x_5).bind λr_13=>bif (!r_13)then some (.ret 1)else (bif (decide ((k_3:Int)>0))then (idx l_1 (w64 ((k_3:Int)-1))).bind λy_19=>some (decide (x_5<=y_19))else some false).bind λv_16=>bif v_16 then some (.ret 7)else some (.go ())
def iT (l_1:(List Int)):Option (Int) :=
  bif (decide ((l_1.length:Int)>100))then some 2 else (iY l_1 () (λk x s=>ja l_1 k x s)).bind λo_11=>bD o_11 (λs_8=>some 0) (λr=>some r)
noncomputable def kK (l_1:(List ByteArray)) (k_2:Nat) (x_4:ByteArray) (s_7:Unit):Option (Ctl (Unit) (Int)) :=
  (lW x_4).bind λr_12=>bif (!r_12)then some (.ret 5)else (bif (decide ((k_2:Int)>0))then (idx l_1 (w64 ((k_2:Int)-1))).bind λy_18=>some (sLe x_4 y_18)else some false).bind λv_15=>bif v_15 then some (.ret 7)else some (.go ())
noncomputable def mP (l_1:(List ByteArray)):Option (Int) :=
  (iY l_1 () (λk x s=>kK l_1 k x s)).bind λo_10=>bD o_10 (λs_7=>some 0) (λr=>some r)
noncomputable def iH (l_1:(List ByteArray)):Option (Int) :=
  bif (decide ((l_1.length:Int)>20))then some 2 else (mP l_1).bind λr_3=>some r_3
noncomputable def jk (e_1:Entry):Option (Int) :=
  ((lW e_1.Key).bind λr_5=>bif (!r_5)then some true else (lW e_1.Item).bind λr_8=>some (!r_8)).bind λv_3=>bif v_3 then some 5 else ((fJ e_1.Version 0 1000000).bind λr_13=>bif r_13 then some true else (fJ e_1.First 0 e_1.Last).bind λr_16=>bif r_16 then some true else bif (decide (e_1.Last>4000))then some true else (fJ e_1.Every 1 400).bind λr_20=>bif r_20 then some true else (fJ e_1.Days 1 127).bind λr_23=>some r_23).bind λv_11=>bif v_11 then some 1 else (iT e_1.Except).bind λr_26=>bif (r_26 != 0)then some r_26 else ((fJ e_1.From 0 1439).bind λr_31=>bif r_31 then some true else (fJ e_1.To 0 1439).bind λr_34=>bif r_34 then some true else (fJ e_1.Prio 0 9).bind λr_37=>some r_37).bind λv_29=>bif v_29 then some 1 else (iH e_1.Tags).bind λr_40=>some r_40
noncomputable def gp (l_1:(List Entry)) (k_3:Nat) (x_5:Entry) (s_8:Unit):Option (Ctl (Unit) (Int)) :=
  (jk x_5).bind λr_14=>bif (r_14 != 0)then some (.ret r_14)else (bif (decide ((k_3:Int)>0))then (idx l_1 (w64 ((k_3:Int)-1))).bind λy_20=>some (sLe x_5.Key y_20.Key)else some false).bind λv_17=>bif v_17 then some (.ret 7)else some (.go ())
noncomputable def bG (l_1:(List Entry)):Option (Int) :=
  bif (decide ((l_1.length:Int)>200))then some 2 else (iY l_1 () (λk x s=>gp l_1 k x s)).bind λo_11=>bD o_11 (λs_8=>some 0) (λr=>some r)
noncomputable def iU (p_1:Player):Option (Int) :=
  ((lW p_1.Key).bind λr_5=>bif (!r_5)then some true else (lW p_1.Screen).bind λr_8=>some (!r_8)).bind λv_3=>bif v_3 then some 5 else (fJ p_1.Zone (-1440) 1440).bind λr_11=>bif r_11 then some 1 else (iH p_1.Tags).bind λr_14=>some r_14
def eO (wv_1:Window):Option (Int) :=
  ((fJ wv_1.From 0 wv_1.To).bind λr_5=>bif r_5 then some true else some (decide (wv_1.To>345686400000))).bind λv_3=>bif v_3 then some 1 else bif (decide ((w64 (wv_1.To-wv_1.From))>34560000000))then some 2 else some 0
noncomputable def gq (l_1:(List Entry)) (p_2:Player) (wv_3:Window):Option (Int) :=
  (bG l_1).bind λr_6=>bif (r_6 != 0)then some r_6 else (iU p_2).bind λr_9=>bif (r_9 != 0)then some r_9 else (eO wv_3).bind λr_12=>some r_12
def cmp_isNaN_string (x_1:ByteArray):Option (Bool) :=
  some (sNe x_1 x_1)
def cmp_Less_string (x_1:ByteArray) (y_2:ByteArray):Option (Bool) :=
  ((cmp_isNaN_string x_1).bind λr_5=>bif r_5 then (cmp_isNaN_string y_2).bind λr_8=>bif (!r_8)then some true else some (sLt x_1 y_2)else some (sLt x_1 y_2)).bind λv_3=>some v_3
def slices_isNaN_string (x_1:ByteArray):Option (Bool) :=
  some (sNe x_1 x_1)
def aQ (x_1:(List ByteArray)) (target_2:ByteArray) (s_8:Int×Int):Option (Ctl (Int×Int) (Unit)) :=
  bif (decide (s_8.1<s_8.2))then (y7 .u64 (IntKind.u64.wrap (w64 (s_8.1+s_8.2))) 1).bind λq_14=>(idx x_1 (w64 q_14)).bind λy_16=>(cmp_Less_string y_16 target_2).bind λr_18=>bif r_18 then some (.go ((w64 ((w64 q_14)+1)),s_8.2))else some (.go (s_8.1,(w64 q_14)))else some (.brk (s_8.1,s_8.2))
noncomputable def dH (x_1:(List ByteArray)) (target_2:ByteArray):Option (Int×Bool) :=
  (gY (0,(x_1.length:Int)) (λs=>aQ x_1 target_2 s)).bind λo_11=>bD o_11 (λs_8=>(bif (decide (s_8.1<(x_1.length:Int)))then (idx x_1 s_8.1).bind λy_24=>bif (sEq y_24 target_2)then some true else (idx x_1 s_8.1).bind λy_27=>(slices_isNaN_string y_27).bind λr_29=>bif r_29 then (slices_isNaN_string target_2).bind λr_32=>some r_32 else some false else some false).bind λv_21=>some (s_8.1,v_21)) (λ_=>none)
noncomputable def jq (p_2:Player) (k_5:Nat) (x_7:ByteArray) (s_10:Unit):Option (Ctl (Unit) (Bool)) :=
  (dH p_2.Tags x_7).bind λr_15=>bif (!r_15.2)then some (.ret false)else some (.go ())
noncomputable def mK (e_1:Entry) (p_2:Player):Option (Bool) :=
  (iY e_1.Tags () (λk x s=>jq p_2 k x s)).bind λo_13=>bD o_13 (λs_10=>some true) (λr=>some r)
def cmp_isNaN_int (x_1:Int):Option (Bool) :=
  some (x_1 != x_1)
def cmp_Less_int (x_1:Int) (y_2:Int):Option (Bool) :=
  ((cmp_isNaN_int x_1).bind λr_5=>bif r_5 then (cmp_isNaN_int y_2).bind λr_8=>bif (!r_8)then some true else some (decide (x_1<y_2))else some (decide (x_1<y_2))).bind λv_3=>some v_3
def jr (x_1:Int):Option (Bool) :=
  some (x_1 != x_1)
def bA (x_1:(List Int)) (target_2:Int) (s_8:Int×Int):Option (Ctl (Int×Int) (Unit)) :=
  bif (decide (s_8.1<s_8.2))then (y7 .u64 (IntKind.u64.wrap (w64 (s_8.1+s_8.2))) 1).bind λq_14=>(idx x_1 (w64 q_14)).bind λy_16=>(cmp_Less_int y_16 target_2).bind λr_18=>bif r_18 then some (.go ((w64 ((w64 q_14)+1)),s_8.2))else some (.go (s_8.1,(w64 q_14)))else some (.brk (s_8.1,s_8.2))
noncomputable def fq (x_1:(List Int)) (target_2:Int):Option (Int×Bool) :=
  (gY (0,(x_1.length:Int)) (λs=>bA x_1 target_2 s)).bind λo_11=>bD o_11 (λs_8=>(bif (decide (s_8.1<(x_1.length:Int)))then (idx x_1 s_8.1).bind λy_24=>bif (y_24==target_2)then some true else (idx x_1 s_8.1).bind λy_27=>(jr y_27).bind λr_29=>bif r_29 then (jr target_2).bind λr_32=>some r_32 else some false else some false).bind λv_21=>some (s_8.1,v_21)) (λ_=>none)
noncomputable def lK (e_1:Entry) (d_2:Int):Option (Bool) :=
  ((fJ d_2 e_1.First e_1.Last).bind λr_6=>bif r_6 then some true else (A9 .i64 (w64 (d_2-e_1.First)) e_1.Every).bind λq_9=>bif (q_9 != 0)then some true else (KU .i64 1 (d_2.tmod 7)).bind λq_12=>some ((wX .i64 e_1.Days q_12)==0)).bind λv_4=>bif v_4 then some false else (fq e_1.Except d_2).bind λr_15=>some (!r_15.2)
def kS (e_1:Entry) (zone_2:Int) (d_3:Int):Option (Window) :=
  (bif (decide ((w64 (e_1.To-e_1.From))<=0))then some (w64 ((w64 (e_1.To-e_1.From))+1440))else some (w64 (e_1.To-e_1.From))).bind λv_6=>some (⟨(w64 ((w64 ((w64 ((w64 (d_3*1440))+e_1.From))-zone_2))*60000)),(w64 ((w64 ((w64 ((w64 ((w64 (d_3*1440))+e_1.From))-zone_2))*60000))+(w64 (v_6*60000))))⟩:Window)
noncomputable def dN (wv_3:Window) (zone_2:Int) (e_1:Entry) (s_15:(List Window)×Int):Option (Ctl ((List Window)×Int) (Unit)) :=
  bif (decide (s_15.2<=(jB (w64 ((w64 ((w64 (wv_3.To+(w64 (zone_2*60000)))).tdiv 86400000))+1)) e_1.Last)))then (lK e_1 s_15.2).bind λr_24=>bif (!r_24)then some (.go (s_15.1,(w64 (s_15.2+1))))else (kS e_1 zone_2 s_15.2).bind λr_27=>(bif (decide (r_27.From<wv_3.To))then some (decide (r_27.To>wv_3.From))else some false).bind λv_30=>(bif v_30 then (ll s_15.1 ([r_27]:List Window)).bind λa_37=>some a_37 else some s_15.1).bind λv_33=>some (.go (v_33,(w64 (s_15.2+1))))else some (.brk (s_15.1,s_15.2))
noncomputable def fG (e_1:Entry) (zone_2:Int) (wv_3:Window):Option ((List Window)) :=
  (bif e_1.Gone then some true else some (decide (wv_3.From>=wv_3.To))).bind λv_6=>bif v_6 then some ([]:(List Window))else (gY (([]:List Window),(jw (w64 ((w64 ((w64 (wv_3.From+(w64 (zone_2*60000)))).tdiv 86400000))-2)) e_1.First)) (λs=>dN wv_3 zone_2 e_1 s)).bind λo_21=>bD o_21 (λs_15=>some s_15.1) (λ_=>none)
def gZ (l_1:(List Entry)) (k_6:Nat) (k_24:Nat) (x_26:Window) (s_29:(List Span)):Option (Ctl ((List Span)) (Unit)) :=
  (idx l_1 (k_6:Int)).bind λy_37=>(ll s_29 ([(⟨(some y_37),x_26⟩:Span)]:List Span)).bind λa_39=>some (.go a_39)
noncomputable def gM (p_2:Player) (wv_3:Window) (l_1:(List Entry)) (k_6:Nat) (x_8:Entry) (s_11:(List Span)):Option (Ctl ((List Span)) (Unit)) :=
  (mK x_8 p_2).bind λr_19=>bif (!r_19)then some (.go s_11)else (fG x_8 p_2.Zone wv_3).bind λr_22=>(iY r_22 s_11 (λk x s=>gZ l_1 k_6 k x s)).bind λo_34=>bD o_34 (λs_29=>some (.go s_29)) (λ_=>none)
noncomputable def iR (l_1:(List Entry)) (p_2:Player) (wv_3:Window):Option ((List Span)) :=
  (iY l_1 ([]:List Span) (λk x s=>gM p_2 wv_3 l_1 k x s)).bind λo_17=>bD o_17 (λs_11=>some s_11) (λ_=>none)
def cmp_Compare_int (x_1:Int) (y_2:Int):Option (Int) :=
  (cmp_isNaN_int x_1).bind λr_3=>(cmp_isNaN_int y_2).bind λr_5=>bif r_3 then bif r_5 then some 0 else some (-1)else bif r_5 then some 1 else bif (decide (x_1<y_2))then some (-1)else bif (decide (x_1>y_2))then some 1 else some 0
def iG (a_1:Span) (b_2:Span):Option (Int) :=
  (cmp_Compare_int a_1.f_time.From b_2.f_time.From).bind λr_5=>some r_5
noncomputable def gL (x:(List Span)):Option ((List Span)) :=
  DD (λa b=>iG a b) x
def gW (t_1:Window) (wv_2:Window):Option (Window) :=
  some (⟨(jw t_1.From wv_2.From),(jB t_1.To wv_2.To)⟩:Window)
def eT (x:(List Int)):Option ((List Int)) :=
  Jv x
def cz (s_1:(List Int)) (s_8:Int) (s_28:(List Int)×Int×Int):Option (Ctl ((List Int)×Int×Int) (Unit)) :=
  bif (decide (s_28.2.2<(((((s_1.length:Int)).toNat-(s_8).toNat):Nat):Int)))then (inN s_28.2.2 (((s_1.length:Int)).toNat-(s_8).toNat)).bind λ_=>(s_28.1[(((s_8).toNat)+(s_28.2.2).toNat)]?).bind λe_35=>(inN (w64 (s_28.2.2-1)) (((s_1.length:Int)).toNat-(s_8).toNat)).bind λ_=>(s_28.1[(((s_8).toNat)+((w64 (s_28.2.2-1))).toNat)]?).bind λe_38=>(bif (e_35 != e_38)then (inN s_28.2.2 (((s_1.length:Int)).toNat-(s_8).toNat)).bind λ_=>(s_28.1[(((s_8).toNat)+(s_28.2.2).toNat)]?).bind λe_44=>(inR s_28.2.1 s_28.1).bind λ_=>(s_28.1[(0+(s_28.2.1).toNat)]?).bind λe_47=>some ((s_28.1.set (0+(s_28.2.1).toNat) e_44),(w64 (s_28.2.1+1)))else some (s_28.1,s_28.2.1)).bind λv_40=>some (.go (v_40.1,v_40.2,(w64 (s_28.2.2+1))))else some (.brk (s_28.1,s_28.2.1,s_28.2.2))
noncomputable def bu (s_1:(List Int)) (s_8:Int):Option (Ctl (Int) ((List Int))) :=
  bif (decide (s_8<(s_1.length:Int)))then (inR s_8 s_1).bind λ_=>(s_1[(0+(s_8).toNat)]?).bind λe_15=>(inR (w64 (s_8-1)) s_1).bind λ_=>(s_1[(0+((w64 (s_8-1))).toNat)]?).bind λe_18=>bif (e_15==e_18)then (neL s_1).bind λ_=>(qU s_1 s_8 (s_1.length:Int)).bind λ_=>(gY (s_1,s_8,1) (λs=>cz s_1 s_8 s)).bind λo_31=>bD o_31 (λs_28=>(qU s_28.1 s_28.2.1 (s_28.1.length:Int)).bind λ_=>(qU (s_28.1.take ((s_28.2.1).toNat)++List.replicate (((s_28.1.length:Int)).toNat-(s_28.2.1).toNat) 0++s_28.1.drop (((s_28.2.1).toNat)+(((s_28.1.length:Int)).toNat-(s_28.2.1).toNat))) 0 s_28.2.1).bind λ_=>some (.ret (cutL (s_28.1.take ((s_28.2.1).toNat)++List.replicate (((s_28.1.length:Int)).toNat-(s_28.2.1).toNat) 0++s_28.1.drop (((s_28.2.1).toNat)+(((s_28.1.length:Int)).toNat-(s_28.2.1).toNat))) 0 ((s_28.2.1).toNat)))) (λ_=>none)else some (.go (w64 (s_8+1)))else some (.brk s_8)
noncomputable def cB (s_1:(List Int)):Option ((List Int)) :=
  bif (decide ((s_1.length:Int)<2))then some s_1 else (gY 1 (λs=>bu s_1 s)).bind λo_11=>bD o_11 (λs_8=>some s_1) (λr=>some r)
def jM (wv_3:Window) (k_9:Nat) (x_11:Span) (s_14:(List Int)):Option (Ctl ((List Int)) (Unit)) :=
  (gW x_11.f_time wv_3).bind λr_22=>(ll s_14 ([r_22.From,r_22.To]:List Int)).bind λa_25=>some (.go a_25)
noncomputable def lG (l_1:(List Entry)) (p_2:Player) (wv_3:Window):Option ((List Int)) :=
  (iR l_1 p_2 wv_3).bind λr_7=>(iY r_7 ([wv_3.From,wv_3.To]:List Int) (λk x s=>jM wv_3 k x s)).bind λo_19=>bD o_19 (λs_14=>(neL s_14).bind λ_=>(eT s_14).bind λr_29=>(kX r_29 s_14).bind λ_=>(cB r_29).bind λr_32=>some r_32) (λ_=>none)
def fH (s_1:Span) (p_2:(List Int)) (p_3:Int):Option (Bool) :=
  (idx p_2 p_3).bind λy_5=>some (decide (s_1.f_time.To<=y_5))
def dD (s_1:(List Span)) (f2_3:(List Int)) (f2_4:Int) (k_5:Nat) (x_7:Nat) (s_10:Unit):Option (Ctl (Unit) (Int)) :=
  (inR (k_5:Int) s_1).bind λ_=>(s_1[(0+((k_5:Int)).toNat)]?).bind λe_16=>(fH e_16 f2_3 f2_4).bind λr_18=>bif r_18 then some (.ret (k_5:Int))else some (.go ())
def dR (s_1:(List Span)) (f2_3:(List Int)) (f2_4:Int):Option (Int) :=
  (iY (List.range ((s_1.length:Int)).toNat) () (λk x s=>dD s_1 f2_3 f2_4 k x s)).bind λo_13=>bD o_13 (λs_10=>some (-1)) (λr=>some r)
def dx (del2_3:(List Int)) (del2_4:Int) (s_13:(List Span)×Int×Int):Option (Ctl ((List Span)×Int×Int) (Unit)) :=
  bif (decide (s_13.2.2<(s_13.1.length:Int)))then (inR s_13.2.2 s_13.1).bind λ_=>(s_13.1[(0+(s_13.2.2).toNat)]?).bind λe_20=>(fH e_20 del2_3 del2_4).bind λr_23=>(bif (!r_23)then (inR s_13.2.1 s_13.1).bind λ_=>(s_13.1[(0+(s_13.2.1).toNat)]?).bind λe_30=>some ((s_13.1.set (0+(s_13.2.1).toNat) e_20),(w64 (s_13.2.1+1)))else some (s_13.1,s_13.2.1)).bind λv_26=>some (.go (v_26.1,v_26.2,(w64 (s_13.2.2+1))))else some (.brk (s_13.1,s_13.2.1,s_13.2.2))
noncomputable def bC (s_1:(List Span)) (del2_3:(List Int)) (del2_4:Int):Option ((List Span)) :=
  (dR s_1 del2_3 del2_4).bind λr_5=>bif (r_5==(-1))then some s_1 else (gY (s_1,r_5,(w64 (r_5+1))) (λs=>dx del2_3 del2_4 s)).bind λo_16=>bD o_16 (λs_13=>(qU s_13.1 s_13.2.1 (s_13.1.length:Int)).bind λ_=>(qU (s_13.1.take ((s_13.2.1).toNat)++List.replicate (((s_13.1.length:Int)).toNat-(s_13.2.1).toNat) (⟨none,(⟨0,0⟩:Window)⟩:Span)++s_13.1.drop (((s_13.2.1).toNat)+(((s_13.1.length:Int)).toNat-(s_13.2.1).toNat))) 0 s_13.2.1).bind λ_=>some ((s_13.1.take ((s_13.2.1).toNat)++List.replicate (((s_13.1.length:Int)).toNat-(s_13.2.1).toNat) (⟨none,(⟨0,0⟩:Window)⟩:Span)++s_13.1.drop (((s_13.2.1).toNat)+(((s_13.1.length:Int)).toNat-(s_13.2.1).toNat))).take ((s_13.2.1).toNat))) (λ_=>none)
def dS (f_2:Span->Option Bool) (k_3:Nat) (x_5:Span) (s_8:Unit):Option (Ctl (Unit) (Int)) :=
  (f_2 x_5).bind λr_13=>bif r_13 then some (.ret (k_3:Int))else some (.go ())
def bJ (s_1:(List Span)) (f_2:Span->Option Bool):Option (Int) :=
  (iY s_1 () (λk x s=>dS f_2 k x s)).bind λo_11=>bD o_11 (λs_8=>some (-1)) (λr=>some r)
def dn (r_5:Int) (s_14:Unit):Option (Ctl (Unit) (Unit)) :=
  bif (decide ((w64 (r_5+1))<0))then none else some (.brk ())
noncomputable def bB (del2_3:(List Int)) (del2_4:Int):Option (Unit) :=
  (bJ ([]:List Span) (λx0=>fH x0 del2_3 del2_4)).bind λr_5=>bif (r_5==(-1))then some ()else (gY () (λs=>dn r_5 s)).bind λo_17=>bD o_17 (λs_14=>none) (λ_=>none)
def iK (a_1:ByteArray) (b_2:ByteArray):Option (Int) :=
  some (zZ a_1 b_2)
def strings_Compare (a_1:ByteArray) (b_2:ByteArray):Option (Int) :=
  (iK a_1 b_2).bind λr_3=>some r_3
def oP (k_2:Nat) (x_4:Int) (s_7:Unit):Option (Ctl (Unit) (Int)) :=
  bif (x_4 != 0)then some (.ret x_4)else some (.go ())
def qz (vals_1:(List Int)):Option (Int) :=
  (iY vals_1 () (λk x s=>oP k x s)).bind λo_10=>bD o_10 (λs_7=>some 0) (λr=>some r)
def iI (a_1:Span) (b_2:Span):Option (Int) :=
  (b_2.f_e).bind λy_5=>(a_1.f_e).bind λy_7=>(cmp_Compare_int y_5.Prio y_7.Prio).bind λr_9=>(cmp_Compare_int b_2.f_time.From a_1.f_time.From).bind λr_11=>(b_2.f_e).bind λy_13=>(a_1.f_e).bind λy_15=>(strings_Compare y_13.Key y_15.Key).bind λr_17=>(qz ([r_9,r_11,r_17]:List Int)).bind λr_19=>some r_19
def aV (x_1:(List Span)) (s_16:Int×(Option Entry)×Int×Int):Option (Ctl (Int×(Option Entry)×Int×Int) (Unit)) :=
  bif (decide (s_16.1<(x_1.length:Int)))then (inR s_16.1 x_1).bind λ_=>(x_1[(0+(s_16.1).toNat)]?).bind λe_23=>(iI e_23 (⟨s_16.2.1,(⟨s_16.2.2.1,s_16.2.2.2⟩:Window)⟩:Span)).bind λr_25=>(bif (decide (r_25<0))then (inR s_16.1 x_1).bind λ_=>(x_1[(0+(s_16.1).toNat)]?).bind λe_31=>some (e_31.f_e,e_31.f_time.From,e_31.f_time.To)else some (s_16.2.1,s_16.2.2.1,s_16.2.2.2)).bind λv_27=>some (.go ((w64 (s_16.1+1)),v_27.1,v_27.2.1,v_27.2.2))else some (.brk (s_16.1,s_16.2.1,s_16.2.2.1,s_16.2.2.2))
noncomputable def aZ (x_1:(List Span)):Option (Span) :=
  (bif (decide ((x_1.length:Int)<1))then none else some ()).bind λv_4=>(inR 0 x_1).bind λ_=>(x_1[(0+(0:Int).toNat)]?).bind λe_8=>(gY (1,e_8.f_e,e_8.f_time.From,e_8.f_time.To) (λs=>aV x_1 s)).bind λo_19=>bD o_19 (λs_16=>some (⟨s_16.2.1,(⟨s_16.2.2.1,s_16.2.2.2⟩:Window)⟩:Span)) (λ_=>none)
def fV (r_10:(List Span)) (r_13:(List Int)) (s_22:(List Slot_)×(List Span)×Int×Int) (s_43:(List Span)×Int):Option (Ctl ((List Span)×Int) (Unit)) :=
  (bif (decide (s_43.2<(r_10.length:Int)))then (inR s_43.2 r_10).bind λ_=>(r_10[(0+(s_43.2).toNat)]?).bind λe_54=>(idx r_13 s_22.2.2.2).bind λy_56=>some (decide (e_54.f_time.From<=y_56))else some false).bind λv_50=>bif v_50 then (inR s_43.2 r_10).bind λ_=>(r_10[(0+(s_43.2).toNat)]?).bind λe_60=>(ll s_43.1 ([e_60]:List Span)).bind λa_62=>some (.go (a_62,(w64 (s_43.2+1))))else some (.brk (s_43.1,s_43.2))
noncomputable def fU (r_13:(List Int)) (r_10:(List Span)) (s_22:(List Slot_)×(List Span)×Int×Int):Option (Ctl ((List Slot_)×(List Span)×Int×Int) (Unit)) :=
  bif (decide ((w64 (s_22.2.2.2+1))<(r_13.length:Int)))then (gY (s_22.2.1,s_22.2.2.1) (λs=>fV r_10 r_13 s_22 s)).bind λo_48=>bD o_48 (λs_43=>(bC s_43.1 r_13 s_22.2.2.2).bind λr_65=>(leL r_65 s_43.1).bind λ_=>(bB r_13 s_22.2.2.2).bind λ_=>(bif (decide ((r_65.length:Int)>0))then (neL r_65).bind λ_=>(aZ r_65).bind λr_73=>(r_73.f_e).bind λy_75=>some y_75.Key else some (⟨#[]⟩:ByteArray)).bind λv_69=>(bif (decide ((w64 ((s_22.1.length:Int)-1))>=0))then (inR (w64 ((s_22.1.length:Int)-1)) s_22.1).bind λ_=>(s_22.1[(0+((w64 ((s_22.1.length:Int)-1))).toNat)]?).bind λe_81=>some (sEq e_81.Entry v_69)else some false).bind λv_77=>(bif v_77 then (idx r_13 (w64 (s_22.2.2.2+1))).bind λy_87=>(inR (w64 ((s_22.1.length:Int)-1)) s_22.1).bind λ_=>(s_22.1[(0+((w64 ((s_22.1.length:Int)-1))).toNat)]?).bind λe_90=>some (s_22.1.set (0+((w64 ((s_22.1.length:Int)-1))).toNat) (⟨(⟨e_90.Time.From,y_87⟩:Window),e_90.Entry⟩:Slot_))else (idx r_13 s_22.2.2.2).bind λy_92=>(idx r_13 (w64 (s_22.2.2.2+1))).bind λy_94=>(ll s_22.1 ([(⟨(⟨y_92,y_94⟩:Window),v_69⟩:Slot_)]:List Slot_)).bind λa_96=>some a_96).bind λv_83=>some (.go (v_83,r_65,s_43.2,(w64 (s_22.2.2.2+1))))) (λ_=>none)else some (.brk (s_22.1,s_22.2.1,s_22.2.2.1,s_22.2.2.2))
noncomputable def jy (l_1:(List Entry)) (p_2:Player) (wv_3:Window):Option ((List Slot_)) :=
  (iR l_1 p_2 wv_3).bind λr_6=>(gL r_6).bind λr_10=>(kX r_10 r_6).bind λ_=>(lG l_1 p_2 wv_3).bind λr_13=>(gY (([]:List Slot_),([]:List Span),0,0) (λs=>fU r_13 r_10 s)).bind λo_35=>bD o_35 (λs_22=>some s_22.1) (λ_=>none)
def jf (k_3:Nat) (x_5:Entry) (s_8:(List (ByteArray×ByteArray))):Option (Ctl ((List (ByteArray×ByteArray))) (Unit)) :=
  some (.go (Jm eqS s_8 x_5.Key x_5.Item))
def kr (l_1:(List Entry)):Option ((List (ByteArray×ByteArray))) :=
  (iY l_1 ([]:List (ByteArray×ByteArray)) (λk x s=>jf k x s)).bind λo_11=>bD o_11 (λs_8=>some s_8) (λ_=>none)
def fZ (r_13:(List Slot_)) (r_15:(List Slot_)) (r_17:(List (ByteArray×ByteArray))) (r_20:(List (ByteArray×ByteArray))) (s_28:(List Window)×Int×Int):Option (Ctl ((List Window)×Int×Int) (Unit)) :=
  (bif (decide (s_28.2.1<(r_13.length:Int)))then some (decide (s_28.2.2<(r_15.length:Int)))else some false).bind λv_36=>bif v_36 then (idx r_13 s_28.2.1).bind λy_40=>(idx r_15 s_28.2.2).bind λy_42=>(gW y_40.Time y_42.Time).bind λr_44=>((idx r_13 s_28.2.1).bind λy_49=>(idx r_15 s_28.2.2).bind λy_51=>bif (sNe y_49.Entry y_51.Entry)then some true else (idx r_13 s_28.2.1).bind λy_54=>(idx r_15 s_28.2.2).bind λy_56=>some (sNe ((uU eqS r_17 y_54.Entry).getD (⟨#[]⟩:ByteArray)) ((uU eqS r_20 y_56.Entry).getD (⟨#[]⟩:ByteArray)))).bind λv_47=>(bif v_47 then (bif (decide ((w64 ((s_28.1.length:Int)-1))>=0))then (inR (w64 ((s_28.1.length:Int)-1)) s_28.1).bind λ_=>(s_28.1[(0+((w64 ((s_28.1.length:Int)-1))).toNat)]?).bind λe_66=>some (e_66.To==r_44.From)else some false).bind λv_62=>bif v_62 then (inR (w64 ((s_28.1.length:Int)-1)) s_28.1).bind λ_=>(s_28.1[(0+((w64 ((s_28.1.length:Int)-1))).toNat)]?).bind λe_70=>some (s_28.1.set (0+((w64 ((s_28.1.length:Int)-1))).toNat) (⟨e_70.From,r_44.To⟩:Window))else (ll s_28.1 ([r_44]:List Window)).bind λa_72=>some a_72 else some s_28.1).bind λv_58=>(idx r_13 s_28.2.1).bind λy_75=>(bif (y_75.Time.To==r_44.To)then some (w64 (s_28.2.1+1))else some s_28.2.1).bind λv_77=>(idx r_15 s_28.2.2).bind λy_80=>bif (y_80.Time.To==r_44.To)then some (.go (v_58,v_77,(w64 (s_28.2.2+1))))else some (.go (v_58,v_77,s_28.2.2))else some (.brk (s_28.1,s_28.2.1,s_28.2.2))
noncomputable def fQ (a_1:(List Entry)) (b_2:(List Entry)) (p_3:Player) (wv_4:Window):Option ((List Window)×Int) :=
  (bG a_1).bind λr_7=>bif (r_7 != 0)then some (([]:(List Window)),r_7)else (gq b_2 p_3 wv_4).bind λr_10=>bif (r_10 != 0)then some (([]:(List Window)),r_10)else (jy a_1 p_3 wv_4).bind λr_13=>(jy b_2 p_3 wv_4).bind λr_15=>(kr a_1).bind λr_17=>(kr b_2).bind λr_20=>(gY (([]:List Window),0,0) (λs=>fZ r_13 r_15 r_17 r_20 s)).bind λo_34=>bD o_34 (λs_28=>some (s_28.1,0)) (λ_=>none)
def fe (a_1:(List Window)) (b_2:(List Window)) (wv_3:Window) (s_10:Int×Int):Option (Ctl (Int×Int) (Bool)) :=
  (bif (decide (s_10.1<(a_1.length:Int)))then some (decide (s_10.2<(b_2.length:Int)))else some false).bind λv_15=>bif v_15 then (idx a_1 s_10.1).bind λy_19=>(idx b_2 s_10.2).bind λy_21=>(gW y_19 y_21).bind λr_23=>(gW r_23 wv_3).bind λr_25=>bif (decide (r_25.From<r_25.To))then some (.ret true)else (idx a_1 s_10.1).bind λy_29=>(idx b_2 s_10.2).bind λy_31=>bif (decide (y_29.To<y_31.To))then some (.go ((w64 (s_10.1+1)),s_10.2))else some (.go (s_10.1,(w64 (s_10.2+1))))else some (.brk (s_10.1,s_10.2))
noncomputable def kv (a_1:(List Window)) (b_2:(List Window)) (wv_3:Window):Option (Bool) :=
  (gY (0,0) (λs=>fe a_1 b_2 wv_3 s)).bind λo_13=>bD o_13 (λs_10=>some false) (λr=>some r)
noncomputable def je (wv_2:Window) (k_12:Nat) (x_14:Entry) (s_17:(List (List Window))):Option (Ctl ((List (List Window))) (Unit)) :=
  (fG x_14 0 wv_2).bind λr_25=>(ll s_17 ([r_25]:List (List Window))).bind λa_27=>some (.go a_27)
noncomputable def jh (l_1:(List Entry)) (x_32:Entry) (s_17:(List (List Window))) (k_30:Nat) (wv_2:Window) (s_49:(List Pair)×Int):Option (Ctl ((List Pair)×Int) (Unit)) :=
  bif (decide (s_49.2<(l_1.length:Int)))then ((idx l_1 s_49.2).bind λy_59=>bif (x_32.Prio==y_59.Prio)then (idx s_17 (k_30:Int)).bind λy_62=>(idx s_17 s_49.2).bind λy_64=>(kv y_62 y_64 wv_2).bind λr_66=>some r_66 else some false).bind λv_57=>(bif v_57 then (idx l_1 s_49.2).bind λy_72=>(ll s_49.1 ([(⟨x_32.Key,y_72.Key⟩:Pair)]:List Pair)).bind λa_74=>some a_74 else some s_49.1).bind λv_68=>some (.go (v_68,(w64 (s_49.2+1))))else some (.brk (s_49.1,s_49.2))
noncomputable def jc (l_1:(List Entry)) (s_17:(List (List Window))) (wv_2:Window) (k_30:Nat) (x_32:Entry) (s_35:(List Pair)):Option (Ctl ((List Pair)) (Unit)) :=
  (gY (s_35,(w64 ((k_30:Int)+1))) (λs=>jh l_1 x_32 s_17 k_30 wv_2 s)).bind λo_54=>bD o_54 (λs_49=>some (.go s_49.1)) (λ_=>none)
noncomputable def iP (l_1:(List Entry)) (wv_2:Window):Option ((List Pair)×Int) :=
  (bG l_1).bind λr_4=>bif (r_4 != 0)then some (([]:(List Pair)),r_4)else (eO wv_2).bind λr_7=>bif (r_7 != 0)then some (([]:(List Pair)),r_7)else (Mx (l_1.length:Int) 24).bind λ_=>(iY l_1 ([]:List (List Window)) (λk x s=>je wv_2 k x s)).bind λo_22=>bD o_22 (λs_17=>(iY l_1 ([]:List Pair) (λk x s=>jc l_1 s_17 wv_2 k x s)).bind λo_41=>bD o_41 (λs_35=>some (s_35,0)) (λ_=>none)) (λ_=>none)
def kL (n_1:Int) (low_2:Int) (high_3:Int):Option (Bool) :=
  (bif (decide (low_2<=n_1))then some (decide (n_1<=high_3))else some false).bind λv_4=>some v_4
def fK (s_1:ByteArray) (c_2:Int):Option (Int) :=
  some (ixB s_1 c_2)
def strings_IndexByte (s_1:ByteArray) (c_2:Int):Option (Int) :=
  (fK s_1 c_2).bind λr_3=>some r_3
def nk (s_1:ByteArray) (somev_2:ByteArray) (k_3:Nat) (x_5:Nat) (s_8:Unit):Option (Ctl (Unit) (Bool)) :=
  (IR s_1 (k_3:Int)).bind λb_13=>(strings_IndexByte somev_2 (b_13.toNat:Int)).bind λr_15=>bif (decide (r_15<0))then some (.ret false)else some (.go ())
def tV (s_1:ByteArray) (somev_2:ByteArray):Option (Bool) :=
  (iY (List.range ((s_1.size:Int)).toNat) () (λk x s=>nk s_1 somev_2 k x s)).bind λo_11=>bD o_11 (λs_8=>some true) (λr=>some r)
def pX (s_1:ByteArray):Option (Bool) :=
  ((kL (s_1.size:Int) 1 40).bind λr_4=>bif r_4 then (Gy s_1 0 1).bind λy_7=>(tV y_7 (⟨#[97,98,99,100,101,102,103,104,105,106,107,108,109,110,111,112,113,114,115,116,117,118,119,120,121,122]⟩:ByteArray)).bind λr_9=>bif r_9 then (tV s_1 (⟨#[97,98,99,100,101,102,103,104,105,106,107,108,109,110,111,112,113,114,115,116,117,118,119,120,121,122,48,49,50,51,52,53,54,55,56,57,45,95]⟩:ByteArray)).bind λr_12=>some r_12 else some false else some false).bind λv_2=>some v_2
def kN (l_1:(List ByteArray)) (k_2:Nat) (x_4:ByteArray) (s_7:Unit):Option (Ctl (Unit) (Int)) :=
  (pX x_4).bind λr_12=>bif (!r_12)then some (.ret 5)else (bif (decide ((k_2:Int)>0))then (idx l_1 (w64 ((k_2:Int)-1))).bind λy_18=>some (sLe x_4 y_18)else some false).bind λv_15=>bif v_15 then some (.ret 7)else some (.go ())
def mV (l_1:(List ByteArray)):Option (Int) :=
  (iY l_1 () (λk x s=>kN l_1 k x s)).bind λo_10=>bD o_10 (λs_7=>some 0) (λr=>some r)
def lc (l_1:(List ByteArray)):Option (Int) :=
  bif (decide ((l_1.length:Int)>20))then some 2 else (mV l_1).bind λr_3=>some r_3
def lw (e_1:Entry) (k_27:Nat) (x_29:Int) (s_32:Unit):Option (Ctl (Unit) (Int)) :=
  (kL x_29 0 4000).bind λr_37=>bif (!r_37)then some (.ret 1)else (bif (decide ((k_27:Int)>0))then (idx e_1.Except (w64 ((k_27:Int)-1))).bind λy_43=>some (decide (x_29<=y_43))else some false).bind λv_40=>bif v_40 then some (.ret 7)else some (.go ())
def lI (e_1:Entry):Option (Int) :=
  ((pX e_1.Key).bind λr_5=>bif (!r_5)then some true else (pX e_1.Item).bind λr_8=>some (!r_8)).bind λv_3=>bif v_3 then some 5 else ((kL e_1.Version 0 1000000).bind λr_13=>bif (!r_13)then some true else (kL e_1.First 0 e_1.Last).bind λr_16=>bif (!r_16)then some true else bif (decide (e_1.Last>4000))then some true else (kL e_1.Every 1 400).bind λr_20=>bif (!r_20)then some true else (kL e_1.Days 1 127).bind λr_23=>some (!r_23)).bind λv_11=>bif v_11 then some 1 else bif (decide ((e_1.Except.length:Int)>100))then some 2 else (iY e_1.Except () (λk x s=>lw e_1 k x s)).bind λo_35=>bD o_35 (λs_32=>((kL e_1.From 0 1439).bind λr_48=>bif (!r_48)then some true else (kL e_1.To 0 1439).bind λr_51=>bif (!r_51)then some true else (kL e_1.Prio 0 9).bind λr_54=>some (!r_54)).bind λv_46=>bif v_46 then some 1 else (lc e_1.Tags).bind λr_57=>some r_57) (λr=>some r)
def ic (k_3:Nat) (x_5:Entry) (s_8:ByteArray):Option (Ctl (ByteArray) (Int)) :=
  (lI x_5).bind λr_14=>bif (r_14 != 0)then some (.ret r_14)else bif (sLe x_5.Key s_8)then some (.ret 7)else some (.go x_5.Key)
def iJ (l_1:(List Entry)):Option (Int) :=
  bif (decide ((l_1.length:Int)>200))then some 2 else (iY l_1 (⟨#[]⟩:ByteArray) (λk x s=>ic k x s)).bind λo_11=>bD o_11 (λs_8=>some 0) (λr=>some r)
def kR (p_1:Player):Option (Int) :=
  ((pX p_1.Key).bind λr_5=>bif (!r_5)then some true else (pX p_1.Screen).bind λr_8=>some (!r_8)).bind λv_3=>bif v_3 then some 5 else (kL p_1.Zone (-1440) 1440).bind λr_11=>bif (!r_11)then some 1 else (lc p_1.Tags).bind λr_14=>some r_14
def mO (wv_1:Window):Option (Int) :=
  ((kL wv_1.From 0 wv_1.To).bind λr_5=>bif (!r_5)then some true else some (decide (wv_1.To>345686400000))).bind λv_3=>bif v_3 then some 1 else some 0
def lg (wv_1:Window):Option (Int) :=
  (mO wv_1).bind λr_3=>bif (r_3 != 0)then some r_3 else bif (decide ((w64 (wv_1.To-wv_1.From))>34560000000))then some 2 else some 0
def nD (k_2:Nat) (x_4:Int) (s_7:Unit):Option (Ctl (Unit) (Int)) :=
  bif (x_4 != 0)then some (.ret x_4)else some (.go ())
def oZ (l_1:(List Int)):Option (Int) :=
  (iY l_1 () (λk x s=>nD k x s)).bind λo_10=>bD o_10 (λs_7=>some 0) (λr=>some r)
def lD (e_1:Entry) (zone_2:Int) (d_3:Int):Option (Window) :=
  (bif (decide (e_1.To<=e_1.From))then some (w64 (e_1.To+1440))else some e_1.To).bind λv_6=>some (⟨(w64 ((w64 ((w64 (d_3*86400000))-(w64 (zone_2*60000))))+(w64 (e_1.From*60000)))),(w64 ((w64 ((w64 (d_3*86400000))-(w64 (zone_2*60000))))+(w64 (v_6*60000))))⟩:Window)
def fB (v_2:Int) (k_3:Nat) (x_5:Int) (s_8:Unit):Option (Ctl (Unit) (Int)) :=
  bif (v_2==x_5)then some (.ret (k_3:Int))else some (.go ())
def jJ (s_1:(List Int)) (v_2:Int):Option (Int) :=
  (iY s_1 () (λk x s=>fB v_2 k x s)).bind λo_11=>bD o_11 (λs_8=>some (-1)) (λr=>some r)
def gG (s_1:(List Int)) (v_2:Int):Option (Bool) :=
  (jJ s_1 v_2).bind λr_3=>some (decide (r_3>=0))
def lZ (e_1:Entry) (d_2:Int):Option (Bool) :=
  ((kL d_2 e_1.First e_1.Last).bind λr_6=>bif r_6 then (A9 .i64 (w64 (d_2-e_1.First)) e_1.Every).bind λq_9=>bif (q_9==0)then (y7 .i64 e_1.Days (d_2.tmod 7)).bind λq_12=>bif ((wX .i64 q_12 1)==1)then (gG e_1.Except d_2).bind λr_15=>some (!r_15)else some false else some false else some false).bind λv_4=>some v_4
def kg (e_1:Entry) (zone_2:Int) (wv_3:Window) (s_11:(List Window)×Int):Option (Ctl ((List Window)×Int) (Unit)) :=
  bif (decide (s_11.2<=e_1.Last))then (lD e_1 zone_2 s_11.2).bind λr_20=>(bif (!e_1.Gone)then (lZ e_1 s_11.2).bind λr_26=>bif r_26 then some (decide ((jw r_20.From wv_3.From)<(jB r_20.To wv_3.To)))else some false else some false).bind λv_23=>(bif v_23 then (ll s_11.1 ([(⟨(jw r_20.From wv_3.From),(jB r_20.To wv_3.To)⟩:Window)]:List Window)).bind λa_33=>some a_33 else some s_11.1).bind λv_29=>some (.go (v_29,(w64 (s_11.2+1))))else some (.brk (s_11.1,s_11.2))
noncomputable def kz (e_1:Entry) (zone_2:Int) (wv_3:Window):Option ((List Window)) :=
  (gY (([]:List Window),e_1.First) (λs=>kg e_1 zone_2 wv_3 s)).bind λo_17=>bD o_17 (λs_11=>some s_11.1) (λ_=>none)
def mG (k_21:Nat) (x_23:Window) (s_26:(List Int)):Option (Ctl ((List Int)) (Unit)) :=
  (ll s_26 ([x_23.From,x_23.To]:List Int)).bind λa_34=>some (.go a_34)
noncomputable def kZ (zone_2:Int) (wv_3:Window) (k_6:Nat) (x_8:Entry) (s_11:(List Int)):Option (Ctl ((List Int)) (Unit)) :=
  (kz x_8 zone_2 wv_3).bind λr_19=>(iY r_19 s_11 (λk x s=>mG k x s)).bind λo_31=>bD o_31 (λs_26=>some (.go s_26)) (λ_=>none)
noncomputable def oF (l_1:(List Entry)) (zone_2:Int) (wv_3:Window):Option ((List Int)) :=
  (iY l_1 ([wv_3.From,wv_3.To]:List Int) (λk x s=>kZ zone_2 wv_3 k x s)).bind λo_16=>bD o_16 (λs_11=>(neL s_11).bind λ_=>(eT s_11).bind λr_38=>(kX r_38 s_11).bind λ_=>(cB r_38).bind λr_41=>some r_41) (λ_=>none)
def iC (n_1:Int):Option Bool :=
  bif (decide (n_1<0))then none else bif (decide ((w64 (n_1-(w64 (0-0))))>0))then (zN (w64 (n_1-(w64 (0-0)))) 8).bind λ_=>some true else some false
def di (k_2:Nat) (x_4:(List Int)) (s_7:Int):Option (Ctl (Int) (Unit)) :=
  (bif (decide ((w64 (s_7+(x_4.length:Int)))<0))then none else some ()).bind λv_12=>some (.go (w64 (s_7+(x_4.length:Int))))
def dh (k_18:Nat) (x_20:(List Int)) (s_23:(List Int)):Option (Ctl ((List Int)) (Unit)) :=
  (ll s_23 x_20).bind λa_30=>some (.go a_30)
def gJ (slices_1:(List (List Int))):Option ((List Int)) :=
  (iY slices_1 0 (λk x s=>di k x s)).bind λo_10=>bD o_10 (λs_7=>(iC s_7).bind λb_15=>(iY slices_1 ([]:List Int) (λk x s=>dh k x s)).bind λo_28=>bD o_28 (λs_23=>(kE b_15 s_23).bind λ_=>some s_23) (λ_=>none)) (λ_=>none)
def tH (a_1:Int) (b_2:Int):Option (Int) :=
  (A9 .i64 a_1 b_2).bind λq_3=>bif (decide (q_3<0))then (IJ .i64 a_1 b_2).bind λq_6=>some (w64 (q_6-1))else (IJ .i64 a_1 b_2).bind λq_8=>some q_8
def ol (e_1:Entry) (zone_2:Int) (atv_3:Int) (k_7:Nat) (x_9:Int) (s_12:Unit):Option (Ctl (Unit) (Int×Bool)) :=
  (lD e_1 zone_2 x_9).bind λr_17=>(bif (!e_1.Gone)then (lZ e_1 x_9).bind λr_23=>bif r_23 then bif (decide (r_17.From<=atv_3))then some (decide (atv_3<r_17.To))else some false else some false else some false).bind λv_20=>bif v_20 then some (.ret (r_17.From,true))else some (.go ())
def oC (e_1:Entry) (zone_2:Int) (atv_3:Int):Option (Int×Bool) :=
  (tH (w64 (atv_3+(w64 (zone_2*60000)))) 86400000).bind λr_5=>(iY ([(w64 (r_5-1)),r_5]:List Int) () (λk x s=>ol e_1 zone_2 atv_3 k x s)).bind λo_15=>bD o_15 (λs_12=>some (0,false)) (λr=>some r)
def dF (v_2:ByteArray) (k_3:Nat) (x_5:ByteArray) (s_8:Unit):Option (Ctl (Unit) (Int)) :=
  bif (sEq v_2 x_5)then some (.ret (k_3:Int))else some (.go ())
def gP (s_1:(List ByteArray)) (v_2:ByteArray):Option (Int) :=
  (iY s_1 () (λk x s=>dF v_2 k x s)).bind λo_11=>bD o_11 (λs_8=>some (-1)) (λr=>some r)
def eQ (s_1:(List ByteArray)) (v_2:ByteArray):Option (Bool) :=
  (gP s_1 v_2).bind λr_3=>some (decide (r_3>=0))
def oo (t_1:ByteArray) (p_2:Player):Option (Bool) :=
  (eQ p_2.Tags t_1).bind λr_3=>some (!r_3)
def bS (f_2:ByteArray->Option Bool) (k_3:Nat) (x_5:ByteArray) (s_8:Unit):Option (Ctl (Unit) (Int)) :=
  (f_2 x_5).bind λr_13=>bif r_13 then some (.ret (k_3:Int))else some (.go ())
def fM (s_1:(List ByteArray)) (f_2:ByteArray->Option Bool):Option (Int) :=
  (iY s_1 () (λk x s=>bS f_2 k x s)).bind λo_11=>bD o_11 (λs_8=>some (-1)) (λr=>some r)
def dJ (s_1:(List ByteArray)) (f_2:ByteArray->Option Bool):Option (Bool) :=
  (fM s_1 f_2).bind λr_3=>some (decide (r_3>=0))
def q9 (e_1:Entry) (p_2:Player):Option (Bool) :=
  (dJ e_1.Tags (λx0=>oo x0 p_2)).bind λr_5=>some (!r_5)
def dK (s2_2:(List Int)) (k_3:Nat) (x_5:Int) (s_8:Unit):Option (Ctl (Unit) (Int)) :=
  bif (decide ((k_3:Int)>=(s2_2.length:Int)))then some (.ret 1)else (idx s2_2 (k_3:Int)).bind λy_14=>(cmp_Compare_int x_5 y_14).bind λr_16=>bif (r_16 != 0)then some (.ret r_16)else some (.go ())
def gN (s1_1:(List Int)) (s2_2:(List Int)):Option (Int) :=
  (iY s1_1 () (λk x s=>dK s2_2 k x s)).bind λo_11=>bD o_11 (λs_8=>bif (decide ((s1_1.length:Int)<(s2_2.length:Int)))then some (-1)else some 0) (λr=>some r)
def nz (a_1:Entry) (b_2:Entry) (p_3:Player) (p_4:Int):Option (Int) :=
  (oC a_1 p_3.Zone p_4).bind λr_7=>(oC b_2 p_3.Zone p_4).bind λr_9=>(gN ([b_2.Prio,r_9.1]:List Int) ([a_1.Prio,r_7.1]:List Int)).bind λr_11=>bif (r_11 != 0)then some r_11 else (strings_Compare b_2.Key a_1.Key).bind λr_14=>some r_14
def pE (x_1:Int):Option (Int) :=
  (bif (decide (x_1>=4294967296))then (y7 .u64 x_1 32).bind λq_5=>some (q_5,32)else some (x_1,0)).bind λv_2=>(bif (decide (v_2.1>=65536))then (y7 .u64 v_2.1 16).bind λq_10=>some (q_10,(w64 (v_2.2+16)))else some (v_2.1,v_2.2)).bind λv_7=>(bif (decide (v_7.1>=256))then (y7 .u64 v_7.1 8).bind λq_15=>some (q_15,(w64 (v_7.2+8)))else some (v_7.1,v_7.2)).bind λv_12=>(IR (⟨#[0,1,2,2,3,3,3,3,4,4,4,4,4,4,4,4,5,5,5,5,5,5,5,5,5,5,5,5,5,5,5,5,6,6,6,6,6,6,6,6,6,6,6,6,6,6,6,6,6,6,6,6,6,6,6,6,6,6,6,6,6,6,6,6,7,7,7,7,7,7,7,7,7,7,7,7,7,7,7,7,7,7,7,7,7,7,7,7,7,7,7,7,7,7,7,7,7,7,7,7,7,7,7,7,7,7,7,7,7,7,7,7,7,7,7,7,7,7,7,7,7,7,7,7,7,7,7,7,8,8,8,8,8,8,8,8,8,8,8,8,8,8,8,8,8,8,8,8,8,8,8,8,8,8,8,8,8,8,8,8,8,8,8,8,8,8,8,8,8,8,8,8,8,8,8,8,8,8,8,8,8,8,8,8,8,8,8,8,8,8,8,8,8,8,8,8,8,8,8,8,8,8,8,8,8,8,8,8,8,8,8,8,8,8,8,8,8,8,8,8,8,8,8,8,8,8,8,8,8,8,8,8,8,8,8,8,8,8,8,8,8,8,8,8,8,8,8,8,8,8,8,8,8,8,8,8]⟩:ByteArray) (IntKind.u8.wrap v_12.1)).bind λb_17=>some (w64 (v_12.2+(w64 (b_17.toNat:Int))))
def lh (x_1:Int):Option (Int) :=
  (pE x_1).bind λr_2=>some r_2
def eF (a_2:Int) (cmp4_5:Player) (cmp4_6:Int) (s_23:(List Entry)×Int):Option (Ctl ((List Entry)×Int) (Unit)) :=
  (bif (decide (s_23.2>a_2))then (inR s_23.2 s_23.1).bind λ_=>(s_23.1[(0+(s_23.2).toNat)]?).bind λe_32=>(inR (w64 (s_23.2-1)) s_23.1).bind λ_=>(s_23.1[(0+((w64 (s_23.2-1))).toNat)]?).bind λe_35=>(nz e_32 e_35 cmp4_5 cmp4_6).bind λr_37=>some (decide (r_37<0))else some false).bind λv_28=>bif v_28 then (inR (w64 (s_23.2-1)) s_23.1).bind λ_=>(s_23.1[(0+((w64 (s_23.2-1))).toNat)]?).bind λe_42=>(inR s_23.2 s_23.1).bind λ_=>(s_23.1[(0+(s_23.2).toNat)]?).bind λe_45=>(inR s_23.2 s_23.1).bind λ_=>(s_23.1[(0+(s_23.2).toNat)]?).bind λe_48=>(inR (w64 (s_23.2-1)) (s_23.1.set (0+(s_23.2).toNat) e_42)).bind λ_=>((s_23.1.set (0+(s_23.2).toNat) e_42)[(0+((w64 (s_23.2-1))).toNat)]?).bind λe_51=>some (.go (((s_23.1.set (0+(s_23.2).toNat) e_42).set (0+((w64 (s_23.2-1))).toNat) e_45),(w64 (s_23.2-1))))else some (.brk (s_23.1,s_23.2))
noncomputable def eG (b_3:Int) (a_2:Int) (cmp4_5:Player) (cmp4_6:Int) (s_12:(List Entry)×Int):Option (Ctl ((List Entry)×Int) (Unit)) :=
  bif (decide (s_12.2<b_3))then (gY (s_12.1,s_12.2) (λs=>eF a_2 cmp4_5 cmp4_6 s)).bind λo_26=>bD o_26 (λs_23=>some (.go (s_23.1,(w64 (s_12.2+1))))) (λ_=>none)else some (.brk (s_12.1,s_12.2))
noncomputable def fo (data_1:(List Entry)) (a_2:Int) (b_3:Int) (cmp4_5:Player) (cmp4_6:Int):Option ((List Entry)) :=
  (gY (data_1,(w64 (a_2+1))) (λs=>eG b_3 a_2 cmp4_5 cmp4_6 s)).bind λo_15=>bD o_15 (λs_12=>some s_12.1) (λ_=>none)
noncomputable def fP (b_3:Int) (a_2:Int) (data_1:(List Entry)) (cmp5_6:Player) (cmp5_7:Int) (limit_4:Int) (s_13:Unit):Option (Ctl (Unit) ((List Entry))) :=
  bif (decide ((w64 (b_3-a_2))<=12))then (fo data_1 a_2 b_3 cmp5_6 cmp5_7).bind λr_19=>(kX r_19 data_1).bind λ_=>some (.ret r_19)else bif (limit_4==0)then none else none
noncomputable def gz (data_1:(List Entry)) (a_2:Int) (b_3:Int) (limit_4:Int) (cmp5_6:Player) (cmp5_7:Int):Option ((List Entry)) :=
  (gY () (λs=>fP b_3 a_2 data_1 cmp5_6 cmp5_7 limit_4 s)).bind λo_16=>bD o_16 (λs_13=>some data_1) (λr=>some r)
noncomputable def dQ (x_1:(List Entry)) (cmp2_3:Player) (cmp2_4:Int):Option ((List Entry)) :=
  (lh (IntKind.u64.wrap (x_1.length:Int))).bind λr_5=>(gz x_1 0 (x_1.length:Int) r_5 cmp2_3 cmp2_4).bind λr_7=>(kX r_7 x_1).bind λ_=>some r_7
def nP (p_2:Player) (atv_3:Int) (k_6:Nat) (x_8:Entry) (s_11:(List Entry)):Option (Ctl ((List Entry)) (Unit)) :=
  (oC x_8 p_2.Zone atv_3).bind λr_20=>(bif r_20.2 then (q9 x_8 p_2).bind λr_25=>some r_25 else some false).bind λv_22=>(bif v_22 then (ll s_11 ([x_8]:List Entry)).bind λa_31=>some a_31 else some s_11).bind λv_27=>some (.go v_27)
noncomputable def sJ (l_1:(List Entry)) (p_2:Player) (atv_3:Int):Option ((List Entry)) :=
  (iY l_1 ([]:List Entry) (λk x s=>nP p_2 atv_3 k x s)).bind λo_17=>bD o_17 (λs_11=>(dQ s_11 p_2 atv_3).bind λr_34=>(kX r_34 s_11).bind λ_=>some r_34) (λ_=>none)
noncomputable def sZ (l_1:(List Entry)) (p_2:Player) (atv_3:Int):Option (Entry) :=
  (sJ l_1 p_2 atv_3).bind λr_6=>bif (decide ((r_6.length:Int)>0))then (idx r_6 0).bind λy_9=>some y_9 else some (⟨(⟨#[]⟩:ByteArray),(⟨#[]⟩:ByteArray),0,0,0,0,0,([]:List Int),0,0,0,([]:List ByteArray),false⟩:Entry)
noncomputable def jm (r_17:(List Int)) (a_1:(List Entry)) (p_3:Player) (b_2:(List Entry)) (s_24:(List Window)×Int):Option (Ctl ((List Window)×Int) (Unit)) :=
  bif (decide (s_24.2<(r_17.length:Int)))then (idx r_17 (w64 (s_24.2-1))).bind λy_33=>(sZ a_1 p_3 y_33).bind λr_35=>(idx r_17 (w64 (s_24.2-1))).bind λy_37=>(sZ b_2 p_3 y_37).bind λr_39=>(bif (sEq r_35.Key r_39.Key)then some (sEq r_35.Item r_39.Item)else some false).bind λv_43=>bif v_43 then some (.go (s_24.1,(w64 (s_24.2+1))))else (bif (decide ((w64 ((s_24.1.length:Int)-1))>=0))then (inR (w64 ((s_24.1.length:Int)-1)) s_24.1).bind λ_=>(s_24.1[(0+((w64 ((s_24.1.length:Int)-1))).toNat)]?).bind λe_51=>(idx r_17 (w64 (s_24.2-1))).bind λy_53=>some (e_51.To==y_53)else some false).bind λv_47=>bif v_47 then (idx r_17 s_24.2).bind λy_56=>(inR (w64 ((s_24.1.length:Int)-1)) s_24.1).bind λ_=>(s_24.1[(0+((w64 ((s_24.1.length:Int)-1))).toNat)]?).bind λe_59=>some (.go ((s_24.1.set (0+((w64 ((s_24.1.length:Int)-1))).toNat) (⟨e_59.From,y_56⟩:Window)),(w64 (s_24.2+1))))else (idx r_17 (w64 (s_24.2-1))).bind λy_61=>(idx r_17 s_24.2).bind λy_63=>(ll s_24.1 ([(⟨y_61,y_63⟩:Window)]:List Window)).bind λa_65=>some (.go (a_65,(w64 (s_24.2+1))))else some (.brk (s_24.1,s_24.2))
noncomputable def jP (a_1:(List Entry)) (b_2:(List Entry)) (p_3:Player) (wv_4:Window):Option ((List Window)) :=
  (oF a_1 p_3.Zone wv_4).bind λr_7=>(oF b_2 p_3.Zone wv_4).bind λr_9=>(gJ ([r_7,r_9]:List (List Int))).bind λr_11=>(eT r_11).bind λr_14=>(kX r_14 r_11).bind λ_=>(cB r_14).bind λr_17=>(gY (([]:List Window),1) (λs=>jm r_17 a_1 p_3 b_2 s)).bind λo_30=>bD o_30 (λs_24=>some s_24.1) (λ_=>none)
def jU (x_37:Window) (k_48:Nat) (x_50:Window) (s_53:Bool):Option (Ctl (Bool) (Unit)) :=
  (bif s_53 then some true else some (decide ((jw x_37.From x_50.From)<(jB x_37.To x_50.To)))).bind λv_59=>some (.go v_59)
noncomputable def jV (x_22:Entry) (wv_2:Window) (k_35:Nat) (x_37:Window) (s_40:Bool):Option (Ctl (Bool) (Unit)) :=
  (kz x_22 0 wv_2).bind λr_46=>(iY r_46 s_40 (λk x s=>jU x_37 k x s)).bind λo_56=>bD o_56 (λs_53=>some (.go s_53)) (λ_=>none)
noncomputable def jW (x_6:Entry) (wv_2:Window) (k_20:Nat) (x_22:Entry) (s_25:(List Pair)):Option (Ctl ((List Pair)) (Unit)) :=
  (kz x_6 0 wv_2).bind λr_33=>(iY r_33 false (λk x s=>jV x_22 wv_2 k x s)).bind λo_43=>bD o_43 (λs_40=>(bif s_40 then some (x_6.Prio==x_22.Prio)else some false).bind λv_62=>(bif v_62 then (ll s_25 ([(⟨x_6.Key,x_22.Key⟩:Pair)]:List Pair)).bind λa_69=>some a_69 else some s_25).bind λv_65=>some (.go v_65)) (λ_=>none)
noncomputable def j3 (l_1:(List Entry)) (wv_2:Window) (k_4:Nat) (x_6:Entry) (s_9:(List Pair)):Option (Ctl ((List Pair)) (Unit)) :=
  (H8 l_1 (w64 ((k_4:Int)+1)) l_1.length).bind λy_18=>(iY y_18 s_9 (λk x s=>jW x_6 wv_2 k x s)).bind λo_30=>bD o_30 (λs_25=>some (.go s_25)) (λ_=>none)
noncomputable def nu (l_1:(List Entry)) (wv_2:Window):Option ((List Pair)) :=
  (iY l_1 ([]:List Pair) (λk x s=>j3 l_1 wv_2 k x s)).bind λo_15=>bD o_15 (λs_9=>some s_9) (λ_=>none)
def bK (s2_2:(List Window)) (k_4:Nat) (x_6:Window) (s_9:Unit):Option (Ctl (Unit) (Bool)) :=
  (idx s2_2 (k_4:Int)).bind λy_14=>bif (!((x_6.From==y_14.From)&&((x_6.To==y_14.To)&&true)))then some (.ret false)else some (.go ())
def dE (s1_1:(List Window)) (s2_2:(List Window)):Option (Bool) :=
  bif ((s1_1.length:Int) != (s2_2.length:Int))then some false else (iY s1_1 () (λk x s=>bK s2_2 k x s)).bind λo_12=>bD o_12 (λs_9=>some true) (λr=>some r)
def dI (s2_2:(List Pair)) (k_4:Nat) (x_6:Pair) (s_9:Unit):Option (Ctl (Unit) (Bool)) :=
  (idx s2_2 (k_4:Int)).bind λy_14=>bif (!((x_6.Name.toList==y_14.Name.toList)&&((x_6.Value.toList==y_14.Value.toList)&&true)))then some (.ret false)else some (.go ())
def d9 (s1_1:(List Pair)) (s2_2:(List Pair)):Option (Bool) :=
  bif ((s1_1.length:Int) != (s2_2.length:Int))then some false else (iY s1_1 () (λk x s=>dI s2_2 k x s)).bind λo_12=>bD o_12 (λs_9=>some true) (λr=>some r)
def jb (wv_3:Window) (k_19:Nat) (x_21:Nat) (s_24:(List Window)):Option (Ctl ((List Window)) (Unit)) :=
  (inR (k_19:Int) s_24).bind λ_=>(s_24[(0+((k_19:Int)).toNat)]?).bind λe_30=>(gW e_30 wv_3).bind λr_33=>(inR (k_19:Int) s_24).bind λ_=>(s_24[(0+((k_19:Int)).toNat)]?).bind λe_36=>some (.go (s_24.set (0+((k_19:Int)).toNat) r_33))
noncomputable def lJ (e_1:Entry) (zone_2:Int) (wv_3:Window):Option ((List Window)×Int) :=
  (bG ([e_1]:List Entry)).bind λr_6=>bif (r_6 != 0)then some (([]:(List Window)),r_6)else (fJ zone_2 (-1440) 1440).bind λr_9=>bif r_9 then some (([]:(List Window)),1)else (eO wv_3).bind λr_12=>bif (r_12 != 0)then some (([]:(List Window)),r_12)else (fG e_1 zone_2 wv_3).bind λr_15=>(iY (List.range ((r_15.length:Int)).toNat) r_15 (λk x s=>jb wv_3 k x s)).bind λo_27=>bD o_27 (λs_24=>some (s_24,0)) (λ_=>none)
noncomputable def tL  : Option (Bool) :=
  (lJ (⟨(⟨#[97]⟩:ByteArray),(⟨#[98]⟩:ByteArray),0,0,0,1,127,([]:List Int),1,2,0,([]:List ByteArray),false⟩:Entry) 0 (⟨0,86400000⟩:Window)).bind λr_1=>(bif (r_1.2==0)then bif ((r_1.1.length:Int)==1)then (idx r_1.1 0).bind λy_7=>some (y_7.From==60000)else some false else some false).bind λv_3=>some v_3
noncomputable def jT (l_1:(List Int)):Option (Bool) :=
  (iZ (⟨l_1,0⟩:Stream)).bind λr_3=>(iZ r_3.2).bind λr_6=>(j6 r_6.2).bind λr_9=>(lF r_9.2).bind λr_12=>(bU r_12.2 2).bind λr_17=>(bif r_17.1 then (bZ r_3.1).bind λr_25=>bif (decide ((r_25.length:Int)>0))then (bW r_17.2 (r_25.length:Int)).bind λr_30=>(ik r_30.2 0 5).bind λr_33=>(inR r_30.1 r_25).bind λ_=>(r_25[(0+(r_30.1).toNat)]?).bind λe_37=>(bW r_33.2 ((r_25.set (0+(r_30.1).toNat) (⟨e_37.Key,e_37.Item,e_37.Version,e_37.First,e_37.Last,e_37.Every,e_37.Days,e_37.Except,e_37.From,e_37.To,r_33.1,e_37.Tags,e_37.Gone⟩:Entry)).length:Int)).bind λr_39=>(fD r_39.2 ([(⟨#[105,97]⟩:ByteArray),(⟨#[105,98]⟩:ByteArray)]:List ByteArray)).bind λr_42=>(inR r_39.1 (r_25.set (0+(r_30.1).toNat) (⟨e_37.Key,e_37.Item,e_37.Version,e_37.First,e_37.Last,e_37.Every,e_37.Days,e_37.Except,e_37.From,e_37.To,r_33.1,e_37.Tags,e_37.Gone⟩:Entry))).bind λ_=>((r_25.set (0+(r_30.1).toNat) (⟨e_37.Key,e_37.Item,e_37.Version,e_37.First,e_37.Last,e_37.Every,e_37.Days,e_37.Except,e_37.From,e_37.To,r_33.1,e_37.Tags,e_37.Gone⟩:Entry))[(0+(r_39.1).toNat)]?).bind λe_46=>some (((r_25.set (0+(r_30.1).toNat) (⟨e_37.Key,e_37.Item,e_37.Version,e_37.First,e_37.Last,e_37.Every,e_37.Days,e_37.Except,e_37.From,e_37.To,r_33.1,e_37.Tags,e_37.Gone⟩:Entry)).set (0+(r_39.1).toNat) (⟨e_46.Key,r_42.1,e_46.Version,e_46.First,e_46.Last,e_46.Every,e_46.Days,e_46.Except,e_46.From,e_46.To,e_46.Prio,e_46.Tags,e_46.Gone⟩:Entry)),r_42.2.L,r_42.2.f_at)else some (r_25,r_17.2.L,r_17.2.f_at)else some (r_6.1,r_17.2.L,r_17.2.f_at)).bind λv_22=>(fQ r_3.1 v_22.1 r_9.1 r_12.1).bind λr_48=>(iP r_3.1 r_12.1).bind λr_50=>(iJ r_3.1).bind λr_52=>(iJ v_22.1).bind λr_54=>(kR r_9.1).bind λr_56=>(lg r_12.1).bind λr_58=>(oZ ([r_52,r_54,r_56,r_58]:List Int)).bind λr_60=>(iJ r_3.1).bind λr_62=>(lg r_12.1).bind λr_64=>(oZ ([r_62,r_64]:List Int)).bind λr_66=>(bif (r_60==0)then (jP r_3.1 v_22.1 r_9.1 r_12.1).bind λr_73=>some r_73 else some ([]:List Window)).bind λv_70=>(bif (r_66==0)then (nu r_3.1 r_12.1).bind λr_80=>some r_80 else some ([]:List Pair)).bind λv_77=>(bif (r_48.2==r_60)then (dE r_48.1 v_70).bind λr_85=>bif r_85 then bif (r_50.2==r_66)then (d9 r_50.1 v_77).bind λr_89=>bif r_89 then (tL).bind λr_92=>some r_92 else some false else some false else some false else some false).bind λv_82=>some v_82
end Go.Proofs.YtnjnggakgeommaaGreat.Law

