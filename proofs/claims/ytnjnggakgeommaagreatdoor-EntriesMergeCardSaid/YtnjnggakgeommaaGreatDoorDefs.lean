/-
  The functions of the program, as plain functions over data (written by a program of ours).
-/
import Derived.Test.YtnjnggakgeommaaGreatDoorEng5
open Go Go.Eng
namespace Go.Proofs.YtnjnggakgeommaaGreatDoor.Law
set_option maxRecDepth 100000
set_option linter.unusedVariables false
set_option maxHeartbeats 1000000
structure Stream where
  L:(List Int)
  f_at:Int
def Stream.enc (s:Stream):List D:=[dl eI s.L,.int .i64 s.f_at]

structure Entry where
  Key:ByteArray
  Item:ByteArray
  Version:Int
  First:Int
  Last:Int
  Every:Int
  Days:Int
  Except:(List Int)
  From:Int
  To:Int
  Prio:Int
  Tags:(List ByteArray)
  Gone:Bool
def Entry.enc (s:Entry):List D:=[.str s.Key,.str s.Item,.int .i64 s.Version,.int .i64 s.First,.int .i64 s.Last,.int .i64 s.Every,.int .i64 s.Days,dl eI s.Except,.int .i64 s.From,.int .i64 s.To,.int .i64 s.Prio,dl eS s.Tags,.bool s.Gone]

structure Player where
  Key:ByteArray
  Screen:ByteArray
  Zone:Int
  Tags:(List ByteArray)
def Player.enc (s:Player):List D:=[.str s.Key,.str s.Screen,.int .i64 s.Zone,dl eS s.Tags]

structure Window where
  From:Int
  To:Int
def Window.enc (s:Window):List D:=[.int .i64 s.From,.int .i64 s.To]

def mo (x_1:Int) (n_2:Int):Option (Int) :=
  bif (decide (n_2<1))then some 0 else (AB .i64 x_1 n_2).bind λq_4=>(bif (decide (q_4<0))then some (w64 (q_4+n_2))else some q_4).bind λv_6=>some v_6
def bS (s_1:Stream) (n_2:Int):Option (Int×Stream) :=
  bif ((s_1.L.length:Int)==0)then (mo (w64 ((w64 (s_1.f_at+1))*7919)) n_2).bind λr_4=>some (r_4,(⟨s_1.L,(w64 (s_1.f_at+1))⟩:Stream))else (AB .i64 (w64 ((w64 (s_1.f_at+1))-1)) (s_1.L.length:Int)).bind λq_6=>(quoO .i64 (w64 ((w64 (s_1.f_at+1))-1)) (s_1.L.length:Int)).bind λq_8=>(idx s_1.L q_6).bind λy_10=>(mo y_10 1073741824).bind λr_12=>(mo (w64 (r_12+(w64 (q_8*(w64 (7919+q_6)))))) n_2).bind λr_14=>some (r_14,(⟨s_1.L,(w64 (s_1.f_at+1))⟩:Stream))
def bB (s_1:Stream) (n_2:Int):Option (Bool×Stream) :=
  (bS s_1 n_2).bind λr_3=>some ((r_3.1==0),r_3.2)
def eB (s_1:Stream) (l_2:(List ByteArray)):Option (ByteArray×Stream) :=
  (bS s_1 (l_2.length:Int)).bind λr_3=>(idx l_2 r_3.1).bind λy_6=>some (y_6,r_3.2)
def fJ (s_1:Stream) (low_2:Int) (high_3:Int):Option (Int×Stream) :=
  bif (decide (high_3<low_2))then some (low_2,s_1)else (bS s_1 (w64 ((w64 (high_3-low_2))+1))).bind λr_5=>some ((w64 (low_2+r_5.1)),r_5.2)
def bQ (s_1:Stream) (l_2:(List Int)):Option (Int×Stream) :=
  (bS s_1 (l_2.length:Int)).bind λr_3=>(idx l_2 r_3.1).bind λy_6=>some (y_6,r_3.2)
def eT (k_50:Nat) (x_52:Int) (s_55:(List Int)×(List Int)×Int):Option (Ctl ((List Int)×(List Int)×Int) (Unit)) :=
  (bB (⟨s_55.2.1,s_55.2.2⟩:Stream) 4).bind λr_63=>(bif r_63.1 then (kI s_55.1 ([x_52]:List Int)).bind λa_70=>some a_70 else some s_55.1).bind λv_66=>some (.go (v_66,r_63.2.L,r_63.2.f_at))
def eU (k_73:Nat) (x_75:ByteArray) (s_78:(List ByteArray)×(List Int)×Int):Option (Ctl ((List ByteArray)×(List Int)×Int) (Unit)) :=
  (bB (⟨s_78.2.1,s_78.2.2⟩:Stream) 4).bind λr_86=>(bif r_86.1 then (kI s_78.1 ([x_75]:List ByteArray)).bind λa_93=>some a_93 else some s_78.1).bind λv_89=>some (.go (v_89,r_86.2.L,r_86.2.f_at))
def dK (k_2:Nat) (x_4:ByteArray) (s_7:(List Entry)×(List Int)×Int):Option (Ctl ((List Entry)×(List Int)×Int) (Unit)) :=
  (bB (⟨s_7.2.1,s_7.2.2⟩:Stream) 4).bind λr_15=>bif r_15.1 then some (.go (s_7.1,r_15.2.L,r_15.2.f_at))else (eB r_15.2 ([(⟨#[105,97]⟩:ByteArray),(⟨#[105,98]⟩:ByteArray),(⟨#[105,99]⟩:ByteArray)]:List ByteArray)).bind λr_19=>(fJ r_19.2 0 2).bind λr_22=>(bQ r_22.2 ([0,0,1,3]:List Int)).bind λr_25=>(bQ r_25.2 ([1,1,2,3,7]:List Int)).bind λr_28=>(bQ r_28.2 ([127,127,31,96,1,2]:List Int)).bind λr_31=>(bQ r_31.2 ([0,0,60,600,1380]:List Int)).bind λr_34=>(bQ r_34.2 ([0,60,120,600,720,1439]:List Int)).bind λr_37=>(bQ r_37.2 ([0,0,1,5]:List Int)).bind λr_40=>(bB r_40.2 8).bind λr_43=>(bQ r_43.2 ([0,1,5,10,30]:List Int)).bind λr_47=>(gN ([1,2,8]:List Int) (([]:List Int),r_47.2.L,r_47.2.f_at) (λk x s=>eT k x s)).bind λo_61=>dz o_61 (λs_55=>(gN ([(⟨#[99,105,116,121]⟩:ByteArray),(⟨#[109,97,108,108]⟩:ByteArray)]:List ByteArray) (([]:List ByteArray),s_55.2.1,s_55.2.2) (λk x s=>eU k x s)).bind λo_84=>dz o_84 (λs_78=>(kI s_7.1 ([(⟨x_4,r_19.1,r_22.1,r_25.1,(w64 (r_25.1+r_47.1)),r_28.1,r_31.1,s_55.1,r_34.1,r_37.1,r_40.1,s_78.1,r_43.1⟩:Entry)]:List Entry)).bind λa_96=>some (.go (a_96,s_78.2.1,s_78.2.2))) (λ_=>none)) (λ_=>none)
def eF (s_1:Stream):Option ((List Entry)×Stream) :=
  (gN ([(⟨#[101,97]⟩:ByteArray),(⟨#[101,98]⟩:ByteArray),(⟨#[101,99]⟩:ByteArray),(⟨#[101,100]⟩:ByteArray)]:List ByteArray) (([]:List Entry),s_1.L,s_1.f_at) (λk x s=>dK k x s)).bind λo_13=>dz o_13 (λs_7=>some (s_7.1,(⟨s_7.2.1,s_7.2.2⟩:Stream))) (λ_=>none)
def bZ (s_1:Stream) (low_2:Int) (high_3:Int):Option (Int×Stream) :=
  (bB s_1 12).bind λr_4=>bif r_4.1 then (bQ r_4.2 ([(w64 (low_2-1)),(w64 (high_3+1)),low_2,high_3,(-1099511627776),1099511627776]:List Int)).bind λr_8=>some (r_8.1,r_8.2)else (fJ r_4.2 low_2 high_3).bind λr_11=>some (r_11.1,r_11.2)
def bK (s_1:(List Int)):Option ((List Int)) :=
  (kI [] s_1).bind λa_4=>some a_4
def fH (s_1:Stream):Option ((List Entry)×Stream) :=
  (eF s_1).bind λr_2=>(bif (decide ((r_2.1.length:Int)>0))then (bB r_2.2 10).bind λr_9=>some (r_9.1,r_9.2.L,r_9.2.f_at)else some (false,r_2.2.L,r_2.2.f_at)).bind λv_6=>(bif v_6.1 then (bS (⟨v_6.2.1,v_6.2.2⟩:Stream) (r_2.1.length:Int)).bind λr_15=>(inR r_15.1 r_2.1).bind λ_=>(bS r_15.2 6).bind λr_19=>bif (r_19.1==0)then (r_2.1[(0+(r_15.1).toNat)]?).bind λe_23=>(eB r_19.2 ([e_23.Key,(⟨#[]⟩:ByteArray),(⟨#[65]⟩:ByteArray),(⟨#[101,97]⟩:ByteArray)]:List ByteArray)).bind λr_25=>(eB r_25.2 ([(⟨#[105,97]⟩:ByteArray),(⟨#[]⟩:ByteArray),(⟨#[66]⟩:ByteArray)]:List ByteArray)).bind λr_28=>(r_2.1[(0+(r_15.1).toNat)]?).bind λe_31=>((r_2.1.set (0+(r_15.1).toNat) (⟨r_25.1,e_31.Item,e_31.Version,e_31.First,e_31.Last,e_31.Every,e_31.Days,e_31.Except,e_31.From,e_31.To,e_31.Prio,e_31.Tags,e_31.Gone⟩:Entry))[(0+(r_15.1).toNat)]?).bind λe_33=>some (((r_2.1.set (0+(r_15.1).toNat) (⟨r_25.1,e_31.Item,e_31.Version,e_31.First,e_31.Last,e_31.Every,e_31.Days,e_31.Except,e_31.From,e_31.To,e_31.Prio,e_31.Tags,e_31.Gone⟩:Entry)).set (0+(r_15.1).toNat) (⟨e_33.Key,r_28.1,e_33.Version,e_33.First,e_33.Last,e_33.Every,e_33.Days,e_33.Except,e_33.From,e_33.To,e_33.Prio,e_33.Tags,e_33.Gone⟩:Entry)),r_28.2.L,r_28.2.f_at)else bif (r_19.1==1)then (bZ r_19.2 0 10).bind λr_36=>(bZ r_36.2 0 4000).bind λr_39=>(r_2.1[(0+(r_15.1).toNat)]?).bind λe_42=>((r_2.1.set (0+(r_15.1).toNat) (⟨e_42.Key,e_42.Item,e_42.Version,r_36.1,e_42.Last,e_42.Every,e_42.Days,e_42.Except,e_42.From,e_42.To,e_42.Prio,e_42.Tags,e_42.Gone⟩:Entry))[(0+(r_15.1).toNat)]?).bind λe_44=>some (((r_2.1.set (0+(r_15.1).toNat) (⟨e_42.Key,e_42.Item,e_42.Version,r_36.1,e_42.Last,e_42.Every,e_42.Days,e_42.Except,e_42.From,e_42.To,e_42.Prio,e_42.Tags,e_42.Gone⟩:Entry)).set (0+(r_15.1).toNat) (⟨e_44.Key,e_44.Item,e_44.Version,e_44.First,r_39.1,e_44.Every,e_44.Days,e_44.Except,e_44.From,e_44.To,e_44.Prio,e_44.Tags,e_44.Gone⟩:Entry)),r_39.2.L,r_39.2.f_at)else bif (r_19.1==2)then (bZ r_19.2 1 400).bind λr_47=>(bZ r_47.2 1 127).bind λr_50=>(r_2.1[(0+(r_15.1).toNat)]?).bind λe_53=>((r_2.1.set (0+(r_15.1).toNat) (⟨e_53.Key,e_53.Item,e_53.Version,e_53.First,e_53.Last,r_47.1,e_53.Days,e_53.Except,e_53.From,e_53.To,e_53.Prio,e_53.Tags,e_53.Gone⟩:Entry))[(0+(r_15.1).toNat)]?).bind λe_55=>some (((r_2.1.set (0+(r_15.1).toNat) (⟨e_53.Key,e_53.Item,e_53.Version,e_53.First,e_53.Last,r_47.1,e_53.Days,e_53.Except,e_53.From,e_53.To,e_53.Prio,e_53.Tags,e_53.Gone⟩:Entry)).set (0+(r_15.1).toNat) (⟨e_55.Key,e_55.Item,e_55.Version,e_55.First,e_55.Last,e_55.Every,r_50.1,e_55.Except,e_55.From,e_55.To,e_55.Prio,e_55.Tags,e_55.Gone⟩:Entry)),r_50.2.L,r_50.2.f_at)else bif (r_19.1==3)then (r_2.1[(0+(r_15.1).toNat)]?).bind λe_58=>(bK e_58.Except).bind λr_60=>(bZ r_19.2 0 4000).bind λr_64=>(kI r_60 ([r_64.1]:List Int)).bind λa_67=>(r_2.1[(0+(r_15.1).toNat)]?).bind λe_70=>some ((r_2.1.set (0+(r_15.1).toNat) (⟨e_70.Key,e_70.Item,e_70.Version,e_70.First,e_70.Last,e_70.Every,e_70.Days,a_67,e_70.From,e_70.To,e_70.Prio,e_70.Tags,e_70.Gone⟩:Entry)),r_64.2.L,r_64.2.f_at)else bif (r_19.1==4)then (bZ r_19.2 0 1439).bind λr_73=>(bZ r_73.2 0 1439).bind λr_76=>(r_2.1[(0+(r_15.1).toNat)]?).bind λe_79=>((r_2.1.set (0+(r_15.1).toNat) (⟨e_79.Key,e_79.Item,e_79.Version,e_79.First,e_79.Last,e_79.Every,e_79.Days,e_79.Except,r_73.1,e_79.To,e_79.Prio,e_79.Tags,e_79.Gone⟩:Entry))[(0+(r_15.1).toNat)]?).bind λe_81=>some (((r_2.1.set (0+(r_15.1).toNat) (⟨e_79.Key,e_79.Item,e_79.Version,e_79.First,e_79.Last,e_79.Every,e_79.Days,e_79.Except,r_73.1,e_79.To,e_79.Prio,e_79.Tags,e_79.Gone⟩:Entry)).set (0+(r_15.1).toNat) (⟨e_81.Key,e_81.Item,e_81.Version,e_81.First,e_81.Last,e_81.Every,e_81.Days,e_81.Except,e_81.From,r_76.1,e_81.Prio,e_81.Tags,e_81.Gone⟩:Entry)),r_76.2.L,r_76.2.f_at)else (bS r_19.2 3).bind λr_83=>(idx ([([(⟨#[109,97,108,108]⟩:ByteArray),(⟨#[99,105,116,121]⟩:ByteArray)]:List ByteArray),([(⟨#[]⟩:ByteArray)]:List ByteArray),([(⟨#[97]⟩:ByteArray),(⟨#[97]⟩:ByteArray)]:List ByteArray)]:List (List ByteArray)) r_83.1).bind λy_86=>(bZ r_83.2 0 9).bind λr_88=>(r_2.1[(0+(r_15.1).toNat)]?).bind λe_91=>((r_2.1.set (0+(r_15.1).toNat) (⟨e_91.Key,e_91.Item,e_91.Version,e_91.First,e_91.Last,e_91.Every,e_91.Days,e_91.Except,e_91.From,e_91.To,e_91.Prio,y_86,e_91.Gone⟩:Entry))[(0+(r_15.1).toNat)]?).bind λe_93=>some (((r_2.1.set (0+(r_15.1).toNat) (⟨e_91.Key,e_91.Item,e_91.Version,e_91.First,e_91.Last,e_91.Every,e_91.Days,e_91.Except,e_91.From,e_91.To,e_91.Prio,y_86,e_91.Gone⟩:Entry)).set (0+(r_15.1).toNat) (⟨e_93.Key,e_93.Item,e_93.Version,e_93.First,e_93.Last,e_93.Every,e_93.Days,e_93.Except,e_93.From,e_93.To,r_88.1,e_93.Tags,e_93.Gone⟩:Entry)),r_88.2.L,r_88.2.f_at)else some (r_2.1,v_6.2.1,v_6.2.2)).bind λv_12=>some (v_12.1,(⟨v_12.2.1,v_12.2.2⟩:Stream))
def eX (s_1:Stream):Option (Player×Stream) :=
  (bQ s_1 ([0,0,60,(-90),1440]:List Int)).bind λr_3=>(bS r_3.2 3).bind λr_6=>(idx ([([]:List ByteArray),([(⟨#[99,105,116,121]⟩:ByteArray)]:List ByteArray),([(⟨#[99,105,116,121]⟩:ByteArray),(⟨#[109,97,108,108]⟩:ByteArray)]:List ByteArray)]:List (List ByteArray)) r_6.1).bind λy_9=>some ((⟨(⟨#[112]⟩:ByteArray),(⟨#[115,97]⟩:ByteArray),r_3.1,y_9⟩:Player),r_6.2)
def gQ (s_1:Stream):Option (Player×Stream) :=
  (eX s_1).bind λr_3=>(bB r_3.2 15).bind λr_7=>(bif r_7.1 then (eB r_7.2 ([(⟨#[112]⟩:ByteArray),(⟨#[]⟩:ByteArray)]:List ByteArray)).bind λr_13=>(eB r_13.2 ([(⟨#[115,97]⟩:ByteArray),(⟨#[65]⟩:ByteArray)]:List ByteArray)).bind λr_16=>(bZ r_16.2 (-1440) 1440).bind λr_19=>(bS r_19.2 3).bind λr_22=>(idx ([([(⟨#[109,97,108,108]⟩:ByteArray),(⟨#[99,105,116,121]⟩:ByteArray)]:List ByteArray),([(⟨#[]⟩:ByteArray)]:List ByteArray),([]:List ByteArray)]:List (List ByteArray)) r_22.1).bind λy_25=>some (r_22.2.L,r_22.2.f_at,r_13.1,r_16.1,r_19.1,y_25)else some (r_7.2.L,r_7.2.f_at,r_3.1.Key,r_3.1.Screen,r_3.1.Zone,r_3.1.Tags)).bind λv_10=>some ((⟨v_10.2.2.1,v_10.2.2.2.1,v_10.2.2.2.2.1,v_10.2.2.2.2.2⟩:Player),(⟨v_10.1,v_10.2.1⟩:Stream))
def aQ (s_1:(List Entry)):Option ((List Entry)) :=
  (kI [] s_1).bind λa_4=>some a_4
def iy (s_1:ByteArray) (s_7:Int):Option (Ctl (Int) (Bool)) :=
  bif (decide (s_7<(s_1.size:Int)))then (BS s_1 s_7).bind λb_13=>(bif (decide ((b_13.toNat:Int)>=97))then bif (decide ((b_13.toNat:Int)<=122))then some false else bif (decide (s_7>0))then bif (decide ((b_13.toNat:Int)>=48))then bif (decide ((b_13.toNat:Int)<=57))then some false else bif ((b_13.toNat:Int)==45)then some false else some (!((b_13.toNat:Int)==95))else bif ((b_13.toNat:Int)==45)then some false else some (!((b_13.toNat:Int)==95))else some true else bif (decide (s_7>0))then bif (decide ((b_13.toNat:Int)>=48))then bif (decide ((b_13.toNat:Int)<=57))then some false else bif ((b_13.toNat:Int)==45)then some false else some (!((b_13.toNat:Int)==95))else bif ((b_13.toNat:Int)==45)then some false else some (!((b_13.toNat:Int)==95))else some true).bind λv_15=>bif v_15 then some (.ret false)else some (.go (w64 (s_7+1)))else some (.brk s_7)
noncomputable def jr (s_1:ByteArray):Option (Bool) :=
  (kg 0 (λs=>iy s_1 s)).bind λo_10=>dz o_10 (λs_7=>(bif (sNe s_1 (⟨#[]⟩:ByteArray))then some (decide ((s_1.size:Int)<=40))else some false).bind λv_30=>some v_30) (λr=>some r)
def dB (n_1:Int) (low_2:Int) (high_3:Int):Option (Bool) :=
  (bif (decide (n_1<low_2))then some true else some (decide (n_1>high_3))).bind λv_4=>some v_4
def ou (n_1:Int):Option (Bool) :=
  (bif (decide (n_1>=0))then some (decide (n_1<=4000))else some false).bind λv_2=>some v_2
def fI (l_1:(List Int)) (k_3:Nat) (x_5:Int) (s_8:Unit):Option (Ctl (Unit) (Int)) :=
  (ou x_5).bind λr_13=>bif (!r_13)then some (.ret 1)else (bif (decide ((k_3:Int)>0))then (idx l_1 (w64 ((k_3:Int)-1))).bind λy_19=>some (decide (x_5<=y_19))else some false).bind λv_16=>bif v_16 then some (.ret 7)else some (.go ())
def fA (l_1:(List Int)):Option (Int) :=
  bif (decide ((l_1.length:Int)>100))then some 2 else (gN l_1 () (λk x s=>fI l_1 k x s)).bind λo_11=>dz o_11 (λs_8=>some 0) (λr=>some r)
noncomputable def ik (l_1:(List ByteArray)) (k_2:Nat) (x_4:ByteArray) (s_7:Unit):Option (Ctl (Unit) (Int)) :=
  (jr x_4).bind λr_12=>bif (!r_12)then some (.ret 5)else (bif (decide ((k_2:Int)>0))then (idx l_1 (w64 ((k_2:Int)-1))).bind λy_18=>some (sLe x_4 y_18)else some false).bind λv_15=>bif v_15 then some (.ret 7)else some (.go ())
noncomputable def jQ (l_1:(List ByteArray)):Option (Int) :=
  (gN l_1 () (λk x s=>ik l_1 k x s)).bind λo_10=>dz o_10 (λs_7=>some 0) (λr=>some r)
noncomputable def fo (l_1:(List ByteArray)):Option (Int) :=
  bif (decide ((l_1.length:Int)>20))then some 2 else (jQ l_1).bind λr_3=>some r_3
noncomputable def fK (e_1:Entry):Option (Int) :=
  ((jr e_1.Key).bind λr_5=>bif (!r_5)then some true else (jr e_1.Item).bind λr_8=>some (!r_8)).bind λv_3=>bif v_3 then some 5 else ((dB e_1.Version 0 1000000).bind λr_13=>bif r_13 then some true else (dB e_1.First 0 e_1.Last).bind λr_16=>bif r_16 then some true else bif (decide (e_1.Last>4000))then some true else (dB e_1.Every 1 400).bind λr_20=>bif r_20 then some true else (dB e_1.Days 1 127).bind λr_23=>some r_23).bind λv_11=>bif v_11 then some 1 else (fA e_1.Except).bind λr_26=>bif (r_26 != 0)then some r_26 else ((dB e_1.From 0 1439).bind λr_31=>bif r_31 then some true else (dB e_1.To 0 1439).bind λr_34=>bif r_34 then some true else (dB e_1.Prio 0 9).bind λr_37=>some r_37).bind λv_29=>bif v_29 then some 1 else (fo e_1.Tags).bind λr_40=>some r_40
noncomputable def dM (l_1:(List Entry)) (k_3:Nat) (x_5:Entry) (s_8:Unit):Option (Ctl (Unit) (Int)) :=
  (fK x_5).bind λr_14=>bif (r_14 != 0)then some (.ret r_14)else (bif (decide ((k_3:Int)>0))then (idx l_1 (w64 ((k_3:Int)-1))).bind λy_20=>some (sLe x_5.Key y_20.Key)else some false).bind λv_17=>bif v_17 then some (.ret 7)else some (.go ())
noncomputable def bC (l_1:(List Entry)):Option (Int) :=
  bif (decide ((l_1.length:Int)>200))then some 2 else (gN l_1 () (λk x s=>dM l_1 k x s)).bind λo_11=>dz o_11 (λs_8=>some 0) (λr=>some r)
def bH (n_1:Int):Option Bool :=
  bif (decide (n_1<0))then none else bif (decide ((w64 (n_1-(w64 (0-0))))>0))then (zN (w64 (n_1-(w64 (0-0)))) 152).bind λ_=>some true else some false
def aO (k_2:Nat) (x_4:(List Entry)) (s_7:Int):Option (Ctl (Int) (Unit)) :=
  (bif (decide ((w64 (s_7+(x_4.length:Int)))<0))then none else some ()).bind λv_12=>some (.go (w64 (s_7+(x_4.length:Int))))
def aP (k_18:Nat) (x_20:(List Entry)) (s_23:(List Entry)):Option (Ctl ((List Entry)) (Unit)) :=
  (kI s_23 x_20).bind λa_30=>some (.go a_30)
def bG (slices_1:(List (List Entry))):Option ((List Entry)) :=
  (gN slices_1 0 (λk x s=>aO k x s)).bind λo_10=>dz o_10 (λs_7=>(bH s_7).bind λb_15=>(gN slices_1 ([]:List Entry) (λk x s=>aP k x s)).bind λo_28=>dz o_28 (λs_23=>some s_23) (λ_=>none)) (λ_=>none)
def dx (s2_2:(List Int)) (k_4:Nat) (x_6:Int) (s_9:Unit):Option (Ctl (Unit) (Bool)) :=
  (idx s2_2 (k_4:Int)).bind λy_14=>bif (x_6 != y_14)then some (.ret false)else some (.go ())
def dS (s1_1:(List Int)) (s2_2:(List Int)):Option (Bool) :=
  bif ((s1_1.length:Int) != (s2_2.length:Int))then some false else (gN s1_1 () (λk x s=>dx s2_2 k x s)).bind λo_12=>dz o_12 (λs_9=>some true) (λr=>some r)
def bD (s2_2:(List ByteArray)) (k_4:Nat) (x_6:ByteArray) (s_9:Unit):Option (Ctl (Unit) (Bool)) :=
  (idx s2_2 (k_4:Int)).bind λy_14=>bif (sNe x_6 y_14)then some (.ret false)else some (.go ())
def bR (s1_1:(List ByteArray)) (s2_2:(List ByteArray)):Option (Bool) :=
  bif ((s1_1.length:Int) != (s2_2.length:Int))then some false else (gN s1_1 () (λk x s=>bD s2_2 k x s)).bind λo_12=>dz o_12 (λs_9=>some true) (λr=>some r)
def iP (a_1:Entry) (b_2:Entry):Option (Bool) :=
  (bif (sEq a_1.Key b_2.Key)then bif (sEq a_1.Item b_2.Item)then bif (a_1.Version==b_2.Version)then bif (a_1.First==b_2.First)then bif (a_1.Last==b_2.Last)then bif (a_1.Every==b_2.Every)then bif (a_1.Days==b_2.Days)then (dS a_1.Except b_2.Except).bind λr_14=>bif r_14 then bif (a_1.From==b_2.From)then bif (a_1.To==b_2.To)then bif (a_1.Prio==b_2.Prio)then (bR a_1.Tags b_2.Tags).bind λr_20=>bif r_20 then some (a_1.Gone==b_2.Gone)else some false else some false else some false else some false else some false else some false else some false else some false else some false else some false else some false else some false).bind λv_5=>some v_5
def l8 (m:(List (ByteArray×Entry))):Option (List ByteArray) :=
  yP m
def ed (s_1:(List ByteArray)):Option ((List ByteArray)) :=
  (kI [] s_1).bind λa_4=>some a_4
def jb (e_1:Entry):Option (Entry) :=
  (bK e_1.Except).bind λr_4=>(ed e_1.Tags).bind λr_6=>some (⟨e_1.Key,e_1.Item,e_1.Version,e_1.First,e_1.Last,e_1.Every,e_1.Days,r_4,e_1.From,e_1.To,e_1.Prio,r_6,e_1.Gone⟩:Entry)
noncomputable def dL (a_1:(List Entry)) (b_2:(List Entry)) (k_3:Nat) (x_5:Nat) (s_8:Unit):Option (Ctl (Unit) ((List Entry)×Int)) :=
  (idx ([a_1,b_2]:List (List Entry)) (k_3:Int)).bind λy_13=>(bC y_13).bind λr_15=>bif (r_15 != 0)then some (.ret (([]:(List Entry)),r_15))else some (.go ())
def eu (k_21:Nat) (x_23:Entry) (s_26:(List (ByteArray×Entry))):Option (Ctl ((List (ByteArray×Entry))) ((List Entry)×Int)) :=
  (bif (bL eqS s_26 x_23.Key).isSome then bif ((((bL eqS s_26 x_23.Key).getD (⟨(⟨#[]⟩:ByteArray),(⟨#[]⟩:ByteArray),0,0,0,0,0,([]:List Int),0,0,0,([]:List ByteArray),false⟩:Entry)).Version)==x_23.Version)then (iP ((bL eqS s_26 x_23.Key).getD (⟨(⟨#[]⟩:ByteArray),(⟨#[]⟩:ByteArray),0,0,0,0,0,([]:List Int),0,0,0,([]:List ByteArray),false⟩:Entry)) x_23).bind λr_37=>some (!r_37)else some false else some false).bind λv_33=>bif v_33 then some (.ret (([]:(List Entry)),13))else (bif (!((bL eqS s_26 x_23.Key).isSome))then some true else some (decide (x_23.Version>(((bL eqS s_26 x_23.Key).getD (⟨(⟨#[]⟩:ByteArray),(⟨#[]⟩:ByteArray),0,0,0,0,0,([]:List Int),0,0,0,([]:List ByteArray),false⟩:Entry)).Version)))).bind λv_40=>(bif v_40 then some (AX eqS s_26 x_23.Key x_23)else some s_26).bind λv_43=>some (.go v_43)
def eD (s_26:(List (ByteArray×Entry))) (k_51:Nat) (x_53:ByteArray) (s_56:(List Entry)):Option (Ctl ((List Entry)) (Unit)) :=
  (jb ((bL eqS s_26 x_53).getD (⟨(⟨#[]⟩:ByteArray),(⟨#[]⟩:ByteArray),0,0,0,0,0,([]:List Int),0,0,0,([]:List ByteArray),false⟩:Entry))).bind λr_64=>(kI s_56 ([r_64]:List Entry)).bind λa_66=>some (.go a_66)
noncomputable def gp (a_1:(List Entry)) (b_2:(List Entry)):Option ((List Entry)×Int) :=
  (gN (List.range (2:Int).toNat) () (λk x s=>dL a_1 b_2 k x s)).bind λo_11=>dz o_11 (λs_8=>(bG ([a_1,b_2]:List (List Entry))).bind λr_19=>(gN r_19 ([]:List (ByteArray×Entry)) (λk x s=>eu k x s)).bind λo_29=>dz o_29 (λs_26=>bif (decide ((s_26.length:Int)>200))then some (([]:(List Entry)),2)else (l8 s_26).bind λr_48=>(gN r_48 ([]:List Entry) (λk x s=>eD s_26 k x s)).bind λo_62=>dz o_62 (λs_56=>some (s_56,0)) (λ_=>none)) (λr=>some r)) (λr=>some r)
def jV (n_1:Int) (low_2:Int) (high_3:Int):Option (Bool) :=
  (bif (decide (low_2<=n_1))then some (decide (n_1<=high_3))else some false).bind λv_4=>some v_4
def dJ (s_1:ByteArray) (c_2:Int):Option (Int) :=
  some (ixB s_1 c_2)
def strings_IndexByte (s_1:ByteArray) (c_2:Int):Option (Int) :=
  (dJ s_1 c_2).bind λr_3=>some r_3
def jZ (s_1:ByteArray) (somev_2:ByteArray) (k_3:Nat) (x_5:Nat) (s_8:Unit):Option (Ctl (Unit) (Bool)) :=
  (BS s_1 (k_3:Int)).bind λb_13=>(strings_IndexByte somev_2 (b_13.toNat:Int)).bind λr_15=>bif (decide (r_15<0))then some (.ret false)else some (.go ())
def nA (s_1:ByteArray) (somev_2:ByteArray):Option (Bool) :=
  (gN (List.range ((s_1.size:Int)).toNat) () (λk x s=>jZ s_1 somev_2 k x s)).bind λo_11=>dz o_11 (λs_8=>some true) (λr=>some r)
def lS (s_1:ByteArray):Option (Bool) :=
  ((jV (s_1.size:Int) 1 40).bind λr_4=>bif r_4 then (Bh s_1 0 1).bind λy_7=>(nA y_7 (⟨#[97,98,99,100,101,102,103,104,105,106,107,108,109,110,111,112,113,114,115,116,117,118,119,120,121,122]⟩:ByteArray)).bind λr_9=>bif r_9 then (nA s_1 (⟨#[97,98,99,100,101,102,103,104,105,106,107,108,109,110,111,112,113,114,115,116,117,118,119,120,121,122,48,49,50,51,52,53,54,55,56,57,45,95]⟩:ByteArray)).bind λr_12=>some r_12 else some false else some false).bind λv_2=>some v_2
def iB (l_1:(List ByteArray)) (k_2:Nat) (x_4:ByteArray) (s_7:Unit):Option (Ctl (Unit) (Int)) :=
  (lS x_4).bind λr_12=>bif (!r_12)then some (.ret 5)else (bif (decide ((k_2:Int)>0))then (idx l_1 (w64 ((k_2:Int)-1))).bind λy_18=>some (sLe x_4 y_18)else some false).bind λv_15=>bif v_15 then some (.ret 7)else some (.go ())
def jS (l_1:(List ByteArray)):Option (Int) :=
  (gN l_1 () (λk x s=>iB l_1 k x s)).bind λo_10=>dz o_10 (λs_7=>some 0) (λr=>some r)
def iO (l_1:(List ByteArray)):Option (Int) :=
  bif (decide ((l_1.length:Int)>20))then some 2 else (jS l_1).bind λr_3=>some r_3
def iV (e_1:Entry) (k_27:Nat) (x_29:Int) (s_32:Unit):Option (Ctl (Unit) (Int)) :=
  (jV x_29 0 4000).bind λr_37=>bif (!r_37)then some (.ret 1)else (bif (decide ((k_27:Int)>0))then (idx e_1.Except (w64 ((k_27:Int)-1))).bind λy_43=>some (decide (x_29<=y_43))else some false).bind λv_40=>bif v_40 then some (.ret 7)else some (.go ())
def jf (e_1:Entry):Option (Int) :=
  ((lS e_1.Key).bind λr_5=>bif (!r_5)then some true else (lS e_1.Item).bind λr_8=>some (!r_8)).bind λv_3=>bif v_3 then some 5 else ((jV e_1.Version 0 1000000).bind λr_13=>bif (!r_13)then some true else (jV e_1.First 0 e_1.Last).bind λr_16=>bif (!r_16)then some true else bif (decide (e_1.Last>4000))then some true else (jV e_1.Every 1 400).bind λr_20=>bif (!r_20)then some true else (jV e_1.Days 1 127).bind λr_23=>some (!r_23)).bind λv_11=>bif v_11 then some 1 else bif (decide ((e_1.Except.length:Int)>100))then some 2 else (gN e_1.Except () (λk x s=>iV e_1 k x s)).bind λo_35=>dz o_35 (λs_32=>((jV e_1.From 0 1439).bind λr_48=>bif (!r_48)then some true else (jV e_1.To 0 1439).bind λr_51=>bif (!r_51)then some true else (jV e_1.Prio 0 9).bind λr_54=>some (!r_54)).bind λv_46=>bif v_46 then some 1 else (iO e_1.Tags).bind λr_57=>some r_57) (λr=>some r)
def eH (k_3:Nat) (x_5:Entry) (s_8:ByteArray):Option (Ctl (ByteArray) (Int)) :=
  (jf x_5).bind λr_14=>bif (r_14 != 0)then some (.ret r_14)else bif (sLe x_5.Key s_8)then some (.ret 7)else some (.go x_5.Key)
def fU (l_1:(List Entry)):Option (Int) :=
  bif (decide ((l_1.length:Int)>200))then some 2 else (gN l_1 (⟨#[]⟩:ByteArray) (λk x s=>eH k x s)).bind λo_11=>dz o_11 (λs_8=>some 0) (λr=>some r)
noncomputable def fB (p_1:Player):Option (Int) :=
  ((jr p_1.Key).bind λr_5=>bif (!r_5)then some true else (jr p_1.Screen).bind λr_8=>some (!r_8)).bind λv_3=>bif v_3 then some 5 else (dB p_1.Zone (-1440) 1440).bind λr_11=>bif r_11 then some 1 else (fo p_1.Tags).bind λr_14=>some r_14
def iK (p_1:Player):Option (Int) :=
  ((lS p_1.Key).bind λr_5=>bif (!r_5)then some true else (lS p_1.Screen).bind λr_8=>some (!r_8)).bind λv_3=>bif v_3 then some 5 else (jV p_1.Zone (-1440) 1440).bind λr_11=>bif (!r_11)then some 1 else (iO p_1.Tags).bind λr_14=>some r_14
def mO (k_2:Nat) (x_4:Int) (s_7:Unit):Option (Ctl (Unit) (Int)) :=
  bif (x_4 != 0)then some (.ret x_4)else some (.go ())
def pG (l_1:(List Int)):Option (Int) :=
  (gN l_1 () (λk x s=>mO k x s)).bind λo_10=>dz o_10 (λs_7=>some 0) (λr=>some r)
def jR (o_1:Entry) (p_2:Entry):Option (Bool) :=
  some (sEq o_1.Key p_2.Key)
def aV (s_1:(List Entry)) (f2_3:Entry) (k_4:Nat) (x_6:Nat) (s_9:Unit):Option (Ctl (Unit) (Int)) :=
  (inR (k_4:Int) s_1).bind λ_=>(s_1[(0+((k_4:Int)).toNat)]?).bind λe_15=>(jR e_15 f2_3).bind λr_17=>bif r_17 then some (.ret (k_4:Int))else some (.go ())
def bn (s_1:(List Entry)) (f2_3:Entry):Option (Int) :=
  (gN (List.range ((s_1.length:Int)).toNat) () (λk x s=>aV s_1 f2_3 k x s)).bind λo_12=>dz o_12 (λs_9=>some (-1)) (λr=>some r)
def strconv_Itoa (x0:Int):Option (ByteArray) :=
  Dz x0
def strings_Join (x0:(List ByteArray)) (x1:ByteArray):Option (ByteArray) :=
  CZ x0 x1
def gZ (k_2:Nat) (x_4:Int) (s_7:(List ByteArray)):Option (Ctl ((List ByteArray)) (Unit)) :=
  (strconv_Itoa x_4).bind λr_15=>(kI s_7 ([r_15]:List ByteArray)).bind λa_17=>some (.go a_17)
def kW (l_1:(List Int)):Option (ByteArray) :=
  (gN l_1 ([]:List ByteArray) (λk x s=>gZ k x s)).bind λo_13=>dz o_13 (λs_7=>(strings_Join s_7 (⟨#[32]⟩:ByteArray)).bind λr_20=>some r_20) (λ_=>none)
def lX (l_1:(List ByteArray)):Option (ByteArray) :=
  bif ((l_1.length:Int)==0)then some (⟨#[45]⟩:ByteArray)else (strings_Join l_1 (⟨#[44]⟩:ByteArray)).bind λr_3=>some r_3
def jy (k_3:Nat) (x_5:Int) (s_8:(List ByteArray)):Option (Ctl ((List ByteArray)) (Unit)) :=
  (strconv_Itoa x_5).bind λr_16=>(kI s_8 ([r_16]:List ByteArray)).bind λa_18=>some (.go a_18)
def iR (e_1:Entry):Option (ByteArray) :=
  (gN e_1.Except ([]:List ByteArray) (λk x s=>jy k x s)).bind λo_14=>dz o_14 (λs_8=>(bif e_1.Gone then some (⟨#[103,111,110,101]⟩:ByteArray)else some (⟨#[111,110]⟩:ByteArray)).bind λv_21=>(kW ([e_1.Version,e_1.First,e_1.Last,e_1.Every,e_1.Days,e_1.From,e_1.To,e_1.Prio]:List Int)).bind λr_24=>(lX s_8).bind λr_26=>(lX e_1.Tags).bind λr_28=>(strings_Join ([e_1.Key,e_1.Item,r_24,v_21,r_26,r_28]:List ByteArray) (⟨#[32]⟩:ByteArray)).bind λr_30=>some r_30) (λ_=>none)
def iM (a_1:Entry) (b_2:Entry):Option (Bool) :=
  ((iR (⟨a_1.Key,a_1.Item,a_1.Version,a_1.First,a_1.Last,a_1.Every,a_1.Days,([]:List Int),a_1.From,a_1.To,a_1.Prio,([]:List ByteArray),a_1.Gone⟩:Entry)).bind λr_9=>(iR (⟨b_2.Key,b_2.Item,b_2.Version,b_2.First,b_2.Last,b_2.Every,b_2.Days,([]:List Int),b_2.From,b_2.To,b_2.Prio,([]:List ByteArray),b_2.Gone⟩:Entry)).bind λr_11=>bif (sEq r_9 r_11)then (dS a_1.Except b_2.Except).bind λr_14=>bif r_14 then (bR a_1.Tags b_2.Tags).bind λr_17=>some r_17 else some false else some false).bind λv_7=>some v_7
def fe (a_1:ByteArray) (b_2:ByteArray):Option (Int) :=
  some (xq a_1 b_2)
def strings_Compare (a_1:ByteArray) (b_2:ByteArray):Option (Int) :=
  (fe a_1 b_2).bind λr_3=>some r_3
def jT (x_1:Entry) (y_2:Entry):Option (Int) :=
  (strings_Compare x_1.Key y_2.Key).bind λr_5=>some r_5
def lD (x_1:Int):Option (Int) :=
  (bif (decide (x_1>=4294967296))then (ul .u64 x_1 32).bind λq_5=>some (q_5,32)else some (x_1,0)).bind λv_2=>(bif (decide (v_2.1>=65536))then (ul .u64 v_2.1 16).bind λq_10=>some (q_10,(w64 (v_2.2+16)))else some (v_2.1,v_2.2)).bind λv_7=>(bif (decide (v_7.1>=256))then (ul .u64 v_7.1 8).bind λq_15=>some (q_15,(w64 (v_7.2+8)))else some (v_7.1,v_7.2)).bind λv_12=>(BS (⟨#[0,1,2,2,3,3,3,3,4,4,4,4,4,4,4,4,5,5,5,5,5,5,5,5,5,5,5,5,5,5,5,5,6,6,6,6,6,6,6,6,6,6,6,6,6,6,6,6,6,6,6,6,6,6,6,6,6,6,6,6,6,6,6,6,7,7,7,7,7,7,7,7,7,7,7,7,7,7,7,7,7,7,7,7,7,7,7,7,7,7,7,7,7,7,7,7,7,7,7,7,7,7,7,7,7,7,7,7,7,7,7,7,7,7,7,7,7,7,7,7,7,7,7,7,7,7,7,7,8,8,8,8,8,8,8,8,8,8,8,8,8,8,8,8,8,8,8,8,8,8,8,8,8,8,8,8,8,8,8,8,8,8,8,8,8,8,8,8,8,8,8,8,8,8,8,8,8,8,8,8,8,8,8,8,8,8,8,8,8,8,8,8,8,8,8,8,8,8,8,8,8,8,8,8,8,8,8,8,8,8,8,8,8,8,8,8,8,8,8,8,8,8,8,8,8,8,8,8,8,8,8,8,8,8,8,8,8,8,8,8,8,8,8,8,8,8,8,8,8,8,8,8,8,8,8,8]⟩:ByteArray) (IntKind.u8.wrap v_12.1)).bind λb_17=>some (w64 (v_12.2+(w64 (b_17.toNat:Int))))
def iL (x_1:Int):Option (Int) :=
  (lD x_1).bind λr_2=>some r_2
def bU (a_2:Int) (s_21:(List Entry)×Int):Option (Ctl ((List Entry)×Int) (Unit)) :=
  (bif (decide (s_21.2>a_2))then (inR s_21.2 s_21.1).bind λ_=>(s_21.1[(0+(s_21.2).toNat)]?).bind λe_30=>(inR (w64 (s_21.2-1)) s_21.1).bind λ_=>(s_21.1[(0+((w64 (s_21.2-1))).toNat)]?).bind λe_33=>(jT e_30 e_33).bind λr_35=>some (decide (r_35<0))else some false).bind λv_26=>bif v_26 then (inR (w64 (s_21.2-1)) s_21.1).bind λ_=>(s_21.1[(0+((w64 (s_21.2-1))).toNat)]?).bind λe_39=>(inR s_21.2 s_21.1).bind λ_=>(s_21.1[(0+(s_21.2).toNat)]?).bind λe_42=>(inR s_21.2 s_21.1).bind λ_=>(s_21.1[(0+(s_21.2).toNat)]?).bind λe_45=>(inR (w64 (s_21.2-1)) (s_21.1.set (0+(s_21.2).toNat) e_39)).bind λ_=>((s_21.1.set (0+(s_21.2).toNat) e_39)[(0+((w64 (s_21.2-1))).toNat)]?).bind λe_48=>some (.go (((s_21.1.set (0+(s_21.2).toNat) e_39).set (0+((w64 (s_21.2-1))).toNat) e_42),(w64 (s_21.2-1))))else some (.brk (s_21.1,s_21.2))
noncomputable def bW (b_3:Int) (a_2:Int) (s_10:(List Entry)×Int):Option (Ctl ((List Entry)×Int) (Unit)) :=
  bif (decide (s_10.2<b_3))then (kg (s_10.1,s_10.2) (λs=>bU a_2 s)).bind λo_24=>dz o_24 (λs_21=>some (.go (s_21.1,(w64 (s_10.2+1))))) (λ_=>none)else some (.brk (s_10.1,s_10.2))
noncomputable def cz (data_1:(List Entry)) (a_2:Int) (b_3:Int):Option ((List Entry)) :=
  (kg (data_1,(w64 (a_2+1))) (λs=>bW b_3 a_2 s)).bind λo_13=>dz o_13 (λs_10=>some s_10.1) (λ_=>none)
noncomputable def dI (b_3:Int) (a_2:Int) (data_1:(List Entry)) (limit_4:Int) (s_11:Unit):Option (Ctl (Unit) ((List Entry))) :=
  bif (decide ((w64 (b_3-a_2))<=12))then (cz data_1 a_2 b_3).bind λr_17=>(nV r_17 data_1).bind λ_=>some (.ret r_17)else bif (limit_4==0)then none else none
noncomputable def dQ (data_1:(List Entry)) (a_2:Int) (b_3:Int) (limit_4:Int):Option ((List Entry)) :=
  (kg () (λs=>dI b_3 a_2 data_1 limit_4 s)).bind λo_14=>dz o_14 (λs_11=>some data_1) (λr=>some r)
noncomputable def bu (x_1:(List Entry)):Option ((List Entry)) :=
  (iL (IntKind.u64.wrap (x_1.length:Int))).bind λr_3=>(dQ x_1 0 (x_1.length:Int) r_3).bind λr_5=>(nV r_5 x_1).bind λ_=>some r_5
def eZ (k_7:Nat) (x_9:Entry) (s_12:(List Entry)):Option (Ctl ((List Entry)) ((List Entry)×Int)) :=
  (bn s_12 x_9).bind λr_20=>bif (decide (r_20<0))then (kI s_12 ([x_9]:List Entry)).bind λa_23=>some (.go a_23)else ((inR r_20 s_12).bind λ_=>(s_12[(0+(r_20).toNat)]?).bind λe_29=>bif (e_29.Version==x_9.Version)then (inR r_20 s_12).bind λ_=>(s_12[(0+(r_20).toNat)]?).bind λe_33=>(iM e_33 x_9).bind λr_35=>some (!r_35)else some false).bind λv_26=>bif v_26 then some (.ret (([]:(List Entry)),13))else (inR r_20 s_12).bind λ_=>(s_12[(0+(r_20).toNat)]?).bind λe_39=>(bif (decide (e_39.Version<x_9.Version))then (inR r_20 s_12).bind λ_=>(s_12[(0+(r_20).toNat)]?).bind λe_45=>some (s_12.set (0+(r_20).toNat) x_9)else some s_12).bind λv_41=>some (.go v_41)
noncomputable def jO (a_1:(List Entry)) (b_2:(List Entry)):Option ((List Entry)×Int) :=
  (aQ a_1).bind λr_3=>(gN b_2 r_3 (λk x s=>eZ k x s)).bind λo_17=>dz o_17 (λs_12=>(bu s_12).bind λr_47=>(nV r_47 s_12).bind λ_=>bif (decide ((r_47.length:Int)>200))then some (([]:(List Entry)),2)else some (r_47,0)) (λr=>some r)
def aL (s2_2:(List Entry)) (k_5:Nat) (x_7:Entry) (s_10:Unit):Option (Ctl (Unit) (Bool)) :=
  (idx s2_2 (k_5:Int)).bind λy_16=>(iM x_7 y_16).bind λr_19=>bif (!r_19)then some (.ret false)else some (.go ())
def aM (s1_1:(List Entry)) (s2_2:(List Entry)):Option (Bool) :=
  bif ((s1_1.length:Int) != (s2_2.length:Int))then some false else (gN s1_1 () (λk x s=>aL s2_2 k x s)).bind λo_13=>dz o_13 (λs_10=>some true) (λr=>some r)
def fw (wv_1:Window):Option (Int) :=
  ((dB wv_1.From 0 wv_1.To).bind λr_5=>bif r_5 then some true else some (decide (wv_1.To>345686400000))).bind λv_3=>bif v_3 then some 1 else bif (decide ((w64 (wv_1.To-wv_1.From))>34560000000))then some 2 else some 0
def cmp_isNaN_int (x_1:Int):Option (Bool) :=
  some (x_1 != x_1)
def cmp_Less_int (x_1:Int) (y_2:Int):Option (Bool) :=
  ((cmp_isNaN_int x_1).bind λr_5=>bif r_5 then (cmp_isNaN_int y_2).bind λr_8=>bif (!r_8)then some true else some (decide (x_1<y_2))else some (decide (x_1<y_2))).bind λv_3=>some v_3
def fT (x_1:Int):Option (Bool) :=
  some (x_1 != x_1)
def aW (x_1:(List Int)) (target_2:Int) (s_8:Int×Int):Option (Ctl (Int×Int) (Unit)) :=
  bif (decide (s_8.1<s_8.2))then (ul .u64 (IntKind.u64.wrap (w64 (s_8.1+s_8.2))) 1).bind λq_14=>(idx x_1 (w64 q_14)).bind λy_16=>(cmp_Less_int y_16 target_2).bind λr_18=>bif r_18 then some (.go ((w64 ((w64 q_14)+1)),s_8.2))else some (.go (s_8.1,(w64 q_14)))else some (.brk (s_8.1,s_8.2))
noncomputable def cZ (x_1:(List Int)) (target_2:Int):Option (Int×Bool) :=
  (kg (0,(x_1.length:Int)) (λs=>aW x_1 target_2 s)).bind λo_11=>dz o_11 (λs_8=>(bif (decide (s_8.1<(x_1.length:Int)))then (idx x_1 s_8.1).bind λy_24=>bif (y_24==target_2)then some true else (idx x_1 s_8.1).bind λy_27=>(fT y_27).bind λr_29=>bif r_29 then (fT target_2).bind λr_32=>some r_32 else some false else some false).bind λv_21=>some (s_8.1,v_21)) (λ_=>none)
noncomputable def ja (e_1:Entry) (d_2:Int):Option (Bool) :=
  ((dB d_2 e_1.First e_1.Last).bind λr_6=>bif r_6 then some true else (AB .i64 (w64 (d_2-e_1.First)) e_1.Every).bind λq_9=>bif (q_9 != 0)then some true else (Eg .i64 1 (d_2.tmod 7)).bind λq_12=>some ((wP .i64 e_1.Days q_12)==0)).bind λv_4=>bif v_4 then some false else (cZ e_1.Except d_2).bind λr_15=>some (!r_15.2)
def iI (e_1:Entry) (zone_2:Int) (d_3:Int):Option (Window) :=
  (bif (decide ((w64 (e_1.To-e_1.From))<=0))then some (w64 ((w64 (e_1.To-e_1.From))+1440))else some (w64 (e_1.To-e_1.From))).bind λv_6=>some (⟨(w64 ((w64 ((w64 ((w64 (d_3*1440))+e_1.From))-zone_2))*60000)),(w64 ((w64 ((w64 ((w64 ((w64 (d_3*1440))+e_1.From))-zone_2))*60000))+(w64 (v_6*60000))))⟩:Window)
noncomputable def fD (wv_3:Window) (zone_2:Int) (e_1:Entry) (s_15:(List Window)×Int):Option (Ctl ((List Window)×Int) (Unit)) :=
  bif (decide (s_15.2<=(qi (w64 ((w64 ((w64 (wv_3.To+(w64 (zone_2*60000)))).tdiv 86400000))+1)) e_1.Last)))then (ja e_1 s_15.2).bind λr_24=>bif (!r_24)then some (.go (s_15.1,(w64 (s_15.2+1))))else (iI e_1 zone_2 s_15.2).bind λr_27=>(bif (decide (r_27.From<wv_3.To))then some (decide (r_27.To>wv_3.From))else some false).bind λv_30=>(bif v_30 then (kI s_15.1 ([r_27]:List Window)).bind λa_37=>some a_37 else some s_15.1).bind λv_33=>some (.go (v_33,(w64 (s_15.2+1))))else some (.brk (s_15.1,s_15.2))
noncomputable def ji (e_1:Entry) (zone_2:Int) (wv_3:Window):Option ((List Window)) :=
  (bif e_1.Gone then some true else some (decide (wv_3.From>=wv_3.To))).bind λv_6=>bif v_6 then some ([]:(List Window))else (kg (([]:List Window),(pW (w64 ((w64 ((w64 (wv_3.From+(w64 (zone_2*60000)))).tdiv 86400000))-2)) e_1.First)) (λs=>fD wv_3 zone_2 e_1 s)).bind λo_21=>dz o_21 (λs_15=>some s_15.1) (λ_=>none)
def lV (t_1:Window) (wv_2:Window):Option (Window) :=
  some (⟨(pW t_1.From wv_2.From),(qi t_1.To wv_2.To)⟩:Window)
def fG (wv_3:Window) (k_19:Nat) (x_21:Nat) (s_24:(List Window)):Option (Ctl ((List Window)) (Unit)) :=
  (inR (k_19:Int) s_24).bind λ_=>(s_24[(0+((k_19:Int)).toNat)]?).bind λe_30=>(lV e_30 wv_3).bind λr_33=>(inR (k_19:Int) s_24).bind λ_=>(s_24[(0+((k_19:Int)).toNat)]?).bind λe_36=>some (.go (s_24.set (0+((k_19:Int)).toNat) r_33))
noncomputable def iX (e_1:Entry) (zone_2:Int) (wv_3:Window):Option ((List Window)×Int) :=
  (bC ([e_1]:List Entry)).bind λr_6=>bif (r_6 != 0)then some (([]:(List Window)),r_6)else (dB zone_2 (-1440) 1440).bind λr_9=>bif r_9 then some (([]:(List Window)),1)else (fw wv_3).bind λr_12=>bif (r_12 != 0)then some (([]:(List Window)),r_12)else (ji e_1 zone_2 wv_3).bind λr_15=>(gN (List.range ((r_15.length:Int)).toNat) r_15 (λk x s=>fG wv_3 k x s)).bind λo_27=>dz o_27 (λs_24=>some (s_24,0)) (λ_=>none)
noncomputable def ow  : Option (Bool) :=
  (iX (⟨(⟨#[97]⟩:ByteArray),(⟨#[98]⟩:ByteArray),0,0,0,1,127,([]:List Int),1,2,0,([]:List ByteArray),false⟩:Entry) 0 (⟨0,86400000⟩:Window)).bind λr_1=>(bif (r_1.2==0)then bif ((r_1.1.length:Int)==1)then (idx r_1.1 0).bind λy_7=>some (y_7.From==60000)else some false else some false).bind λv_3=>some v_3
def eG (k_25:Nat) (x_27:Nat) (s_30:(List Entry)×(List Int)×Int):Option (Ctl ((List Entry)×(List Int)×Int) (Unit)) :=
  (fJ (⟨s_30.2.1,s_30.2.2⟩:Stream) 0 2).bind λr_35=>(inR (k_25:Int) s_30.1).bind λ_=>(s_30.1[(0+((k_25:Int)).toNat)]?).bind λe_39=>(bB r_35.2 3).bind λr_41=>(inR (k_25:Int) (s_30.1.set (0+((k_25:Int)).toNat) (⟨e_39.Key,e_39.Item,r_35.1,e_39.First,e_39.Last,e_39.Every,e_39.Days,e_39.Except,e_39.From,e_39.To,e_39.Prio,e_39.Tags,e_39.Gone⟩:Entry))).bind λ_=>((s_30.1.set (0+((k_25:Int)).toNat) (⟨e_39.Key,e_39.Item,r_35.1,e_39.First,e_39.Last,e_39.Every,e_39.Days,e_39.Except,e_39.From,e_39.To,e_39.Prio,e_39.Tags,e_39.Gone⟩:Entry))[(0+((k_25:Int)).toNat)]?).bind λe_45=>some (.go (((s_30.1.set (0+((k_25:Int)).toNat) (⟨e_39.Key,e_39.Item,r_35.1,e_39.First,e_39.Last,e_39.Every,e_39.Days,e_39.Except,e_39.From,e_39.To,e_39.Prio,e_39.Tags,e_39.Gone⟩:Entry)).set (0+((k_25:Int)).toNat) (⟨e_45.Key,e_45.Item,e_45.Version,e_45.First,e_45.Last,e_45.Every,e_45.Days,e_45.Except,e_45.From,e_45.To,e_45.Prio,e_45.Tags,r_41.1⟩:Entry)),r_41.2.L,r_41.2.f_at))
noncomputable def jB (l_1:(List Int)):Option (Bool) :=
  (fH (⟨l_1,0⟩:Stream)).bind λr_3=>(fH r_3.2).bind λr_6=>(gQ r_6.2).bind λr_9=>(bB r_9.2 2).bind λr_13=>(bif r_13.1 then (aQ r_3.1).bind λr_21=>(gN (List.range ((r_21.length:Int)).toNat) (r_21,r_13.2.L,r_13.2.f_at) (λk x s=>eG k x s)).bind λo_33=>dz o_33 (λs_30=>some (s_30.1,s_30.2.1,s_30.2.2)) (λ_=>none)else some (r_6.1,r_13.2.L,r_13.2.f_at)).bind λv_18=>(gp r_3.1 v_18.1).bind λr_47=>(fU r_3.1).bind λr_49=>((bC r_3.1).bind λr_53=>bif (r_53 != r_49)then some true else (fB r_9.1).bind λr_56=>(iK r_9.1).bind λr_58=>some (r_56 != r_58)).bind λv_51=>bif v_51 then some false else (fU v_18.1).bind λr_61=>(pG ([r_49,r_61]:List Int)).bind λr_63=>(bif (r_63==0)then (jO r_3.1 v_18.1).bind λr_70=>some (r_70.2,r_70.1)else some (r_63,([]:List Entry))).bind λv_67=>(bif (r_47.2==v_67.1)then (aM r_47.1 v_67.2).bind λr_75=>bif r_75 then (ow).bind λr_78=>some r_78 else some false else some false).bind λv_72=>some v_72
def cmp_isNaN_string (x_1:ByteArray):Option (Bool) :=
  some (sNe x_1 x_1)
def cmp_Less_string (x_1:ByteArray) (y_2:ByteArray):Option (Bool) :=
  ((cmp_isNaN_string x_1).bind λr_5=>bif r_5 then (cmp_isNaN_string y_2).bind λr_8=>bif (!r_8)then some true else some (sLt x_1 y_2)else some (sLt x_1 y_2)).bind λv_3=>some v_3
def slices_isNaN_string (x_1:ByteArray):Option (Bool) :=
  some (sNe x_1 x_1)
def aX (x_1:(List ByteArray)) (target_2:ByteArray) (s_8:Int×Int):Option (Ctl (Int×Int) (Unit)) :=
  bif (decide (s_8.1<s_8.2))then (ul .u64 (IntKind.u64.wrap (w64 (s_8.1+s_8.2))) 1).bind λq_14=>(idx x_1 (w64 q_14)).bind λy_16=>(cmp_Less_string y_16 target_2).bind λr_18=>bif r_18 then some (.go ((w64 ((w64 q_14)+1)),s_8.2))else some (.go (s_8.1,(w64 q_14)))else some (.brk (s_8.1,s_8.2))
noncomputable def gD (x_1:(List ByteArray)) (target_2:ByteArray):Option (Int×Bool) :=
  (kg (0,(x_1.length:Int)) (λs=>aX x_1 target_2 s)).bind λo_11=>dz o_11 (λs_8=>(bif (decide (s_8.1<(x_1.length:Int)))then (idx x_1 s_8.1).bind λy_24=>bif (sEq y_24 target_2)then some true else (idx x_1 s_8.1).bind λy_27=>(slices_isNaN_string y_27).bind λr_29=>bif r_29 then (slices_isNaN_string target_2).bind λr_32=>some r_32 else some false else some false).bind λv_21=>some (s_8.1,v_21)) (λ_=>none)
end Go.Proofs.YtnjnggakgeommaaGreatDoor.Law

