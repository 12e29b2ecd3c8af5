/-
  The functions of the program, as plain functions over data (written by a program of ours).
-/
import Derived.Test.YtigdobmllbakiabGreatDoorEng5
open Go Go.Eng
namespace Go.Proofs.YtigdobmllbakiabGreatDoor.Law
set_option maxRecDepth 100000
set_option linter.unusedVariables false
set_option maxHeartbeats 1000000
structure Stream where
  L:(List Int)
  f_at:Int
def Stream.enc (s:Stream):List D:=[dl eI s.L,.int .i64 s.f_at]

structure Entry where
  Key:ByteArray
  Item:ByteArray
  Version:Int
  First:Int
  Last:Int
  Every:Int
  Days:Int
  Except:(List Int)
  From:Int
  To:Int
  Prio:Int
  Tags:(List ByteArray)
  Gone:Bool
def Entry.enc (s:Entry):List D:=[.str s.Key,.str s.Item,.int .i64 s.Version,.int .i64 s.First,.int .i64 s.Last,.int .i64 s.Every,.int .i64 s.Days,dl eI s.Except,.int .i64 s.From,.int .i64 s.To,.int .i64 s.Prio,dl eS s.Tags,.bool s.Gone]
abbrev Entry.v (s:Entry):List V:=[(vS s.Key),(vS s.Item),(vI s.Version),(vI s.First),(vI s.Last),(vI s.Every),(vI s.Days),(vL eI s.Except),(vI s.From),(vI s.To),(vI s.Prio),(vL eS s.Tags),(vB s.Gone)]

structure Window where
  From:Int
  To:Int
def Window.enc (s:Window):List D:=[.int .i64 s.From,.int .i64 s.To]

def nk (x_1:Int) (n_2:Int):Option (Int) :=
  bif (decide (n_2<1))then some 0 else (CU .i64 x_1 n_2).bind λq_4=>(bif (decide (q_4<0))then some (w64 (q_4+n_2))else some q_4).bind λv_6=>some v_6
def bW (s_1:Stream) (n_2:Int):Option (Int×Stream) :=
  bif ((s_1.L.length:Int)==0)then (nk (w64 ((w64 (s_1.f_at+1))*7919)) n_2).bind λr_4=>some (r_4,(⟨s_1.L,(w64 (s_1.f_at+1))⟩:Stream))else (CU .i64 (w64 ((w64 (s_1.f_at+1))-1)) (s_1.L.length:Int)).bind λq_6=>(quoO .i64 (w64 ((w64 (s_1.f_at+1))-1)) (s_1.L.length:Int)).bind λq_8=>(idx s_1.L q_6).bind λy_10=>(nk y_10 1073741824).bind λr_12=>(nk (w64 (r_12+(w64 (q_8*(w64 (7919+q_6)))))) n_2).bind λr_14=>some (r_14,(⟨s_1.L,(w64 (s_1.f_at+1))⟩:Stream))
def bT (s_1:Stream) (n_2:Int):Option (Bool×Stream) :=
  (bW s_1 n_2).bind λr_3=>some ((r_3.1==0),r_3.2)
def eH (s_1:Stream) (l_2:(List ByteArray)):Option (ByteArray×Stream) :=
  (bW s_1 (l_2.length:Int)).bind λr_3=>(idx l_2 r_3.1).bind λy_6=>some (y_6,r_3.2)
def gQ (s_1:Stream) (low_2:Int) (high_3:Int):Option (Int×Stream) :=
  bif (decide (high_3<low_2))then some (low_2,s_1)else (bW s_1 (w64 ((w64 (high_3-low_2))+1))).bind λr_5=>some ((w64 (low_2+r_5.1)),r_5.2)
def cZ (s_1:Stream) (l_2:(List Int)):Option (Int×Stream) :=
  (bW s_1 (l_2.length:Int)).bind λr_3=>(idx l_2 r_3.1).bind λy_6=>some (y_6,r_3.2)
def bN (k_50:Nat) (x_52:Int) (s_55:(List Int)×(List Int)×Int):Option (Ctl ((List Int)×(List Int)×Int) (Unit)) :=
  (bT (⟨s_55.2.1,s_55.2.2⟩:Stream) 4).bind λr_63=>(bif r_63.1 then (jO s_55.1 ([x_52]:List Int)).bind λa_70=>some a_70 else some s_55.1).bind λv_66=>some (.go (v_66,r_63.2.L,r_63.2.f_at))
def bP (k_73:Nat) (x_75:ByteArray) (s_78:(List ByteArray)×(List Int)×Int):Option (Ctl ((List ByteArray)×(List Int)×Int) (Unit)) :=
  (bT (⟨s_78.2.1,s_78.2.2⟩:Stream) 4).bind λr_86=>(bif r_86.1 then (jO s_78.1 ([x_75]:List ByteArray)).bind λa_93=>some a_93 else some s_78.1).bind λv_89=>some (.go (v_89,r_86.2.L,r_86.2.f_at))
def bf (k_2:Nat) (x_4:ByteArray) (s_7:(List Entry)×(List Int)×Int):Option (Ctl ((List Entry)×(List Int)×Int) (Unit)) :=
  (bT (⟨s_7.2.1,s_7.2.2⟩:Stream) 4).bind λr_15=>bif r_15.1 then some (.go (s_7.1,r_15.2.L,r_15.2.f_at))else (eH r_15.2 ([(⟨#[105,97]⟩:ByteArray),(⟨#[105,98]⟩:ByteArray),(⟨#[105,99]⟩:ByteArray)]:List ByteArray)).bind λr_19=>(gQ r_19.2 0 2).bind λr_22=>(cZ r_22.2 ([0,0,1,3]:List Int)).bind λr_25=>(cZ r_25.2 ([1,1,2,3,7]:List Int)).bind λr_28=>(cZ r_28.2 ([127,127,31,96,1,2]:List Int)).bind λr_31=>(cZ r_31.2 ([0,0,60,600,1380]:List Int)).bind λr_34=>(cZ r_34.2 ([0,60,120,600,720,1439]:List Int)).bind λr_37=>(cZ r_37.2 ([0,0,1,5]:List Int)).bind λr_40=>(bT r_40.2 8).bind λr_43=>(cZ r_43.2 ([0,1,5,10,30]:List Int)).bind λr_47=>(forL ([1,2,8]:List Int) (([]:List Int),r_47.2.L,r_47.2.f_at) (λk x s=>bN k x s)).bind λo_61=>thenC o_61 (λs_55=>(forL ([(⟨#[99,105,116,121]⟩:ByteArray),(⟨#[109,97,108,108]⟩:ByteArray)]:List ByteArray) (([]:List ByteArray),s_55.2.1,s_55.2.2) (λk x s=>bP k x s)).bind λo_84=>thenC o_84 (λs_78=>(jO s_7.1 ([(⟨x_4,r_19.1,r_22.1,r_25.1,(w64 (r_25.1+r_47.1)),r_28.1,r_31.1,s_55.1,r_34.1,r_37.1,r_40.1,s_78.1,r_43.1⟩:Entry)]:List Entry)).bind λa_96=>some (.go (a_96,s_78.2.1,s_78.2.2))) (λ_=>none)) (λ_=>none)
def bC (s_1:Stream):Option ((List Entry)×Stream) :=
  (forL ([(⟨#[101,97]⟩:ByteArray),(⟨#[101,98]⟩:ByteArray),(⟨#[101,99]⟩:ByteArray),(⟨#[101,100]⟩:ByteArray)]:List ByteArray) (([]:List Entry),s_1.L,s_1.f_at) (λk x s=>bf k x s)).bind λo_13=>thenC o_13 (λs_7=>some (s_7.1,(⟨s_7.2.1,s_7.2.2⟩:Stream))) (λ_=>none)
def dQ (s_1:Stream) (low_2:Int) (high_3:Int):Option (Int×Stream) :=
  (bT s_1 12).bind λr_4=>bif r_4.1 then (cZ r_4.2 ([(w64 (low_2-1)),(w64 (high_3+1)),low_2,high_3,(-1099511627776),1099511627776]:List Int)).bind λr_8=>some (r_8.1,r_8.2)else (gQ r_4.2 low_2 high_3).bind λr_11=>some (r_11.1,r_11.2)
def fE (s_1:(List Int)):Option ((List Int)) :=
  (jO [] s_1).bind λa_4=>some a_4
def iy (s_1:Stream):Option ((List Entry)×Stream) :=
  (bC s_1).bind λr_2=>(bif (decide ((r_2.1.length:Int)>0))then (bT r_2.2 10).bind λr_9=>some (r_9.1,r_9.2.L,r_9.2.f_at)else some (false,r_2.2.L,r_2.2.f_at)).bind λv_6=>(bif v_6.1 then (bW (⟨v_6.2.1,v_6.2.2⟩:Stream) (r_2.1.length:Int)).bind λr_15=>(inR r_15.1 r_2.1).bind λ_=>(bW r_15.2 6).bind λr_19=>bif (r_19.1==0)then (r_2.1[(0+(r_15.1).toNat)]?).bind λe_23=>(eH r_19.2 ([e_23.Key,(⟨#[]⟩:ByteArray),(⟨#[65]⟩:ByteArray),(⟨#[101,97]⟩:ByteArray)]:List ByteArray)).bind λr_25=>(eH r_25.2 ([(⟨#[105,97]⟩:ByteArray),(⟨#[]⟩:ByteArray),(⟨#[66]⟩:ByteArray)]:List ByteArray)).bind λr_28=>(r_2.1[(0+(r_15.1).toNat)]?).bind λe_31=>((r_2.1.set (0+(r_15.1).toNat) (⟨r_25.1,e_31.Item,e_31.Version,e_31.First,e_31.Last,e_31.Every,e_31.Days,e_31.Except,e_31.From,e_31.To,e_31.Prio,e_31.Tags,e_31.Gone⟩:Entry))[(0+(r_15.1).toNat)]?).bind λe_33=>some (((r_2.1.set (0+(r_15.1).toNat) (⟨r_25.1,e_31.Item,e_31.Version,e_31.First,e_31.Last,e_31.Every,e_31.Days,e_31.Except,e_31.From,e_31.To,e_31.Prio,e_31.Tags,e_31.Gone⟩:Entry)).set (0+(r_15.1).toNat) (⟨e_33.Key,r_28.1,e_33.Version,e_33.First,e_33.Last,e_33.Every,e_33.Days,e_33.Except,e_33.From,e_33.To,e_33.Prio,e_33.Tags,e_33.Gone⟩:Entry)),r_28.2.L,r_28.2.f_at)else bif (r_19.1==1)then (dQ r_19.2 0 10).bind λr_36=>(dQ r_36.2 0 4000).bind λr_39=>(r_2.1[(0+(r_15.1).toNat)]?).bind λe_42=>((r_2.1.set (0+(r_15.1).toNat) (⟨e_42.Key,e_42.Item,e_42.Version,r_36.1,e_42.Last,e_42.Every,e_42.Days,e_42.Except,e_42.From,e_42.To,e_42.Prio,e_42.Tags,e_42.Gone⟩:Entry))[(0+(r_15.1).toNat)]?).bind λe_44=>some (((r_2.1.set (0+(r_15.1).toNat) (⟨e_42.Key,e_42.Item,e_42.Version,r_36.1,e_42.Last,e_42.Every,e_42.Days,e_42.Except,e_42.From,e_42.To,e_42.Prio,e_42.Tags,e_42.Gone⟩:Entry)).set (0+(r_15.1).toNat) (⟨e_44.Key,e_44.Item,e_44.Version,e_44.First,r_39.1,e_44.Every,e_44.Days,e_44.Except,e_44.From,e_44.To,e_44.Prio,e_44.Tags,e_44.Gone⟩:Entry)),r_39.2.L,r_39.2.f_at)else bif (r_19.1==2)then (dQ r_19.2 1 400).bind λr_47=>(dQ r_47.2 1 127).bind λr_50=>(r_2.1[(0+(r_15.1).toNat)]?).bind λe_53=>((r_2.1.set (0+(r_15.1).toNat) (⟨e_53.Key,e_53.Item,e_53.Version,e_53.First,e_53.Last,r_47.1,e_53.Days,e_53.Except,e_53.From,e_53.To,e_53.Prio,e_53.Tags,e_53.Gone⟩:Entry))[(0+(r_15.1).toNat)]?).bind λe_55=>some (((r_2.1.set (0+(r_15.1).toNat) (⟨e_53.Key,e_53.Item,e_53.Version,e_53.First,e_53.Last,r_47.1,e_53.Days,e_53.Except,e_53.From,e_53.To,e_53.Prio,e_53.Tags,e_53.Gone⟩:Entry)).set (0+(r_15.1).toNat) (⟨e_55.Key,e_55.Item,e_55.Version,e_55.First,e_55.Last,e_55.Every,r_50.1,e_55.Except,e_55.From,e_55.To,e_55.Prio,e_55.Tags,e_55.Gone⟩:Entry)),r_50.2.L,r_50.2.f_at)else bif (r_19.1==3)then (r_2.1[(0+(r_15.1).toNat)]?).bind λe_58=>(fE e_58.Except).bind λr_60=>(dQ r_19.2 0 4000).bind λr_64=>(jO r_60 ([r_64.1]:List Int)).bind λa_67=>(r_2.1[(0+(r_15.1).toNat)]?).bind λe_70=>some ((r_2.1.set (0+(r_15.1).toNat) (⟨e_70.Key,e_70.Item,e_70.Version,e_70.First,e_70.Last,e_70.Every,e_70.Days,a_67,e_70.From,e_70.To,e_70.Prio,e_70.Tags,e_70.Gone⟩:Entry)),r_64.2.L,r_64.2.f_at)else bif (r_19.1==4)then (dQ r_19.2 0 1439).bind λr_73=>(dQ r_73.2 0 1439).bind λr_76=>(r_2.1[(0+(r_15.1).toNat)]?).bind λe_79=>((r_2.1.set (0+(r_15.1).toNat) (⟨e_79.Key,e_79.Item,e_79.Version,e_79.First,e_79.Last,e_79.Every,e_79.Days,e_79.Except,r_73.1,e_79.To,e_79.Prio,e_79.Tags,e_79.Gone⟩:Entry))[(0+(r_15.1).toNat)]?).bind λe_81=>some (((r_2.1.set (0+(r_15.1).toNat) (⟨e_79.Key,e_79.Item,e_79.Version,e_79.First,e_79.Last,e_79.Every,e_79.Days,e_79.Except,r_73.1,e_79.To,e_79.Prio,e_79.Tags,e_79.Gone⟩:Entry)).set (0+(r_15.1).toNat) (⟨e_81.Key,e_81.Item,e_81.Version,e_81.First,e_81.Last,e_81.Every,e_81.Days,e_81.Except,e_81.From,r_76.1,e_81.Prio,e_81.Tags,e_81.Gone⟩:Entry)),r_76.2.L,r_76.2.f_at)else (bW r_19.2 3).bind λr_83=>(idx ([([(⟨#[109,97,108,108]⟩:ByteArray),(⟨#[99,105,116,121]⟩:ByteArray)]:List ByteArray),([(⟨#[]⟩:ByteArray)]:List ByteArray),([(⟨#[97]⟩:ByteArray),(⟨#[97]⟩:ByteArray)]:List ByteArray)]:List (List ByteArray)) r_83.1).bind λy_86=>(dQ r_83.2 0 9).bind λr_88=>(r_2.1[(0+(r_15.1).toNat)]?).bind λe_91=>((r_2.1.set (0+(r_15.1).toNat) (⟨e_91.Key,e_91.Item,e_91.Version,e_91.First,e_91.Last,e_91.Every,e_91.Days,e_91.Except,e_91.From,e_91.To,e_91.Prio,y_86,e_91.Gone⟩:Entry))[(0+(r_15.1).toNat)]?).bind λe_93=>some (((r_2.1.set (0+(r_15.1).toNat) (⟨e_91.Key,e_91.Item,e_91.Version,e_91.First,e_91.Last,e_91.Every,e_91.Days,e_91.Except,e_91.From,e_91.To,e_91.Prio,y_86,e_91.Gone⟩:Entry)).set (0+(r_15.1).toNat) (⟨e_93.Key,e_93.Item,e_93.Version,e_93.First,e_93.Last,e_93.Every,e_93.Days,e_93.Except,e_93.From,e_93.To,r_88.1,e_93.Tags,e_93.Gone⟩:Entry)),r_88.2.L,r_88.2.f_at)else some (r_2.1,v_6.2.1,v_6.2.2)).bind λv_12=>some (v_12.1,(⟨v_12.2.1,v_12.2.2⟩:Stream))
def strconv_Itoa (x0:Int):Option (ByteArray) :=
  E8 x0
def strings_Join (x0:(List ByteArray)) (x1:ByteArray):Option (ByteArray) :=
  Fs x0 x1
def iE (k_2:Nat) (x_4:Int) (s_7:(List ByteArray)):Option (Ctl ((List ByteArray)) (Unit)) :=
  (strconv_Itoa x_4).bind λr_15=>(jO s_7 ([r_15]:List ByteArray)).bind λa_17=>some (.go a_17)
def lH (l_1:(List Int)):Option (ByteArray) :=
  (forL l_1 ([]:List ByteArray) (λk x s=>iE k x s)).bind λo_13=>thenC o_13 (λs_7=>(strings_Join s_7 (⟨#[32]⟩:ByteArray)).bind λr_20=>some r_20) (λ_=>none)
def ny (l_1:(List ByteArray)):Option (ByteArray) :=
  bif ((l_1.length:Int)==0)then some (⟨#[45]⟩:ByteArray)else (strings_Join l_1 (⟨#[44]⟩:ByteArray)).bind λr_3=>some r_3
def jF (k_3:Nat) (x_5:Int) (s_8:(List ByteArray)):Option (Ctl ((List ByteArray)) (Unit)) :=
  (strconv_Itoa x_5).bind λr_16=>(jO s_8 ([r_16]:List ByteArray)).bind λa_18=>some (.go a_18)
def dZ (e_1:Entry):Option (ByteArray) :=
  (forL e_1.Except ([]:List ByteArray) (λk x s=>jF k x s)).bind λo_14=>thenC o_14 (λs_8=>(bif e_1.Gone then some (⟨#[103,111,110,101]⟩:ByteArray)else some (⟨#[111,110]⟩:ByteArray)).bind λv_21=>(lH ([e_1.Version,e_1.First,e_1.Last,e_1.Every,e_1.Days,e_1.From,e_1.To,e_1.Prio]:List Int)).bind λr_24=>(ny s_8).bind λr_26=>(ny e_1.Tags).bind λr_28=>(strings_Join ([e_1.Key,e_1.Item,r_24,v_21,r_26,r_28]:List ByteArray) (⟨#[32]⟩:ByteArray)).bind λr_30=>some r_30) (λ_=>none)
def fG (k_2:Nat) (x_4:Entry) (s_7:ByteArray):Option (Ctl (ByteArray) (Unit)) :=
  (dZ x_4).bind λr_13=>(qL r_13 (⟨#[10]⟩:ByteArray)).bind λs_15=>(qL s_7 s_15).bind λs_17=>some (.go s_17)
def fC (l_1:(List Entry)):Option (ByteArray) :=
  (forL l_1 (⟨#[]⟩:ByteArray) (λk x s=>fG k x s)).bind λo_10=>thenC o_10 (λs_7=>some s_7) (λ_=>none)
def fK (s_1:Stream) (t_2:ByteArray) (withv_3:ByteArray):Option (ByteArray×Stream) :=
  (bif (sEq t_2 (⟨#[]⟩:ByteArray))then some true else some (sEq withv_3 (⟨#[]⟩:ByteArray))).bind λv_4=>bif v_4 then some (withv_3,s_1)else (bW s_1 (t_2.size:Int)).bind λr_8=>(bW r_8.2 (withv_3.size:Int)).bind λr_11=>(tO withv_3 r_11.1).bind λb_14=>(bW r_11.2 3).bind λr_16=>bif (r_16.1==0)then (kJ t_2 0 r_8.1).bind λy_20=>(qL y_20 (Utf8.encode (IntKind.i32.wrap (b_14.toNat:Int)))).bind λs_22=>(kJ t_2 (w64 (r_8.1+1)) t_2.size).bind λy_24=>(qL s_22 y_24).bind λs_26=>some (s_26,r_16.2)else bif (r_16.1==1)then (kJ t_2 0 r_8.1).bind λy_29=>(qL y_29 (Utf8.encode (IntKind.i32.wrap (b_14.toNat:Int)))).bind λs_31=>(kJ t_2 r_8.1 t_2.size).bind λy_33=>(qL s_31 y_33).bind λs_35=>some (s_35,r_16.2)else (kJ t_2 0 r_8.1).bind λy_37=>(kJ t_2 (w64 (r_8.1+1)) t_2.size).bind λy_39=>(qL y_37 y_39).bind λs_41=>some (s_41,r_16.2)
def strings_Replace (x0:ByteArray) (x1:ByteArray) (x2:ByteArray) (x3:Int):Option (ByteArray) :=
  qN x0 x1 x2 x3
def eO (k_10:Nat) (x_12:Nat) (s_15:ByteArray×(List Int)×Int):Option (Ctl (ByteArray×(List Int)×Int) (Unit)) :=
  (fK (⟨s_15.2.1,s_15.2.2⟩:Stream) s_15.1 (⟨#[32,10,48,45,57,44,101,105]⟩:ByteArray)).bind λr_20=>some (.go (r_20.1,r_20.2.L,r_20.2.f_at))
def fU (s_1:Stream):Option (ByteArray×Stream) :=
  (bC s_1).bind λr_2=>(fC r_2.1).bind λr_5=>(cZ r_2.2 ([0,0,1,2]:List Int)).bind λr_7=>(forL (List.range (r_7.1).toNat) (r_5,r_7.2.L,r_7.2.f_at) (λk x s=>eO k x s)).bind λo_18=>thenC o_18 (λs_15=>(bT (⟨s_15.2.1,s_15.2.2⟩:Stream) 20).bind λr_23=>(bif r_23.1 then (eH r_23.2 ([(⟨#[32,111,110,32]⟩:ByteArray),(⟨#[32,45,32]⟩:ByteArray),(⟨#[32,49,50,55,32]⟩:ByteArray),(⟨#[44]⟩:ByteArray)]:List ByteArray)).bind λr_29=>(eH r_29.2 ([(⟨#[32,111,102,102,32]⟩:ByteArray),(⟨#[32,45,45,32]⟩:ByteArray),(⟨#[32]⟩:ByteArray),(⟨#[44,44]⟩:ByteArray)]:List ByteArray)).bind λr_32=>(strings_Replace s_15.1 r_29.1 r_32.1 1).bind λr_35=>some (r_35,r_32.2.L,r_32.2.f_at)else some (s_15.1,r_23.2.L,r_23.2.f_at)).bind λv_26=>some (v_26.1,(⟨v_26.2.1,v_26.2.2⟩:Stream))) (λ_=>none)
def ib (s_1:ByteArray) (s_7:Int):Option (Ctl (Int) (Bool)) :=
  bif (decide (s_7<(s_1.size:Int)))then (tO s_1 s_7).bind λb_13=>(bif (decide ((b_13.toNat:Int)>=97))then bif (decide ((b_13.toNat:Int)<=122))then some false else bif (decide (s_7>0))then bif (decide ((b_13.toNat:Int)>=48))then bif (decide ((b_13.toNat:Int)<=57))then some false else bif ((b_13.toNat:Int)==45)then some false else some (!((b_13.toNat:Int)==95))else bif ((b_13.toNat:Int)==45)then some false else some (!((b_13.toNat:Int)==95))else some true else bif (decide (s_7>0))then bif (decide ((b_13.toNat:Int)>=48))then bif (decide ((b_13.toNat:Int)<=57))then some false else bif ((b_13.toNat:Int)==45)then some false else some (!((b_13.toNat:Int)==95))else bif ((b_13.toNat:Int)==45)then some false else some (!((b_13.toNat:Int)==95))else some true).bind λv_15=>bif v_15 then some (.ret false)else some (.go (w64 (s_7+1)))else some (.brk s_7)
noncomputable def jH (s_1:ByteArray):Option (Bool) :=
  (qh 0 (λs=>ib s_1 s)).bind λo_10=>thenC o_10 (λs_7=>(bif (sNe s_1 (⟨#[]⟩:ByteArray))then some (decide ((s_1.size:Int)<=40))else some false).bind λv_30=>some v_30) (λr=>some r)
def bE (n_1:Int) (low_2:Int) (high_3:Int):Option (Bool) :=
  (bif (decide (n_1<low_2))then some true else some (decide (n_1>high_3))).bind λv_4=>some v_4
def oL (n_1:Int):Option (Bool) :=
  (bif (decide (n_1>=0))then some (decide (n_1<=4000))else some false).bind λv_2=>some v_2
def fM (l_1:(List Int)) (k_3:Nat) (x_5:Int) (s_8:Unit):Option (Ctl (Unit) (Int)) :=
  (oL x_5).bind λr_13=>bif (!r_13)then some (.ret 1)else (bif (decide ((k_3:Int)>0))then (idx l_1 (w64 ((k_3:Int)-1))).bind λy_19=>some (decide (x_5<=y_19))else some false).bind λv_16=>bif v_16 then some (.ret 7)else some (.go ())
def eu (l_1:(List Int)):Option (Int) :=
  bif (decide ((l_1.length:Int)>100))then some 2 else (forL l_1 () (λk x s=>fM l_1 k x s)).bind λo_11=>thenC o_11 (λs_8=>some 0) (λr=>some r)
noncomputable def eZ (l_1:(List ByteArray)) (k_2:Nat) (x_4:ByteArray) (s_7:Unit):Option (Ctl (Unit) (Int)) :=
  (jH x_4).bind λr_12=>bif (!r_12)then some (.ret 5)else (bif (decide ((k_2:Int)>0))then (idx l_1 (w64 ((k_2:Int)-1))).bind λy_18=>some (sLe x_4 y_18)else some false).bind λv_15=>bif v_15 then some (.ret 7)else some (.go ())
noncomputable def gW (l_1:(List ByteArray)):Option (Int) :=
  (forL l_1 () (λk x s=>eZ l_1 k x s)).bind λo_10=>thenC o_10 (λs_7=>some 0) (λr=>some r)
noncomputable def d9 (l_1:(List ByteArray)):Option (Int) :=
  bif (decide ((l_1.length:Int)>20))then some 2 else (gW l_1).bind λr_3=>some r_3
noncomputable def dW (e_1:Entry):Option (Int) :=
  ((jH e_1.Key).bind λr_5=>bif (!r_5)then some true else (jH e_1.Item).bind λr_8=>some (!r_8)).bind λv_3=>bif v_3 then some 5 else ((bE e_1.Version 0 1000000).bind λr_13=>bif r_13 then some true else (bE e_1.First 0 e_1.Last).bind λr_16=>bif r_16 then some true else bif (decide (e_1.Last>4000))then some true else (bE e_1.Every 1 400).bind λr_20=>bif r_20 then some true else (bE e_1.Days 1 127).bind λr_23=>some r_23).bind λv_11=>bif v_11 then some 1 else (eu e_1.Except).bind λr_26=>bif (r_26 != 0)then some r_26 else ((bE e_1.From 0 1439).bind λr_31=>bif r_31 then some true else (bE e_1.To 0 1439).bind λr_34=>bif r_34 then some true else (bE e_1.Prio 0 9).bind λr_37=>some r_37).bind λv_29=>bif v_29 then some 1 else (d9 e_1.Tags).bind λr_40=>some r_40
noncomputable def dD (l_1:(List Entry)) (k_3:Nat) (x_5:Entry) (s_8:Unit):Option (Ctl (Unit) (Int)) :=
  (dW x_5).bind λr_14=>bif (r_14 != 0)then some (.ret r_14)else (bif (decide ((k_3:Int)>0))then (idx l_1 (w64 ((k_3:Int)-1))).bind λy_20=>some (sLe x_5.Key y_20.Key)else some false).bind λv_17=>bif v_17 then some (.ret 7)else some (.go ())
noncomputable def aX (l_1:(List Entry)):Option (Int) :=
  bif (decide ((l_1.length:Int)>200))then some 2 else (forL l_1 () (λk x s=>dD l_1 k x s)).bind λo_11=>thenC o_11 (λs_8=>some 0) (λr=>some r)
def fP (l_1:(List ByteArray)):Option (ByteArray) :=
  bif ((l_1.length:Int)==0)then some (⟨#[45]⟩:ByteArray)else (strings_Join l_1 (⟨#[44]⟩:ByteArray)).bind λr_3=>some r_3
def gH (k_4:Nat) (x_6:Int) (s_9:(List ByteArray)):Option (Ctl ((List ByteArray)) (Unit)) :=
  (strconv_Itoa x_6).bind λr_16=>(jO s_9 ([r_16]:List ByteArray)).bind λa_18=>some (.go a_18)
def gJ (k_24:Nat) (x_26:Int) (s_29:(List ByteArray)):Option (Ctl ((List ByteArray)) (Unit)) :=
  (strconv_Itoa x_26).bind λr_37=>(jO s_29 ([r_37]:List ByteArray)).bind λa_39=>some (.go a_39)
def dz (e_1:Entry):Option (ByteArray) :=
  (forL ([e_1.Version,e_1.First,e_1.Last,e_1.Every,e_1.Days,e_1.From,e_1.To,e_1.Prio]:List Int) ([e_1.Key,e_1.Item]:List ByteArray) (λk x s=>gH k x s)).bind λo_14=>thenC o_14 (λs_9=>(bif e_1.Gone then some (⟨#[103,111,110,101]⟩:ByteArray)else some (⟨#[111,110]⟩:ByteArray)).bind λv_21=>(forL e_1.Except ([]:List ByteArray) (λk x s=>gJ k x s)).bind λo_35=>thenC o_35 (λs_29=>(fP s_29).bind λr_42=>(fP e_1.Tags).bind λr_44=>(jO s_9 ([v_21,r_42,r_44]:List ByteArray)).bind λa_46=>(neL a_46).bind λ_=>(strings_Join a_46 (⟨#[32]⟩:ByteArray)).bind λr_50=>(qL r_50 (⟨#[10]⟩:ByteArray)).bind λs_52=>some s_52) (λ_=>none)) (λ_=>none)
def gp (k_7:Nat) (x_9:Entry) (s_12:(List Int)):Option (Ctl ((List Int)) (Unit)) :=
  (dz x_9).bind λr_20=>(Ig s_12 r_20).bind λa_22=>some (.go a_22)
noncomputable def fV (l_1:(List Entry)):Option (ByteArray×Int) :=
  (aX l_1).bind λr_2=>bif (r_2 != 0)then some ((⟨#[]⟩:ByteArray),r_2)else (forL l_1 ([]:List Int) (λk x s=>gp k x s)).bind λo_17=>thenC o_17 (λs_12=>bif (decide ((s_12.length:Int)>200000))then some ((⟨#[]⟩:ByteArray),2)else (wy s_12).bind λs_26=>some (s_26,0)) (λ_=>none)
def kI (n_1:Int) (low_2:Int) (high_3:Int):Option (Bool) :=
  (bif (decide (low_2<=n_1))then some (decide (n_1<=high_3))else some false).bind λv_4=>some v_4
def cO (s_1:ByteArray) (c_2:Int):Option (Int) :=
  some (ixB s_1 c_2)
def strings_IndexByte (s_1:ByteArray) (c_2:Int):Option (Int) :=
  (cO s_1 c_2).bind λr_3=>some r_3
def kv (s_1:ByteArray) (somev_2:ByteArray) (k_3:Nat) (x_5:Nat) (s_8:Unit):Option (Ctl (Unit) (Bool)) :=
  (tO s_1 (k_3:Int)).bind λb_13=>(strings_IndexByte somev_2 (b_13.toNat:Int)).bind λr_15=>bif (decide (r_15<0))then some (.ret false)else some (.go ())
def lI (s_1:ByteArray) (somev_2:ByteArray):Option (Bool) :=
  (forL (List.range ((s_1.size:Int)).toNat) () (λk x s=>kv s_1 somev_2 k x s)).bind λo_11=>thenC o_11 (λs_8=>some true) (λr=>some r)
def pF (s_1:ByteArray):Option (Bool) :=
  ((kI (s_1.size:Int) 1 40).bind λr_4=>bif r_4 then (kJ s_1 0 1).bind λy_7=>(lI y_7 (⟨#[97,98,99,100,101,102,103,104,105,106,107,108,109,110,111,112,113,114,115,116,117,118,119,120,121,122]⟩:ByteArray)).bind λr_9=>bif r_9 then (lI s_1 (⟨#[97,98,99,100,101,102,103,104,105,106,107,108,109,110,111,112,113,114,115,116,117,118,119,120,121,122,48,49,50,51,52,53,54,55,56,57,45,95]⟩:ByteArray)).bind λr_12=>some r_12 else some false else some false).bind λv_2=>some v_2
def iQ (l_1:(List ByteArray)) (k_2:Nat) (x_4:ByteArray) (s_7:Unit):Option (Ctl (Unit) (Int)) :=
  (pF x_4).bind λr_12=>bif (!r_12)then some (.ret 5)else (bif (decide ((k_2:Int)>0))then (idx l_1 (w64 ((k_2:Int)-1))).bind λy_18=>some (sLe x_4 y_18)else some false).bind λv_15=>bif v_15 then some (.ret 7)else some (.go ())
def jS (l_1:(List ByteArray)):Option (Int) :=
  (forL l_1 () (λk x s=>iQ l_1 k x s)).bind λo_10=>thenC o_10 (λs_7=>some 0) (λr=>some r)
def jN (l_1:(List ByteArray)):Option (Int) :=
  bif (decide ((l_1.length:Int)>20))then some 2 else (jS l_1).bind λr_3=>some r_3
def je (e_1:Entry) (k_27:Nat) (x_29:Int) (s_32:Unit):Option (Ctl (Unit) (Int)) :=
  (kI x_29 0 4000).bind λr_37=>bif (!r_37)then some (.ret 1)else (bif (decide ((k_27:Int)>0))then (idx e_1.Except (w64 ((k_27:Int)-1))).bind λy_43=>some (decide (x_29<=y_43))else some false).bind λv_40=>bif v_40 then some (.ret 7)else some (.go ())
def jw (e_1:Entry):Option (Int) :=
  ((pF e_1.Key).bind λr_5=>bif (!r_5)then some true else (pF e_1.Item).bind λr_8=>some (!r_8)).bind λv_3=>bif v_3 then some 5 else ((kI e_1.Version 0 1000000).bind λr_13=>bif (!r_13)then some true else (kI e_1.First 0 e_1.Last).bind λr_16=>bif (!r_16)then some true else bif (decide (e_1.Last>4000))then some true else (kI e_1.Every 1 400).bind λr_20=>bif (!r_20)then some true else (kI e_1.Days 1 127).bind λr_23=>some (!r_23)).bind λv_11=>bif v_11 then some 1 else bif (decide ((e_1.Except.length:Int)>100))then some 2 else (forL e_1.Except () (λk x s=>je e_1 k x s)).bind λo_35=>thenC o_35 (λs_32=>((kI e_1.From 0 1439).bind λr_48=>bif (!r_48)then some true else (kI e_1.To 0 1439).bind λr_51=>bif (!r_51)then some true else (kI e_1.Prio 0 9).bind λr_54=>some (!r_54)).bind λv_46=>bif v_46 then some 1 else (jN e_1.Tags).bind λr_57=>some r_57) (λr=>some r)
def eY (k_3:Nat) (x_5:Entry) (s_8:ByteArray):Option (Ctl (ByteArray) (Int)) :=
  (jw x_5).bind λr_14=>bif (r_14 != 0)then some (.ret r_14)else bif (sLe x_5.Key s_8)then some (.ret 7)else some (.go x_5.Key)
def fq (l_1:(List Entry)):Option (Int) :=
  bif (decide ((l_1.length:Int)>200))then some 2 else (forL l_1 (⟨#[]⟩:ByteArray) (λk x s=>eY k x s)).bind λo_11=>thenC o_11 (λs_8=>some 0) (λr=>some r)
def strings_Split (x0:ByteArray) (x1:ByteArray):Option ((List ByteArray)) :=
  yR x0 x1
def rM (s_1:ByteArray):Option ((List ByteArray)×Bool) :=
  (strings_Split s_1 (⟨#[10]⟩:ByteArray)).bind λr_2=>(idx r_2 (w64 ((r_2.length:Int)-1))).bind λy_4=>bif (sEq y_4 (⟨#[]⟩:ByteArray))then (vz r_2 0 (w64 ((r_2.length:Int)-1))).bind λy_7=>some (y_7,true)else some (r_2,false)
def dx (v_2:ByteArray) (k_3:Nat) (x_5:ByteArray) (s_8:Unit):Option (Ctl (Unit) (Int)) :=
  bif (sEq v_2 x_5)then some (.ret (k_3:Int))else some (.go ())
def eQ (s_1:(List ByteArray)) (v_2:ByteArray):Option (Int) :=
  (forL s_1 () (λk x s=>dx v_2 k x s)).bind λo_11=>thenC o_11 (λs_8=>some (-1)) (λr=>some r)
def bu (s_1:(List ByteArray)) (v_2:ByteArray):Option (Bool) :=
  (eQ s_1 v_2).bind λr_3=>some (decide (r_3>=0))
def mJ (s_1:ByteArray):Option ((List ByteArray)×Bool) :=
  (strings_Split s_1 (⟨#[32]⟩:ByteArray)).bind λr_2=>(bu r_2 (⟨#[]⟩:ByteArray)).bind λr_4=>some (r_2,(!r_4))
def dh (s_1:ByteArray) (prefixv_2:ByteArray):Option (Bool) :=
  (bif (decide ((s_1.size:Int)>=(prefixv_2.size:Int)))then (kJ s_1 0 (prefixv_2.size:Int)).bind λy_6=>some (sEq y_6 prefixv_2)else some false).bind λv_3=>some v_3
def cz (s_1:ByteArray) (prefixv_2:ByteArray):Option (ByteArray) :=
  (dh s_1 prefixv_2).bind λr_3=>bif r_3 then (kJ s_1 (prefixv_2.size:Int) s_1.size).bind λy_6=>some y_6 else some s_1
def strings_TrimPrefix (s_1:ByteArray) (prefixv_2:ByteArray):Option (ByteArray) :=
  (cz s_1 prefixv_2).bind λr_3=>some r_3
def strconv_Atoi (x0:ByteArray):Option (Int) :=
  xY x0
def fw (r_3:ByteArray) (s_18:Int):Option (Ctl (Int) (Int×Bool)) :=
  bif (decide (s_18<(r_3.size:Int)))then ((tO r_3 s_18).bind λb_26=>bif (decide ((b_26.toNat:Int)<48))then some true else (tO r_3 s_18).bind λb_29=>some (decide ((b_29.toNat:Int)>57))).bind λv_24=>bif v_24 then some (.ret (0,false))else some (.go (w64 (s_18+1)))else some (.brk s_18)
noncomputable def jU (s_1:ByteArray) (most_2:Int):Option (Int×Bool) :=
  (strings_TrimPrefix s_1 (⟨#[45]⟩:ByteArray)).bind λr_3=>(bif (sEq r_3 (⟨#[]⟩:ByteArray))then some true else bif (decide ((r_3.size:Int)>most_2))then some true else (tO r_3 0).bind λb_9=>bif ((b_9.toNat:Int)==48)then some (sNe s_1 (⟨#[48]⟩:ByteArray))else some false).bind λv_5=>bif v_5 then some (0,false)else (qh 0 (λs=>fw r_3 s)).bind λo_21=>thenC o_21 (λs_18=>(strconv_Atoi s_1).bind λr_32=>some (r_32,true)) (λr=>some r)
noncomputable def kT (s_1:ByteArray):Option (Int×Bool) :=
  (jU s_1 9).bind λr_2=>some (r_2.1,r_2.2)
noncomputable def bR (k_2:Nat) (x_4:ByteArray) (s_7:(List Int)):Option (Ctl ((List Int)) ((List Int)×Bool)) :=
  (kT x_4).bind λr_15=>bif (!r_15.2)then some (.ret (([]:(List Int)),false))else (jO s_7 ([r_15.1]:List Int)).bind λa_18=>some (.go a_18)
noncomputable def iO (l_1:(List ByteArray)):Option ((List Int)×Bool) :=
  (forL l_1 ([]:List Int) (λk x s=>bR k x s)).bind λo_13=>thenC o_13 (λs_7=>some (s_7,true)) (λr=>some r)
def bS (s_1:ByteArray):Option ((List ByteArray)×Bool) :=
  bif (sEq s_1 (⟨#[45]⟩:ByteArray))then some (([]:(List ByteArray)),true)else (strings_Split s_1 (⟨#[44]⟩:ByteArray)).bind λr_3=>(bu r_3 (⟨#[]⟩:ByteArray)).bind λr_5=>some (r_3,(!r_5))
noncomputable def bX (line_1:ByteArray):Option (Entry×Bool) :=
  (mJ line_1).bind λr_3=>(bif (!r_3.2)then some true else bif ((r_3.1.length:Int) != 13)then some true else (idx r_3.1 10).bind λy_9=>bif (sNe y_9 (⟨#[111,110]⟩:ByteArray))then (idx r_3.1 10).bind λy_12=>some (sNe y_12 (⟨#[103,111,110,101]⟩:ByteArray))else some false).bind λv_5=>bif v_5 then some ((⟨(⟨#[]⟩:ByteArray),(⟨#[]⟩:ByteArray),0,0,0,0,0,([]:List Int),0,0,0,([]:List ByteArray),false⟩:Entry),false)else (vz r_3.1 2 10).bind λy_15=>(iO y_15).bind λr_17=>(idx r_3.1 11).bind λy_19=>(bS y_19).bind λr_21=>(iO r_21.1).bind λr_23=>(idx r_3.1 12).bind λy_25=>(bS y_25).bind λr_27=>(bif (!r_17.2)then some true else bif (!r_21.2)then some true else bif (!r_23.2)then some true else some (!r_27.2)).bind λv_29=>bif v_29 then some ((⟨(⟨#[]⟩:ByteArray),(⟨#[]⟩:ByteArray),0,0,0,0,0,([]:List Int),0,0,0,([]:List ByteArray),false⟩:Entry),false)else (idx r_3.1 0).bind λy_35=>(idx r_3.1 1).bind λy_37=>(idx r_17.1 0).bind λy_39=>(idx r_17.1 1).bind λy_41=>(idx r_17.1 2).bind λy_43=>(idx r_17.1 3).bind λy_45=>(idx r_17.1 4).bind λy_47=>(idx r_17.1 5).bind λy_49=>(idx r_17.1 6).bind λy_51=>(idx r_17.1 7).bind λy_53=>(idx r_3.1 10).bind λy_55=>some ((⟨y_35,y_37,y_39,y_41,y_43,y_45,y_47,r_23.1,y_49,y_51,y_53,r_27.1,(sEq y_55 (⟨#[103,111,110,101]⟩:ByteArray))⟩:Entry),true)
noncomputable def cK (r_3:(List ByteArray)×Bool) (k_5:Nat) (x_7:ByteArray) (s_10:(List Entry)):Option (Ctl ((List Entry)) ((List Entry)×Int×Int)) :=
  (bX x_7).bind λr_18=>(bif (!r_18.2)then some true else bif (!r_3.2)then some ((k_5:Int)==(w64 ((r_3.1.length:Int)-1)))else some false).bind λv_21=>bif v_21 then some (.ret (([]:(List Entry)),(k_5:Int),9))else (jO s_10 ([r_18.1]:List Entry)).bind λa_26=>some (.go a_26)
noncomputable def ja (text_1:ByteArray):Option ((List Entry)×Int×Int) :=
  bif (decide ((text_1.size:Int)>200000))then some (([]:(List Entry)),0,2)else (rM text_1).bind λr_3=>(forL r_3.1 ([]:List Entry) (λk x s=>cK r_3 k x s)).bind λo_16=>thenC o_16 (λs_10=>(aX s_10).bind λr_29=>bif (r_29 != 0)then some (([]:(List Entry)),0,r_29)else some (s_10,0,0)) (λr=>some r)
def rH (line_1:ByteArray):Option ((List ByteArray)×Bool) :=
  (strings_Split line_1 (⟨#[32]⟩:ByteArray)).bind λr_2=>(bu r_2 (⟨#[]⟩:ByteArray)).bind λr_4=>some (r_2,(!r_4))
def nG (s_1:ByteArray) (most_2:Int):Option (Int×Bool) :=
  (strings_TrimPrefix s_1 (⟨#[45]⟩:ByteArray)).bind λr_3=>(bif (sEq r_3 (⟨#[]⟩:ByteArray))then some true else bif (decide ((r_3.size:Int)>most_2))then some true else (lI r_3 (⟨#[48,49,50,51,52,53,54,55,56,57]⟩:ByteArray)).bind λr_9=>some (!r_9)).bind λv_5=>bif v_5 then some (0,false)else (strconv_Atoi s_1).bind λr_12=>((strconv_Itoa r_12).bind λr_16=>some (sEq r_16 s_1)).bind λv_14=>some (r_12,v_14)
def gq (most_2:Int) (k_3:Nat) (x_5:ByteArray) (s_8:(List Int)×Bool):Option (Ctl ((List Int)×Bool) (Unit)) :=
  (nG x_5 most_2).bind λr_16=>((jO s_8.1 ([r_16.1]:List Int)).bind λa_21=>bif s_8.2 then some (a_21,r_16.2)else some (a_21,false)).bind λv_18=>some (.go (v_18.1,v_18.2))
def iZ (l_1:(List ByteArray)) (most_2:Int):Option ((List Int)×Bool) :=
  (forL l_1 (([]:List Int),true) (λk x s=>gq most_2 k x s)).bind λo_14=>thenC o_14 (λs_8=>some (s_8.1,s_8.2)) (λ_=>none)
def kE (s_1:ByteArray):Option ((List ByteArray)×Bool) :=
  bif (sEq s_1 (⟨#[45]⟩:ByteArray))then some (([]:(List ByteArray)),true)else (strings_Split s_1 (⟨#[44]⟩:ByteArray)).bind λr_3=>(bu r_3 (⟨#[]⟩:ByteArray)).bind λr_5=>some (r_3,(!r_5))
def eU (line_1:ByteArray) (p_2:(List Entry)):Option (Bool×(List Entry)) :=
  (rH line_1).bind λr_3=>(bif (!r_3.2)then some true else bif ((r_3.1.length:Int) != 13)then some true else (idx r_3.1 10).bind λy_9=>bif (sNe y_9 (⟨#[111,110]⟩:ByteArray))then (idx r_3.1 10).bind λy_12=>some (sNe y_12 (⟨#[103,111,110,101]⟩:ByteArray))else some false).bind λv_5=>bif v_5 then some (false,p_2)else (vz r_3.1 2 10).bind λy_15=>(iZ y_15 9).bind λr_17=>(idx r_3.1 11).bind λy_19=>(kE y_19).bind λr_21=>(iZ r_21.1 9).bind λr_23=>(idx r_3.1 12).bind λy_25=>(kE y_25).bind λr_27=>(idx r_3.1 0).bind λy_29=>(idx r_3.1 1).bind λy_31=>(idx r_17.1 0).bind λy_33=>(idx r_17.1 1).bind λy_35=>(idx r_17.1 2).bind λy_37=>(idx r_17.1 3).bind λy_39=>(idx r_17.1 4).bind λy_41=>(idx r_17.1 5).bind λy_43=>(idx r_17.1 6).bind λy_45=>(idx r_17.1 7).bind λy_47=>(idx r_3.1 10).bind λy_49=>(jO p_2 ([(⟨y_29,y_31,y_33,y_35,y_37,y_39,y_41,r_23.1,y_43,y_45,y_47,r_27.1,(sEq y_49 (⟨#[103,111,110,101]⟩:ByteArray))⟩:Entry)]:List Entry)).bind λa_51=>(bif r_17.2 then bif r_21.2 then bif r_23.2 then some r_27.2 else some false else some false else some false).bind λv_54=>some (v_54,a_51)
def dK (s_1:ByteArray) (substr_2:ByteArray):Option (Int) :=
  (bif ((substr_2.size:Int)==0)then some true else some (sEq substr_2 s_1)).bind λv_3=>bif v_3 then some 0 else bif ((substr_2.size:Int)==1)then (tO substr_2 0).bind λb_8=>(cO s_1 (b_8.toNat:Int)).bind λr_10=>some r_10 else bif (decide ((substr_2.size:Int)>=(s_1.size:Int)))then some (-1)else none
def dX (s_1:ByteArray) (sep_2:ByteArray):Option (ByteArray×ByteArray×Bool) :=
  (dK s_1 sep_2).bind λr_3=>bif (decide (r_3>=0))then (kJ s_1 0 r_3).bind λy_6=>(kJ s_1 (w64 (r_3+(sep_2.size:Int))) s_1.size).bind λy_8=>some (y_6,y_8,true)else some (s_1,(⟨#[]⟩:ByteArray),false)
def strings_Cut (s_1:ByteArray) (sep_2:ByteArray):Option (ByteArray×ByteArray×Bool) :=
  (dX s_1 sep_2).bind λr_3=>some (r_3.1,r_3.2.1,r_3.2.2)
def dC (s_9:(List Entry)×ByteArray×Int):Option (Ctl ((List Entry)×ByteArray×Int) (Int×Bool×(List Entry))) :=
  bif (sNe s_9.2.1 (⟨#[]⟩:ByteArray))then (strings_Cut s_9.2.1 (⟨#[10]⟩:ByteArray)).bind λr_17=>(bif (!r_17.2.2)then some (s_9.1,true)else (eU r_17.1 s_9.1).bind λr_23=>some (r_23.2,(!r_23.1))).bind λv_19=>bif v_19.2 then some (.ret (s_9.2.2,false,v_19.1))else some (.go (v_19.1,r_17.2.1,(w64 (s_9.2.2+1))))else some (.brk (s_9.1,s_9.2.1,s_9.2.2))
noncomputable def kC (text_1:ByteArray) (take2_3:(List Entry)):Option (Int×Bool×(List Entry)) :=
  (qh (take2_3,text_1,0) (λs=>dC s)).bind λo_14=>thenC o_14 (λs_9=>some (0,true,s_9.1)) (λr=>some r)
noncomputable def fQ (text_1:ByteArray):Option ((List Entry)×Int×Int) :=
  bif (decide ((text_1.size:Int)>200000))then some (([]:(List Entry)),0,2)else (kC text_1 ([]:List Entry)).bind λr_5=>bif (!r_5.2.1)then some (([]:(List Entry)),r_5.1,9)else (fq r_5.2.2).bind λr_9=>bif (r_9 != 0)then some (([]:(List Entry)),0,r_9)else some (r_5.2.2,0,0)
def dI (s2_2:(List Int)) (k_4:Nat) (x_6:Int) (s_9:Unit):Option (Ctl (Unit) (Bool)) :=
  (idx s2_2 (k_4:Int)).bind λy_14=>bif (x_6 != y_14)then some (.ret false)else some (.go ())
def fD (s1_1:(List Int)) (s2_2:(List Int)):Option (Bool) :=
  bif ((s1_1.length:Int) != (s2_2.length:Int))then some false else (forL s1_1 () (λk x s=>dI s2_2 k x s)).bind λo_12=>thenC o_12 (λs_9=>some true) (λr=>some r)
def bL (s2_2:(List ByteArray)) (k_4:Nat) (x_6:ByteArray) (s_9:Unit):Option (Ctl (Unit) (Bool)) :=
  (idx s2_2 (k_4:Int)).bind λy_14=>bif (sNe x_6 y_14)then some (.ret false)else some (.go ())
def dP (s1_1:(List ByteArray)) (s2_2:(List ByteArray)):Option (Bool) :=
  bif ((s1_1.length:Int) != (s2_2.length:Int))then some false else (forL s1_1 () (λk x s=>bL s2_2 k x s)).bind λo_12=>thenC o_12 (λs_9=>some true) (λr=>some r)
def fA (a_1:Entry) (b_2:Entry):Option (Bool) :=
  ((dZ (⟨a_1.Key,a_1.Item,a_1.Version,a_1.First,a_1.Last,a_1.Every,a_1.Days,([]:List Int),a_1.From,a_1.To,a_1.Prio,([]:List ByteArray),a_1.Gone⟩:Entry)).bind λr_9=>(dZ (⟨b_2.Key,b_2.Item,b_2.Version,b_2.First,b_2.Last,b_2.Every,b_2.Days,([]:List Int),b_2.From,b_2.To,b_2.Prio,([]:List ByteArray),b_2.Gone⟩:Entry)).bind λr_11=>bif (sEq r_9 r_11)then (fD a_1.Except b_2.Except).bind λr_14=>bif r_14 then (dP a_1.Tags b_2.Tags).bind λr_17=>some r_17 else some false else some false).bind λv_7=>some v_7
def aI (s2_2:(List Entry)) (k_5:Nat) (x_7:Entry) (s_10:Unit):Option (Ctl (Unit) (Bool)) :=
  (idx s2_2 (k_5:Int)).bind λy_16=>(fA x_7 y_16).bind λr_19=>bif (!r_19)then some (.ret false)else some (.go ())
def aO (s1_1:(List Entry)) (s2_2:(List Entry)):Option (Bool) :=
  bif ((s1_1.length:Int) != (s2_2.length:Int))then some false else (forL s1_1 () (λk x s=>aI s2_2 k x s)).bind λo_13=>thenC o_13 (λs_10=>some true) (λr=>some r)
def gX (wv_1:Window):Option (Int) :=
  ((bE wv_1.From 0 wv_1.To).bind λr_5=>bif r_5 then some true else some (decide (wv_1.To>345686400000))).bind λv_3=>bif v_3 then some 1 else bif (decide ((w64 (wv_1.To-wv_1.From))>34560000000))then some 2 else some 0
def cmp_isNaN_int (x_1:Int):Option (Bool) :=
  some (x_1 != x_1)
def cmp_Less_int (x_1:Int) (y_2:Int):Option (Bool) :=
  ((cmp_isNaN_int x_1).bind λr_5=>bif r_5 then (cmp_isNaN_int y_2).bind λr_8=>bif (!r_8)then some true else some (decide (x_1<y_2))else some (decide (x_1<y_2))).bind λv_3=>some v_3
def fZ (x_1:Int):Option (Bool) :=
  some (x_1 != x_1)
def dU (x_1:(List Int)) (target_2:Int) (s_8:Int×Int):Option (Ctl (Int×Int) (Unit)) :=
  bif (decide (s_8.1<s_8.2))then (Em .u64 (IntKind.u64.wrap (w64 (s_8.1+s_8.2))) 1).bind λq_14=>(idx x_1 (w64 q_14)).bind λy_16=>(cmp_Less_int y_16 target_2).bind λr_18=>bif r_18 then some (.go ((w64 ((w64 q_14)+1)),s_8.2))else some (.go (s_8.1,(w64 q_14)))else some (.brk (s_8.1,s_8.2))
noncomputable def dG (x_1:(List Int)) (target_2:Int):Option (Int×Bool) :=
  (qh (0,(x_1.length:Int)) (λs=>dU x_1 target_2 s)).bind λo_11=>thenC o_11 (λs_8=>(bif (decide (s_8.1<(x_1.length:Int)))then (idx x_1 s_8.1).bind λy_24=>bif (y_24==target_2)then some true else (idx x_1 s_8.1).bind λy_27=>(fZ y_27).bind λr_29=>bif r_29 then (fZ target_2).bind λr_32=>some r_32 else some false else some false).bind λv_21=>some (s_8.1,v_21)) (λ_=>none)
noncomputable def jy (e_1:Entry) (d_2:Int):Option (Bool) :=
  ((bE d_2 e_1.First e_1.Last).bind λr_6=>bif r_6 then some true else (CU .i64 (w64 (d_2-e_1.First)) e_1.Every).bind λq_9=>bif (q_9 != 0)then some true else (Ex .i64 1 (d_2.tmod 7)).bind λq_12=>some ((y5 .i64 e_1.Days q_12)==0)).bind λv_4=>bif v_4 then some false else (dG e_1.Except d_2).bind λr_15=>some (!r_15.2)
def jR (e_1:Entry) (zone_2:Int) (d_3:Int):Option (Window) :=
  (bif (decide ((w64 (e_1.To-e_1.From))<=0))then some (w64 ((w64 (e_1.To-e_1.From))+1440))else some (w64 (e_1.To-e_1.From))).bind λv_6=>some (⟨(w64 ((w64 ((w64 ((w64 (d_3*1440))+e_1.From))-zone_2))*60000)),(w64 ((w64 ((w64 ((w64 ((w64 (d_3*1440))+e_1.From))-zone_2))*60000))+(w64 (v_6*60000))))⟩:Window)
noncomputable def ig (wv_3:Window) (zone_2:Int) (e_1:Entry) (s_15:(List Window)×Int):Option (Ctl ((List Window)×Int) (Unit)) :=
  bif (decide (s_15.2<=(Br (w64 ((w64 ((w64 (wv_3.To+(w64 (zone_2*60000)))).tdiv 86400000))+1)) e_1.Last)))then (jy e_1 s_15.2).bind λr_24=>bif (!r_24)then some (.go (s_15.1,(w64 (s_15.2+1))))else (jR e_1 zone_2 s_15.2).bind λr_27=>(bif (decide (r_27.From<wv_3.To))then some (decide (r_27.To>wv_3.From))else some false).bind λv_30=>(bif v_30 then (jO s_15.1 ([r_27]:List Window)).bind λa_37=>some a_37 else some s_15.1).bind λv_33=>some (.go (v_33,(w64 (s_15.2+1))))else some (.brk (s_15.1,s_15.2))
noncomputable def jB (e_1:Entry) (zone_2:Int) (wv_3:Window):Option ((List Window)) :=
  (bif e_1.Gone then some true else some (decide (wv_3.From>=wv_3.To))).bind λv_6=>bif v_6 then some ([]:(List Window))else (qh (([]:List Window),(zM (w64 ((w64 ((w64 (wv_3.From+(w64 (zone_2*60000)))).tdiv 86400000))-2)) e_1.First)) (λs=>ig wv_3 zone_2 e_1 s)).bind λo_21=>thenC o_21 (λs_15=>some s_15.1) (λ_=>none)
def qb (t_1:Window) (wv_2:Window):Option (Window) :=
  some (⟨(zM t_1.From wv_2.From),(Br t_1.To wv_2.To)⟩:Window)
def jf (wv_3:Window) (k_19:Nat) (x_21:Nat) (s_24:(List Window)):Option (Ctl ((List Window)) (Unit)) :=
  (inR (k_19:Int) s_24).bind λ_=>(s_24[(0+((k_19:Int)).toNat)]?).bind λe_30=>(qb e_30 wv_3).bind λr_33=>(inR (k_19:Int) s_24).bind λ_=>(s_24[(0+((k_19:Int)).toNat)]?).bind λe_36=>some (.go (s_24.set (0+((k_19:Int)).toNat) r_33))
noncomputable def jh (e_1:Entry) (zone_2:Int) (wv_3:Window):Option ((List Window)×Int) :=
  (aX ([e_1]:List Entry)).bind λr_6=>bif (r_6 != 0)then some (([]:(List Window)),r_6)else (bE zone_2 (-1440) 1440).bind λr_9=>bif r_9 then some (([]:(List Window)),1)else (gX wv_3).bind λr_12=>bif (r_12 != 0)then some (([]:(List Window)),r_12)else (jB e_1 zone_2 wv_3).bind λr_15=>(forL (List.range ((r_15.length:Int)).toNat) r_15 (λk x s=>jf wv_3 k x s)).bind λo_27=>thenC o_27 (λs_24=>some (s_24,0)) (λ_=>none)
noncomputable def mI  : Option (Bool) :=
  (jh (⟨(⟨#[97]⟩:ByteArray),(⟨#[98]⟩:ByteArray),0,0,0,1,127,([]:List Int),1,2,0,([]:List ByteArray),false⟩:Entry) 0 (⟨0,86400000⟩:Window)).bind λr_1=>(bif (r_1.2==0)then bif ((r_1.1.length:Int)==1)then (idx r_1.1 0).bind λy_7=>some (y_7.From==60000)else some false else some false).bind λv_3=>some v_3
noncomputable def kG (l_1:(List Int)):Option (Bool) :=
  (iy (⟨l_1,0⟩:Stream)).bind λr_3=>(fU r_3.2).bind λr_6=>(fV r_3.1).bind λr_9=>(fq r_3.1).bind λr_11=>(bif (r_11==0)then (fC r_3.1).bind λr_16=>some r_16 else some (⟨#[]⟩:ByteArray)).bind λv_13=>(ja r_6.1).bind λr_18=>(fQ r_6.1).bind λr_20=>(bif (r_9.2==r_11)then bif (sEq r_9.1 v_13)then (aO r_18.1 r_20.1).bind λr_26=>bif r_26 then bif (r_18.2.1==r_20.2.1)then bif (r_18.2.2==r_20.2.2)then (mI).bind λr_31=>some r_31 else some false else some false else some false else some false else some false).bind λv_22=>some v_22
end Go.Proofs.YtigdobmllbakiabGreatDoor.Law

