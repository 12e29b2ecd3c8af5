/-
  The functions of the program, as plain functions over data (written by a program of ours).
-/
import Derived.Test.YtnfedlledilojaaGreatDoorEng5
open Go Go.Eng
namespace Go.Proofs.YtnfedlledilojaaGreatDoor.Law
set_option maxRecDepth 100000
set_option linter.unusedVariables false
set_option maxHeartbeats 1000000
structure Stream where
  L:(List Int)
  f_at:Int
def Stream.enc (s:Stream):List D:=[dl eI s.L,.int .i64 s.f_at]

structure Log_ where
  Player:ByteArray
  Item:ByteArray
  No:Int
  Clock:Int
  Long:Int
  Sum:ByteArray
def Log_.enc (s:Log_):List D:=[.str s.Player,.str s.Item,.int .i64 s.No,.int .i64 s.Clock,.int .i64 s.Long,.str s.Sum]
abbrev Log_.v (s:Log_):List V:=[(vS s.Player),(vS s.Item),(vI s.No),(vI s.Clock),(vI s.Long),(vS s.Sum)]

structure Beat where
  Player:ByteArray
  At:Int
  Clock:Int
def Beat.enc (s:Beat):List D:=[.str s.Player,.int .i64 s.At,.int .i64 s.Clock]
abbrev Beat.v (s:Beat):List V:=[(vS s.Player),(vI s.At),(vI s.Clock)]

structure Beat_ where
  f_from:Int
  f_to:Int
def Beat_.enc (s:Beat_):List D:=[.int .i64 s.f_from,.int .i64 s.f_to]

def kW (x_1:Int) (n_2:Int):Option (Int) :=
  bif (decide (n_2<1))then some 0 else (Ee .i64 x_1 n_2).bind λq_4=>(bif (decide (q_4<0))then some (w64 (q_4+n_2))else some q_4).bind λv_6=>some v_6
def bg (s_1:Stream) (n_2:Int):Option (Int×Stream) :=
  bif ((s_1.L.length:Int)==0)then (kW (w64 ((w64 (s_1.f_at+1))*7919)) n_2).bind λr_4=>some (r_4,(⟨s_1.L,(w64 (s_1.f_at+1))⟩:Stream))else (Ee .i64 (w64 ((w64 (s_1.f_at+1))-1)) (s_1.L.length:Int)).bind λq_6=>(Eg .i64 (w64 ((w64 (s_1.f_at+1))-1)) (s_1.L.length:Int)).bind λq_8=>(idx s_1.L q_6).bind λy_10=>(kW y_10 1073741824).bind λr_12=>(kW (w64 (r_12+(w64 (q_8*(w64 (7919+q_6)))))) n_2).bind λr_14=>some (r_14,(⟨s_1.L,(w64 (s_1.f_at+1))⟩:Stream))
def cK (s_1:Stream) (l_2:(List Int)):Option (Int×Stream) :=
  (bg s_1 (l_2.length:Int)).bind λr_3=>(idx l_2 r_3.1).bind λy_6=>some (y_6,r_3.2)
def dS (s_1:Stream) (low_2:Int) (high_3:Int):Option (Int×Stream) :=
  bif (decide (high_3<low_2))then some (low_2,s_1)else (bg s_1 (w64 ((w64 (high_3-low_2))+1))).bind λr_5=>some ((w64 (low_2+r_5.1)),r_5.2)
def bU (s_1:Stream) (l_2:(List ByteArray)):Option (ByteArray×Stream) :=
  (bg s_1 (l_2.length:Int)).bind λr_3=>(idx l_2 r_3.1).bind λy_6=>some (y_6,r_3.2)
def strconv_Itoa (x0:Int):Option (ByteArray) :=
  CJ x0
def strings_Join (x0:(List ByteArray)) (x1:ByteArray):Option (ByteArray) :=
  CV x0 x1
def fK (k_2:Nat) (x_4:Int) (s_7:(List ByteArray)):Option (Ctl ((List ByteArray)) (Unit)) :=
  (strconv_Itoa x_4).bind λr_15=>(ut s_7 ([r_15]:List ByteArray)).bind λa_17=>some (.go a_17)
def jQ (l_1:(List Int)):Option (ByteArray) :=
  (lm l_1 ([]:List ByteArray) (λk x s=>fK k x s)).bind λo_13=>eZ o_13 (λs_7=>(strings_Join s_7 (⟨#[32]⟩:ByteArray)).bind λr_20=>some r_20) (λ_=>none)
def iT (l_1:Log_):Option (ByteArray) :=
  (gG l_1.Player (⟨#[32]⟩:ByteArray)).bind λs_3=>(gG s_3 l_1.Item).bind λs_5=>(gG s_5 (⟨#[32]⟩:ByteArray)).bind λs_7=>(jQ ([l_1.No,l_1.Clock,l_1.Long]:List Int)).bind λr_9=>(gG s_7 r_9).bind λs_11=>some s_11
def lU (k_2:Nat) (x_4:Int) (s_7:Int):Option (Ctl (Int) (Unit)) :=
  some (.go (IntKind.u64.wrap ((Ed .u64 s_7 (IntKind.u64.wrap x_4))*1099511628211)))
def iQ (k_12:Nat) (x_14:Nat) (s_17:Int×ByteArray):Option (Ctl (Int×ByteArray) (Unit)) :=
  (ik (⟨#[48,49,50,51,52,53,54,55,56,57,97,98,99,100,101,102]⟩:ByteArray) (s_17.1.tmod 16) (IntKind.u64.wrap ((s_17.1.tmod 16)+1))).bind λy_22=>(gG y_22 s_17.2).bind λs_24=>some (.go ((IntKind.u64.wrap (s_17.1.tdiv 16)),s_24))
def lL (s_1:ByteArray):Option (ByteArray) :=
  (lm (aI s_1) 14695981039346656037 (λk x s=>lU k x s)).bind λo_10=>eZ o_10 (λs_7=>(lm (List.range (16:Int).toNat) (s_7,(⟨#[]⟩:ByteArray)) (λk x s=>iQ k x s)).bind λo_20=>eZ o_20 (λs_17=>some s_17.2) (λ_=>none)) (λ_=>none)
def mO (last_1:ByteArray) (l_2:Log_):Option (ByteArray) :=
  (gG last_1 (⟨#[32]⟩:ByteArray)).bind λs_4=>(iT l_2).bind λr_6=>(gG s_4 r_6).bind λs_8=>(lL s_8).bind λr_10=>some r_10
def dB (s_1:Stream) (n_2:Int):Option (Bool×Stream) :=
  (bg s_1 n_2).bind λr_3=>some ((r_3.1==0),r_3.2)
def aZ (x_5:ByteArray) (k_22:Nat) (x_24:Nat) (s_27:(List Log_)×ByteArray×Int×(List Int)×Int):Option (Ctl ((List Log_)×ByteArray×Int×(List Int)×Int) (Unit)) :=
  (bU (⟨s_27.2.2.2.1,s_27.2.2.2.2⟩:Stream) ([(⟨#[105,97]⟩:ByteArray),(⟨#[105,98]⟩:ByteArray)]:List ByteArray)).bind λr_34=>(cK r_34.2 ([1,10,30,100]:List Int)).bind λr_37=>(mO s_27.2.1 (⟨x_5,r_34.1,(w64 ((k_22:Int)+1)),s_27.2.2.1,r_37.1,(⟨#[]⟩:ByteArray)⟩:Log_)).bind λr_41=>(cK r_37.2 ([0,5,10,50,100]:List Int)).bind λr_43=>(dB r_43.2 6).bind λr_46=>(bif (!r_46.1)then (ut s_27.1 ([(⟨x_5,r_34.1,(w64 ((k_22:Int)+1)),s_27.2.2.1,r_37.1,r_41⟩:Log_)]:List Log_)).bind λa_53=>some a_53 else some s_27.1).bind λv_49=>some (.go (v_49,r_41,(w64 (s_27.2.2.1+r_43.1)),r_46.2.L,r_46.2.f_at))
def aR (most_2:Int) (k_3:Nat) (x_5:ByteArray) (s_8:(List Log_)×(List Int)×Int):Option (Ctl ((List Log_)×(List Int)×Int) (Unit)) :=
  (cK (⟨s_8.2.1,s_8.2.2⟩:Stream) ([0,50,1000]:List Int)).bind λr_16=>(dS r_16.2 0 most_2).bind λr_19=>(lm (List.range (r_19.1).toNat) (s_8.1,(⟨#[]⟩:ByteArray),r_16.1,r_19.2.L,r_19.2.f_at) (λk x s=>aZ x_5 k x s)).bind λo_32=>eZ o_32 (λs_27=>some (.go (s_27.1,s_27.2.2.2.1,s_27.2.2.2.2))) (λ_=>none)
def bu (s_1:Stream) (most_2:Int):Option ((List Log_)×Stream) :=
  (lm ([(⟨#[112,97]⟩:ByteArray),(⟨#[112,98]⟩:ByteArray)]:List ByteArray) (([]:List Log_),s_1.L,s_1.f_at) (λk x s=>aR most_2 k x s)).bind λo_14=>eZ o_14 (λs_8=>some (s_8.1,(⟨s_8.2.1,s_8.2.2⟩:Stream))) (λ_=>none)
def fw (s_1:Stream) (low_2:Int) (high_3:Int):Option (Int×Stream) :=
  (dB s_1 12).bind λr_4=>bif r_4.1 then (cK r_4.2 ([(w64 (low_2-1)),(w64 (high_3+1)),low_2,high_3,(-1099511627776),1099511627776]:List Int)).bind λr_8=>some (r_8.1,r_8.2)else (dS r_4.2 low_2 high_3).bind λr_11=>some (r_11.1,r_11.2)
def gU (s_1:Stream) (most_2:Int):Option ((List Log_)×Stream) :=
  (bu s_1 most_2).bind λr_3=>(bif (decide ((r_3.1.length:Int)>0))then (dB r_3.2 4).bind λr_10=>some (r_10.1,r_10.2.L,r_10.2.f_at)else some (false,r_3.2.L,r_3.2.f_at)).bind λv_7=>(bif v_7.1 then (bg (⟨v_7.2.1,v_7.2.2⟩:Stream) (r_3.1.length:Int)).bind λr_16=>(inR r_16.1 r_3.1).bind λ_=>(bU r_16.2 ([(⟨#[105,97]⟩:ByteArray),(⟨#[105,99]⟩:ByteArray)]:List ByteArray)).bind λr_20=>(r_3.1[(0+(r_16.1).toNat)]?).bind λe_23=>(lL (⟨#[120]⟩:ByteArray)).bind λr_25=>(bU r_20.2 ([e_23.Sum,r_25]:List ByteArray)).bind λr_27=>(r_3.1[(0+(r_16.1).toNat)]?).bind λe_30=>((r_3.1.set (0+(r_16.1).toNat) (⟨e_30.Player,r_20.1,e_30.No,e_30.Clock,e_30.Long,e_30.Sum⟩:Log_))[(0+(r_16.1).toNat)]?).bind λe_32=>some (((r_3.1.set (0+(r_16.1).toNat) (⟨e_30.Player,r_20.1,e_30.No,e_30.Clock,e_30.Long,e_30.Sum⟩:Log_)).set (0+(r_16.1).toNat) (⟨e_32.Player,e_32.Item,e_32.No,e_32.Clock,e_32.Long,r_27.1⟩:Log_)),r_27.2.L,r_27.2.f_at)else some (r_3.1,v_7.2.1,v_7.2.2)).bind λv_13=>(bif (decide ((v_13.1.length:Int)>0))then (dB (⟨v_13.2.1,v_13.2.2⟩:Stream) 12).bind λr_37=>some (r_37.1,r_37.2.L,r_37.2.f_at)else some (false,v_13.2.1,v_13.2.2)).bind λv_34=>(bif v_34.1 then (bg (⟨v_34.2.1,v_34.2.2⟩:Stream) (v_13.1.length:Int)).bind λr_43=>(inR r_43.1 v_13.1).bind λ_=>(bg r_43.2 4).bind λr_47=>bif (r_47.1==0)then (v_13.1[(0+(r_43.1).toNat)]?).bind λe_51=>(bU r_47.2 ([e_51.Player,(⟨#[]⟩:ByteArray),(⟨#[65]⟩:ByteArray)]:List ByteArray)).bind λr_53=>(bU r_53.2 ([(⟨#[105,97]⟩:ByteArray),(⟨#[]⟩:ByteArray)]:List ByteArray)).bind λr_56=>(v_13.1[(0+(r_43.1).toNat)]?).bind λe_59=>((v_13.1.set (0+(r_43.1).toNat) (⟨r_53.1,e_59.Item,e_59.No,e_59.Clock,e_59.Long,e_59.Sum⟩:Log_))[(0+(r_43.1).toNat)]?).bind λe_61=>some (((v_13.1.set (0+(r_43.1).toNat) (⟨r_53.1,e_59.Item,e_59.No,e_59.Clock,e_59.Long,e_59.Sum⟩:Log_)).set (0+(r_43.1).toNat) (⟨e_61.Player,r_56.1,e_61.No,e_61.Clock,e_61.Long,e_61.Sum⟩:Log_)),r_56.2.L,r_56.2.f_at)else bif (r_47.1==1)then (fw r_47.2 1 1000000).bind λr_64=>(v_13.1[(0+(r_43.1).toNat)]?).bind λe_67=>some ((v_13.1.set (0+(r_43.1).toNat) (⟨e_67.Player,e_67.Item,r_64.1,e_67.Clock,e_67.Long,e_67.Sum⟩:Log_)),r_64.2.L,r_64.2.f_at)else bif (r_47.1==2)then (fw r_47.2 0 1000).bind λr_70=>(fw r_70.2 1 1000).bind λr_73=>(v_13.1[(0+(r_43.1).toNat)]?).bind λe_76=>((v_13.1.set (0+(r_43.1).toNat) (⟨e_76.Player,e_76.Item,e_76.No,r_70.1,e_76.Long,e_76.Sum⟩:Log_))[(0+(r_43.1).toNat)]?).bind λe_78=>some (((v_13.1.set (0+(r_43.1).toNat) (⟨e_76.Player,e_76.Item,e_76.No,r_70.1,e_76.Long,e_76.Sum⟩:Log_)).set (0+(r_43.1).toNat) (⟨e_78.Player,e_78.Item,e_78.No,e_78.Clock,r_73.1,e_78.Sum⟩:Log_)),r_73.2.L,r_73.2.f_at)else (bU r_47.2 ([(⟨#[]⟩:ByteArray),(⟨#[120]⟩:ByteArray),(⟨#[48,49,50,51,52,53,54,55,56,57,65,66,67,68,69,70]⟩:ByteArray),(⟨#[48,49,50,51,52,53,54,55,56,57,97,98,99,100,101]⟩:ByteArray)]:List ByteArray)).bind λr_80=>(v_13.1[(0+(r_43.1).toNat)]?).bind λe_83=>some ((v_13.1.set (0+(r_43.1).toNat) (⟨e_83.Player,e_83.Item,e_83.No,e_83.Clock,e_83.Long,r_80.1⟩:Log_)),r_80.2.L,r_80.2.f_at)else some (v_13.1,v_34.2.1,v_34.2.2)).bind λv_40=>some (v_40.1,(⟨v_40.2.1,v_40.2.2⟩:Stream))
def eO (k_2:Nat) (x_4:Log_) (s_7:ByteArray):Option (Ctl (ByteArray) (Unit)) :=
  (iT x_4).bind λr_13=>(gG r_13 (⟨#[32]⟩:ByteArray)).bind λs_15=>(gG s_15 x_4.Sum).bind λs_17=>(gG s_17 (⟨#[10]⟩:ByteArray)).bind λs_19=>(gG s_7 s_19).bind λs_21=>some (.go s_21)
def fT (l_1:(List Log_)):Option (ByteArray) :=
  (lm l_1 (⟨#[]⟩:ByteArray) (λk x s=>eO k x s)).bind λo_10=>eZ o_10 (λs_7=>some s_7) (λ_=>none)
def dN (s_1:Stream) (t_2:ByteArray) (withv_3:ByteArray):Option (ByteArray×Stream) :=
  (bif (sEq t_2 (⟨#[]⟩:ByteArray))then some true else some (sEq withv_3 (⟨#[]⟩:ByteArray))).bind λv_4=>bif v_4 then some (withv_3,s_1)else (bg s_1 (t_2.size:Int)).bind λr_8=>(bg r_8.2 (withv_3.size:Int)).bind λr_11=>(qI withv_3 r_11.1).bind λb_14=>(bg r_11.2 3).bind λr_16=>bif (r_16.1==0)then (ik t_2 0 r_8.1).bind λy_20=>(gG y_20 (Utf8.encode (IntKind.i32.wrap (b_14.toNat:Int)))).bind λs_22=>(ik t_2 (w64 (r_8.1+1)) t_2.size).bind λy_24=>(gG s_22 y_24).bind λs_26=>some (s_26,r_16.2)else bif (r_16.1==1)then (ik t_2 0 r_8.1).bind λy_29=>(gG y_29 (Utf8.encode (IntKind.i32.wrap (b_14.toNat:Int)))).bind λs_31=>(ik t_2 r_8.1 t_2.size).bind λy_33=>(gG s_31 y_33).bind λs_35=>some (s_35,r_16.2)else (ik t_2 0 r_8.1).bind λy_37=>(ik t_2 (w64 (r_8.1+1)) t_2.size).bind λy_39=>(gG y_37 y_39).bind λs_41=>some (s_41,r_16.2)
def dM (k_10:Nat) (x_12:Nat) (s_15:ByteArray×(List Int)×Int):Option (Ctl (ByteArray×(List Int)×Int) (Unit)) :=
  (dN (⟨s_15.2.1,s_15.2.2⟩:Stream) s_15.1 (⟨#[32,10,48,45,57,112,105]⟩:ByteArray)).bind λr_20=>some (.go (r_20.1,r_20.2.L,r_20.2.f_at))
def eU (s_1:Stream):Option (ByteArray×Stream) :=
  (bu s_1 2).bind λr_2=>(fT r_2.1).bind λr_5=>(cK r_2.2 ([0,0,1,2]:List Int)).bind λr_7=>(lm (List.range (r_7.1).toNat) (r_5,r_7.2.L,r_7.2.f_at) (λk x s=>dM k x s)).bind λo_18=>eZ o_18 (λs_15=>some (s_15.1,(⟨s_15.2.1,s_15.2.2⟩:Stream))) (λ_=>none)
def fP (s_1:ByteArray) (s_7:Int):Option (Ctl (Int) (Bool)) :=
  bif (decide (s_7<(s_1.size:Int)))then (qI s_1 s_7).bind λb_13=>(bif (decide ((b_13.toNat:Int)>=97))then bif (decide ((b_13.toNat:Int)<=122))then some false else bif (decide (s_7>0))then bif (decide ((b_13.toNat:Int)>=48))then bif (decide ((b_13.toNat:Int)<=57))then some false else bif ((b_13.toNat:Int)==45)then some false else some (!((b_13.toNat:Int)==95))else bif ((b_13.toNat:Int)==45)then some false else some (!((b_13.toNat:Int)==95))else some true else bif (decide (s_7>0))then bif (decide ((b_13.toNat:Int)>=48))then bif (decide ((b_13.toNat:Int)<=57))then some false else bif ((b_13.toNat:Int)==45)then some false else some (!((b_13.toNat:Int)==95))else bif ((b_13.toNat:Int)==45)then some false else some (!((b_13.toNat:Int)==95))else some true).bind λv_15=>bif v_15 then some (.ret false)else some (.go (w64 (s_7+1)))else some (.brk s_7)
noncomputable def iY (s_1:ByteArray):Option (Bool) :=
  (qh 0 (λs=>fP s_1 s)).bind λo_10=>eZ o_10 (λs_7=>(bif (sNe s_1 (⟨#[]⟩:ByteArray))then some (decide ((s_1.size:Int)<=40))else some false).bind λv_30=>some v_30) (λr=>some r)
def fq (n_1:Int) (low_2:Int) (high_3:Int):Option (Bool) :=
  (bif (decide (n_1<low_2))then some true else some (decide (n_1>high_3))).bind λv_4=>some v_4
noncomputable def gL (l_1:Log_):Option (Int) :=
  ((iY l_1.Player).bind λr_5=>bif (!r_5)then some true else (iY l_1.Item).bind λr_8=>some (!r_8)).bind λv_3=>bif v_3 then some 5 else ((fq l_1.No 1 1000000).bind λr_13=>bif r_13 then some true else (fq l_1.Clock 0 345686399999).bind λr_16=>bif r_16 then some true else (fq l_1.Long 1 86400000).bind λr_19=>some r_19).bind λv_11=>bif v_11 then some 1 else some 0
def kE (x0:ByteArray) (x1:ByteArray):Option (ByteArray) :=
  y5 x0 x1
def jg (s_1:ByteArray):Option (Bool) :=
  (bif ((s_1.size:Int)==16)then (kE s_1 (⟨#[48,49,50,51,52,53,54,55,56,57,97,98,99,100,101,102]⟩:ByteArray)).bind λr_5=>some (sEq r_5 (⟨#[]⟩:ByteArray))else some false).bind λv_2=>some v_2
def dJ (a_1:ByteArray) (b_2:ByteArray):Option (Int) :=
  some (qy a_1 b_2)
def strings_Compare (a_1:ByteArray) (b_2:ByteArray):Option (Int) :=
  (dJ a_1 b_2).bind λr_3=>some r_3
def cmp_isNaN_int (x_1:Int):Option (Bool) :=
  some (x_1 != x_1)
def cmp_Compare_int (x_1:Int) (y_2:Int):Option (Int) :=
  (cmp_isNaN_int x_1).bind λr_3=>(cmp_isNaN_int y_2).bind λr_5=>bif r_3 then bif r_5 then some 0 else some (-1)else bif r_5 then some 1 else bif (decide (x_1<y_2))then some (-1)else bif (decide (x_1>y_2))then some 1 else some 0
def jL (k_2:Nat) (x_4:Int) (s_7:Unit):Option (Ctl (Unit) (Int)) :=
  bif (x_4 != 0)then some (.ret x_4)else some (.go ())
def jH (vals_1:(List Int)):Option (Int) :=
  (lm vals_1 () (λk x s=>jL k x s)).bind λo_10=>eZ o_10 (λs_7=>some 0) (λr=>some r)
def fe (a_1:Log_) (b_2:Log_):Option (Int) :=
  (strings_Compare a_1.Player b_2.Player).bind λr_5=>(cmp_Compare_int a_1.No b_2.No).bind λr_7=>(jH ([r_5,r_7]:List Int)).bind λr_9=>some r_9
noncomputable def fU (l_1:(List Log_)) (k_3:Nat) (x_5:Log_) (s_8:Unit):Option (Ctl (Unit) (Int)) :=
  (gL x_5).bind λr_14=>bif (r_14 != 0)then some (.ret r_14)else (jg x_5.Sum).bind λr_17=>bif (!r_17)then some (.ret 3)else (bif (decide ((k_3:Int)>0))then (idx l_1 (w64 ((k_3:Int)-1))).bind λy_23=>(fe y_23 x_5).bind λr_25=>some (decide (r_25>=0))else some false).bind λv_20=>bif v_20 then some (.ret 7)else some (.go ())
noncomputable def dF (l_1:(List Log_)):Option (Int) :=
  bif (decide ((l_1.length:Int)>2000))then some 2 else (lm l_1 () (λk x s=>fU l_1 k x s)).bind λo_11=>eZ o_11 (λs_8=>some 0) (λr=>some r)
def kZ (l_1:Log_):Option (ByteArray) :=
  (gG l_1.Player (⟨#[32]⟩:ByteArray)).bind λs_3=>(gG s_3 l_1.Item).bind λs_5=>(gG s_5 (⟨#[32]⟩:ByteArray)).bind λs_7=>(strconv_Itoa l_1.No).bind λr_9=>(gG s_7 r_9).bind λs_11=>(gG s_11 (⟨#[32]⟩:ByteArray)).bind λs_13=>(strconv_Itoa l_1.Clock).bind λr_15=>(gG s_13 r_15).bind λs_17=>(gG s_17 (⟨#[32]⟩:ByteArray)).bind λs_19=>(strconv_Itoa l_1.Long).bind λr_21=>(gG s_19 r_21).bind λs_23=>some s_23
def gu (k_7:Nat) (x_9:Log_) (s_12:(List Int)):Option (Ctl ((List Int)) (Unit)) :=
  (kZ x_9).bind λr_20=>(gG r_20 (⟨#[32]⟩:ByteArray)).bind λs_22=>(gG s_22 x_9.Sum).bind λs_24=>(gG s_24 (⟨#[10]⟩:ByteArray)).bind λs_26=>(Ex s_12 s_26).bind λa_28=>some (.go a_28)
noncomputable def iL (l_1:(List Log_)):Option (ByteArray×Int) :=
  (dF l_1).bind λr_2=>bif (r_2 != 0)then some ((⟨#[]⟩:ByteArray),r_2)else (lm l_1 ([]:List Int) (λk x s=>gu k x s)).bind λo_17=>eZ o_17 (λs_12=>bif (decide ((s_12.length:Int)>200000))then some ((⟨#[]⟩:ByteArray),2)else (rR s_12).bind λs_32=>some (s_32,0)) (λ_=>none)
def nA (n_1:Int) (low_2:Int) (high_3:Int):Option (Bool) :=
  (bif (decide (low_2<=n_1))then some (decide (n_1<=high_3))else some false).bind λv_4=>some v_4
def bD (s_1:ByteArray) (c_2:Int):Option (Int) :=
  some (ixB s_1 c_2)
def strings_IndexByte (s_1:ByteArray) (c_2:Int):Option (Int) :=
  (bD s_1 c_2).bind λr_3=>some r_3
def iX (s_1:ByteArray) (somev_2:ByteArray) (k_3:Nat) (x_5:Nat) (s_8:Unit):Option (Ctl (Unit) (Bool)) :=
  (qI s_1 (k_3:Int)).bind λb_13=>(strings_IndexByte somev_2 (b_13.toNat:Int)).bind λr_15=>bif (decide (r_15<0))then some (.ret false)else some (.go ())
def iw (s_1:ByteArray) (somev_2:ByteArray):Option (Bool) :=
  (lm (List.range ((s_1.size:Int)).toNat) () (λk x s=>iX s_1 somev_2 k x s)).bind λo_11=>eZ o_11 (λs_8=>some true) (λr=>some r)
def pK (s_1:ByteArray):Option (Bool) :=
  ((nA (s_1.size:Int) 1 40).bind λr_4=>bif r_4 then (ik s_1 0 1).bind λy_7=>(iw y_7 (⟨#[97,98,99,100,101,102,103,104,105,106,107,108,109,110,111,112,113,114,115,116,117,118,119,120,121,122]⟩:ByteArray)).bind λr_9=>bif r_9 then (iw s_1 (⟨#[97,98,99,100,101,102,103,104,105,106,107,108,109,110,111,112,113,114,115,116,117,118,119,120,121,122,48,49,50,51,52,53,54,55,56,57,45,95]⟩:ByteArray)).bind λr_12=>some r_12 else some false else some false).bind λv_2=>some v_2
def lu (atv_1:Int):Option (Bool) :=
  (nA atv_1 0 345686399999).bind λr_2=>some r_2
def jS (l_1:Log_):Option (Int) :=
  ((pK l_1.Player).bind λr_5=>bif (!r_5)then some true else (pK l_1.Item).bind λr_8=>some (!r_8)).bind λv_3=>bif v_3 then some 5 else ((nA l_1.No 1 1000000).bind λr_13=>bif (!r_13)then some true else (lu l_1.Clock).bind λr_16=>bif (!r_16)then some true else (nA l_1.Long 1 86400000).bind λr_19=>some (!r_19)).bind λv_11=>bif v_11 then some 1 else some 0
def lI (s_1:ByteArray):Option (Bool) :=
  (bif ((s_1.size:Int)==16)then (iw s_1 (⟨#[48,49,50,51,52,53,54,55,56,57,97,98,99,100,101,102]⟩:ByteArray)).bind λr_5=>some r_5 else some false).bind λv_2=>some v_2
def oO (n_1:Int):Option (Int) :=
  bif (decide (n_1<0))then some (-1)else bif (decide (n_1>0))then some 1 else some 0
def jl (a_1:Log_) (b_2:Log_):Option (Int) :=
  bif (sNe a_1.Player b_2.Player)then (strings_Compare a_1.Player b_2.Player).bind λr_6=>some r_6 else (oO (w64 (a_1.No-b_2.No))).bind λr_8=>some r_8
def ib (l_1:(List Log_)) (k_3:Nat) (x_5:Log_) (s_8:Unit):Option (Ctl (Unit) (Int)) :=
  (jS x_5).bind λr_14=>bif (r_14 != 0)then some (.ret r_14)else (lI x_5.Sum).bind λr_17=>bif (!r_17)then some (.ret 3)else (bif (decide ((k_3:Int)>0))then (idx l_1 (w64 ((k_3:Int)-1))).bind λy_23=>(jl y_23 x_5).bind λr_25=>some (decide (r_25>=0))else some false).bind λv_20=>bif v_20 then some (.ret 7)else some (.go ())
def fA (l_1:(List Log_)):Option (Int) :=
  bif (decide ((l_1.length:Int)>2000))then some 2 else (lm l_1 () (λk x s=>ib l_1 k x s)).bind λo_11=>eZ o_11 (λs_8=>some 0) (λr=>some r)
def strings_Split (x0:ByteArray) (x1:ByteArray):Option ((List ByteArray)) :=
  wC x0 x1
def pz (s_1:ByteArray):Option ((List ByteArray)×Bool) :=
  (strings_Split s_1 (⟨#[10]⟩:ByteArray)).bind λr_2=>(idx r_2 (w64 ((r_2.length:Int)-1))).bind λy_4=>bif (sEq y_4 (⟨#[]⟩:ByteArray))then (wh r_2 0 (w64 ((r_2.length:Int)-1))).bind λy_7=>some (y_7,true)else some (r_2,false)
def bI (v_2:ByteArray) (k_3:Nat) (x_5:ByteArray) (s_8:Unit):Option (Ctl (Unit) (Int)) :=
  bif (sEq v_2 x_5)then some (.ret (k_3:Int))else some (.go ())
def dD (s_1:(List ByteArray)) (v_2:ByteArray):Option (Int) :=
  (lm s_1 () (λk x s=>bI v_2 k x s)).bind λo_11=>eZ o_11 (λs_8=>some (-1)) (λr=>some r)
def bn (s_1:(List ByteArray)) (v_2:ByteArray):Option (Bool) :=
  (dD s_1 v_2).bind λr_3=>some (decide (r_3>=0))
def kN (s_1:ByteArray):Option ((List ByteArray)×Bool) :=
  (strings_Split s_1 (⟨#[32]⟩:ByteArray)).bind λr_2=>(bn r_2 (⟨#[]⟩:ByteArray)).bind λr_4=>some (r_2,(!r_4))
def bE (s_1:ByteArray) (prefixv_2:ByteArray):Option (Bool) :=
  (bif (decide ((s_1.size:Int)>=(prefixv_2.size:Int)))then (ik s_1 0 (prefixv_2.size:Int)).bind λy_6=>some (sEq y_6 prefixv_2)else some false).bind λv_3=>some v_3
def bA (s_1:ByteArray) (prefixv_2:ByteArray):Option (ByteArray) :=
  (bE s_1 prefixv_2).bind λr_3=>bif r_3 then (ik s_1 (prefixv_2.size:Int) s_1.size).bind λy_6=>some y_6 else some s_1
def strings_TrimPrefix (s_1:ByteArray) (prefixv_2:ByteArray):Option (ByteArray) :=
  (bA s_1 prefixv_2).bind λr_3=>some r_3
def strconv_Atoi (x0:ByteArray):Option (Int) :=
  Be x0
def dL (r_3:ByteArray) (s_18:Int):Option (Ctl (Int) (Int×Bool)) :=
  bif (decide (s_18<(r_3.size:Int)))then ((qI r_3 s_18).bind λb_26=>bif (decide ((b_26.toNat:Int)<48))then some true else (qI r_3 s_18).bind λb_29=>some (decide ((b_29.toNat:Int)>57))).bind λv_24=>bif v_24 then some (.ret (0,false))else some (.go (w64 (s_18+1)))else some (.brk s_18)
noncomputable def iM (s_1:ByteArray) (most_2:Int):Option (Int×Bool) :=
  (strings_TrimPrefix s_1 (⟨#[45]⟩:ByteArray)).bind λr_3=>(bif (sEq r_3 (⟨#[]⟩:ByteArray))then some true else bif (decide ((r_3.size:Int)>most_2))then some true else (qI r_3 0).bind λb_9=>bif ((b_9.toNat:Int)==48)then some (sNe s_1 (⟨#[48]⟩:ByteArray))else some false).bind λv_5=>bif v_5 then some (0,false)else (qh 0 (λs=>dL r_3 s)).bind λo_21=>eZ o_21 (λs_18=>(strconv_Atoi s_1).bind λr_32=>some (r_32,true)) (λr=>some r)
noncomputable def fu (s_1:ByteArray):Option (Log_×Bool) :=
  (kN s_1).bind λr_3=>(bif (!r_3.2)then some true else some ((r_3.1.length:Int) != 6)).bind λv_5=>bif v_5 then some ((⟨(⟨#[]⟩:ByteArray),(⟨#[]⟩:ByteArray),0,0,0,(⟨#[]⟩:ByteArray)⟩:Log_),false)else (idx r_3.1 2).bind λy_9=>(iM y_9 15).bind λr_11=>(idx r_3.1 3).bind λy_13=>(iM y_13 15).bind λr_15=>(idx r_3.1 4).bind λy_17=>(iM y_17 15).bind λr_19=>((idx r_3.1 0).bind λy_23=>(idx r_3.1 1).bind λy_25=>(idx r_3.1 5).bind λy_27=>bif r_11.2 then bif r_15.2 then some (r_19.2,y_23,y_25,y_27)else some (false,y_23,y_25,y_27)else some (false,y_23,y_25,y_27)).bind λv_21=>some ((⟨v_21.2.1,v_21.2.2.1,r_11.1,r_15.1,r_19.1,v_21.2.2.2⟩:Log_),v_21.1)
noncomputable def cB (r_3:(List ByteArray)×Bool) (k_5:Nat) (x_7:ByteArray) (s_10:(List Log_)):Option (Ctl ((List Log_)) ((List Log_)×Int×Int)) :=
  (fu x_7).bind λr_18=>(bif (!r_18.2)then some true else bif (!r_3.2)then some ((k_5:Int)==(w64 ((r_3.1.length:Int)-1)))else some false).bind λv_21=>bif v_21 then some (.ret (([]:(List Log_)),(k_5:Int),9))else (ut s_10 ([r_18.1]:List Log_)).bind λa_26=>some (.go a_26)
noncomputable def jC (text_1:ByteArray):Option ((List Log_)×Int×Int) :=
  bif (decide ((text_1.size:Int)>200000))then some (([]:(List Log_)),0,2)else (pz text_1).bind λr_3=>(lm r_3.1 ([]:List Log_) (λk x s=>cB r_3 k x s)).bind λo_16=>eZ o_16 (λs_10=>(dF s_10).bind λr_29=>bif (r_29 != 0)then some (([]:(List Log_)),0,r_29)else some (s_10,0,0)) (λr=>some r)
def pJ (line_1:ByteArray):Option ((List ByteArray)×Bool) :=
  (strings_Split line_1 (⟨#[32]⟩:ByteArray)).bind λr_2=>(bn r_2 (⟨#[]⟩:ByteArray)).bind λr_4=>some (r_2,(!r_4))
def jF (s_1:ByteArray) (most_2:Int):Option (Int×Bool) :=
  (strings_TrimPrefix s_1 (⟨#[45]⟩:ByteArray)).bind λr_3=>(bif (sEq r_3 (⟨#[]⟩:ByteArray))then some true else bif (decide ((r_3.size:Int)>most_2))then some true else (iw r_3 (⟨#[48,49,50,51,52,53,54,55,56,57]⟩:ByteArray)).bind λr_9=>some (!r_9)).bind λv_5=>bif v_5 then some (0,false)else (strconv_Atoi s_1).bind λr_12=>((strconv_Itoa r_12).bind λr_16=>some (sEq r_16 s_1)).bind λv_14=>some (r_12,v_14)
def fD (most_2:Int) (k_3:Nat) (x_5:ByteArray) (s_8:(List Int)×Bool):Option (Ctl ((List Int)×Bool) (Unit)) :=
  (jF x_5 most_2).bind λr_16=>((ut s_8.1 ([r_16.1]:List Int)).bind λa_21=>bif s_8.2 then some (a_21,r_16.2)else some (a_21,false)).bind λv_18=>some (.go (v_18.1,v_18.2))
def iy (l_1:(List ByteArray)) (most_2:Int):Option ((List Int)×Bool) :=
  (lm l_1 (([]:List Int),true) (λk x s=>fD most_2 k x s)).bind λo_14=>eZ o_14 (λs_8=>some (s_8.1,s_8.2)) (λ_=>none)
def fO (line_1:ByteArray) (p_2:(List Log_)):Option (Bool×(List Log_)) :=
  (pJ line_1).bind λr_3=>(bif (!r_3.2)then some true else some ((r_3.1.length:Int) != 6)).bind λv_5=>bif v_5 then some (false,p_2)else (wh r_3.1 2 5).bind λy_9=>(iy y_9 15).bind λr_11=>(idx r_3.1 0).bind λy_13=>(idx r_3.1 1).bind λy_15=>(idx r_11.1 0).bind λy_17=>(idx r_11.1 1).bind λy_19=>(idx r_11.1 2).bind λy_21=>(idx r_3.1 5).bind λy_23=>(ut p_2 ([(⟨y_13,y_15,y_17,y_19,y_21,y_23⟩:Log_)]:List Log_)).bind λa_25=>some (r_11.2,a_25)
def bT (s_1:ByteArray) (substr_2:ByteArray):Option (Int) :=
  (bif ((substr_2.size:Int)==0)then some true else some (sEq substr_2 s_1)).bind λv_3=>bif v_3 then some 0 else bif ((substr_2.size:Int)==1)then (qI substr_2 0).bind λb_8=>(bD s_1 (b_8.toNat:Int)).bind λr_10=>some r_10 else bif (decide ((substr_2.size:Int)>=(s_1.size:Int)))then some (-1)else none
def cO (s_1:ByteArray) (sep_2:ByteArray):Option (ByteArray×ByteArray×Bool) :=
  (bT s_1 sep_2).bind λr_3=>bif (decide (r_3>=0))then (ik s_1 0 r_3).bind λy_6=>(ik s_1 (w64 (r_3+(sep_2.size:Int))) s_1.size).bind λy_8=>some (y_6,y_8,true)else some (s_1,(⟨#[]⟩:ByteArray),false)
def strings_Cut (s_1:ByteArray) (sep_2:ByteArray):Option (ByteArray×ByteArray×Bool) :=
  (cO s_1 sep_2).bind λr_3=>some (r_3.1,r_3.2.1,r_3.2.2)
def bK (s_9:(List Log_)×ByteArray×Int):Option (Ctl ((List Log_)×ByteArray×Int) (Int×Bool×(List Log_))) :=
  bif (sNe s_9.2.1 (⟨#[]⟩:ByteArray))then (strings_Cut s_9.2.1 (⟨#[10]⟩:ByteArray)).bind λr_17=>(bif (!r_17.2.2)then some (s_9.1,true)else (fO r_17.1 s_9.1).bind λr_23=>some (r_23.2,(!r_23.1))).bind λv_19=>bif v_19.2 then some (.ret (s_9.2.2,false,v_19.1))else some (.go (v_19.1,r_17.2.1,(w64 (s_9.2.2+1))))else some (.brk (s_9.1,s_9.2.1,s_9.2.2))
noncomputable def jh (text_1:ByteArray) (take2_3:(List Log_)):Option (Int×Bool×(List Log_)) :=
  (qh (take2_3,text_1,0) (λs=>bK s)).bind λo_14=>eZ o_14 (λs_9=>some (0,true,s_9.1)) (λr=>some r)
noncomputable def fZ (text_1:ByteArray):Option ((List Log_)×Int×Int) :=
  bif (decide ((text_1.size:Int)>200000))then some (([]:(List Log_)),0,2)else (jh text_1 ([]:List Log_)).bind λr_5=>bif (!r_5.2.1)then some (([]:(List Log_)),r_5.1,9)else (fA r_5.2.2).bind λr_9=>bif (r_9 != 0)then some (([]:(List Log_)),0,r_9)else some (r_5.2.2,0,0)
def aY (s2_2:(List Log_)) (k_4:Nat) (x_6:Log_) (s_9:Unit):Option (Ctl (Unit) (Bool)) :=
  (idx s2_2 (k_4:Int)).bind λy_14=>bif (!((x_6.Player.toList==y_14.Player.toList)&&((x_6.Item.toList==y_14.Item.toList)&&((x_6.No==y_14.No)&&((x_6.Clock==y_14.Clock)&&((x_6.Long==y_14.Long)&&((x_6.Sum.toList==y_14.Sum.toList)&&true)))))))then some (.ret false)else some (.go ())
def bL (s1_1:(List Log_)) (s2_2:(List Log_)):Option (Bool) :=
  bif ((s1_1.length:Int) != (s2_2.length:Int))then some false else (lm s1_1 () (λk x s=>aY s2_2 k x s)).bind λo_12=>eZ o_12 (λs_9=>some true) (λr=>some r)
def dK (n_1:Int):Option (Bool) :=
  (bif (decide (n_1>=0))then some (decide (n_1<345686400000))else some false).bind λv_2=>some v_2
def ek (a_1:Beat) (b_2:Beat):Option (Int) :=
  (strings_Compare a_1.Player b_2.Player).bind λr_5=>(cmp_Compare_int a_1.At b_2.At).bind λr_7=>(jH ([r_5,r_7]:List Int)).bind λr_9=>some r_9
noncomputable def fB (l_1:(List Beat)) (k_3:Nat) (x_5:Beat) (s_8:Unit):Option (Ctl (Unit) (Int)) :=
  (iY x_5.Player).bind λr_14=>bif (!r_14)then some (.ret 5)else ((dK x_5.At).bind λr_19=>bif (!r_19)then some true else (fq x_5.Clock 0 345686399999).bind λr_22=>some r_22).bind λv_17=>bif v_17 then some (.ret 1)else (bif (decide ((k_3:Int)>0))then (idx l_1 (w64 ((k_3:Int)-1))).bind λy_28=>(ek y_28 x_5).bind λr_30=>some (decide (r_30>=0))else some false).bind λv_25=>bif v_25 then some (.ret 7)else (bif (decide ((k_3:Int)>0))then (idx l_1 (w64 ((k_3:Int)-1))).bind λy_36=>bif (sEq x_5.Player y_36.Player)then (idx l_1 (w64 ((k_3:Int)-1))).bind λy_39=>some (decide (x_5.Clock<=y_39.Clock))else some false else some false).bind λv_33=>bif v_33 then some (.ret 16)else some (.go ())
noncomputable def fJ (l_1:(List Beat)):Option (Int) :=
  bif (decide ((l_1.length:Int)>500))then some 2 else (lm l_1 () (λk x s=>fB l_1 k x s)).bind λo_11=>eZ o_11 (λs_8=>some 0) (λr=>some r)
def dY (player_2:ByteArray) (back_3:Bool) (k_4:Nat) (x_6:Beat) (s_9:(List Beat_)):Option (Ctl ((List Beat_)) (Unit)) :=
  (bif (sNe x_6.Player player_2)then some s_9 else bif back_3 then (ut s_9 ([(⟨x_6.At,x_6.Clock⟩:Beat_)]:List Beat_)).bind λa_23=>some a_23 else (ut s_9 ([(⟨x_6.Clock,x_6.At⟩:Beat_)]:List Beat_)).bind λa_26=>some a_26).bind λv_18=>some (.go v_18)
def iC (l_1:(List Beat)) (player_2:ByteArray) (back_3:Bool):Option ((List Beat_)) :=
  (lm l_1 ([]:List Beat_) (λk x s=>dY player_2 back_3 k x s)).bind λo_15=>eZ o_15 (λs_9=>some s_9) (λ_=>none)
def dE (l_1:(List Beat_)) (n_2:Int) (s_9:Int):Option (Ctl (Int) (Unit)) :=
  (bif (decide (s_9<(l_1.length:Int)))then (idx l_1 s_9).bind λy_17=>some (decide (y_17.f_from<=n_2))else some false).bind λv_14=>bif v_14 then some (.go (w64 (s_9+1)))else some (.brk s_9)
noncomputable def jr (l_1:(List Beat_)) (n_2:Int):Option (Int×Int) :=
  bif ((l_1.length:Int)==0)then some (0,8)else (qh 0 (λs=>dE l_1 n_2 s)).bind λo_12=>eZ o_12 (λs_9=>bif (s_9==0)then (idx l_1 0).bind λy_21=>(idx l_1 0).bind λy_23=>(dK (w64 (y_21.f_to-(w64 (y_23.f_from-n_2))))).bind λr_25=>bif (!r_25)then some (0,11)else some ((w64 (y_21.f_to-(w64 (y_23.f_from-n_2)))),0)else bif (s_9==(l_1.length:Int))then (idx l_1 (w64 (s_9-1))).bind λy_29=>(idx l_1 (w64 (s_9-1))).bind λy_31=>(dK (w64 ((w64 (y_29.f_to+n_2))-y_31.f_from))).bind λr_33=>bif (!r_33)then some (0,11)else some ((w64 ((w64 (y_29.f_to+n_2))-y_31.f_from)),0)else (idx l_1 (w64 (s_9-1))).bind λy_36=>(idx l_1 s_9).bind λy_38=>(bif (decide ((w64 (y_38.f_from-y_36.f_from))>2592000000))then some true else some (decide ((w64 (y_38.f_to-y_36.f_to))>2592000000))).bind λv_42=>bif v_42 then some (0,2)else (Eg .i64 (w64 ((w64 (n_2-y_36.f_from))*(w64 (y_38.f_to-y_36.f_to)))) (w64 (y_38.f_from-y_36.f_from))).bind λq_46=>(dK (w64 (y_36.f_to+q_46))).bind λr_48=>bif (!r_48)then some (0,11)else some ((w64 (y_36.f_to+q_46)),0)) (λ_=>none)
noncomputable def iU (l_1:(List Beat)) (player_2:ByteArray) (n_3:Int) (back_4:Bool):Option (Int×Int) :=
  (fJ l_1).bind λr_5=>bif (r_5 != 0)then some (0,r_5)else (iY player_2).bind λr_8=>bif (!r_8)then some (0,5)else (dK n_3).bind λr_11=>bif (!r_11)then some (0,1)else (iC l_1 player_2 back_4).bind λr_14=>(jr r_14 n_3).bind λr_16=>some (r_16.1,r_16.2)
noncomputable def ma (l_1:(List Beat)) (player_2:ByteArray) (clock_3:Int):Option (Int×Int) :=
  (iU l_1 player_2 clock_3 false).bind λr_4=>some (r_4.1,r_4.2)
noncomputable def lh  : Option (Bool) :=
  (ma ([(⟨(⟨#[112]⟩:ByteArray),0,100⟩:Beat),(⟨(⟨#[112]⟩:ByteArray),1000,1300⟩:Beat)]:List Beat) (⟨#[112]⟩:ByteArray) 700).bind λr_1=>(bif (r_1.2==0)then some (r_1.1==500)else some false).bind λv_3=>some v_3
noncomputable def kI (l_1:(List Int)):Option (Bool) :=
  (gU (⟨l_1,0⟩:Stream) 4).bind λr_3=>(eU r_3.2).bind λr_6=>(iL r_3.1).bind λr_9=>(fA r_3.1).bind λr_11=>(bif (r_11==0)then (fT r_3.1).bind λr_16=>some r_16 else some (⟨#[]⟩:ByteArray)).bind λv_13=>(jC r_6.1).bind λr_18=>(fZ r_6.1).bind λr_20=>(bif (r_9.2==r_11)then bif (sEq r_9.1 v_13)then (bL r_18.1 r_20.1).bind λr_26=>bif r_26 then bif (r_18.2.1==r_20.2.1)then bif (r_18.2.2==r_20.2.2)then (lh).bind λr_31=>some r_31 else some false else some false else some false else some false else some false).bind λv_22=>some v_22
end Go.Proofs.YtnfedlledilojaaGreatDoor.Law

