/-
  The functions of the program, as plain functions over data (written by a program of ours).
-/
import Derived.Test.YtdenjndllgahgaaGreatDoorEng5
open Go Go.Eng
namespace Go.Proofs.YtdenjndllgahgaaGreatDoor.Law
set_option maxRecDepth 100000
set_option linter.unusedVariables false
set_option maxHeartbeats 1000000
structure Stream where
  L:(List Int)
  f_at:Int
def Stream.enc (s:Stream):List D:=[dl eI s.L,.int .i64 s.f_at]

structure Log_ where
  Player:ByteArray
  Item:ByteArray
  No:Int
  Clock:Int
  Long:Int
  Sum:ByteArray
def Log_.enc (s:Log_):List D:=[.str s.Player,.str s.Item,.int .i64 s.No,.int .i64 s.Clock,.int .i64 s.Long,.str s.Sum]

structure Beat where
  Player:ByteArray
  At:Int
  Clock:Int
def Beat.enc (s:Beat):List D:=[.str s.Player,.int .i64 s.At,.int .i64 s.Clock]

structure Beat_ where
  f_from:Int
  f_to:Int
def Beat_.enc (s:Beat_):List D:=[.int .i64 s.f_from,.int .i64 s.f_to]

def lL (x_1:Int) (n_2:Int):Option (Int) :=
  bif (decide (n_2<1))then some 0 else (Di .i64 x_1 n_2).bind λq_4=>(bif (decide (q_4<0))then some (w64 (q_4+n_2))else some q_4).bind λv_6=>some v_6
def bD (s_1:Stream) (n_2:Int):Option (Int×Stream) :=
  bif ((s_1.L.length:Int)==0)then (lL (w64 ((w64 (s_1.f_at+1))*7919)) n_2).bind λr_4=>some (r_4,(⟨s_1.L,(w64 (s_1.f_at+1))⟩:Stream))else (Di .i64 (w64 ((w64 (s_1.f_at+1))-1)) (s_1.L.length:Int)).bind λq_6=>(BC .i64 (w64 ((w64 (s_1.f_at+1))-1)) (s_1.L.length:Int)).bind λq_8=>(idx s_1.L q_6).bind λy_10=>(lL y_10 1073741824).bind λr_12=>(lL (w64 (r_12+(w64 (q_8*(w64 (7919+q_6)))))) n_2).bind λr_14=>some (r_14,(⟨s_1.L,(w64 (s_1.f_at+1))⟩:Stream))
def bR (s_1:Stream) (l_2:(List Int)):Option (Int×Stream) :=
  (bD s_1 (l_2.length:Int)).bind λr_3=>(idx l_2 r_3.1).bind λy_6=>some (y_6,r_3.2)
def dU (s_1:Stream) (low_2:Int) (high_3:Int):Option (Int×Stream) :=
  bif (decide (high_3<low_2))then some (low_2,s_1)else (bD s_1 (w64 ((w64 (high_3-low_2))+1))).bind λr_5=>some ((w64 (low_2+r_5.1)),r_5.2)
def bv (s_1:Stream) (l_2:(List ByteArray)):Option (ByteArray×Stream) :=
  (bD s_1 (l_2.length:Int)).bind λr_3=>(idx l_2 r_3.1).bind λy_6=>some (y_6,r_3.2)
def strconv_Itoa (x0:Int):Option (ByteArray) :=
  BS x0
def strings_Join (x0:(List ByteArray)) (x1:ByteArray):Option (ByteArray) :=
  BQ x0 x1
def fV (k_2:Nat) (x_4:Int) (s_7:(List ByteArray)):Option (Ctl ((List ByteArray)) (Unit)) :=
  (strconv_Itoa x_4).bind λr_15=>(kV s_7 ([r_15]:List ByteArray)).bind λa_17=>some (.go a_17)
def kG (l_1:(List Int)):Option (ByteArray) :=
  (l8 l_1 ([]:List ByteArray) (λk x s=>fV k x s)).bind λo_13=>dD o_13 (λs_7=>(strings_Join s_7 (⟨#[32]⟩:ByteArray)).bind λr_20=>some r_20) (λ_=>none)
def ji (l_1:Log_):Option (ByteArray) :=
  (iI l_1.Player (⟨#[32]⟩:ByteArray)).bind λs_3=>(iI s_3 l_1.Item).bind λs_5=>(iI s_5 (⟨#[32]⟩:ByteArray)).bind λs_7=>(kG ([l_1.No,l_1.Clock,l_1.Long]:List Int)).bind λr_9=>(iI s_7 r_9).bind λs_11=>some s_11
def mE (k_2:Nat) (x_4:Int) (s_7:Int):Option (Ctl (Int) (Unit)) :=
  some (.go (IntKind.u64.wrap ((iH .u64 s_7 (IntKind.u64.wrap x_4))*1099511628211)))
def jg (k_12:Nat) (x_14:Nat) (s_17:Int×ByteArray):Option (Ctl (Int×ByteArray) (Unit)) :=
  (sU (⟨#[48,49,50,51,52,53,54,55,56,57,97,98,99,100,101,102]⟩:ByteArray) (s_17.1.tmod 16) (IntKind.u64.wrap ((s_17.1.tmod 16)+1))).bind λy_22=>(iI y_22 s_17.2).bind λs_24=>some (.go ((IntKind.u64.wrap (s_17.1.tdiv 16)),s_24))
def fU (s_1:ByteArray):Option (ByteArray) :=
  (l8 (bH s_1) 14695981039346656037 (λk x s=>mE k x s)).bind λo_10=>dD o_10 (λs_7=>(l8 (List.range (16:Int).toNat) (s_7,(⟨#[]⟩:ByteArray)) (λk x s=>jg k x s)).bind λo_20=>dD o_20 (λs_17=>some s_17.2) (λ_=>none)) (λ_=>none)
def nz (last_1:ByteArray) (l_2:Log_):Option (ByteArray) :=
  (iI last_1 (⟨#[32]⟩:ByteArray)).bind λs_4=>(ji l_2).bind λr_6=>(iI s_4 r_6).bind λs_8=>(fU s_8).bind λr_10=>some r_10
def bu (s_1:Stream) (n_2:Int):Option (Bool×Stream) :=
  (bD s_1 n_2).bind λr_3=>some ((r_3.1==0),r_3.2)
def dE (x_5:ByteArray) (k_22:Nat) (x_24:Nat) (s_27:(List Log_)×ByteArray×Int×(List Int)×Int):Option (Ctl ((List Log_)×ByteArray×Int×(List Int)×Int) (Unit)) :=
  (bv (⟨s_27.2.2.2.1,s_27.2.2.2.2⟩:Stream) ([(⟨#[105,97]⟩:ByteArray),(⟨#[105,98]⟩:ByteArray)]:List ByteArray)).bind λr_34=>(bR r_34.2 ([1,10,30,100]:List Int)).bind λr_37=>(nz s_27.2.1 (⟨x_5,r_34.1,(w64 ((k_22:Int)+1)),s_27.2.2.1,r_37.1,(⟨#[]⟩:ByteArray)⟩:Log_)).bind λr_41=>(bR r_37.2 ([0,5,10,50,100]:List Int)).bind λr_43=>(bu r_43.2 6).bind λr_46=>(bif (!r_46.1)then (kV s_27.1 ([(⟨x_5,r_34.1,(w64 ((k_22:Int)+1)),s_27.2.2.1,r_37.1,r_41⟩:Log_)]:List Log_)).bind λa_53=>some a_53 else some s_27.1).bind λv_49=>some (.go (v_49,r_41,(w64 (s_27.2.2.1+r_43.1)),r_46.2.L,r_46.2.f_at))
def bU (most_2:Int) (k_3:Nat) (x_5:ByteArray) (s_8:(List Log_)×(List Int)×Int):Option (Ctl ((List Log_)×(List Int)×Int) (Unit)) :=
  (bR (⟨s_8.2.1,s_8.2.2⟩:Stream) ([0,50,1000]:List Int)).bind λr_16=>(dU r_16.2 0 most_2).bind λr_19=>(l8 (List.range (r_19.1).toNat) (s_8.1,(⟨#[]⟩:ByteArray),r_16.1,r_19.2.L,r_19.2.f_at) (λk x s=>dE x_5 k x s)).bind λo_32=>dD o_32 (λs_27=>some (.go (s_27.1,s_27.2.2.2.1,s_27.2.2.2.2))) (λ_=>none)
def dZ (s_1:Stream) (most_2:Int):Option ((List Log_)×Stream) :=
  (l8 ([(⟨#[112,97]⟩:ByteArray),(⟨#[112,98]⟩:ByteArray)]:List ByteArray) (([]:List Log_),s_1.L,s_1.f_at) (λk x s=>bU most_2 k x s)).bind λo_14=>dD o_14 (λs_8=>some (s_8.1,(⟨s_8.2.1,s_8.2.2⟩:Stream))) (λ_=>none)
def fD (s_1:Stream) (low_2:Int) (high_3:Int):Option (Int×Stream) :=
  (bu s_1 12).bind λr_4=>bif r_4.1 then (bR r_4.2 ([(w64 (low_2-1)),(w64 (high_3+1)),low_2,high_3,(-1099511627776),1099511627776]:List Int)).bind λr_8=>some (r_8.1,r_8.2)else (dU r_4.2 low_2 high_3).bind λr_11=>some (r_11.1,r_11.2)
def gX (s_1:Stream) (most_2:Int):Option ((List Log_)×Stream) :=
  (dZ s_1 most_2).bind λr_3=>(bif (decide ((r_3.1.length:Int)>0))then (bu r_3.2 4).bind λr_10=>some (r_10.1,r_10.2.L,r_10.2.f_at)else some (false,r_3.2.L,r_3.2.f_at)).bind λv_7=>(bif v_7.1 then (bD (⟨v_7.2.1,v_7.2.2⟩:Stream) (r_3.1.length:Int)).bind λr_16=>(inR r_16.1 r_3.1).bind λ_=>(bv r_16.2 ([(⟨#[105,97]⟩:ByteArray),(⟨#[105,99]⟩:ByteArray)]:List ByteArray)).bind λr_20=>(r_3.1[(0+(r_16.1).toNat)]?).bind λe_23=>(fU (⟨#[120]⟩:ByteArray)).bind λr_25=>(bv r_20.2 ([e_23.Sum,r_25]:List ByteArray)).bind λr_27=>(r_3.1[(0+(r_16.1).toNat)]?).bind λe_30=>((r_3.1.set (0+(r_16.1).toNat) (⟨e_30.Player,r_20.1,e_30.No,e_30.Clock,e_30.Long,e_30.Sum⟩:Log_))[(0+(r_16.1).toNat)]?).bind λe_32=>some (((r_3.1.set (0+(r_16.1).toNat) (⟨e_30.Player,r_20.1,e_30.No,e_30.Clock,e_30.Long,e_30.Sum⟩:Log_)).set (0+(r_16.1).toNat) (⟨e_32.Player,e_32.Item,e_32.No,e_32.Clock,e_32.Long,r_27.1⟩:Log_)),r_27.2.L,r_27.2.f_at)else some (r_3.1,v_7.2.1,v_7.2.2)).bind λv_13=>(bif (decide ((v_13.1.length:Int)>0))then (bu (⟨v_13.2.1,v_13.2.2⟩:Stream) 12).bind λr_37=>some (r_37.1,r_37.2.L,r_37.2.f_at)else some (false,v_13.2.1,v_13.2.2)).bind λv_34=>(bif v_34.1 then (bD (⟨v_34.2.1,v_34.2.2⟩:Stream) (v_13.1.length:Int)).bind λr_43=>(inR r_43.1 v_13.1).bind λ_=>(bD r_43.2 4).bind λr_47=>bif (r_47.1==0)then (v_13.1[(0+(r_43.1).toNat)]?).bind λe_51=>(bv r_47.2 ([e_51.Player,(⟨#[]⟩:ByteArray),(⟨#[65]⟩:ByteArray)]:List ByteArray)).bind λr_53=>(bv r_53.2 ([(⟨#[105,97]⟩:ByteArray),(⟨#[]⟩:ByteArray)]:List ByteArray)).bind λr_56=>(v_13.1[(0+(r_43.1).toNat)]?).bind λe_59=>((v_13.1.set (0+(r_43.1).toNat) (⟨r_53.1,e_59.Item,e_59.No,e_59.Clock,e_59.Long,e_59.Sum⟩:Log_))[(0+(r_43.1).toNat)]?).bind λe_61=>some (((v_13.1.set (0+(r_43.1).toNat) (⟨r_53.1,e_59.Item,e_59.No,e_59.Clock,e_59.Long,e_59.Sum⟩:Log_)).set (0+(r_43.1).toNat) (⟨e_61.Player,r_56.1,e_61.No,e_61.Clock,e_61.Long,e_61.Sum⟩:Log_)),r_56.2.L,r_56.2.f_at)else bif (r_47.1==1)then (fD r_47.2 1 1000000).bind λr_64=>(v_13.1[(0+(r_43.1).toNat)]?).bind λe_67=>some ((v_13.1.set (0+(r_43.1).toNat) (⟨e_67.Player,e_67.Item,r_64.1,e_67.Clock,e_67.Long,e_67.Sum⟩:Log_)),r_64.2.L,r_64.2.f_at)else bif (r_47.1==2)then (fD r_47.2 0 1000).bind λr_70=>(fD r_70.2 1 1000).bind λr_73=>(v_13.1[(0+(r_43.1).toNat)]?).bind λe_76=>((v_13.1.set (0+(r_43.1).toNat) (⟨e_76.Player,e_76.Item,e_76.No,r_70.1,e_76.Long,e_76.Sum⟩:Log_))[(0+(r_43.1).toNat)]?).bind λe_78=>some (((v_13.1.set (0+(r_43.1).toNat) (⟨e_76.Player,e_76.Item,e_76.No,r_70.1,e_76.Long,e_76.Sum⟩:Log_)).set (0+(r_43.1).toNat) (⟨e_78.Player,e_78.Item,e_78.No,e_78.Clock,r_73.1,e_78.Sum⟩:Log_)),r_73.2.L,r_73.2.f_at)else (bv r_47.2 ([(⟨#[]⟩:ByteArray),(⟨#[120]⟩:ByteArray),(⟨#[48,49,50,51,52,53,54,55,56,57,65,66,67,68,69,70]⟩:ByteArray),(⟨#[48,49,50,51,52,53,54,55,56,57,97,98,99,100,101]⟩:ByteArray)]:List ByteArray)).bind λr_80=>(v_13.1[(0+(r_43.1).toNat)]?).bind λe_83=>some ((v_13.1.set (0+(r_43.1).toNat) (⟨e_83.Player,e_83.Item,e_83.No,e_83.Clock,e_83.Long,r_80.1⟩:Log_)),r_80.2.L,r_80.2.f_at)else some (v_13.1,v_34.2.1,v_34.2.2)).bind λv_40=>some (v_40.1,(⟨v_40.2.1,v_40.2.2⟩:Stream))
def gq (s_1:ByteArray) (s_7:Int):Option (Ctl (Int) (Bool)) :=
  bif (decide (s_7<(s_1.size:Int)))then (qN s_1 s_7).bind λb_13=>(bif (decide ((b_13.toNat:Int)>=97))then bif (decide ((b_13.toNat:Int)<=122))then some false else bif (decide (s_7>0))then bif (decide ((b_13.toNat:Int)>=48))then bif (decide ((b_13.toNat:Int)<=57))then some false else bif ((b_13.toNat:Int)==45)then some false else some (!((b_13.toNat:Int)==95))else bif ((b_13.toNat:Int)==45)then some false else some (!((b_13.toNat:Int)==95))else some true else bif (decide (s_7>0))then bif (decide ((b_13.toNat:Int)>=48))then bif (decide ((b_13.toNat:Int)<=57))then some false else bif ((b_13.toNat:Int)==45)then some false else some (!((b_13.toNat:Int)==95))else bif ((b_13.toNat:Int)==45)then some false else some (!((b_13.toNat:Int)==95))else some true).bind λv_15=>bif v_15 then some (.ret false)else some (.go (w64 (s_7+1)))else some (.brk s_7)
noncomputable def jh (s_1:ByteArray):Option (Bool) :=
  (jw 0 (λs=>gq s_1 s)).bind λo_10=>dD o_10 (λs_7=>(bif (sNe s_1 (⟨#[]⟩:ByteArray))then some (decide ((s_1.size:Int)<=40))else some false).bind λv_30=>some v_30) (λr=>some r)
def dK (n_1:Int) (low_2:Int) (high_3:Int):Option (Bool) :=
  (bif (decide (n_1<low_2))then some true else some (decide (n_1>high_3))).bind λv_4=>some v_4
noncomputable def fQ (l_1:Log_):Option (Int) :=
  ((jh l_1.Player).bind λr_5=>bif (!r_5)then some true else (jh l_1.Item).bind λr_8=>some (!r_8)).bind λv_3=>bif v_3 then some 5 else ((dK l_1.No 1 1000000).bind λr_13=>bif r_13 then some true else (dK l_1.Clock 0 345686399999).bind λr_16=>bif r_16 then some true else (dK l_1.Long 1 86400000).bind λr_19=>some r_19).bind λv_11=>bif v_11 then some 1 else some 0
def lq (x0:ByteArray) (x1:ByteArray):Option (ByteArray) :=
  yM x0 x1
def fq (s_1:ByteArray):Option (Bool) :=
  (bif ((s_1.size:Int)==16)then (lq s_1 (⟨#[48,49,50,51,52,53,54,55,56,57,97,98,99,100,101,102]⟩:ByteArray)).bind λr_5=>some (sEq r_5 (⟨#[]⟩:ByteArray))else some false).bind λv_2=>some v_2
def dM (a_1:ByteArray) (b_2:ByteArray):Option (Int) :=
  some (qP a_1 b_2)
def strings_Compare (a_1:ByteArray) (b_2:ByteArray):Option (Int) :=
  (dM a_1 b_2).bind λr_3=>some r_3
def cmp_isNaN_int (x_1:Int):Option (Bool) :=
  some (x_1 != x_1)
def cmp_Compare_int (x_1:Int) (y_2:Int):Option (Int) :=
  (cmp_isNaN_int x_1).bind λr_3=>(cmp_isNaN_int y_2).bind λr_5=>bif r_3 then bif r_5 then some 0 else some (-1)else bif r_5 then some 1 else bif (decide (x_1<y_2))then some (-1)else bif (decide (x_1>y_2))then some 1 else some 0
def ku (k_2:Nat) (x_4:Int) (s_7:Unit):Option (Ctl (Unit) (Int)) :=
  bif (x_4 != 0)then some (.ret x_4)else some (.go ())
def jZ (vals_1:(List Int)):Option (Int) :=
  (l8 vals_1 () (λk x s=>ku k x s)).bind λo_10=>dD o_10 (λs_7=>some 0) (λr=>some r)
def fw (a_1:Log_) (b_2:Log_):Option (Int) :=
  (strings_Compare a_1.Player b_2.Player).bind λr_5=>(cmp_Compare_int a_1.No b_2.No).bind λr_7=>(jZ ([r_5,r_7]:List Int)).bind λr_9=>some r_9
noncomputable def gy (l_1:(List Log_)) (k_3:Nat) (x_5:Log_) (s_8:Unit):Option (Ctl (Unit) (Int)) :=
  (fQ x_5).bind λr_14=>bif (r_14 != 0)then some (.ret r_14)else (fq x_5.Sum).bind λr_17=>bif (!r_17)then some (.ret 3)else (bif (decide ((k_3:Int)>0))then (idx l_1 (w64 ((k_3:Int)-1))).bind λy_23=>(fw y_23 x_5).bind λr_25=>some (decide (r_25>=0))else some false).bind λv_20=>bif v_20 then some (.ret 7)else some (.go ())
noncomputable def eZ (l_1:(List Log_)):Option (Int) :=
  bif (decide ((l_1.length:Int)>2000))then some 2 else (l8 l_1 () (λk x s=>gy l_1 k x s)).bind λo_11=>dD o_11 (λs_8=>some 0) (λr=>some r)
def lV (l_1:Log_):Option (ByteArray) :=
  (iI l_1.Player (⟨#[32]⟩:ByteArray)).bind λs_3=>(iI s_3 l_1.Item).bind λs_5=>(iI s_5 (⟨#[32]⟩:ByteArray)).bind λs_7=>(strconv_Itoa l_1.No).bind λr_9=>(iI s_7 r_9).bind λs_11=>(iI s_11 (⟨#[32]⟩:ByteArray)).bind λs_13=>(strconv_Itoa l_1.Clock).bind λr_15=>(iI s_13 r_15).bind λs_17=>(iI s_17 (⟨#[32]⟩:ByteArray)).bind λs_19=>(strconv_Itoa l_1.Long).bind λr_21=>(iI s_19 r_21).bind λs_23=>some s_23
def cZ (x_1:Int):Option (Bool) :=
  some ((ze .i64 x_1 (w64 (x_1-1)))==0)
def fT (x0:Int):Option (Int) :=
  tzF x0
def aO (base_3:Int) (r_22:Int) (s_29:(List Int)×Int×Int):Option (Ctl ((List Int)×Int×Int) (Unit)) :=
  bif (decide (s_29.2.1>=(IntKind.u64.wrap base_3)))then (qN (⟨#[48,49,50,51,52,53,54,55,56,57,97,98,99,100,101,102,103,104,105,106,107,108,109,110,111,112,113,114,115,116,117,118,119,120,121,122]⟩:ByteArray) (ze .u64 s_29.2.1 (IntKind.u64.wrap ((IntKind.u64.wrap base_3)-1)))).bind λb_35=>(inN (w64 (s_29.2.2-1)) 65).bind λ_=>(s_29.1[((w64 (s_29.2.2-1))).toNat]?).bind λe_38=>(EC .u64 s_29.2.1 (IntKind.u64.wrap r_22)).bind λq_40=>some (.go ((s_29.1.set ((w64 (s_29.2.2-1))).toNat (b_35.toNat:Int)),q_40,(w64 (s_29.2.2-1))))else some (.brk (s_29.1,s_29.2.1,s_29.2.2))
def dN (base_3:Int) (s_53:(List Int)×Int×Int):Option (Ctl ((List Int)×Int×Int) (Unit)) :=
  bif (decide (s_53.2.1>=(IntKind.u64.wrap base_3)))then (BC .u64 s_53.2.1 (IntKind.u64.wrap base_3)).bind λq_59=>(qN (⟨#[48,49,50,51,52,53,54,55,56,57,97,98,99,100,101,102,103,104,105,106,107,108,109,110,111,112,113,114,115,116,117,118,119,120,121,122]⟩:ByteArray) (IntKind.u64.wrap (s_53.2.1-(IntKind.u64.wrap (q_59*(IntKind.u64.wrap base_3)))))).bind λb_61=>(inN (w64 (s_53.2.2-1)) 65).bind λ_=>(s_53.1[((w64 (s_53.2.2-1))).toNat]?).bind λe_64=>some (.go ((s_53.1.set ((w64 (s_53.2.2-1))).toNat (b_61.toNat:Int)),q_59,(w64 (s_53.2.2-1))))else some (.brk (s_53.1,s_53.2.1,s_53.2.2))
noncomputable def bJ (dst_1:(List Int)) (u_2:Int) (base_3:Int) (neg_4:Bool) (append_5:Bool):Option ((List Int)×ByteArray) :=
  (bif (decide (base_3<2))then some true else bif (base_3==10)then some true else some (decide (base_3>36))).bind λv_6=>(bif v_6 then none else some ()).bind λv_10=>(bif neg_4 then some (IntKind.u64.wrap (0-u_2))else some u_2).bind λv_14=>(cZ base_3).bind λr_17=>(bif r_17 then (fT (IntKind.u64.wrap base_3)).bind λr_22=>(jw ((List.replicate 65 (0:Int)),v_14,65) (λs=>aO base_3 r_22 s)).bind λo_32=>dD o_32 (λs_29=>(qN (⟨#[48,49,50,51,52,53,54,55,56,57,97,98,99,100,101,102,103,104,105,106,107,108,109,110,111,112,113,114,115,116,117,118,119,120,121,122]⟩:ByteArray) s_29.2.1).bind λb_42=>(inN (w64 (s_29.2.2-1)) 65).bind λ_=>(s_29.1[((w64 (s_29.2.2-1))).toNat]?).bind λe_45=>some ((s_29.1.set ((w64 (s_29.2.2-1))).toNat (b_42.toNat:Int)),(w64 (s_29.2.2-1)))) (λ_=>none)else (jw ((List.replicate 65 (0:Int)),v_14,65) (λs=>dN base_3 s)).bind λo_56=>dD o_56 (λs_53=>(qN (⟨#[48,49,50,51,52,53,54,55,56,57,97,98,99,100,101,102,103,104,105,106,107,108,109,110,111,112,113,114,115,116,117,118,119,120,121,122]⟩:ByteArray) s_53.2.1).bind λb_66=>(inN (w64 (s_53.2.2-1)) 65).bind λ_=>(s_53.1[((w64 (s_53.2.2-1))).toNat]?).bind λe_69=>some ((s_53.1.set ((w64 (s_53.2.2-1))).toNat (b_66.toNat:Int)),(w64 (s_53.2.2-1)))) (λ_=>none)).bind λv_19=>(bif neg_4 then (inN (w64 (v_19.2-1)) 65).bind λ_=>(v_19.1[((w64 (v_19.2-1))).toNat]?).bind λe_76=>some ((v_19.1.set ((w64 (v_19.2-1))).toNat 45),(w64 (v_19.2-1)))else some (v_19.1,v_19.2)).bind λv_72=>bif append_5 then (zR v_72.1 65).bind λ_=>(yo v_72.1 v_72.2 (v_72.1.length:Int)).bind λ_=>none else (zR v_72.1 65).bind λ_=>(yo v_72.1 v_72.2 (v_72.1.length:Int)).bind λ_=>some (([]:(List Int)),(Go.strOfNums (yY v_72.1 ((v_72.2).toNat) (((v_72.1.length:Int)).toNat-(v_72.2).toNat))))
noncomputable def dA (i_1:Int) (base_2:Int):Option (ByteArray) :=
  bif (base_2==10)then bif (decide (i_1<100))then none else none else (bJ ([]:List Int) i_1 base_2 false false).bind λr_6=>some r_6.2
noncomputable def eP (i_1:Int) (base_2:Int):Option (ByteArray) :=
  (dA i_1 base_2).bind λr_3=>some r_3
def strings_Repeat (x0:ByteArray) (x1:Int):Option (ByteArray) :=
  uE x0 x1
def iL (s_1:ByteArray) (k_2:Nat) (x_4:Nat) (s_7:Int):Option (Ctl (Int) (Unit)) :=
  (qN s_1 (k_2:Int)).bind λb_12=>some (.go (IntKind.u64.wrap ((iH .u64 s_7 (IntKind.u64.wrap (b_12.toNat:Int)))*1099511628211)))
noncomputable def ik (s_1:ByteArray):Option (ByteArray) :=
  (l8 (List.range ((s_1.size:Int)).toNat) 14695981039346656037 (λk x s=>iL s_1 k x s)).bind λo_10=>dD o_10 (λs_7=>(eP s_7 16).bind λr_14=>(strings_Repeat (⟨#[48]⟩:ByteArray) (w64 (16-(r_14.size:Int)))).bind λr_16=>(iI r_16 r_14).bind λs_18=>some s_18) (λ_=>none)
noncomputable def jV (l_1:Log_):Option (ByteArray) :=
  (lV l_1).bind λr_3=>(iI (⟨#[108,101,97,102,32]⟩:ByteArray) r_3).bind λs_5=>(iI s_5 (⟨#[32]⟩:ByteArray)).bind λs_7=>(iI s_7 l_1.Sum).bind λs_9=>(ik s_9).bind λr_11=>some r_11
noncomputable def gH (k_2:Nat) (x_4:Log_) (s_7:(List ByteArray)):Option (Ctl ((List ByteArray)) (Unit)) :=
  (jV x_4).bind λr_16=>(kV s_7 ([r_16]:List ByteArray)).bind λa_18=>some (.go a_18)
noncomputable def iC (l_1:(List Log_)):Option ((List ByteArray)) :=
  (l8 l_1 ([]:List ByteArray) (λk x s=>gH k x s)).bind λo_13=>dD o_13 (λs_7=>some s_7) (λ_=>none)
noncomputable def gz (a_1:ByteArray) (b_2:ByteArray):Option (ByteArray) :=
  (iI (⟨#[110,111,100,101,32]⟩:ByteArray) a_1).bind λs_3=>(iI s_3 (⟨#[32]⟩:ByteArray)).bind λs_5=>(iI s_5 b_2).bind λs_7=>(ik s_7).bind λr_9=>some r_9
noncomputable def ja (l_1:(List ByteArray)) (s_7:(List ByteArray)×Int):Option (Ctl ((List ByteArray)×Int) (Unit)) :=
  bif (decide (s_7.2<(l_1.length:Int)))then (bif (decide ((w64 (s_7.2+1))<(l_1.length:Int)))then (idx l_1 s_7.2).bind λy_20=>(idx l_1 (w64 (s_7.2+1))).bind λy_22=>(gz y_20 y_22).bind λr_24=>(kV s_7.1 ([r_24]:List ByteArray)).bind λa_26=>some a_26 else (idx l_1 s_7.2).bind λy_29=>(kV s_7.1 ([y_29]:List ByteArray)).bind λa_31=>some a_31).bind λv_16=>some (.go (v_16,(w64 (s_7.2+2))))else some (.brk (s_7.1,s_7.2))
noncomputable def iB (l_1:(List ByteArray)):Option ((List ByteArray)) :=
  (jw (([]:List ByteArray),0) (λs=>ja l_1 s)).bind λo_13=>dD o_13 (λs_7=>some s_7.1) (λ_=>none)
noncomputable def fF (s_15:(List ByteArray)):Option (Ctl ((List ByteArray)) (Unit)) :=
  bif (decide ((s_15.length:Int)>1))then (iB s_15).bind λr_21=>some (.go r_21)else some (.brk s_15)
noncomputable def jP (l_1:(List Log_)):Option (ByteArray×Int) :=
  (eZ l_1).bind λr_2=>bif (r_2 != 0)then some ((⟨#[]⟩:ByteArray),r_2)else (iC l_1).bind λr_5=>bif ((r_5.length:Int)==0)then (ik (⟨#[]⟩:ByteArray)).bind λr_8=>some (r_8,0)else (jw r_5 (λs=>fF s)).bind λo_18=>dD o_18 (λs_15=>(idx s_15 0).bind λy_23=>some (y_23,0)) (λ_=>none)
def nL (n_1:Int) (low_2:Int) (high_3:Int):Option (Bool) :=
  (bif (decide (low_2<=n_1))then some (decide (n_1<=high_3))else some false).bind λv_4=>some v_4
def bX (s_1:ByteArray) (c_2:Int):Option (Int) :=
  some (ixB s_1 c_2)
def strings_IndexByte (s_1:ByteArray) (c_2:Int):Option (Int) :=
  (bX s_1 c_2).bind λr_3=>some r_3
def jk (s_1:ByteArray) (somev_2:ByteArray) (k_3:Nat) (x_5:Nat) (s_8:Unit):Option (Ctl (Unit) (Bool)) :=
  (qN s_1 (k_3:Int)).bind λb_13=>(strings_IndexByte somev_2 (b_13.toNat:Int)).bind λr_15=>bif (decide (r_15<0))then some (.ret false)else some (.go ())
def kK (s_1:ByteArray) (somev_2:ByteArray):Option (Bool) :=
  (l8 (List.range ((s_1.size:Int)).toNat) () (λk x s=>jk s_1 somev_2 k x s)).bind λo_11=>dD o_11 (λs_8=>some true) (λr=>some r)
def pM (s_1:ByteArray):Option (Bool) :=
  ((nL (s_1.size:Int) 1 40).bind λr_4=>bif r_4 then (sU s_1 0 1).bind λy_7=>(kK y_7 (⟨#[97,98,99,100,101,102,103,104,105,106,107,108,109,110,111,112,113,114,115,116,117,118,119,120,121,122]⟩:ByteArray)).bind λr_9=>bif r_9 then (kK s_1 (⟨#[97,98,99,100,101,102,103,104,105,106,107,108,109,110,111,112,113,114,115,116,117,118,119,120,121,122,48,49,50,51,52,53,54,55,56,57,45,95]⟩:ByteArray)).bind λr_12=>some r_12 else some false else some false).bind λv_2=>some v_2
def lZ (atv_1:Int):Option (Bool) :=
  (nL atv_1 0 345686399999).bind λr_2=>some r_2
def dz (l_1:Log_):Option (Int) :=
  ((pM l_1.Player).bind λr_5=>bif (!r_5)then some true else (pM l_1.Item).bind λr_8=>some (!r_8)).bind λv_3=>bif v_3 then some 5 else ((nL l_1.No 1 1000000).bind λr_13=>bif (!r_13)then some true else (lZ l_1.Clock).bind λr_16=>bif (!r_16)then some true else (nL l_1.Long 1 86400000).bind λr_19=>some (!r_19)).bind λv_11=>bif v_11 then some 1 else some 0
def bP (s_1:ByteArray):Option (Bool) :=
  (bif ((s_1.size:Int)==16)then (kK s_1 (⟨#[48,49,50,51,52,53,54,55,56,57,97,98,99,100,101,102]⟩:ByteArray)).bind λr_5=>some r_5 else some false).bind λv_2=>some v_2
def oZ (n_1:Int):Option (Int) :=
  bif (decide (n_1<0))then some (-1)else bif (decide (n_1>0))then some 1 else some 0
def jC (a_1:Log_) (b_2:Log_):Option (Int) :=
  bif (sNe a_1.Player b_2.Player)then (strings_Compare a_1.Player b_2.Player).bind λr_6=>some r_6 else (oZ (w64 (a_1.No-b_2.No))).bind λr_8=>some r_8
def iE (l_1:(List Log_)) (k_3:Nat) (x_5:Log_) (s_8:Unit):Option (Ctl (Unit) (Int)) :=
  (dz x_5).bind λr_14=>bif (r_14 != 0)then some (.ret r_14)else (bP x_5.Sum).bind λr_17=>bif (!r_17)then some (.ret 3)else (bif (decide ((k_3:Int)>0))then (idx l_1 (w64 ((k_3:Int)-1))).bind λy_23=>(jC y_23 x_5).bind λr_25=>some (decide (r_25>=0))else some false).bind λv_20=>bif v_20 then some (.ret 7)else some (.go ())
def iW (l_1:(List Log_)):Option (Int) :=
  bif (decide ((l_1.length:Int)>2000))then some 2 else (l8 l_1 () (λk x s=>iE l_1 k x s)).bind λo_11=>dD o_11 (λs_8=>some 0) (λr=>some r)
def mZ (l_1:Log_):Option (ByteArray) :=
  (ji l_1).bind λr_3=>(iI (⟨#[108,101,97,102,32]⟩:ByteArray) r_3).bind λs_5=>(iI s_5 (⟨#[32]⟩:ByteArray)).bind λs_7=>(iI s_7 l_1.Sum).bind λs_9=>(fU s_9).bind λr_11=>some r_11
def iT (k_2:Nat) (x_4:Log_) (s_7:(List ByteArray)):Option (Ctl ((List ByteArray)) (Unit)) :=
  (mZ x_4).bind λr_16=>(kV s_7 ([r_16]:List ByteArray)).bind λa_18=>some (.go a_18)
def jO (l_1:(List Log_)):Option ((List ByteArray)) :=
  (l8 l_1 ([]:List ByteArray) (λk x s=>iT k x s)).bind λo_13=>dD o_13 (λs_7=>some s_7) (λ_=>none)
def jy (a_1:ByteArray) (b_2:ByteArray):Option (ByteArray) :=
  (iI (⟨#[110,111,100,101,32]⟩:ByteArray) a_1).bind λs_3=>(iI s_3 (⟨#[32]⟩:ByteArray)).bind λs_5=>(iI s_5 b_2).bind λs_7=>(fU s_7).bind λr_9=>some r_9
def kD (l_1:(List ByteArray)) (s_7:(List ByteArray)×Int):Option (Ctl ((List ByteArray)×Int) (Unit)) :=
  bif (decide (s_7.2<(l_1.length:Int)))then (bif (decide ((w64 (s_7.2+1))<(l_1.length:Int)))then (idx l_1 s_7.2).bind λy_20=>(idx l_1 (w64 (s_7.2+1))).bind λy_22=>(jy y_20 y_22).bind λr_24=>(kV s_7.1 ([r_24]:List ByteArray)).bind λa_26=>some a_26 else (idx l_1 s_7.2).bind λy_29=>(kV s_7.1 ([y_29]:List ByteArray)).bind λa_31=>some a_31).bind λv_16=>some (.go (v_16,(w64 (s_7.2+2))))else some (.brk (s_7.1,s_7.2))
noncomputable def jM (l_1:(List ByteArray)):Option ((List ByteArray)) :=
  (jw (([]:List ByteArray),0) (λs=>kD l_1 s)).bind λo_13=>dD o_13 (λs_7=>some s_7.1) (λ_=>none)
noncomputable def fE (s_12:(List ByteArray)):Option (Ctl ((List ByteArray)) (Unit)) :=
  bif (decide ((s_12.length:Int)>1))then (jM s_12).bind λr_18=>some (.go r_18)else some (.brk s_12)
noncomputable def j6 (l_1:(List Log_)):Option (ByteArray) :=
  bif ((l_1.length:Int)==0)then (fU (⟨#[]⟩:ByteArray)).bind λr_3=>some r_3 else (jO l_1).bind λr_5=>(jw r_5 (λs=>fE s)).bind λo_15=>dD o_15 (λs_12=>(idx s_12 0).bind λy_20=>some y_20) (λ_=>none)
noncomputable def eB (s_16:(List ByteArray)×Int×(List ByteArray)):Option (Ctl ((List ByteArray)×Int×(List ByteArray)) (Unit)) :=
  bif (decide ((s_16.2.2.length:Int)>1))then (bif (decide ((iH .i64 s_16.2.1 1)<(s_16.2.2.length:Int)))then (idx s_16.2.2 (iH .i64 s_16.2.1 1)).bind λy_29=>(kV s_16.1 ([y_29]:List ByteArray)).bind λa_31=>some a_31 else some s_16.1).bind λv_25=>(iB s_16.2.2).bind λr_34=>some (.go (v_25,(w64 (s_16.2.1.tdiv 2)),r_34))else some (.brk (s_16.1,s_16.2.1,s_16.2.2))
noncomputable def jW (l_1:(List Log_)) (i_2:Int):Option ((List ByteArray)×Int) :=
  (eZ l_1).bind λr_3=>bif (r_3 != 0)then some (([]:(List ByteArray)),r_3)else (dK i_2 0 (w64 ((l_1.length:Int)-1))).bind λr_6=>bif r_6 then some (([]:(List ByteArray)),1)else (iC l_1).bind λr_9=>(jw (([]:List ByteArray),i_2,r_9) (λs=>eB s)).bind λo_22=>dD o_22 (λs_16=>some (s_16.1,0)) (λ_=>none)
def bz (is_1:Bool) (e_2:Int):Option (Int) :=
  bif is_1 then some e_2 else some 0
def ic (k_2:Nat) (x_4:Int) (s_7:Unit):Option (Ctl (Unit) (Int)) :=
  bif (x_4 != 0)then some (.ret x_4)else some (.go ())
def dF (l_1:(List Int)):Option (Int) :=
  (l8 l_1 () (λk x s=>ic k x s)).bind λo_10=>dD o_10 (λs_7=>some 0) (λr=>some r)
noncomputable def fH (s_10:(List ByteArray)×Int×(List ByteArray)):Option (Ctl ((List ByteArray)×Int×(List ByteArray)) (Unit)) :=
  bif (decide ((s_10.2.2.length:Int)>1))then (bif (decide ((iH .i64 s_10.2.1 1)<(s_10.2.2.length:Int)))then (idx s_10.2.2 (iH .i64 s_10.2.1 1)).bind λy_23=>(kV s_10.1 ([y_23]:List ByteArray)).bind λa_25=>some a_25 else some s_10.1).bind λv_19=>(jM s_10.2.2).bind λr_28=>some (.go (v_19,(w64 (s_10.2.1.tdiv 2)),r_28))else some (.brk (s_10.1,s_10.2.1,s_10.2.2))
noncomputable def jU (l_1:(List Log_)) (i_2:Int):Option ((List ByteArray)) :=
  (jO l_1).bind λr_3=>(jw (([]:List ByteArray),i_2,r_3) (λs=>fH s)).bind λo_16=>dD o_16 (λs_10=>some s_10.1) (λ_=>none)
def aY (s2_2:(List ByteArray)) (k_4:Nat) (x_6:ByteArray) (s_9:Unit):Option (Ctl (Unit) (Bool)) :=
  (idx s2_2 (k_4:Int)).bind λy_14=>bif (sNe x_6 y_14)then some (.ret false)else some (.go ())
def bO (s1_1:(List ByteArray)) (s2_2:(List ByteArray)):Option (Bool) :=
  bif ((s1_1.length:Int) != (s2_2.length:Int))then some false else (l8 s1_1 () (λk x s=>aY s2_2 k x s)).bind λo_12=>dD o_12 (λs_9=>some true) (λr=>some r)
def bM (s_1:(List ByteArray)):Option ((List ByteArray)) :=
  (kV [] s_1).bind λa_4=>some a_4
def d9 (s_1:ByteArray):Option (Bool) :=
  (fq s_1).bind λr_2=>some (!r_2)
def aP (f_2:ByteArray->Option Bool) (k_3:Nat) (x_5:ByteArray) (s_8:Unit):Option (Ctl (Unit) (Int)) :=
  (f_2 x_5).bind λr_13=>bif r_13 then some (.ret (k_3:Int))else some (.go ())
def cz (s_1:(List ByteArray)) (f_2:ByteArray->Option Bool):Option (Int) :=
  (l8 s_1 () (λk x s=>aP f_2 k x s)).bind λo_11=>dD o_11 (λs_8=>some (-1)) (λr=>some r)
def aS (s_1:(List ByteArray)) (f_2:ByteArray->Option Bool):Option (Bool) :=
  (cz s_1 f_2).bind λr_3=>some (decide (r_3>=0))
noncomputable def fA (root_1:ByteArray) (many_2:Int) (i_3:Int) (l_4:Log_) (path_5:(List ByteArray)):Option (Int) :=
  (fq root_1).bind λr_7=>bif (!r_7)then some 3 else ((dK many_2 1 2000).bind λr_12=>bif r_12 then some true else (dK i_3 0 (w64 (many_2-1))).bind λr_15=>some r_15).bind λv_10=>bif v_10 then some 1 else (fQ l_4).bind λr_18=>bif (r_18 != 0)then some r_18 else ((fq l_4.Sum).bind λr_23=>bif (!r_23)then some true else (aS path_5 (λx0=>d9 x0)).bind λr_26=>some r_26).bind λv_21=>bif v_21 then some 3 else some 0
noncomputable def bC (s_17:Int×Int×(List ByteArray)×ByteArray):Option (Ctl (Int×Int×(List ByteArray)×ByteArray) (Bool×Int)) :=
  bif (decide (s_17.1>1))then bif (decide ((iH .i64 s_17.2.1 1)>=s_17.1))then some (.go ((w64 ((w64 (s_17.1+1)).tdiv 2)),(w64 (s_17.2.1.tdiv 2)),s_17.2.2.1,s_17.2.2.2))else bif ((s_17.2.2.1.length:Int)==0)then some (.ret (false,0))else (bif ((s_17.2.1.tmod 2)==1)then (idx s_17.2.2.1 0).bind λy_28=>(gz y_28 s_17.2.2.2).bind λr_30=>some r_30 else (idx s_17.2.2.1 0).bind λy_32=>(gz s_17.2.2.2 y_32).bind λr_34=>some r_34).bind λv_25=>(uq s_17.2.2.1 1 s_17.2.2.1.length).bind λy_36=>some (.go ((w64 ((w64 (s_17.1+1)).tdiv 2)),(w64 (s_17.2.1.tdiv 2)),y_36,v_25))else some (.brk (s_17.1,s_17.2.1,s_17.2.2.1,s_17.2.2.2))
noncomputable def jB (root_1:ByteArray) (many_2:Int) (i_3:Int) (l_4:Log_) (path_5:(List ByteArray)):Option (Bool×Int) :=
  (fA root_1 many_2 i_3 l_4 path_5).bind λr_7=>bif (r_7 != 0)then some (false,r_7)else (jV l_4).bind λr_10=>(jw (many_2,i_3,path_5,r_10) (λs=>bC s)).bind λo_20=>dD o_20 (λs_17=>(bif ((s_17.2.2.1.length:Int)==0)then some (sEq s_17.2.2.2 root_1)else some false).bind λv_38=>some (v_38,0)) (λr=>some r)
def fZ (m_1:ByteArray):Option (Bool) :=
  (bP m_1).bind λr_2=>some (!r_2)
def bE (s_14:Int×Int×(List ByteArray)×ByteArray):Option (Ctl (Int×Int×(List ByteArray)×ByteArray) (Bool)) :=
  bif (decide (s_14.1>1))then bif (decide ((iH .i64 s_14.2.1 1)>=s_14.1))then some (.go ((w64 ((w64 (s_14.1+1)).tdiv 2)),(w64 (s_14.2.1.tdiv 2)),s_14.2.2.1,s_14.2.2.2))else bif ((s_14.2.2.1.length:Int)==0)then some (.ret false)else (bif ((s_14.2.1.tmod 2)==0)then (idx s_14.2.2.1 0).bind λy_25=>(jy s_14.2.2.2 y_25).bind λr_27=>some r_27 else (idx s_14.2.2.1 0).bind λy_29=>(jy y_29 s_14.2.2.2).bind λr_31=>some r_31).bind λv_22=>(uq s_14.2.2.1 1 s_14.2.2.1.length).bind λy_33=>some (.go ((w64 ((w64 (s_14.1+1)).tdiv 2)),(w64 (s_14.2.1.tdiv 2)),y_33,v_22))else some (.brk (s_14.1,s_14.2.1,s_14.2.2.1,s_14.2.2.2))
noncomputable def jF (root_1:ByteArray) (many_2:Int) (i_3:Int) (l_4:Log_) (path_5:(List ByteArray)):Option (Bool) :=
  (mZ l_4).bind λr_7=>(jw (many_2,i_3,path_5,r_7) (λs=>bE s)).bind λo_17=>dD o_17 (λs_14=>(bif ((s_14.2.2.1.length:Int)==0)then some (sEq s_14.2.2.2 root_1)else some false).bind λv_35=>some v_35) (λr=>some r)
def dP (n_1:Int):Option (Bool) :=
  (bif (decide (n_1>=0))then some (decide (n_1<345686400000))else some false).bind λv_2=>some v_2
def eH (a_1:Beat) (b_2:Beat):Option (Int) :=
  (strings_Compare a_1.Player b_2.Player).bind λr_5=>(cmp_Compare_int a_1.At b_2.At).bind λr_7=>(jZ ([r_5,r_7]:List Int)).bind λr_9=>some r_9
noncomputable def fJ (l_1:(List Beat)) (k_3:Nat) (x_5:Beat) (s_8:Unit):Option (Ctl (Unit) (Int)) :=
  (jh x_5.Player).bind λr_14=>bif (!r_14)then some (.ret 5)else ((dP x_5.At).bind λr_19=>bif (!r_19)then some true else (dK x_5.Clock 0 345686399999).bind λr_22=>some r_22).bind λv_17=>bif v_17 then some (.ret 1)else (bif (decide ((k_3:Int)>0))then (idx l_1 (w64 ((k_3:Int)-1))).bind λy_28=>(eH y_28 x_5).bind λr_30=>some (decide (r_30>=0))else some false).bind λv_25=>bif v_25 then some (.ret 7)else (bif (decide ((k_3:Int)>0))then (idx l_1 (w64 ((k_3:Int)-1))).bind λy_36=>bif (sEq x_5.Player y_36.Player)then (idx l_1 (w64 ((k_3:Int)-1))).bind λy_39=>some (decide (x_5.Clock<=y_39.Clock))else some false else some false).bind λv_33=>bif v_33 then some (.ret 16)else some (.go ())
noncomputable def fP (l_1:(List Beat)):Option (Int) :=
  bif (decide ((l_1.length:Int)>500))then some 2 else (l8 l_1 () (λk x s=>fJ l_1 k x s)).bind λo_11=>dD o_11 (λs_8=>some 0) (λr=>some r)
def eD (player_2:ByteArray) (back_3:Bool) (k_4:Nat) (x_6:Beat) (s_9:(List Beat_)):Option (Ctl ((List Beat_)) (Unit)) :=
  (bif (sNe x_6.Player player_2)then some s_9 else bif back_3 then (kV s_9 ([(⟨x_6.At,x_6.Clock⟩:Beat_)]:List Beat_)).bind λa_23=>some a_23 else (kV s_9 ([(⟨x_6.Clock,x_6.At⟩:Beat_)]:List Beat_)).bind λa_26=>some a_26).bind λv_18=>some (.go v_18)
def iM (l_1:(List Beat)) (player_2:ByteArray) (back_3:Bool):Option ((List Beat_)) :=
  (l8 l_1 ([]:List Beat_) (λk x s=>eD player_2 back_3 k x s)).bind λo_15=>dD o_15 (λs_9=>some s_9) (λ_=>none)
def dJ (l_1:(List Beat_)) (n_2:Int) (s_9:Int):Option (Ctl (Int) (Unit)) :=
  (bif (decide (s_9<(l_1.length:Int)))then (idx l_1 s_9).bind λy_17=>some (decide (y_17.f_from<=n_2))else some false).bind λv_14=>bif v_14 then some (.go (w64 (s_9+1)))else some (.brk s_9)
noncomputable def jG (l_1:(List Beat_)) (n_2:Int):Option (Int×Int) :=
  bif ((l_1.length:Int)==0)then some (0,8)else (jw 0 (λs=>dJ l_1 n_2 s)).bind λo_12=>dD o_12 (λs_9=>bif (s_9==0)then (idx l_1 0).bind λy_21=>(idx l_1 0).bind λy_23=>(dP (w64 (y_21.f_to-(w64 (y_23.f_from-n_2))))).bind λr_25=>bif (!r_25)then some (0,11)else some ((w64 (y_21.f_to-(w64 (y_23.f_from-n_2)))),0)else bif (s_9==(l_1.length:Int))then (idx l_1 (w64 (s_9-1))).bind λy_29=>(idx l_1 (w64 (s_9-1))).bind λy_31=>(dP (w64 ((w64 (y_29.f_to+n_2))-y_31.f_from))).bind λr_33=>bif (!r_33)then some (0,11)else some ((w64 ((w64 (y_29.f_to+n_2))-y_31.f_from)),0)else (idx l_1 (w64 (s_9-1))).bind λy_36=>(idx l_1 s_9).bind λy_38=>(bif (decide ((w64 (y_38.f_from-y_36.f_from))>2592000000))then some true else some (decide ((w64 (y_38.f_to-y_36.f_to))>2592000000))).bind λv_42=>bif v_42 then some (0,2)else (BC .i64 (w64 ((w64 (n_2-y_36.f_from))*(w64 (y_38.f_to-y_36.f_to)))) (w64 (y_38.f_from-y_36.f_from))).bind λq_46=>(dP (w64 (y_36.f_to+q_46))).bind λr_48=>bif (!r_48)then some (0,11)else some ((w64 (y_36.f_to+q_46)),0)) (λ_=>none)
noncomputable def jl (l_1:(List Beat)) (player_2:ByteArray) (n_3:Int) (back_4:Bool):Option (Int×Int) :=
  (fP l_1).bind λr_5=>bif (r_5 != 0)then some (0,r_5)else (jh player_2).bind λr_8=>bif (!r_8)then some (0,5)else (dP n_3).bind λr_11=>bif (!r_11)then some (0,1)else (iM l_1 player_2 back_4).bind λr_14=>(jG r_14 n_3).bind λr_16=>some (r_16.1,r_16.2)
noncomputable def mH (l_1:(List Beat)) (player_2:ByteArray) (clock_3:Int):Option (Int×Int) :=
  (jl l_1 player_2 clock_3 false).bind λr_4=>some (r_4.1,r_4.2)
noncomputable def jL  : Option (Bool) :=
  (mH ([(⟨(⟨#[112]⟩:ByteArray),0,100⟩:Beat),(⟨(⟨#[112]⟩:ByteArray),1000,1300⟩:Beat)]:List Beat) (⟨#[112]⟩:ByteArray) 700).bind λr_1=>(bif (r_1.2==0)then some (r_1.1==500)else some false).bind λv_3=>some v_3
noncomputable def jD (l_1:(List Int)):Option (Bool) :=
  (gX (⟨l_1,0⟩:Stream) 5).bind λr_3=>(jP r_3.1).bind λr_6=>(iW r_3.1).bind λr_8=>(bif (r_8==0)then (j6 r_3.1).bind λr_13=>some r_13 else some (⟨#[]⟩:ByteArray)).bind λv_10=>(bif (r_6.2 != r_8)then some true else some (sNe r_6.1 v_10)).bind λv_15=>bif v_15 then some false else (bR r_3.2 ([0,1,2,3,(-1),11]:List Int)).bind λr_19=>(bR r_19.2 ([0,0,0,1,(-1)]:List Int)).bind λr_22=>(jW r_3.1 r_19.1).bind λr_25=>(bif (decide (r_19.1<0))then (bz true 1).bind λr_30=>(dF ([r_8,r_30]:List Int)).bind λr_32=>some r_32 else (bz (decide (r_19.1>=(r_3.1.length:Int))) 1).bind λr_34=>(dF ([r_8,r_34]:List Int)).bind λr_36=>some r_36).bind λv_27=>(bif (v_27==0)then (jU r_3.1 r_19.1).bind λr_43=>some r_43 else some ([]:List ByteArray)).bind λv_40=>(bif (r_25.2 != v_27)then some true else (bO r_25.1 v_40).bind λr_48=>some (!r_48)).bind λv_45=>bif v_45 then some false else (fU (⟨#[120]⟩:ByteArray)).bind λr_51=>(bif (v_27==0)then (bu r_22.2 4).bind λr_57=>some ((!r_57.1),r_57.2.L,r_57.2.f_at)else some (false,r_22.2.L,r_22.2.f_at)).bind λv_54=>(bif v_54.1 then (idx r_3.1 r_19.1).bind λy_63=>some (y_63.Player,y_63.Item,y_63.No,y_63.Clock,y_63.Long,y_63.Sum)else some ((⟨#[112,97]⟩:ByteArray),(⟨#[105,97]⟩:ByteArray),1,0,5,r_51)).bind λv_60=>(bif (decide ((v_40.length:Int)>0))then (bu (⟨v_54.2.1,v_54.2.2⟩:Stream) 6).bind λr_68=>some (r_68.1,r_68.2.L,r_68.2.f_at)else some (false,v_54.2.1,v_54.2.2)).bind λv_65=>(bif v_65.1 then (uq v_40 1 v_40.length).bind λy_76=>some (y_76,v_65.2.1,v_65.2.2)else (bu (⟨v_65.2.1,v_65.2.2⟩:Stream) 8).bind λr_78=>bif r_78.1 then (bM v_40).bind λr_82=>(fU (⟨#[121]⟩:ByteArray)).bind λr_86=>(bv r_78.2 ([r_86,(⟨#[122]⟩:ByteArray)]:List ByteArray)).bind λr_88=>(kV r_82 ([r_88.1]:List ByteArray)).bind λa_91=>some (a_91,r_88.2.L,r_88.2.f_at)else some (v_40,r_78.2.L,r_78.2.f_at)).bind λv_73=>(bif (sEq r_6.1 (⟨#[]⟩:ByteArray))then some (true,v_73.2.1,v_73.2.2)else (bu (⟨v_73.2.1,v_73.2.2⟩:Stream) 12).bind λr_97=>some (r_97.1,r_97.2.L,r_97.2.f_at)).bind λv_94=>(bif v_94.1 then (fU (⟨#[]⟩:ByteArray)).bind λr_103=>(bv (⟨v_94.2.1,v_94.2.2⟩:Stream) ([r_103,(⟨#[120]⟩:ByteArray)]:List ByteArray)).bind λr_105=>some (r_105.1,r_105.2.L,r_105.2.f_at)else some (r_6.1,v_94.2.1,v_94.2.2)).bind λv_100=>(jB v_100.1 (w64 ((r_3.1.length:Int)+r_22.1)) r_19.1 (⟨v_60.1,v_60.2.1,v_60.2.2.1,v_60.2.2.2.1,v_60.2.2.2.2.1,v_60.2.2.2.2.2⟩:Log_) v_73.1).bind λr_108=>((bP v_100.1).bind λr_112=>(bz (!r_112) 3).bind λr_114=>bif (decide ((w64 ((r_3.1.length:Int)+r_22.1))<1))then (bz true 1).bind λr_117=>(dz (⟨v_60.1,v_60.2.1,v_60.2.2.1,v_60.2.2.2.1,v_60.2.2.2.2.1,v_60.2.2.2.2.2⟩:Log_)).bind λr_119=>(bP v_60.2.2.2.2.2).bind λr_121=>(bz (!r_121) 3).bind λr_123=>(dF ([r_114,r_117,r_119,r_123]:List Int)).bind λr_125=>some r_125 else bif (decide ((w64 ((r_3.1.length:Int)+r_22.1))>2000))then (bz true 1).bind λr_128=>(dz (⟨v_60.1,v_60.2.1,v_60.2.2.1,v_60.2.2.2.1,v_60.2.2.2.2.1,v_60.2.2.2.2.2⟩:Log_)).bind λr_130=>(bP v_60.2.2.2.2.2).bind λr_132=>(bz (!r_132) 3).bind λr_134=>(dF ([r_114,r_128,r_130,r_134]:List Int)).bind λr_136=>some r_136 else bif (decide (r_19.1<0))then (bz true 1).bind λr_139=>(dz (⟨v_60.1,v_60.2.1,v_60.2.2.1,v_60.2.2.2.1,v_60.2.2.2.2.1,v_60.2.2.2.2.2⟩:Log_)).bind λr_141=>(bP v_60.2.2.2.2.2).bind λr_143=>(bz (!r_143) 3).bind λr_145=>(dF ([r_114,r_139,r_141,r_145]:List Int)).bind λr_147=>some r_147 else (bz (decide (r_19.1>=(w64 ((r_3.1.length:Int)+r_22.1)))) 1).bind λr_149=>(dz (⟨v_60.1,v_60.2.1,v_60.2.2.1,v_60.2.2.2.1,v_60.2.2.2.2.1,v_60.2.2.2.2.2⟩:Log_)).bind λr_151=>(bP v_60.2.2.2.2.2).bind λr_153=>(bz (!r_153) 3).bind λr_155=>(dF ([r_114,r_149,r_151,r_155]:List Int)).bind λr_157=>some r_157).bind λv_110=>(aS v_73.1 (λx0=>fZ x0)).bind λr_159=>(bz r_159 3).bind λr_161=>(dF ([v_110,r_161]:List Int)).bind λr_163=>(bif (r_108.2==r_163)then bif (r_163==0)then (jF v_100.1 (w64 ((r_3.1.length:Int)+r_22.1)) r_19.1 (⟨v_60.1,v_60.2.1,v_60.2.2.1,v_60.2.2.2.1,v_60.2.2.2.2.1,v_60.2.2.2.2.2⟩:Log_) v_73.1).bind λr_169=>bif (r_108.1==r_169)then (jL).bind λr_172=>some r_172 else some false else bif (r_108.1==false)then (jL).bind λr_175=>some r_175 else some false else some false).bind λv_165=>some v_165
end Go.Proofs.YtdenjndllgahgaaGreatDoor.Law

