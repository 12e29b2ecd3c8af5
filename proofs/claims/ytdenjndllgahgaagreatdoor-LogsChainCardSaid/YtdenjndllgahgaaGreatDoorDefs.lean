/-
  The functions of the program, as plain functions over data (written by a program of ours).
-/
import Derived.Test.YtdenjndllgahgaaGreatDoorEng5
open Go Go.Eng
namespace Go.Proofs.YtdenjndllgahgaaGreatDoor.Law
set_option maxRecDepth 100000
set_option linter.unusedVariables false
set_option maxHeartbeats 1000000
structure Stream where
  L:(List Int)
  f_at:Int
def Stream.enc (s:Stream):List D:=[dl eI s.L,.int .i64 s.f_at]

structure Log_ where
  Player:ByteArray
  Item:ByteArray
  No:Int
  Clock:Int
  Long:Int
  Sum:ByteArray
def Log_.enc (s:Log_):List D:=[.str s.Player,.str s.Item,.int .i64 s.No,.int .i64 s.Clock,.int .i64 s.Long,.str s.Sum]

structure Beat where
  Player:ByteArray
  At:Int
  Clock:Int
def Beat.enc (s:Beat):List D:=[.str s.Player,.int .i64 s.At,.int .i64 s.Clock]

structure Beat_ where
  f_from:Int
  f_to:Int
def Beat_.enc (s:Beat_):List D:=[.int .i64 s.f_from,.int .i64 s.f_to]

def kT (x_1:Int) (n_2:Int):Option (Int) :=
  bif (decide (n_2<1))then some 0 else (Cv .i64 x_1 n_2).bind λq_4=>(bif (decide (q_4<0))then some (w64 (q_4+n_2))else some q_4).bind λv_6=>some v_6
def bB (s_1:Stream) (n_2:Int):Option (Int×Stream) :=
  bif ((s_1.L.length:Int)==0)then (kT (w64 ((w64 (s_1.f_at+1))*7919)) n_2).bind λr_4=>some (r_4,(⟨s_1.L,(w64 (s_1.f_at+1))⟩:Stream))else (Cv .i64 (w64 ((w64 (s_1.f_at+1))-1)) (s_1.L.length:Int)).bind λq_6=>(Ah .i64 (w64 ((w64 (s_1.f_at+1))-1)) (s_1.L.length:Int)).bind λq_8=>(idx s_1.L q_6).bind λy_10=>(kT y_10 1073741824).bind λr_12=>(kT (w64 (r_12+(w64 (q_8*(w64 (7919+q_6)))))) n_2).bind λr_14=>some (r_14,(⟨s_1.L,(w64 (s_1.f_at+1))⟩:Stream))
def dx (s_1:Stream) (l_2:(List Int)):Option (Int×Stream) :=
  (bB s_1 (l_2.length:Int)).bind λr_3=>(idx l_2 r_3.1).bind λy_6=>some (y_6,r_3.2)
def dQ (s_1:Stream) (low_2:Int) (high_3:Int):Option (Int×Stream) :=
  bif (decide (high_3<low_2))then some (low_2,s_1)else (bB s_1 (w64 ((w64 (high_3-low_2))+1))).bind λr_5=>some ((w64 (low_2+r_5.1)),r_5.2)
def bA (s_1:Stream) (l_2:(List ByteArray)):Option (ByteArray×Stream) :=
  (bB s_1 (l_2.length:Int)).bind λr_3=>(idx l_2 r_3.1).bind λy_6=>some (y_6,r_3.2)
def strconv_Itoa (x0:Int):Option (ByteArray) :=
  Bp x0
def strings_Join (x0:(List ByteArray)) (x1:ByteArray):Option (ByteArray) :=
  BJ x0 x1
def fu (k_2:Nat) (x_4:Int) (s_7:(List ByteArray)):Option (Ctl ((List ByteArray)) (Unit)) :=
  (strconv_Itoa x_4).bind λr_15=>(pV s_7 ([r_15]:List ByteArray)).bind λa_17=>some (.go a_17)
def jT (l_1:(List Int)):Option (ByteArray) :=
  (jC l_1 ([]:List ByteArray) (λk x s=>fu k x s)).bind λo_13=>dE o_13 (λs_7=>(strings_Join s_7 (⟨#[32]⟩:ByteArray)).bind λr_20=>some r_20) (λ_=>none)
def jP (l_1:Log_):Option (ByteArray) :=
  (kQ l_1.Player (⟨#[32]⟩:ByteArray)).bind λs_3=>(kQ s_3 l_1.Item).bind λs_5=>(kQ s_5 (⟨#[32]⟩:ByteArray)).bind λs_7=>(jT ([l_1.No,l_1.Clock,l_1.Long]:List Int)).bind λr_9=>(kQ s_7 r_9).bind λs_11=>some s_11
def lK (k_2:Nat) (x_4:Int) (s_7:Int):Option (Ctl (Int) (Unit)) :=
  some (.go (IntKind.u64.wrap ((vo .u64 s_7 (IntKind.u64.wrap x_4))*1099511628211)))
def iP (k_12:Nat) (x_14:Nat) (s_17:Int×ByteArray):Option (Ctl (Int×ByteArray) (Unit)) :=
  (ry (⟨#[48,49,50,51,52,53,54,55,56,57,97,98,99,100,101,102]⟩:ByteArray) (s_17.1.tmod 16) (IntKind.u64.wrap ((s_17.1.tmod 16)+1))).bind λy_22=>(kQ y_22 s_17.2).bind λs_24=>some (.go ((IntKind.u64.wrap (s_17.1.tdiv 16)),s_24))
def jS (s_1:ByteArray):Option (ByteArray) :=
  (jC (bE s_1) 14695981039346656037 (λk x s=>lK k x s)).bind λo_10=>dE o_10 (λs_7=>(jC (List.range (16:Int).toNat) (s_7,(⟨#[]⟩:ByteArray)) (λk x s=>iP k x s)).bind λo_20=>dE o_20 (λs_17=>some s_17.2) (λ_=>none)) (λ_=>none)
def iT (last_1:ByteArray) (l_2:Log_):Option (ByteArray) :=
  (kQ last_1 (⟨#[32]⟩:ByteArray)).bind λs_4=>(jP l_2).bind λr_6=>(kQ s_4 r_6).bind λs_8=>(jS s_8).bind λr_10=>some r_10
def bM (s_1:Stream) (n_2:Int):Option (Bool×Stream) :=
  (bB s_1 n_2).bind λr_3=>some ((r_3.1==0),r_3.2)
def dn (x_5:ByteArray) (k_22:Nat) (x_24:Nat) (s_27:(List Log_)×ByteArray×Int×(List Int)×Int):Option (Ctl ((List Log_)×ByteArray×Int×(List Int)×Int) (Unit)) :=
  (bA (⟨s_27.2.2.2.1,s_27.2.2.2.2⟩:Stream) ([(⟨#[105,97]⟩:ByteArray),(⟨#[105,98]⟩:ByteArray)]:List ByteArray)).bind λr_34=>(dx r_34.2 ([1,10,30,100]:List Int)).bind λr_37=>(iT s_27.2.1 (⟨x_5,r_34.1,(w64 ((k_22:Int)+1)),s_27.2.2.1,r_37.1,(⟨#[]⟩:ByteArray)⟩:Log_)).bind λr_41=>(dx r_37.2 ([0,5,10,50,100]:List Int)).bind λr_43=>(bM r_43.2 6).bind λr_46=>(bif (!r_46.1)then (pV s_27.1 ([(⟨x_5,r_34.1,(w64 ((k_22:Int)+1)),s_27.2.2.1,r_37.1,r_41⟩:Log_)]:List Log_)).bind λa_53=>some a_53 else some s_27.1).bind λv_49=>some (.go (v_49,r_41,(w64 (s_27.2.2.1+r_43.1)),r_46.2.L,r_46.2.f_at))
def bO (most_2:Int) (k_3:Nat) (x_5:ByteArray) (s_8:(List Log_)×(List Int)×Int):Option (Ctl ((List Log_)×(List Int)×Int) (Unit)) :=
  (dx (⟨s_8.2.1,s_8.2.2⟩:Stream) ([0,50,1000]:List Int)).bind λr_16=>(dQ r_16.2 0 most_2).bind λr_19=>(jC (List.range (r_19.1).toNat) (s_8.1,(⟨#[]⟩:ByteArray),r_16.1,r_19.2.L,r_19.2.f_at) (λk x s=>dn x_5 k x s)).bind λo_32=>dE o_32 (λs_27=>some (.go (s_27.1,s_27.2.2.2.1,s_27.2.2.2.2))) (λ_=>none)
def dS (s_1:Stream) (most_2:Int):Option ((List Log_)×Stream) :=
  (jC ([(⟨#[112,97]⟩:ByteArray),(⟨#[112,98]⟩:ByteArray)]:List ByteArray) (([]:List Log_),s_1.L,s_1.f_at) (λk x s=>bO most_2 k x s)).bind λo_14=>dE o_14 (λs_8=>some (s_8.1,(⟨s_8.2.1,s_8.2.2⟩:Stream))) (λ_=>none)
def eY (s_1:Stream) (low_2:Int) (high_3:Int):Option (Int×Stream) :=
  (bM s_1 12).bind λr_4=>bif r_4.1 then (dx r_4.2 ([(w64 (low_2-1)),(w64 (high_3+1)),low_2,high_3,(-1099511627776),1099511627776]:List Int)).bind λr_8=>some (r_8.1,r_8.2)else (dQ r_4.2 low_2 high_3).bind λr_11=>some (r_11.1,r_11.2)
def gH (s_1:Stream) (most_2:Int):Option ((List Log_)×Stream) :=
  (dS s_1 most_2).bind λr_3=>(bif (decide ((r_3.1.length:Int)>0))then (bM r_3.2 4).bind λr_10=>some (r_10.1,r_10.2.L,r_10.2.f_at)else some (false,r_3.2.L,r_3.2.f_at)).bind λv_7=>(bif v_7.1 then (bB (⟨v_7.2.1,v_7.2.2⟩:Stream) (r_3.1.length:Int)).bind λr_16=>(inR r_16.1 r_3.1).bind λ_=>(bA r_16.2 ([(⟨#[105,97]⟩:ByteArray),(⟨#[105,99]⟩:ByteArray)]:List ByteArray)).bind λr_20=>(r_3.1[(0+(r_16.1).toNat)]?).bind λe_23=>(jS (⟨#[120]⟩:ByteArray)).bind λr_25=>(bA r_20.2 ([e_23.Sum,r_25]:List ByteArray)).bind λr_27=>(r_3.1[(0+(r_16.1).toNat)]?).bind λe_30=>((r_3.1.set (0+(r_16.1).toNat) (⟨e_30.Player,r_20.1,e_30.No,e_30.Clock,e_30.Long,e_30.Sum⟩:Log_))[(0+(r_16.1).toNat)]?).bind λe_32=>some (((r_3.1.set (0+(r_16.1).toNat) (⟨e_30.Player,r_20.1,e_30.No,e_30.Clock,e_30.Long,e_30.Sum⟩:Log_)).set (0+(r_16.1).toNat) (⟨e_32.Player,e_32.Item,e_32.No,e_32.Clock,e_32.Long,r_27.1⟩:Log_)),r_27.2.L,r_27.2.f_at)else some (r_3.1,v_7.2.1,v_7.2.2)).bind λv_13=>(bif (decide ((v_13.1.length:Int)>0))then (bM (⟨v_13.2.1,v_13.2.2⟩:Stream) 12).bind λr_37=>some (r_37.1,r_37.2.L,r_37.2.f_at)else some (false,v_13.2.1,v_13.2.2)).bind λv_34=>(bif v_34.1 then (bB (⟨v_34.2.1,v_34.2.2⟩:Stream) (v_13.1.length:Int)).bind λr_43=>(inR r_43.1 v_13.1).bind λ_=>(bB r_43.2 4).bind λr_47=>bif (r_47.1==0)then (v_13.1[(0+(r_43.1).toNat)]?).bind λe_51=>(bA r_47.2 ([e_51.Player,(⟨#[]⟩:ByteArray),(⟨#[65]⟩:ByteArray)]:List ByteArray)).bind λr_53=>(bA r_53.2 ([(⟨#[105,97]⟩:ByteArray),(⟨#[]⟩:ByteArray)]:List ByteArray)).bind λr_56=>(v_13.1[(0+(r_43.1).toNat)]?).bind λe_59=>((v_13.1.set (0+(r_43.1).toNat) (⟨r_53.1,e_59.Item,e_59.No,e_59.Clock,e_59.Long,e_59.Sum⟩:Log_))[(0+(r_43.1).toNat)]?).bind λe_61=>some (((v_13.1.set (0+(r_43.1).toNat) (⟨r_53.1,e_59.Item,e_59.No,e_59.Clock,e_59.Long,e_59.Sum⟩:Log_)).set (0+(r_43.1).toNat) (⟨e_61.Player,r_56.1,e_61.No,e_61.Clock,e_61.Long,e_61.Sum⟩:Log_)),r_56.2.L,r_56.2.f_at)else bif (r_47.1==1)then (eY r_47.2 1 1000000).bind λr_64=>(v_13.1[(0+(r_43.1).toNat)]?).bind λe_67=>some ((v_13.1.set (0+(r_43.1).toNat) (⟨e_67.Player,e_67.Item,r_64.1,e_67.Clock,e_67.Long,e_67.Sum⟩:Log_)),r_64.2.L,r_64.2.f_at)else bif (r_47.1==2)then (eY r_47.2 0 1000).bind λr_70=>(eY r_70.2 1 1000).bind λr_73=>(v_13.1[(0+(r_43.1).toNat)]?).bind λe_76=>((v_13.1.set (0+(r_43.1).toNat) (⟨e_76.Player,e_76.Item,e_76.No,r_70.1,e_76.Long,e_76.Sum⟩:Log_))[(0+(r_43.1).toNat)]?).bind λe_78=>some (((v_13.1.set (0+(r_43.1).toNat) (⟨e_76.Player,e_76.Item,e_76.No,r_70.1,e_76.Long,e_76.Sum⟩:Log_)).set (0+(r_43.1).toNat) (⟨e_78.Player,e_78.Item,e_78.No,e_78.Clock,r_73.1,e_78.Sum⟩:Log_)),r_73.2.L,r_73.2.f_at)else (bA r_47.2 ([(⟨#[]⟩:ByteArray),(⟨#[120]⟩:ByteArray),(⟨#[48,49,50,51,52,53,54,55,56,57,65,66,67,68,69,70]⟩:ByteArray),(⟨#[48,49,50,51,52,53,54,55,56,57,97,98,99,100,101]⟩:ByteArray)]:List ByteArray)).bind λr_80=>(v_13.1[(0+(r_43.1).toNat)]?).bind λe_83=>some ((v_13.1.set (0+(r_43.1).toNat) (⟨e_83.Player,e_83.Item,e_83.No,e_83.Clock,e_83.Long,r_80.1⟩:Log_)),r_80.2.L,r_80.2.f_at)else some (v_13.1,v_34.2.1,v_34.2.2)).bind λv_40=>some (v_40.1,(⟨v_40.2.1,v_40.2.2⟩:Stream))
def fG (s_1:ByteArray) (s_7:Int):Option (Ctl (Int) (Bool)) :=
  bif (decide (s_7<(s_1.size:Int)))then (qb s_1 s_7).bind λb_13=>(bif (decide ((b_13.toNat:Int)>=97))then bif (decide ((b_13.toNat:Int)<=122))then some false else bif (decide (s_7>0))then bif (decide ((b_13.toNat:Int)>=48))then bif (decide ((b_13.toNat:Int)<=57))then some false else bif ((b_13.toNat:Int)==45)then some false else some (!((b_13.toNat:Int)==95))else bif ((b_13.toNat:Int)==45)then some false else some (!((b_13.toNat:Int)==95))else some true else bif (decide (s_7>0))then bif (decide ((b_13.toNat:Int)>=48))then bif (decide ((b_13.toNat:Int)<=57))then some false else bif ((b_13.toNat:Int)==45)then some false else some (!((b_13.toNat:Int)==95))else bif ((b_13.toNat:Int)==45)then some false else some (!((b_13.toNat:Int)==95))else some true).bind λv_15=>bif v_15 then some (.ret false)else some (.go (w64 (s_7+1)))else some (.brk s_7)
noncomputable def iJ (s_1:ByteArray):Option (Bool) :=
  (nA 0 (λs=>fG s_1 s)).bind λo_10=>dE o_10 (λs_7=>(bif (sNe s_1 (⟨#[]⟩:ByteArray))then some (decide ((s_1.size:Int)<=40))else some false).bind λv_30=>some v_30) (λr=>some r)
def eT (n_1:Int) (low_2:Int) (high_3:Int):Option (Bool) :=
  (bif (decide (n_1<low_2))then some true else some (decide (n_1>high_3))).bind λv_4=>some v_4
noncomputable def ed (l_1:Log_):Option (Int) :=
  ((iJ l_1.Player).bind λr_5=>bif (!r_5)then some true else (iJ l_1.Item).bind λr_8=>some (!r_8)).bind λv_3=>bif v_3 then some 5 else ((eT l_1.No 1 1000000).bind λr_13=>bif r_13 then some true else (eT l_1.Clock 0 345686399999).bind λr_16=>bif r_16 then some true else (eT l_1.Long 1 86400000).bind λr_19=>some r_19).bind λv_11=>bif v_11 then some 1 else some 0
def kH (x0:ByteArray) (x1:ByteArray):Option (ByteArray) :=
  yl x0 x1
def gQ (s_1:ByteArray):Option (Bool) :=
  (bif ((s_1.size:Int)==16)then (kH s_1 (⟨#[48,49,50,51,52,53,54,55,56,57,97,98,99,100,101,102]⟩:ByteArray)).bind λr_5=>some (sEq r_5 (⟨#[]⟩:ByteArray))else some false).bind λv_2=>some v_2
def dH (a_1:ByteArray) (b_2:ByteArray):Option (Int) :=
  some (qc a_1 b_2)
def strings_Compare (a_1:ByteArray) (b_2:ByteArray):Option (Int) :=
  (dH a_1 b_2).bind λr_3=>some r_3
def cmp_isNaN_int (x_1:Int):Option (Bool) :=
  some (x_1 != x_1)
def cmp_Compare_int (x_1:Int) (y_2:Int):Option (Int) :=
  (cmp_isNaN_int x_1).bind λr_3=>(cmp_isNaN_int y_2).bind λr_5=>bif r_3 then bif r_5 then some 0 else some (-1)else bif r_5 then some 1 else bif (decide (x_1<y_2))then some (-1)else bif (decide (x_1>y_2))then some 1 else some 0
def jE (k_2:Nat) (x_4:Int) (s_7:Unit):Option (Ctl (Unit) (Int)) :=
  bif (x_4 != 0)then some (.ret x_4)else some (.go ())
def jy (vals_1:(List Int)):Option (Int) :=
  (jC vals_1 () (λk x s=>jE k x s)).bind λo_10=>dE o_10 (λs_7=>some 0) (λr=>some r)
def eU (a_1:Log_) (b_2:Log_):Option (Int) :=
  (strings_Compare a_1.Player b_2.Player).bind λr_5=>(cmp_Compare_int a_1.No b_2.No).bind λr_7=>(jy ([r_5,r_7]:List Int)).bind λr_9=>some r_9
noncomputable def fF (l_1:(List Log_)) (k_3:Nat) (x_5:Log_) (s_8:Unit):Option (Ctl (Unit) (Int)) :=
  (ed x_5).bind λr_14=>bif (r_14 != 0)then some (.ret r_14)else (gQ x_5.Sum).bind λr_17=>bif (!r_17)then some (.ret 3)else (bif (decide ((k_3:Int)>0))then (idx l_1 (w64 ((k_3:Int)-1))).bind λy_23=>(eU y_23 x_5).bind λr_25=>some (decide (r_25>=0))else some false).bind λv_20=>bif v_20 then some (.ret 7)else some (.go ())
noncomputable def fK (l_1:(List Log_)):Option (Int) :=
  bif (decide ((l_1.length:Int)>2000))then some 2 else (jC l_1 () (λk x s=>fF l_1 k x s)).bind λo_11=>dE o_11 (λs_8=>some 0) (λr=>some r)
def mG (n_1:Int) (low_2:Int) (high_3:Int):Option (Bool) :=
  (bif (decide (low_2<=n_1))then some (decide (n_1<=high_3))else some false).bind λv_4=>some v_4
def bS (s_1:ByteArray) (c_2:Int):Option (Int) :=
  some (ixB s_1 c_2)
def strings_IndexByte (s_1:ByteArray) (c_2:Int):Option (Int) :=
  (bS s_1 c_2).bind λr_3=>some r_3
def iK (s_1:ByteArray) (somev_2:ByteArray) (k_3:Nat) (x_5:Nat) (s_8:Unit):Option (Ctl (Unit) (Bool)) :=
  (qb s_1 (k_3:Int)).bind λb_13=>(strings_IndexByte somev_2 (b_13.toNat:Int)).bind λr_15=>bif (decide (r_15<0))then some (.ret false)else some (.go ())
def jR (s_1:ByteArray) (somev_2:ByteArray):Option (Bool) :=
  (jC (List.range ((s_1.size:Int)).toNat) () (λk x s=>iK s_1 somev_2 k x s)).bind λo_11=>dE o_11 (λs_8=>some true) (λr=>some r)
def oL (s_1:ByteArray):Option (Bool) :=
  ((mG (s_1.size:Int) 1 40).bind λr_4=>bif r_4 then (ry s_1 0 1).bind λy_7=>(jR y_7 (⟨#[97,98,99,100,101,102,103,104,105,106,107,108,109,110,111,112,113,114,115,116,117,118,119,120,121,122]⟩:ByteArray)).bind λr_9=>bif r_9 then (jR s_1 (⟨#[97,98,99,100,101,102,103,104,105,106,107,108,109,110,111,112,113,114,115,116,117,118,119,120,121,122,48,49,50,51,52,53,54,55,56,57,45,95]⟩:ByteArray)).bind λr_12=>some r_12 else some false else some false).bind λv_2=>some v_2
def lF (atv_1:Int):Option (Bool) :=
  (mG atv_1 0 345686399999).bind λr_2=>some r_2
def gu (l_1:Log_):Option (Int) :=
  ((oL l_1.Player).bind λr_5=>bif (!r_5)then some true else (oL l_1.Item).bind λr_8=>some (!r_8)).bind λv_3=>bif v_3 then some 5 else ((mG l_1.No 1 1000000).bind λr_13=>bif (!r_13)then some true else (lF l_1.Clock).bind λr_16=>bif (!r_16)then some true else (mG l_1.Long 1 86400000).bind λr_19=>some (!r_19)).bind λv_11=>bif v_11 then some 1 else some 0
def jB (s_1:ByteArray):Option (Bool) :=
  (bif ((s_1.size:Int)==16)then (jR s_1 (⟨#[48,49,50,51,52,53,54,55,56,57,97,98,99,100,101,102]⟩:ByteArray)).bind λr_5=>some r_5 else some false).bind λv_2=>some v_2
def nW (n_1:Int):Option (Int) :=
  bif (decide (n_1<0))then some (-1)else bif (decide (n_1>0))then some 1 else some 0
def iZ (a_1:Log_) (b_2:Log_):Option (Int) :=
  bif (sNe a_1.Player b_2.Player)then (strings_Compare a_1.Player b_2.Player).bind λr_6=>some r_6 else (nW (w64 (a_1.No-b_2.No))).bind λr_8=>some r_8
def gP (l_1:(List Log_)) (k_3:Nat) (x_5:Log_) (s_8:Unit):Option (Ctl (Unit) (Int)) :=
  (gu x_5).bind λr_14=>bif (r_14 != 0)then some (.ret r_14)else (jB x_5.Sum).bind λr_17=>bif (!r_17)then some (.ret 3)else (bif (decide ((k_3:Int)>0))then (idx l_1 (w64 ((k_3:Int)-1))).bind λy_23=>(iZ y_23 x_5).bind λr_25=>some (decide (r_25>=0))else some false).bind λv_20=>bif v_20 then some (.ret 7)else some (.go ())
def ic (l_1:(List Log_)):Option (Int) :=
  bif (decide ((l_1.length:Int)>2000))then some 2 else (jC l_1 () (λk x s=>gP l_1 k x s)).bind λo_11=>dE o_11 (λs_8=>some 0) (λr=>some r)
def eO (last_1:ByteArray):Option (Int) :=
  (bif (sNe last_1 (⟨#[]⟩:ByteArray))then (gQ last_1).bind λr_5=>some (!r_5)else some false).bind λv_2=>bif v_2 then some 3 else some 0
def lC (l_1:Log_):Option (ByteArray) :=
  (kQ l_1.Player (⟨#[32]⟩:ByteArray)).bind λs_3=>(kQ s_3 l_1.Item).bind λs_5=>(kQ s_5 (⟨#[32]⟩:ByteArray)).bind λs_7=>(strconv_Itoa l_1.No).bind λr_9=>(kQ s_7 r_9).bind λs_11=>(kQ s_11 (⟨#[32]⟩:ByteArray)).bind λs_13=>(strconv_Itoa l_1.Clock).bind λr_15=>(kQ s_13 r_15).bind λs_17=>(kQ s_17 (⟨#[32]⟩:ByteArray)).bind λs_19=>(strconv_Itoa l_1.Long).bind λr_21=>(kQ s_19 r_21).bind λs_23=>some s_23
def cB (x_1:Int):Option (Bool) :=
  some ((yU .i64 x_1 (w64 (x_1-1)))==0)
def fB (x0:Int):Option (Int) :=
  tzF x0
def aQ (base_3:Int) (r_22:Int) (s_29:(List Int)×Int×Int):Option (Ctl ((List Int)×Int×Int) (Unit)) :=
  bif (decide (s_29.2.1>=(IntKind.u64.wrap base_3)))then (qb (⟨#[48,49,50,51,52,53,54,55,56,57,97,98,99,100,101,102,103,104,105,106,107,108,109,110,111,112,113,114,115,116,117,118,119,120,121,122]⟩:ByteArray) (yU .u64 s_29.2.1 (IntKind.u64.wrap ((IntKind.u64.wrap base_3)-1)))).bind λb_35=>(inN (w64 (s_29.2.2-1)) 65).bind λ_=>(s_29.1[((w64 (s_29.2.2-1))).toNat]?).bind λe_38=>(Dl .u64 s_29.2.1 (IntKind.u64.wrap r_22)).bind λq_40=>some (.go ((s_29.1.set ((w64 (s_29.2.2-1))).toNat (b_35.toNat:Int)),q_40,(w64 (s_29.2.2-1))))else some (.brk (s_29.1,s_29.2.1,s_29.2.2))
def dG (base_3:Int) (s_53:(List Int)×Int×Int):Option (Ctl ((List Int)×Int×Int) (Unit)) :=
  bif (decide (s_53.2.1>=(IntKind.u64.wrap base_3)))then (Ah .u64 s_53.2.1 (IntKind.u64.wrap base_3)).bind λq_59=>(qb (⟨#[48,49,50,51,52,53,54,55,56,57,97,98,99,100,101,102,103,104,105,106,107,108,109,110,111,112,113,114,115,116,117,118,119,120,121,122]⟩:ByteArray) (IntKind.u64.wrap (s_53.2.1-(IntKind.u64.wrap (q_59*(IntKind.u64.wrap base_3)))))).bind λb_61=>(inN (w64 (s_53.2.2-1)) 65).bind λ_=>(s_53.1[((w64 (s_53.2.2-1))).toNat]?).bind λe_64=>some (.go ((s_53.1.set ((w64 (s_53.2.2-1))).toNat (b_61.toNat:Int)),q_59,(w64 (s_53.2.2-1))))else some (.brk (s_53.1,s_53.2.1,s_53.2.2))
noncomputable def bG (dst_1:(List Int)) (u_2:Int) (base_3:Int) (neg_4:Bool) (append_5:Bool):Option ((List Int)×ByteArray) :=
  (bif (decide (base_3<2))then some true else bif (base_3==10)then some true else some (decide (base_3>36))).bind λv_6=>(bif v_6 then none else some ()).bind λv_10=>(bif neg_4 then some (IntKind.u64.wrap (0-u_2))else some u_2).bind λv_14=>(cB base_3).bind λr_17=>(bif r_17 then (fB (IntKind.u64.wrap base_3)).bind λr_22=>(nA ((List.replicate 65 (0:Int)),v_14,65) (λs=>aQ base_3 r_22 s)).bind λo_32=>dE o_32 (λs_29=>(qb (⟨#[48,49,50,51,52,53,54,55,56,57,97,98,99,100,101,102,103,104,105,106,107,108,109,110,111,112,113,114,115,116,117,118,119,120,121,122]⟩:ByteArray) s_29.2.1).bind λb_42=>(inN (w64 (s_29.2.2-1)) 65).bind λ_=>(s_29.1[((w64 (s_29.2.2-1))).toNat]?).bind λe_45=>some ((s_29.1.set ((w64 (s_29.2.2-1))).toNat (b_42.toNat:Int)),(w64 (s_29.2.2-1)))) (λ_=>none)else (nA ((List.replicate 65 (0:Int)),v_14,65) (λs=>dG base_3 s)).bind λo_56=>dE o_56 (λs_53=>(qb (⟨#[48,49,50,51,52,53,54,55,56,57,97,98,99,100,101,102,103,104,105,106,107,108,109,110,111,112,113,114,115,116,117,118,119,120,121,122]⟩:ByteArray) s_53.2.1).bind λb_66=>(inN (w64 (s_53.2.2-1)) 65).bind λ_=>(s_53.1[((w64 (s_53.2.2-1))).toNat]?).bind λe_69=>some ((s_53.1.set ((w64 (s_53.2.2-1))).toNat (b_66.toNat:Int)),(w64 (s_53.2.2-1)))) (λ_=>none)).bind λv_19=>(bif neg_4 then (inN (w64 (v_19.2-1)) 65).bind λ_=>(v_19.1[((w64 (v_19.2-1))).toNat]?).bind λe_76=>some ((v_19.1.set ((w64 (v_19.2-1))).toNat 45),(w64 (v_19.2-1)))else some (v_19.1,v_19.2)).bind λv_72=>bif append_5 then (yR v_72.1 65).bind λ_=>(nH v_72.1 v_72.2 (v_72.1.length:Int)).bind λ_=>none else (yR v_72.1 65).bind λ_=>(nH v_72.1 v_72.2 (v_72.1.length:Int)).bind λ_=>some (([]:(List Int)),(Go.strOfNums (xB v_72.1 ((v_72.2).toNat) (((v_72.1.length:Int)).toNat-(v_72.2).toNat))))
noncomputable def di (i_1:Int) (base_2:Int):Option (ByteArray) :=
  bif (base_2==10)then bif (decide (i_1<100))then none else none else (bG ([]:List Int) i_1 base_2 false false).bind λr_6=>some r_6.2
noncomputable def eu (i_1:Int) (base_2:Int):Option (ByteArray) :=
  (di i_1 base_2).bind λr_3=>some r_3
def strings_Repeat (x0:ByteArray) (x1:Int):Option (ByteArray) :=
  tT x0 x1
def iq (s_1:ByteArray) (k_2:Nat) (x_4:Nat) (s_7:Int):Option (Ctl (Int) (Unit)) :=
  (qb s_1 (k_2:Int)).bind λb_12=>some (.go (IntKind.u64.wrap ((vo .u64 s_7 (IntKind.u64.wrap (b_12.toNat:Int)))*1099511628211)))
noncomputable def jq (s_1:ByteArray):Option (ByteArray) :=
  (jC (List.range ((s_1.size:Int)).toNat) 14695981039346656037 (λk x s=>iq s_1 k x s)).bind λo_10=>dE o_10 (λs_7=>(eu s_7 16).bind λr_14=>(strings_Repeat (⟨#[48]⟩:ByteArray) (w64 (16-(r_14.size:Int)))).bind λr_16=>(kQ r_16 r_14).bind λs_18=>some s_18) (λ_=>none)
noncomputable def kI (last_1:ByteArray) (l_2:Log_):Option (ByteArray) :=
  (kQ last_1 (⟨#[32]⟩:ByteArray)).bind λs_4=>(lC l_2).bind λr_6=>(kQ s_4 r_6).bind λs_8=>(jq s_8).bind λr_10=>some r_10
noncomputable def lY (last_1:ByteArray) (l_2:Log_):Option (ByteArray×Int) :=
  (eO last_1).bind λr_4=>bif (r_4 != 0)then some ((⟨#[]⟩:ByteArray),r_4)else (ed l_2).bind λr_7=>bif (r_7 != 0)then some ((⟨#[]⟩:ByteArray),r_7)else (kI last_1 l_2).bind λr_10=>some (r_10,0)
def fO (s_1:ByteArray):Option (Int) :=
  (bif (sNe s_1 (⟨#[]⟩:ByteArray))then (jB s_1).bind λr_5=>some (!r_5)else some false).bind λv_2=>bif v_2 then some 3 else some 0
def lQ (k_2:Nat) (x_4:Int) (s_7:Unit):Option (Ctl (Unit) (Int)) :=
  bif (x_4 != 0)then some (.ret x_4)else some (.go ())
def nO (l_1:(List Int)):Option (Int) :=
  (jC l_1 () (λk x s=>lQ k x s)).bind λo_10=>dE o_10 (λs_7=>some 0) (λr=>some r)
def aR (s_1:(List Log_)):Option ((List Log_)) :=
  (pV [] s_1).bind λa_4=>some a_4
def cZ (y_1:Log_) (p_2:Stream):Option (Bool×Stream) :=
  (bif (sNe y_1.Player (⟨#[112,97]⟩:ByteArray))then (bM p_2 20).bind λr_7=>some ((!r_7.1),r_7.2.L,r_7.2.f_at)else some (false,p_2.L,p_2.f_at)).bind λv_4=>some (v_4.1,(⟨v_4.2.1,v_4.2.2⟩:Stream))
def aI (s_1:(List Log_)) (k_4:Nat) (x_6:Nat) (s_9:(List Int)×Int):Option (Ctl ((List Int)×Int) (Int×Stream)) :=
  (inR (k_4:Int) s_1).bind λ_=>(s_1[(0+((k_4:Int)).toNat)]?).bind λe_15=>(cZ e_15 (⟨s_9.1,s_9.2⟩:Stream)).bind λr_17=>bif r_17.1 then some (.ret ((k_4:Int),r_17.2))else some (.go (r_17.2.L,r_17.2.f_at))
def bf (s_1:(List Log_)) (f2_3:Stream):Option (Int×Stream) :=
  (jC (List.range ((s_1.length:Int)).toNat) (f2_3.L,f2_3.f_at) (λk x s=>aI s_1 k x s)).bind λo_12=>dE o_12 (λs_9=>some ((-1),(⟨s_9.1,s_9.2⟩:Stream))) (λr=>some r)
def aJ (s_12:(List Log_)×Int×Int×(List Int)×Int):Option (Ctl ((List Log_)×Int×Int×(List Int)×Int) (Unit)) :=
  bif (decide (s_12.2.2.1<(s_12.1.length:Int)))then (inR s_12.2.2.1 s_12.1).bind λ_=>(s_12.1[(0+(s_12.2.2.1).toNat)]?).bind λe_19=>(cZ e_19 (⟨s_12.2.2.2.1,s_12.2.2.2.2⟩:Stream)).bind λr_22=>(bif (!r_22.1)then (inR s_12.2.1 s_12.1).bind λ_=>(s_12.1[(0+(s_12.2.1).toNat)]?).bind λe_29=>some ((s_12.1.set (0+(s_12.2.1).toNat) e_19),(w64 (s_12.2.1+1)))else some (s_12.1,s_12.2.1)).bind λv_25=>some (.go (v_25.1,v_25.2,(w64 (s_12.2.2.1+1)),r_22.2.L,r_22.2.f_at))else some (.brk (s_12.1,s_12.2.1,s_12.2.2.1,s_12.2.2.2.1,s_12.2.2.2.2))
noncomputable def aW (s_1:(List Log_)) (del2_3:Stream):Option ((List Log_)×Stream) :=
  (bf s_1 del2_3).bind λr_4=>bif (r_4.1==(-1))then some (s_1,r_4.2)else (nA (s_1,r_4.1,(w64 (r_4.1+1)),r_4.2.L,r_4.2.f_at) (λs=>aJ s)).bind λo_15=>dE o_15 (λs_12=>(nH s_12.1 s_12.2.1 (s_12.1.length:Int)).bind λ_=>(nH (s_12.1.take ((s_12.2.1).toNat)++List.replicate (((s_12.1.length:Int)).toNat-(s_12.2.1).toNat) (⟨(⟨#[]⟩:ByteArray),(⟨#[]⟩:ByteArray),0,0,0,(⟨#[]⟩:ByteArray)⟩:Log_)++s_12.1.drop (((s_12.2.1).toNat)+(((s_12.1.length:Int)).toNat-(s_12.2.1).toNat))) 0 s_12.2.1).bind λ_=>some (((s_12.1.take ((s_12.2.1).toNat)++List.replicate (((s_12.1.length:Int)).toNat-(s_12.2.1).toNat) (⟨(⟨#[]⟩:ByteArray),(⟨#[]⟩:ByteArray),0,0,0,(⟨#[]⟩:ByteArray)⟩:Log_)++s_12.1.drop (((s_12.2.1).toNat)+(((s_12.1.length:Int)).toNat-(s_12.2.1).toNat))).take ((s_12.2.1).toNat)),(⟨s_12.2.2.2.1,s_12.2.2.2.2⟩:Stream))) (λ_=>none)
def bL (k_4:Nat) (x_6:Log_) (s_9:(List Int)×Int):Option (Ctl ((List Int)×Int) (Int×Stream)) :=
  (cZ x_6 (⟨s_9.1,s_9.2⟩:Stream)).bind λr_14=>bif r_14.1 then some (.ret ((k_4:Int),r_14.2))else some (.go (r_14.2.L,r_14.2.f_at))
def bz (s_1:(List Log_)) (f2_3:Stream):Option (Int×Stream) :=
  (jC s_1 (f2_3.L,f2_3.f_at) (λk x s=>bL k x s)).bind λo_12=>dE o_12 (λs_9=>some ((-1),(⟨s_9.1,s_9.2⟩:Stream))) (λr=>some r)
def bH (r_4:Int×Stream) (s_13:Unit):Option (Ctl (Unit) (Unit)) :=
  bif (decide ((w64 (r_4.1+1))<0))then none else some (.brk ())
noncomputable def aX (del2_3:Stream):Option (Stream) :=
  (bz ([]:List Log_) del2_3).bind λr_4=>bif (r_4.1==(-1))then some r_4.2 else (nA () (λs=>bH r_4 s)).bind λo_16=>dE o_16 (λs_13=>none) (λ_=>none)
noncomputable def dZ (l_2:(List Log_)) (k_11:Nat) (x_13:Log_) (s_16:(List Log_)×ByteArray):Option (Ctl ((List Log_)×ByteArray) ((List Log_)×Int)) :=
  (ed x_13).bind λr_22=>bif (r_22 != 0)then some (.ret (([]:(List Log_)),r_22))else (bif (decide ((k_11:Int)>0))then (idx l_2 0).bind λy_28=>some (sNe x_13.Player y_28.Player)else some false).bind λv_25=>bif v_25 then some (.ret (([]:(List Log_)),13))else (bif (decide ((k_11:Int)>0))then (idx l_2 (w64 ((k_11:Int)-1))).bind λy_34=>some (x_13.No != (w64 (y_34.No+1)))else some false).bind λv_31=>bif v_31 then some (.ret (([]:(List Log_)),16))else (kI s_16.2 x_13).bind λr_37=>(inR (k_11:Int) s_16.1).bind λ_=>(s_16.1[(0+((k_11:Int)).toNat)]?).bind λe_40=>some (.go ((s_16.1.set (0+((k_11:Int)).toNat) (⟨e_40.Player,e_40.Item,e_40.No,e_40.Clock,e_40.Long,r_37⟩:Log_)),r_37))
noncomputable def jQ (last_1:ByteArray) (l_2:(List Log_)):Option ((List Log_)×Int) :=
  (eO last_1).bind λr_3=>bif (r_3 != 0)then some (([]:(List Log_)),r_3)else bif (decide ((l_2.length:Int)>2000))then some (([]:(List Log_)),2)else (aR l_2).bind λr_7=>(jC l_2 (r_7,last_1) (λk x s=>dZ l_2 k x s)).bind λo_19=>dE o_19 (λs_16=>some (s_16.1,0)) (λr=>some r)
def dW (l_2:(List Log_)) (k_7:Nat) (x_9:Log_) (s_12:(List Log_)×ByteArray):Option (Ctl ((List Log_)×ByteArray) ((List Log_)×Int)) :=
  (gu x_9).bind λr_21=>bif (r_21 != 0)then some (.ret (([]:(List Log_)),r_21))else (idx l_2 0).bind λy_24=>bif (sNe x_9.Player y_24.Player)then some (.ret (([]:(List Log_)),13))else (bif (decide ((k_7:Int)>0))then (idx l_2 (w64 ((k_7:Int)-1))).bind λy_30=>some (x_9.No != (w64 (y_30.No+1)))else some false).bind λv_27=>bif v_27 then some (.ret (([]:(List Log_)),16))else (iT s_12.2 x_9).bind λr_33=>(pV s_12.1 ([(⟨x_9.Player,x_9.Item,x_9.No,x_9.Clock,x_9.Long,r_33⟩:Log_)]:List Log_)).bind λa_35=>some (.go (a_35,r_33))
def jV (last_1:ByteArray) (l_2:(List Log_)):Option ((List Log_)×Int) :=
  (fO last_1).bind λr_3=>bif (r_3 != 0)then some (([]:(List Log_)),3)else bif (decide ((l_2.length:Int)>2000))then some (([]:(List Log_)),2)else (jC l_2 (([]:List Log_),last_1) (λk x s=>dW l_2 k x s)).bind λo_18=>dE o_18 (λs_12=>some (s_12.1,0)) (λr=>some r)
def aY (s2_2:(List Log_)) (k_4:Nat) (x_6:Log_) (s_9:Unit):Option (Ctl (Unit) (Bool)) :=
  (idx s2_2 (k_4:Int)).bind λy_14=>bif (!((x_6.Player.toList==y_14.Player.toList)&&((x_6.Item.toList==y_14.Item.toList)&&((x_6.No==y_14.No)&&((x_6.Clock==y_14.Clock)&&((x_6.Long==y_14.Long)&&((x_6.Sum.toList==y_14.Sum.toList)&&true)))))))then some (.ret false)else some (.go ())
def bC (s1_1:(List Log_)) (s2_2:(List Log_)):Option (Bool) :=
  bif ((s1_1.length:Int) != (s2_2.length:Int))then some false else (jC s1_1 () (λk x s=>aY s2_2 k x s)).bind λo_12=>dE o_12 (λs_9=>some true) (λr=>some r)
def dK (n_1:Int):Option (Bool) :=
  (bif (decide (n_1>=0))then some (decide (n_1<345686400000))else some false).bind λv_2=>some v_2
def dY (a_1:Beat) (b_2:Beat):Option (Int) :=
  (strings_Compare a_1.Player b_2.Player).bind λr_5=>(cmp_Compare_int a_1.At b_2.At).bind λr_7=>(jy ([r_5,r_7]:List Int)).bind λr_9=>some r_9
noncomputable def fq (l_1:(List Beat)) (k_3:Nat) (x_5:Beat) (s_8:Unit):Option (Ctl (Unit) (Int)) :=
  (iJ x_5.Player).bind λr_14=>bif (!r_14)then some (.ret 5)else ((dK x_5.At).bind λr_19=>bif (!r_19)then some true else (eT x_5.Clock 0 345686399999).bind λr_22=>some r_22).bind λv_17=>bif v_17 then some (.ret 1)else (bif (decide ((k_3:Int)>0))then (idx l_1 (w64 ((k_3:Int)-1))).bind λy_28=>(dY y_28 x_5).bind λr_30=>some (decide (r_30>=0))else some false).bind λv_25=>bif v_25 then some (.ret 7)else (bif (decide ((k_3:Int)>0))then (idx l_1 (w64 ((k_3:Int)-1))).bind λy_36=>bif (sEq x_5.Player y_36.Player)then (idx l_1 (w64 ((k_3:Int)-1))).bind λy_39=>some (decide (x_5.Clock<=y_39.Clock))else some false else some false).bind λv_33=>bif v_33 then some (.ret 16)else some (.go ())
noncomputable def fA (l_1:(List Beat)):Option (Int) :=
  bif (decide ((l_1.length:Int)>500))then some 2 else (jC l_1 () (λk x s=>fq l_1 k x s)).bind λo_11=>dE o_11 (λs_8=>some 0) (λr=>some r)
def dU (player_2:ByteArray) (back_3:Bool) (k_4:Nat) (x_6:Beat) (s_9:(List Beat_)):Option (Ctl ((List Beat_)) (Unit)) :=
  (bif (sNe x_6.Player player_2)then some s_9 else bif back_3 then (pV s_9 ([(⟨x_6.At,x_6.Clock⟩:Beat_)]:List Beat_)).bind λa_23=>some a_23 else (pV s_9 ([(⟨x_6.Clock,x_6.At⟩:Beat_)]:List Beat_)).bind λa_26=>some a_26).bind λv_18=>some (.go v_18)
def ik (l_1:(List Beat)) (player_2:ByteArray) (back_3:Bool):Option ((List Beat_)) :=
  (jC l_1 ([]:List Beat_) (λk x s=>dU player_2 back_3 k x s)).bind λo_15=>dE o_15 (λs_9=>some s_9) (λ_=>none)
def dC (l_1:(List Beat_)) (n_2:Int) (s_9:Int):Option (Ctl (Int) (Unit)) :=
  (bif (decide (s_9<(l_1.length:Int)))then (idx l_1 s_9).bind λy_17=>some (decide (y_17.f_from<=n_2))else some false).bind λv_14=>bif v_14 then some (.go (w64 (s_9+1)))else some (.brk s_9)
noncomputable def jb (l_1:(List Beat_)) (n_2:Int):Option (Int×Int) :=
  bif ((l_1.length:Int)==0)then some (0,8)else (nA 0 (λs=>dC l_1 n_2 s)).bind λo_12=>dE o_12 (λs_9=>bif (s_9==0)then (idx l_1 0).bind λy_21=>(idx l_1 0).bind λy_23=>(dK (w64 (y_21.f_to-(w64 (y_23.f_from-n_2))))).bind λr_25=>bif (!r_25)then some (0,11)else some ((w64 (y_21.f_to-(w64 (y_23.f_from-n_2)))),0)else bif (s_9==(l_1.length:Int))then (idx l_1 (w64 (s_9-1))).bind λy_29=>(idx l_1 (w64 (s_9-1))).bind λy_31=>(dK (w64 ((w64 (y_29.f_to+n_2))-y_31.f_from))).bind λr_33=>bif (!r_33)then some (0,11)else some ((w64 ((w64 (y_29.f_to+n_2))-y_31.f_from)),0)else (idx l_1 (w64 (s_9-1))).bind λy_36=>(idx l_1 s_9).bind λy_38=>(bif (decide ((w64 (y_38.f_from-y_36.f_from))>2592000000))then some true else some (decide ((w64 (y_38.f_to-y_36.f_to))>2592000000))).bind λv_42=>bif v_42 then some (0,2)else (Ah .i64 (w64 ((w64 (n_2-y_36.f_from))*(w64 (y_38.f_to-y_36.f_to)))) (w64 (y_38.f_from-y_36.f_from))).bind λq_46=>(dK (w64 (y_36.f_to+q_46))).bind λr_48=>bif (!r_48)then some (0,11)else some ((w64 (y_36.f_to+q_46)),0)) (λ_=>none)
noncomputable def iI (l_1:(List Beat)) (player_2:ByteArray) (n_3:Int) (back_4:Bool):Option (Int×Int) :=
  (fA l_1).bind λr_5=>bif (r_5 != 0)then some (0,r_5)else (iJ player_2).bind λr_8=>bif (!r_8)then some (0,5)else (dK n_3).bind λr_11=>bif (!r_11)then some (0,1)else (ik l_1 player_2 back_4).bind λr_14=>(jb r_14 n_3).bind λr_16=>some (r_16.1,r_16.2)
noncomputable def lL (l_1:(List Beat)) (player_2:ByteArray) (clock_3:Int):Option (Int×Int) :=
  (iI l_1 player_2 clock_3 false).bind λr_4=>some (r_4.1,r_4.2)
noncomputable def kR  : Option (Bool) :=
  (lL ([(⟨(⟨#[112]⟩:ByteArray),0,100⟩:Beat),(⟨(⟨#[112]⟩:ByteArray),1000,1300⟩:Beat)]:List Beat) (⟨#[112]⟩:ByteArray) 700).bind λr_1=>(bif (r_1.2==0)then some (r_1.1==500)else some false).bind λv_3=>some v_3
noncomputable def dV (r_9:ByteArray×Stream) (k_17:Nat) (x_19:Log_) (s_22:Unit):Option (Ctl (Unit) (Bool)) :=
  (lY r_9.1 x_19).bind λr_28=>(fO r_9.1).bind λr_30=>(gu x_19).bind λr_32=>(nO ([r_30,r_32]:List Int)).bind λr_34=>(bif (r_28.2 != r_34)then some true else bif (r_34==0)then (iT r_9.1 x_19).bind λr_40=>bif (sNe r_28.1 r_40)then some true else bif (r_34 != 0)then some (sNe r_28.1 (⟨#[]⟩:ByteArray))else some false else bif (r_34 != 0)then some (sNe r_28.1 (⟨#[]⟩:ByteArray))else some false).bind λv_36=>bif v_36 then some (.ret false)else some (.go ())
def dh (k_62:Nat) (x_64:Nat) (s_67:(List Log_)):Option (Ctl ((List Log_)) (Unit)) :=
  (inR (k_62:Int) s_67).bind λ_=>(s_67[(0+((k_62:Int)).toNat)]?).bind λe_74=>some (.go (s_67.set (0+((k_62:Int)).toNat) (⟨e_74.Player,e_74.Item,(w64 (7+(k_62:Int))),e_74.Clock,e_74.Long,e_74.Sum⟩:Log_)))
noncomputable def jI (l_1:(List Int)):Option (Bool) :=
  (gH (⟨l_1,0⟩:Stream) 5).bind λr_4=>(jS (⟨#[120]⟩:ByteArray)).bind λr_7=>(bA r_4.2 ([(⟨#[]⟩:ByteArray),(⟨#[]⟩:ByteArray),r_7,(⟨#[120]⟩:ByteArray),(⟨#[48,49,50,51,52,53,54,55,56,57,65,66,67,68,69,70]⟩:ByteArray)]:List ByteArray)).bind λr_9=>(fK r_4.1).bind λr_12=>(ic r_4.1).bind λr_14=>bif (r_12 != r_14)then some false else (jC r_4.1 () (λk x s=>dV r_9 k x s)).bind λo_25=>dE o_25 (λs_22=>(aR r_4.1).bind λr_46=>(aW r_46 r_9.2).bind λr_50=>(leL r_50.1 r_46).bind λ_=>(aX r_9.2).bind λr_54=>(zU (false || !r_46.isEmpty) r_50.2 r_54).bind λ_=>(bM r_50.2 2).bind λr_56=>(bif r_56.1 then (jC (List.range ((r_50.1.length:Int)).toNat) r_50.1 (λk x s=>dh k x s)).bind λo_70=>dE o_70 (λs_67=>some s_67) (λ_=>none)else some r_50.1).bind λv_59=>(jQ r_9.1 v_59).bind λr_76=>(jV r_9.1 v_59).bind λr_78=>(bif (r_76.2==r_78.2)then (bC r_76.1 r_78.1).bind λr_83=>bif r_83 then (kR).bind λr_86=>some r_86 else some false else some false).bind λv_80=>some v_80) (λr=>some r)
end Go.Proofs.YtdenjndllgahgaaGreatDoor.Law

