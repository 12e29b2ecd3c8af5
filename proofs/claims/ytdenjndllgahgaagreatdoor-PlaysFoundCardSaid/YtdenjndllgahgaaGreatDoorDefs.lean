/-
  The functions of the program, as plain functions over data (written by a program of ours).
-/
import Derived.Test.YtdenjndllgahgaaGreatDoorEng5
open Go Go.Eng
namespace Go.Proofs.YtdenjndllgahgaaGreatDoor.Law
set_option maxRecDepth 100000
set_option linter.unusedVariables false
set_option maxHeartbeats 1000000
structure Stream where
  L:(List Int)
  f_at:Int
def Stream.enc (s:Stream):List D:=[dl eI s.L,.int .i64 s.f_at]

structure Log_ where
  Player:ByteArray
  Item:ByteArray
  No:Int
  Clock:Int
  Long:Int
  Sum:ByteArray
def Log_.enc (s:Log_):List D:=[.str s.Player,.str s.Item,.int .i64 s.No,.int .i64 s.Clock,.int .i64 s.Long,.str s.Sum]

structure Beat where
  Player:ByteArray
  At:Int
  Clock:Int
def Beat.enc (s:Beat):List D:=[.str s.Player,.int .i64 s.At,.int .i64 s.Clock]

structure Play where
  Player:ByteArray
  Item:ByteArray
  At:Int
  Long:Int
def Play.enc (s:Play):List D:=[.str s.Player,.str s.Item,.int .i64 s.At,.int .i64 s.Long]

structure Placed where
  f_i:Int
  f_at:Int
def Placed.enc (s:Placed):List D:=[.int .i64 s.f_i,.int .i64 s.f_at]

structure Beat_ where
  f_from:Int
  f_to:Int
def Beat_.enc (s:Beat_):List D:=[.int .i64 s.f_from,.int .i64 s.f_to]

structure Dated where
  f_at:Int
  f_i:Int
def Dated.enc (s:Dated):List D:=[.int .i64 s.f_at,.int .i64 s.f_i]

def lZ (x_1:Int) (n_2:Int):Option (Int) :=
  bif (decide (n_2<1))then some 0 else (Ev .i64 x_1 n_2).bind λq_4=>(bif (decide (q_4<0))then some (w64 (q_4+n_2))else some q_4).bind λv_6=>some v_6
def bQ (s_1:Stream) (n_2:Int):Option (Int×Stream) :=
  bif ((s_1.L.length:Int)==0)then (lZ (w64 ((w64 (s_1.f_at+1))*7919)) n_2).bind λr_4=>some (r_4,(⟨s_1.L,(w64 (s_1.f_at+1))⟩:Stream))else (Ev .i64 (w64 ((w64 (s_1.f_at+1))-1)) (s_1.L.length:Int)).bind λq_6=>(Br .i64 (w64 ((w64 (s_1.f_at+1))-1)) (s_1.L.length:Int)).bind λq_8=>(idx s_1.L q_6).bind λy_10=>(lZ y_10 1073741824).bind λr_12=>(lZ (w64 (r_12+(w64 (q_8*(w64 (7919+q_6)))))) n_2).bind λr_14=>some (r_14,(⟨s_1.L,(w64 (s_1.f_at+1))⟩:Stream))
def dC (s_1:Stream) (l_2:(List Int)):Option (Int×Stream) :=
  (bQ s_1 (l_2.length:Int)).bind λr_3=>(idx l_2 r_3.1).bind λy_6=>some (y_6,r_3.2)
def dD (s_1:Stream) (low_2:Int) (high_3:Int):Option (Int×Stream) :=
  bif (decide (high_3<low_2))then some (low_2,s_1)else (bQ s_1 (w64 ((w64 (high_3-low_2))+1))).bind λr_5=>some ((w64 (low_2+r_5.1)),r_5.2)
def cB (s_1:Stream) (l_2:(List ByteArray)):Option (ByteArray×Stream) :=
  (bQ s_1 (l_2.length:Int)).bind λr_3=>(idx l_2 r_3.1).bind λy_6=>some (y_6,r_3.2)
def strconv_Itoa (x0:Int):Option (ByteArray) :=
  DI x0
def strings_Join (x0:(List ByteArray)) (x1:ByteArray):Option (ByteArray) :=
  Dx x0 x1
def iy (k_2:Nat) (x_4:Int) (s_7:(List ByteArray)):Option (Ctl ((List ByteArray)) (Unit)) :=
  (strconv_Itoa x_4).bind λr_15=>(jr s_7 ([r_15]:List ByteArray)).bind λa_17=>some (.go a_17)
def lw (l_1:(List Int)):Option (ByteArray) :=
  (kL l_1 ([]:List ByteArray) (λk x s=>iy k x s)).bind λo_13=>bN o_13 (λs_7=>(strings_Join s_7 (⟨#[32]⟩:ByteArray)).bind λr_20=>some r_20) (λ_=>none)
def lg (l_1:Log_):Option (ByteArray) :=
  (vg l_1.Player (⟨#[32]⟩:ByteArray)).bind λs_3=>(vg s_3 l_1.Item).bind λs_5=>(vg s_5 (⟨#[32]⟩:ByteArray)).bind λs_7=>(lw ([l_1.No,l_1.Clock,l_1.Long]:List Int)).bind λr_9=>(vg s_7 r_9).bind λs_11=>some s_11
def mY (k_2:Nat) (x_4:Int) (s_7:Int):Option (Ctl (Int) (Unit)) :=
  some (.go (IntKind.u64.wrap ((EP .u64 s_7 (IntKind.u64.wrap x_4))*1099511628211)))
def jW (k_12:Nat) (x_14:Nat) (s_17:Int×ByteArray):Option (Ctl (Int×ByteArray) (Unit)) :=
  (tK (⟨#[48,49,50,51,52,53,54,55,56,57,97,98,99,100,101,102]⟩:ByteArray) (s_17.1.tmod 16) (IntKind.u64.wrap ((s_17.1.tmod 16)+1))).bind λy_22=>(vg y_22 s_17.2).bind λs_24=>some (.go ((IntKind.u64.wrap (s_17.1.tdiv 16)),s_24))
def mq (s_1:ByteArray):Option (ByteArray) :=
  (kL (di s_1) 14695981039346656037 (λk x s=>mY k x s)).bind λo_10=>bN o_10 (λs_7=>(kL (List.range (16:Int).toNat) (s_7,(⟨#[]⟩:ByteArray)) (λk x s=>jW k x s)).bind λo_20=>bN o_20 (λs_17=>some s_17.2) (λ_=>none)) (λ_=>none)
def nE (last_1:ByteArray) (l_2:Log_):Option (ByteArray) :=
  (vg last_1 (⟨#[32]⟩:ByteArray)).bind λs_4=>(lg l_2).bind λr_6=>(vg s_4 r_6).bind λs_8=>(mq s_8).bind λr_10=>some r_10
def bS (s_1:Stream) (n_2:Int):Option (Bool×Stream) :=
  (bQ s_1 n_2).bind λr_3=>some ((r_3.1==0),r_3.2)
def eX (x_5:ByteArray) (k_22:Nat) (x_24:Nat) (s_27:(List Log_)×ByteArray×Int×(List Int)×Int):Option (Ctl ((List Log_)×ByteArray×Int×(List Int)×Int) (Unit)) :=
  (cB (⟨s_27.2.2.2.1,s_27.2.2.2.2⟩:Stream) ([(⟨#[105,97]⟩:ByteArray),(⟨#[105,98]⟩:ByteArray)]:List ByteArray)).bind λr_34=>(dC r_34.2 ([1,10,30,100]:List Int)).bind λr_37=>(nE s_27.2.1 (⟨x_5,r_34.1,(w64 ((k_22:Int)+1)),s_27.2.2.1,r_37.1,(⟨#[]⟩:ByteArray)⟩:Log_)).bind λr_41=>(dC r_37.2 ([0,5,10,50,100]:List Int)).bind λr_43=>(bS r_43.2 6).bind λr_46=>(bif (!r_46.1)then (jr s_27.1 ([(⟨x_5,r_34.1,(w64 ((k_22:Int)+1)),s_27.2.2.1,r_37.1,r_41⟩:Log_)]:List Log_)).bind λa_53=>some a_53 else some s_27.1).bind λv_49=>some (.go (v_49,r_41,(w64 (s_27.2.2.1+r_43.1)),r_46.2.L,r_46.2.f_at))
def dH (most_2:Int) (k_3:Nat) (x_5:ByteArray) (s_8:(List Log_)×(List Int)×Int):Option (Ctl ((List Log_)×(List Int)×Int) (Unit)) :=
  (dC (⟨s_8.2.1,s_8.2.2⟩:Stream) ([0,50,1000]:List Int)).bind λr_16=>(dD r_16.2 0 most_2).bind λr_19=>(kL (List.range (r_19.1).toNat) (s_8.1,(⟨#[]⟩:ByteArray),r_16.1,r_19.2.L,r_19.2.f_at) (λk x s=>eX x_5 k x s)).bind λo_32=>bN o_32 (λs_27=>some (.go (s_27.1,s_27.2.2.2.1,s_27.2.2.2.2))) (λ_=>none)
def fI (s_1:Stream) (most_2:Int):Option ((List Log_)×Stream) :=
  (kL ([(⟨#[112,97]⟩:ByteArray),(⟨#[112,98]⟩:ByteArray)]:List ByteArray) (([]:List Log_),s_1.L,s_1.f_at) (λk x s=>dH most_2 k x s)).bind λo_14=>bN o_14 (λs_8=>some (s_8.1,(⟨s_8.2.1,s_8.2.2⟩:Stream))) (λ_=>none)
def dU (s_1:Stream) (low_2:Int) (high_3:Int):Option (Int×Stream) :=
  (bS s_1 12).bind λr_4=>bif r_4.1 then (dC r_4.2 ([(w64 (low_2-1)),(w64 (high_3+1)),low_2,high_3,(-1099511627776),1099511627776]:List Int)).bind λr_8=>some (r_8.1,r_8.2)else (dD r_4.2 low_2 high_3).bind λr_11=>some (r_11.1,r_11.2)
def jl (s_1:Stream) (most_2:Int):Option ((List Log_)×Stream) :=
  (fI s_1 most_2).bind λr_3=>(bif (decide ((r_3.1.length:Int)>0))then (bS r_3.2 4).bind λr_10=>some (r_10.1,r_10.2.L,r_10.2.f_at)else some (false,r_3.2.L,r_3.2.f_at)).bind λv_7=>(bif v_7.1 then (bQ (⟨v_7.2.1,v_7.2.2⟩:Stream) (r_3.1.length:Int)).bind λr_16=>(inR r_16.1 r_3.1).bind λ_=>(cB r_16.2 ([(⟨#[105,97]⟩:ByteArray),(⟨#[105,99]⟩:ByteArray)]:List ByteArray)).bind λr_20=>(r_3.1[(0+(r_16.1).toNat)]?).bind λe_23=>(mq (⟨#[120]⟩:ByteArray)).bind λr_25=>(cB r_20.2 ([e_23.Sum,r_25]:List ByteArray)).bind λr_27=>(r_3.1[(0+(r_16.1).toNat)]?).bind λe_30=>((r_3.1.set (0+(r_16.1).toNat) (⟨e_30.Player,r_20.1,e_30.No,e_30.Clock,e_30.Long,e_30.Sum⟩:Log_))[(0+(r_16.1).toNat)]?).bind λe_32=>some (((r_3.1.set (0+(r_16.1).toNat) (⟨e_30.Player,r_20.1,e_30.No,e_30.Clock,e_30.Long,e_30.Sum⟩:Log_)).set (0+(r_16.1).toNat) (⟨e_32.Player,e_32.Item,e_32.No,e_32.Clock,e_32.Long,r_27.1⟩:Log_)),r_27.2.L,r_27.2.f_at)else some (r_3.1,v_7.2.1,v_7.2.2)).bind λv_13=>(bif (decide ((v_13.1.length:Int)>0))then (bS (⟨v_13.2.1,v_13.2.2⟩:Stream) 12).bind λr_37=>some (r_37.1,r_37.2.L,r_37.2.f_at)else some (false,v_13.2.1,v_13.2.2)).bind λv_34=>(bif v_34.1 then (bQ (⟨v_34.2.1,v_34.2.2⟩:Stream) (v_13.1.length:Int)).bind λr_43=>(inR r_43.1 v_13.1).bind λ_=>(bQ r_43.2 4).bind λr_47=>bif (r_47.1==0)then (v_13.1[(0+(r_43.1).toNat)]?).bind λe_51=>(cB r_47.2 ([e_51.Player,(⟨#[]⟩:ByteArray),(⟨#[65]⟩:ByteArray)]:List ByteArray)).bind λr_53=>(cB r_53.2 ([(⟨#[105,97]⟩:ByteArray),(⟨#[]⟩:ByteArray)]:List ByteArray)).bind λr_56=>(v_13.1[(0+(r_43.1).toNat)]?).bind λe_59=>((v_13.1.set (0+(r_43.1).toNat) (⟨r_53.1,e_59.Item,e_59.No,e_59.Clock,e_59.Long,e_59.Sum⟩:Log_))[(0+(r_43.1).toNat)]?).bind λe_61=>some (((v_13.1.set (0+(r_43.1).toNat) (⟨r_53.1,e_59.Item,e_59.No,e_59.Clock,e_59.Long,e_59.Sum⟩:Log_)).set (0+(r_43.1).toNat) (⟨e_61.Player,r_56.1,e_61.No,e_61.Clock,e_61.Long,e_61.Sum⟩:Log_)),r_56.2.L,r_56.2.f_at)else bif (r_47.1==1)then (dU r_47.2 1 1000000).bind λr_64=>(v_13.1[(0+(r_43.1).toNat)]?).bind λe_67=>some ((v_13.1.set (0+(r_43.1).toNat) (⟨e_67.Player,e_67.Item,r_64.1,e_67.Clock,e_67.Long,e_67.Sum⟩:Log_)),r_64.2.L,r_64.2.f_at)else bif (r_47.1==2)then (dU r_47.2 0 1000).bind λr_70=>(dU r_70.2 1 1000).bind λr_73=>(v_13.1[(0+(r_43.1).toNat)]?).bind λe_76=>((v_13.1.set (0+(r_43.1).toNat) (⟨e_76.Player,e_76.Item,e_76.No,r_70.1,e_76.Long,e_76.Sum⟩:Log_))[(0+(r_43.1).toNat)]?).bind λe_78=>some (((v_13.1.set (0+(r_43.1).toNat) (⟨e_76.Player,e_76.Item,e_76.No,r_70.1,e_76.Long,e_76.Sum⟩:Log_)).set (0+(r_43.1).toNat) (⟨e_78.Player,e_78.Item,e_78.No,e_78.Clock,r_73.1,e_78.Sum⟩:Log_)),r_73.2.L,r_73.2.f_at)else (cB r_47.2 ([(⟨#[]⟩:ByteArray),(⟨#[120]⟩:ByteArray),(⟨#[48,49,50,51,52,53,54,55,56,57,65,66,67,68,69,70]⟩:ByteArray),(⟨#[48,49,50,51,52,53,54,55,56,57,97,98,99,100,101]⟩:ByteArray)]:List ByteArray)).bind λr_80=>(v_13.1[(0+(r_43.1).toNat)]?).bind λe_83=>some ((v_13.1.set (0+(r_43.1).toNat) (⟨e_83.Player,e_83.Item,e_83.No,e_83.Clock,e_83.Long,r_80.1⟩:Log_)),r_80.2.L,r_80.2.f_at)else some (v_13.1,v_34.2.1,v_34.2.2)).bind λv_40=>some (v_40.1,(⟨v_40.2.1,v_40.2.2⟩:Stream))
def eG (x_4:ByteArray) (k_24:Nat) (x_26:Nat) (s_29:(List Beat)×Int×Int×(List Int)×Int):Option (Ctl ((List Beat)×Int×Int×(List Int)×Int) (Unit)) :=
  (jr s_29.1 ([(⟨x_4,s_29.2.1,s_29.2.2.1⟩:Beat)]:List Beat)).bind λa_36=>(dC (⟨s_29.2.2.2.1,s_29.2.2.2.2⟩:Stream) ([1,50,100,1000,2678400000]:List Int)).bind λr_39=>(dC r_39.2 ([1,40,100,1300,2592000000]:List Int)).bind λr_42=>some (.go (a_36,(w64 (s_29.2.1+r_39.1)),(w64 (s_29.2.2.1+r_42.1)),r_42.2.L,r_42.2.f_at))
def d9 (k_2:Nat) (x_4:ByteArray) (s_7:(List Beat)×(List Int)×Int):Option (Ctl ((List Beat)×(List Int)×Int) (Unit)) :=
  (dD (⟨s_7.2.1,s_7.2.2⟩:Stream) 0 100).bind λr_15=>(dD r_15.2 0 100).bind λr_18=>(dD r_18.2 0 3).bind λr_21=>(kL (List.range (r_21.1).toNat) (s_7.1,r_15.1,r_18.1,r_21.2.L,r_21.2.f_at) (λk x s=>eG x_4 k x s)).bind λo_34=>bN o_34 (λs_29=>some (.go (s_29.1,s_29.2.2.2.1,s_29.2.2.2.2))) (λ_=>none)
def fu (s_1:Stream):Option ((List Beat)×Stream) :=
  (kL ([(⟨#[112,97]⟩:ByteArray),(⟨#[112,98]⟩:ByteArray)]:List ByteArray) (([]:List Beat),s_1.L,s_1.f_at) (λk x s=>d9 k x s)).bind λo_13=>bN o_13 (λs_7=>some (s_7.1,(⟨s_7.2.1,s_7.2.2⟩:Stream))) (λ_=>none)
def iT (s_1:Stream):Option ((List Beat)×Stream) :=
  (fu s_1).bind λr_2=>(bif (decide ((r_2.1.length:Int)>0))then (bS r_2.2 12).bind λr_9=>some (r_9.1,r_9.2.L,r_9.2.f_at)else some (false,r_2.2.L,r_2.2.f_at)).bind λv_6=>(bif v_6.1 then (bQ (⟨v_6.2.1,v_6.2.2⟩:Stream) (r_2.1.length:Int)).bind λr_15=>(inR r_15.1 r_2.1).bind λ_=>(r_2.1[(0+(r_15.1).toNat)]?).bind λe_19=>(cB r_15.2 ([e_19.Player,(⟨#[]⟩:ByteArray),(⟨#[112,97]⟩:ByteArray)]:List ByteArray)).bind λr_21=>(dU r_21.2 0 1000).bind λr_24=>(dU r_24.2 0 1000).bind λr_27=>(r_2.1[(0+(r_15.1).toNat)]?).bind λe_30=>((r_2.1.set (0+(r_15.1).toNat) (⟨r_21.1,e_30.At,e_30.Clock⟩:Beat))[(0+(r_15.1).toNat)]?).bind λe_32=>(((r_2.1.set (0+(r_15.1).toNat) (⟨r_21.1,e_30.At,e_30.Clock⟩:Beat)).set (0+(r_15.1).toNat) (⟨e_32.Player,r_24.1,e_32.Clock⟩:Beat))[(0+(r_15.1).toNat)]?).bind λe_34=>some ((((r_2.1.set (0+(r_15.1).toNat) (⟨r_21.1,e_30.At,e_30.Clock⟩:Beat)).set (0+(r_15.1).toNat) (⟨e_32.Player,r_24.1,e_32.Clock⟩:Beat)).set (0+(r_15.1).toNat) (⟨e_34.Player,e_34.At,r_27.1⟩:Beat)),r_27.2.L,r_27.2.f_at)else some (r_2.1,v_6.2.1,v_6.2.2)).bind λv_12=>some (v_12.1,(⟨v_12.2.1,v_12.2.2⟩:Stream))
def iG (s_1:ByteArray) (s_7:Int):Option (Ctl (Int) (Bool)) :=
  bif (decide (s_7<(s_1.size:Int)))then (Cj s_1 s_7).bind λb_13=>(bif (decide ((b_13.toNat:Int)>=97))then bif (decide ((b_13.toNat:Int)<=122))then some false else bif (decide (s_7>0))then bif (decide ((b_13.toNat:Int)>=48))then bif (decide ((b_13.toNat:Int)<=57))then some false else bif ((b_13.toNat:Int)==45)then some false else some (!((b_13.toNat:Int)==95))else bif ((b_13.toNat:Int)==45)then some false else some (!((b_13.toNat:Int)==95))else some true else bif (decide (s_7>0))then bif (decide ((b_13.toNat:Int)>=48))then bif (decide ((b_13.toNat:Int)<=57))then some false else bif ((b_13.toNat:Int)==45)then some false else some (!((b_13.toNat:Int)==95))else bif ((b_13.toNat:Int)==45)then some false else some (!((b_13.toNat:Int)==95))else some true).bind λv_15=>bif v_15 then some (.ret false)else some (.go (w64 (s_7+1)))else some (.brk s_7)
noncomputable def jZ (s_1:ByteArray):Option (Bool) :=
  (gp 0 (λs=>iG s_1 s)).bind λo_10=>bN o_10 (λs_7=>(bif (sNe s_1 (⟨#[]⟩:ByteArray))then some (decide ((s_1.size:Int)<=40))else some false).bind λv_30=>some v_30) (λr=>some r)
def gD (n_1:Int) (low_2:Int) (high_3:Int):Option (Bool) :=
  (bif (decide (n_1<low_2))then some true else some (decide (n_1>high_3))).bind λv_4=>some v_4
noncomputable def jh (l_1:Log_):Option (Int) :=
  ((jZ l_1.Player).bind λr_5=>bif (!r_5)then some true else (jZ l_1.Item).bind λr_8=>some (!r_8)).bind λv_3=>bif v_3 then some 5 else ((gD l_1.No 1 1000000).bind λr_13=>bif r_13 then some true else (gD l_1.Clock 0 345686399999).bind λr_16=>bif r_16 then some true else (gD l_1.Long 1 86400000).bind λr_19=>some r_19).bind λv_11=>bif v_11 then some 1 else some 0
def lS (x0:ByteArray) (x1:ByteArray):Option (ByteArray) :=
  zk x0 x1
def kC (s_1:ByteArray):Option (Bool) :=
  (bif ((s_1.size:Int)==16)then (lS s_1 (⟨#[48,49,50,51,52,53,54,55,56,57,97,98,99,100,101,102]⟩:ByteArray)).bind λr_5=>some (sEq r_5 (⟨#[]⟩:ByteArray))else some false).bind λv_2=>some v_2
def fq (a_1:ByteArray) (b_2:ByteArray):Option (Int) :=
  some (mK a_1 b_2)
def strings_Compare (a_1:ByteArray) (b_2:ByteArray):Option (Int) :=
  (fq a_1 b_2).bind λr_3=>some r_3
def cmp_isNaN_int (x_1:Int):Option (Bool) :=
  some (x_1 != x_1)
def cmp_Compare_int (x_1:Int) (y_2:Int):Option (Int) :=
  (cmp_isNaN_int x_1).bind λr_3=>(cmp_isNaN_int y_2).bind λr_5=>bif r_3 then bif r_5 then some 0 else some (-1)else bif r_5 then some 1 else bif (decide (x_1<y_2))then some (-1)else bif (decide (x_1>y_2))then some 1 else some 0
def kY (k_2:Nat) (x_4:Int) (s_7:Unit):Option (Ctl (Unit) (Int)) :=
  bif (x_4 != 0)then some (.ret x_4)else some (.go ())
def kU (vals_1:(List Int)):Option (Int) :=
  (kL vals_1 () (λk x s=>kY k x s)).bind λo_10=>bN o_10 (λs_7=>some 0) (λr=>some r)
def gN (a_1:Log_) (b_2:Log_):Option (Int) :=
  (strings_Compare a_1.Player b_2.Player).bind λr_5=>(cmp_Compare_int a_1.No b_2.No).bind λr_7=>(kU ([r_5,r_7]:List Int)).bind λr_9=>some r_9
noncomputable def iH (l_1:(List Log_)) (k_3:Nat) (x_5:Log_) (s_8:Unit):Option (Ctl (Unit) (Int)) :=
  (jh x_5).bind λr_14=>bif (r_14 != 0)then some (.ret r_14)else (kC x_5.Sum).bind λr_17=>bif (!r_17)then some (.ret 3)else (bif (decide ((k_3:Int)>0))then (idx l_1 (w64 ((k_3:Int)-1))).bind λy_23=>(gN y_23 x_5).bind λr_25=>some (decide (r_25>=0))else some false).bind λv_20=>bif v_20 then some (.ret 7)else some (.go ())
noncomputable def gz (l_1:(List Log_)):Option (Int) :=
  bif (decide ((l_1.length:Int)>2000))then some 2 else (kL l_1 () (λk x s=>iH l_1 k x s)).bind λo_11=>bN o_11 (λs_8=>some 0) (λr=>some r)
def eQ (n_1:Int):Option (Bool) :=
  (bif (decide (n_1>=0))then some (decide (n_1<345686400000))else some false).bind λv_2=>some v_2
def fT (a_1:Beat) (b_2:Beat):Option (Int) :=
  (strings_Compare a_1.Player b_2.Player).bind λr_5=>(cmp_Compare_int a_1.At b_2.At).bind λr_7=>(kU ([r_5,r_7]:List Int)).bind λr_9=>some r_9
noncomputable def gX (l_1:(List Beat)) (k_3:Nat) (x_5:Beat) (s_8:Unit):Option (Ctl (Unit) (Int)) :=
  (jZ x_5.Player).bind λr_14=>bif (!r_14)then some (.ret 5)else ((eQ x_5.At).bind λr_19=>bif (!r_19)then some true else (gD x_5.Clock 0 345686399999).bind λr_22=>some r_22).bind λv_17=>bif v_17 then some (.ret 1)else (bif (decide ((k_3:Int)>0))then (idx l_1 (w64 ((k_3:Int)-1))).bind λy_28=>(fT y_28 x_5).bind λr_30=>some (decide (r_30>=0))else some false).bind λv_25=>bif v_25 then some (.ret 7)else (bif (decide ((k_3:Int)>0))then (idx l_1 (w64 ((k_3:Int)-1))).bind λy_36=>bif (sEq x_5.Player y_36.Player)then (idx l_1 (w64 ((k_3:Int)-1))).bind λy_39=>some (decide (x_5.Clock<=y_39.Clock))else some false else some false).bind λv_33=>bif v_33 then some (.ret 16)else some (.go ())
noncomputable def eu (l_1:(List Beat)):Option (Int) :=
  bif (decide ((l_1.length:Int)>500))then some 2 else (kL l_1 () (λk x s=>gX l_1 k x s)).bind λo_11=>bN o_11 (λs_8=>some 0) (λr=>some r)
def fM (player_2:ByteArray) (back_3:Bool) (k_4:Nat) (x_6:Beat) (s_9:(List Beat_)):Option (Ctl ((List Beat_)) (Unit)) :=
  (bif (sNe x_6.Player player_2)then some s_9 else bif back_3 then (jr s_9 ([(⟨x_6.At,x_6.Clock⟩:Beat_)]:List Beat_)).bind λa_23=>some a_23 else (jr s_9 ([(⟨x_6.Clock,x_6.At⟩:Beat_)]:List Beat_)).bind λa_26=>some a_26).bind λv_18=>some (.go v_18)
def iV (l_1:(List Beat)) (player_2:ByteArray) (back_3:Bool):Option ((List Beat_)) :=
  (kL l_1 ([]:List Beat_) (λk x s=>fM player_2 back_3 k x s)).bind λo_15=>bN o_15 (λs_9=>some s_9) (λ_=>none)
def fe (l_1:(List Beat_)) (n_2:Int) (s_9:Int):Option (Ctl (Int) (Unit)) :=
  (bif (decide (s_9<(l_1.length:Int)))then (idx l_1 s_9).bind λy_17=>some (decide (y_17.f_from<=n_2))else some false).bind λv_14=>bif v_14 then some (.go (w64 (s_9+1)))else some (.brk s_9)
noncomputable def gH (l_1:(List Beat_)) (n_2:Int):Option (Int×Int) :=
  bif ((l_1.length:Int)==0)then some (0,8)else (gp 0 (λs=>fe l_1 n_2 s)).bind λo_12=>bN o_12 (λs_9=>bif (s_9==0)then (idx l_1 0).bind λy_21=>(idx l_1 0).bind λy_23=>(eQ (w64 (y_21.f_to-(w64 (y_23.f_from-n_2))))).bind λr_25=>bif (!r_25)then some (0,11)else some ((w64 (y_21.f_to-(w64 (y_23.f_from-n_2)))),0)else bif (s_9==(l_1.length:Int))then (idx l_1 (w64 (s_9-1))).bind λy_29=>(idx l_1 (w64 (s_9-1))).bind λy_31=>(eQ (w64 ((w64 (y_29.f_to+n_2))-y_31.f_from))).bind λr_33=>bif (!r_33)then some (0,11)else some ((w64 ((w64 (y_29.f_to+n_2))-y_31.f_from)),0)else (idx l_1 (w64 (s_9-1))).bind λy_36=>(idx l_1 s_9).bind λy_38=>(bif (decide ((w64 (y_38.f_from-y_36.f_from))>2592000000))then some true else some (decide ((w64 (y_38.f_to-y_36.f_to))>2592000000))).bind λv_42=>bif v_42 then some (0,2)else (Br .i64 (w64 ((w64 (n_2-y_36.f_from))*(w64 (y_38.f_to-y_36.f_to)))) (w64 (y_38.f_from-y_36.f_from))).bind λq_46=>(eQ (w64 (y_36.f_to+q_46))).bind λr_48=>bif (!r_48)then some (0,11)else some ((w64 (y_36.f_to+q_46)),0)) (λ_=>none)
def ic (x_1:Placed) (y_2:Placed):Option (Int) :=
  (cmp_Compare_int x_1.f_at y_2.f_at).bind λr_5=>some r_5
def bJ (a_2:Int) (s_21:(List Placed)×Int):Option (Ctl ((List Placed)×Int) (Unit)) :=
  (bif (decide (s_21.2>a_2))then (inR s_21.2 s_21.1).bind λ_=>(s_21.1[(0+(s_21.2).toNat)]?).bind λe_30=>(inR (w64 (s_21.2-1)) s_21.1).bind λ_=>(s_21.1[(0+((w64 (s_21.2-1))).toNat)]?).bind λe_33=>(ic e_30 e_33).bind λr_35=>some (decide (r_35<0))else some false).bind λv_26=>bif v_26 then (inR (w64 (s_21.2-1)) s_21.1).bind λ_=>(s_21.1[(0+((w64 (s_21.2-1))).toNat)]?).bind λe_39=>(inR s_21.2 s_21.1).bind λ_=>(s_21.1[(0+(s_21.2).toNat)]?).bind λe_42=>(inR s_21.2 s_21.1).bind λ_=>(s_21.1[(0+(s_21.2).toNat)]?).bind λe_45=>(inR (w64 (s_21.2-1)) (s_21.1.set (0+(s_21.2).toNat) e_39)).bind λ_=>((s_21.1.set (0+(s_21.2).toNat) e_39)[(0+((w64 (s_21.2-1))).toNat)]?).bind λe_48=>some (.go (((s_21.1.set (0+(s_21.2).toNat) e_39).set (0+((w64 (s_21.2-1))).toNat) e_42),(w64 (s_21.2-1))))else some (.brk (s_21.1,s_21.2))
noncomputable def bI (b_3:Int) (a_2:Int) (s_10:(List Placed)×Int):Option (Ctl ((List Placed)×Int) (Unit)) :=
  bif (decide (s_10.2<b_3))then (gp (s_10.1,s_10.2) (λs=>bJ a_2 s)).bind λo_24=>bN o_24 (λs_21=>some (.go (s_21.1,(w64 (s_10.2+1))))) (λ_=>none)else some (.brk (s_10.1,s_10.2))
noncomputable def bg (data_1:(List Placed)) (a_2:Int) (b_3:Int):Option ((List Placed)) :=
  (gp (data_1,(w64 (a_2+1))) (λs=>bI b_3 a_2 s)).bind λo_13=>bN o_13 (λs_10=>some s_10.1) (λ_=>none)
noncomputable def dw (n_2:Int) (s_9:(List Placed)×Int×Int):Option (Ctl ((List Placed)×Int×Int) (Unit)) :=
  bif (decide (s_9.2.2<=n_2))then (bg s_9.1 s_9.2.1 s_9.2.2).bind λr_15=>(iE r_15 s_9.1).bind λ_=>some (.go (r_15,s_9.2.2,(w64 (s_9.2.2+20))))else some (.brk (s_9.1,s_9.2.1,s_9.2.2))
def dn (s_26:Int) (n_2:Int) (s_37:Unit):Option (Ctl (Unit) (Unit)) :=
  bif (decide ((w64 (2*s_26))<=n_2))then none else some (.brk ())
noncomputable def dz (n_2:Int) (s_26:Int):Option (Ctl (Int) (Unit)) :=
  bif (decide (s_26<n_2))then (gp () (λs=>dn s_26 n_2 s)).bind λo_40=>bN o_40 (λs_37=>(bif (decide ((w64 (0+s_26))<n_2))then none else some ()).bind λv_43=>some (.go (w64 (s_26*2)))) (λ_=>none)else some (.brk s_26)
noncomputable def bO (data_1:(List Placed)) (n_2:Int):Option ((List Placed)) :=
  (gp (data_1,0,20) (λs=>dw n_2 s)).bind λo_12=>bN o_12 (λs_9=>(bg s_9.1 s_9.2.1 n_2).bind λr_18=>(iE r_18 s_9.1).bind λ_=>(gp 20 (λs=>dz n_2 s)).bind λo_29=>bN o_29 (λs_26=>some r_18) (λ_=>none)) (λ_=>none)
noncomputable def aN (x_1:(List Placed)):Option ((List Placed)) :=
  (bO x_1 (x_1.length:Int)).bind λr_3=>(iE r_3 x_1).bind λ_=>some r_3
noncomputable def dR (tov_3:Int) (l_1:(List Log_)) (r_7:(List Beat_)) (s_14:(List Placed)×(List Int)×Int):Option (Ctl ((List Placed)×(List Int)×Int) (Unit)) :=
  bif (decide (s_14.2.2<tov_3))then (idx l_1 s_14.2.2).bind λy_26=>(gH r_7 y_26.Clock).bind λr_28=>(bif (r_28.2==0)then (jr s_14.1 ([(⟨s_14.2.2,r_28.1⟩:Placed)]:List Placed)).bind λa_35=>some (a_35,s_14.2.1)else bif (r_28.2==8)then (idx l_1 s_14.2.2).bind λy_39=>(jr s_14.1 ([(⟨s_14.2.2,y_39.Clock⟩:Placed)]:List Placed)).bind λa_41=>some (a_41,s_14.2.1)else (jr s_14.2.1 ([s_14.2.2]:List Int)).bind λa_44=>some (s_14.1,a_44)).bind λv_30=>some (.go (v_30.1,v_30.2,(w64 (s_14.2.2+1))))else some (.brk (s_14.1,s_14.2.1,s_14.2.2))
noncomputable def jm (l_1:(List Log_)) (fromv_2:Int) (tov_3:Int) (b_4:(List Beat)):Option ((List Placed)×(List Int)) :=
  (idx l_1 fromv_2).bind λy_5=>(iV b_4 y_5.Player false).bind λr_7=>(gp (([]:List Placed),([]:List Int),fromv_2) (λs=>dR tov_3 l_1 r_7 s)).bind λo_23=>bN o_23 (λs_14=>(aN s_14.1).bind λr_47=>(iE r_47 s_14.1).bind λ_=>some (r_47,s_14.2.1)) (λ_=>none)
def bD (x:(List Int)):Option ((List Int)) :=
  Bo x
def fA (l_1:(List Log_)) (s_14:(List Play)×(List Int)×Int) (s_31:Int):Option (Ctl (Int) (Unit)) :=
  (bif (decide (s_31<(l_1.length:Int)))then (idx l_1 s_31).bind λy_39=>(idx l_1 s_14.2.2).bind λy_41=>some (sEq y_39.Player y_41.Player)else some false).bind λv_36=>bif v_36 then some (.go (w64 (s_31+1)))else some (.brk s_31)
def ik (l_1:(List Log_)) (k_49:Nat) (x_51:Placed) (s_54:(List Play)×(List Int)×Int):Option (Ctl ((List Play)×(List Int)×Int) (Unit)) :=
  (idx l_1 x_51.f_i).bind λy_64=>(bif (decide ((kF x_51.f_at s_54.2.2)>=(w64 (x_51.f_at+y_64.Long))))then some true else (eQ (kF x_51.f_at s_54.2.2)).bind λr_70=>some (!r_70)).bind λv_67=>bif v_67 then (jr s_54.2.1 ([x_51.f_i]:List Int)).bind λa_73=>some (.go (s_54.1,a_73,s_54.2.2))else (jr s_54.1 ([(⟨y_64.Player,y_64.Item,(kF x_51.f_at s_54.2.2),(w64 ((w64 (x_51.f_at+y_64.Long))-(kF x_51.f_at s_54.2.2)))⟩:Play)]:List Play)).bind λa_76=>some (.go (a_76,s_54.2.1,(w64 (x_51.f_at+y_64.Long))))
noncomputable def fC (l_1:(List Log_)) (b_2:(List Beat)) (s_14:(List Play)×(List Int)×Int):Option (Ctl ((List Play)×(List Int)×Int) (Unit)) :=
  bif (decide (s_14.2.2<(l_1.length:Int)))then (gp s_14.2.2 (λs=>fA l_1 s_14 s)).bind λo_34=>bN o_34 (λs_31=>(jm l_1 s_14.2.2 s_31 b_2).bind λr_44=>(jr s_14.2.1 r_44.2).bind λa_46=>(kL r_44.1 (s_14.1,a_46,0) (λk x s=>ik l_1 k x s)).bind λo_61=>bN o_61 (λs_54=>some (.go (s_54.1,s_54.2.1,s_31))) (λ_=>none)) (λ_=>none)else some (.brk (s_14.1,s_14.2.1,s_14.2.2))
noncomputable def gL (l_1:(List Log_)) (b_2:(List Beat)):Option ((List Play)×(List Int)×Int) :=
  (gz l_1).bind λr_3=>bif (r_3 != 0)then some (([]:(List Play)),([]:(List Int)),r_3)else (eu b_2).bind λr_6=>bif (r_6 != 0)then some (([]:(List Play)),([]:(List Int)),r_6)else (gp (([]:List Play),([]:List Int),0) (λs=>fC l_1 b_2 s)).bind λo_23=>bN o_23 (λs_14=>(bD s_14.2.1).bind λr_80=>(iE r_80 s_14.2.1).bind λ_=>some (s_14.1,r_80,0)) (λ_=>none)
def oH (n_1:Int) (low_2:Int) (high_3:Int):Option (Bool) :=
  (bif (decide (low_2<=n_1))then some (decide (n_1<=high_3))else some false).bind λv_4=>some v_4
def dF (s_1:ByteArray) (c_2:Int):Option (Int) :=
  some (ixB s_1 c_2)
def strings_IndexByte (s_1:ByteArray) (c_2:Int):Option (Int) :=
  (dF s_1 c_2).bind λr_3=>some r_3
def jV (s_1:ByteArray) (somev_2:ByteArray) (k_3:Nat) (x_5:Nat) (s_8:Unit):Option (Ctl (Unit) (Bool)) :=
  (Cj s_1 (k_3:Int)).bind λb_13=>(strings_IndexByte somev_2 (b_13.toNat:Int)).bind λr_15=>bif (decide (r_15<0))then some (.ret false)else some (.go ())
def lc (s_1:ByteArray) (somev_2:ByteArray):Option (Bool) :=
  (kL (List.range ((s_1.size:Int)).toNat) () (λk x s=>jV s_1 somev_2 k x s)).bind λo_11=>bN o_11 (λs_8=>some true) (λr=>some r)
def og (s_1:ByteArray):Option (Bool) :=
  ((oH (s_1.size:Int) 1 40).bind λr_4=>bif r_4 then (tK s_1 0 1).bind λy_7=>(lc y_7 (⟨#[97,98,99,100,101,102,103,104,105,106,107,108,109,110,111,112,113,114,115,116,117,118,119,120,121,122]⟩:ByteArray)).bind λr_9=>bif r_9 then (lc s_1 (⟨#[97,98,99,100,101,102,103,104,105,106,107,108,109,110,111,112,113,114,115,116,117,118,119,120,121,122,48,49,50,51,52,53,54,55,56,57,45,95]⟩:ByteArray)).bind λr_12=>some r_12 else some false else some false).bind λv_2=>some v_2
def gQ (atv_1:Int):Option (Bool) :=
  (oH atv_1 0 345686399999).bind λr_2=>some r_2
def lu (l_1:Log_):Option (Int) :=
  ((og l_1.Player).bind λr_5=>bif (!r_5)then some true else (og l_1.Item).bind λr_8=>some (!r_8)).bind λv_3=>bif v_3 then some 5 else ((oH l_1.No 1 1000000).bind λr_13=>bif (!r_13)then some true else (gQ l_1.Clock).bind λr_16=>bif (!r_16)then some true else (oH l_1.Long 1 86400000).bind λr_19=>some (!r_19)).bind λv_11=>bif v_11 then some 1 else some 0
def ma (s_1:ByteArray):Option (Bool) :=
  (bif ((s_1.size:Int)==16)then (lc s_1 (⟨#[48,49,50,51,52,53,54,55,56,57,97,98,99,100,101,102]⟩:ByteArray)).bind λr_5=>some r_5 else some false).bind λv_2=>some v_2
def nV (n_1:Int):Option (Int) :=
  bif (decide (n_1<0))then some (-1)else bif (decide (n_1>0))then some 1 else some 0
def kG (a_1:Log_) (b_2:Log_):Option (Int) :=
  bif (sNe a_1.Player b_2.Player)then (strings_Compare a_1.Player b_2.Player).bind λr_6=>some r_6 else (nV (w64 (a_1.No-b_2.No))).bind λr_8=>some r_8
def jq (l_1:(List Log_)) (k_3:Nat) (x_5:Log_) (s_8:Unit):Option (Ctl (Unit) (Int)) :=
  (lu x_5).bind λr_14=>bif (r_14 != 0)then some (.ret r_14)else (ma x_5.Sum).bind λr_17=>bif (!r_17)then some (.ret 3)else (bif (decide ((k_3:Int)>0))then (idx l_1 (w64 ((k_3:Int)-1))).bind λy_23=>(kG y_23 x_5).bind λr_25=>some (decide (r_25>=0))else some false).bind λv_20=>bif v_20 then some (.ret 7)else some (.go ())
def jI (l_1:(List Log_)):Option (Int) :=
  bif (decide ((l_1.length:Int)>2000))then some 2 else (kL l_1 () (λk x s=>jq l_1 k x s)).bind λo_11=>bN o_11 (λs_8=>some 0) (λr=>some r)
def ja (l_1:(List Beat)) (k_3:Nat) (x_5:Beat) (s_8:Unit):Option (Ctl (Unit) (Int)) :=
  (og x_5.Player).bind λr_14=>bif (!r_14)then some (.ret 5)else ((gQ x_5.At).bind λr_19=>bif (!r_19)then some true else (gQ x_5.Clock).bind λr_22=>some (!r_22)).bind λv_17=>bif v_17 then some (.ret 1)else bif ((k_3:Int)==0)then some (.go ())else (idx l_1 (w64 ((k_3:Int)-1))).bind λy_26=>(bif (sLt x_5.Player y_26.Player)then some true else bif (sEq x_5.Player y_26.Player)then some (decide (x_5.At<=y_26.At))else some false).bind λv_29=>bif v_29 then some (.ret 7)else (bif (sEq x_5.Player y_26.Player)then some (decide (x_5.Clock<=y_26.Clock))else some false).bind λv_34=>bif v_34 then some (.ret 16)else some (.go ())
def jd (l_1:(List Beat)):Option (Int) :=
  bif (decide ((l_1.length:Int)>500))then some 2 else (kL l_1 () (λk x s=>ja l_1 k x s)).bind λo_11=>bN o_11 (λs_8=>some 0) (λr=>some r)
def mO (k_2:Nat) (x_4:Int) (s_7:Unit):Option (Ctl (Unit) (Int)) :=
  bif (x_4 != 0)then some (.ret x_4)else some (.go ())
def pq (l_1:(List Int)):Option (Int) :=
  (kL l_1 () (λk x s=>mO k x s)).bind λo_10=>bN o_10 (λs_7=>some 0) (λr=>some r)
noncomputable def kr (l_1:(List Beat)) (player_2:ByteArray) (n_3:Int) (back_4:Bool):Option (Int×Int) :=
  (eu l_1).bind λr_5=>bif (r_5 != 0)then some (0,r_5)else (jZ player_2).bind λr_8=>bif (!r_8)then some (0,5)else (eQ n_3).bind λr_11=>bif (!r_11)then some (0,1)else (iV l_1 player_2 back_4).bind λr_14=>(gH r_14 n_3).bind λr_16=>some (r_16.1,r_16.2)
noncomputable def mR (l_1:(List Beat)) (player_2:ByteArray) (clock_3:Int):Option (Int×Int) :=
  (kr l_1 player_2 clock_3 false).bind λr_4=>some (r_4.1,r_4.2)
noncomputable def kR  : Option (Bool) :=
  (mR ([(⟨(⟨#[112]⟩:ByteArray),0,100⟩:Beat),(⟨(⟨#[112]⟩:ByteArray),1000,1300⟩:Beat)]:List Beat) (⟨#[112]⟩:ByteArray) 700).bind λr_1=>(bif (r_1.2==0)then some (r_1.1==500)else some false).bind λv_3=>some v_3
def bP (s_1:(List Beat)):Option ((List Beat)) :=
  (jr [] s_1).bind λa_4=>some a_4
def iW (b_1:Beat) (p_2:ByteArray):Option (Bool) :=
  some (sNe b_1.Player p_2)
def cZ (s_1:(List Beat)) (f2_3:ByteArray) (k_4:Nat) (x_6:Nat) (s_9:Unit):Option (Ctl (Unit) (Int)) :=
  (inR (k_4:Int) s_1).bind λ_=>(s_1[(0+((k_4:Int)).toNat)]?).bind λe_15=>(iW e_15 f2_3).bind λr_17=>bif r_17 then some (.ret (k_4:Int))else some (.go ())
def dG (s_1:(List Beat)) (f2_3:ByteArray):Option (Int) :=
  (kL (List.range ((s_1.length:Int)).toNat) () (λk x s=>cZ s_1 f2_3 k x s)).bind λo_12=>bN o_12 (λs_9=>some (-1)) (λr=>some r)
def cz (del2_3:ByteArray) (s_12:(List Beat)×Int×Int):Option (Ctl ((List Beat)×Int×Int) (Unit)) :=
  bif (decide (s_12.2.2<(s_12.1.length:Int)))then (inR s_12.2.2 s_12.1).bind λ_=>(s_12.1[(0+(s_12.2.2).toNat)]?).bind λe_19=>(iW e_19 del2_3).bind λr_22=>(bif (!r_22)then (inR s_12.2.1 s_12.1).bind λ_=>(s_12.1[(0+(s_12.2.1).toNat)]?).bind λe_29=>some ((s_12.1.set (0+(s_12.2.1).toNat) e_19),(w64 (s_12.2.1+1)))else some (s_12.1,s_12.2.1)).bind λv_25=>some (.go (v_25.1,v_25.2,(w64 (s_12.2.2+1))))else some (.brk (s_12.1,s_12.2.1,s_12.2.2))
noncomputable def bE (s_1:(List Beat)) (del2_3:ByteArray):Option ((List Beat)) :=
  (dG s_1 del2_3).bind λr_4=>bif (r_4==(-1))then some s_1 else (gp (s_1,r_4,(w64 (r_4+1))) (λs=>cz del2_3 s)).bind λo_15=>bN o_15 (λs_12=>(neL s_12.1).bind λ_=>(sH s_12.1 s_12.2.1 (s_12.1.length:Int)).bind λ_=>(sH (s_12.1.take ((s_12.2.1).toNat)++List.replicate (((s_12.1.length:Int)).toNat-(s_12.2.1).toNat) (⟨(⟨#[]⟩:ByteArray),0,0⟩:Beat)++s_12.1.drop (((s_12.2.1).toNat)+(((s_12.1.length:Int)).toNat-(s_12.2.1).toNat))) 0 s_12.2.1).bind λ_=>some (cutL (s_12.1.take ((s_12.2.1).toNat)++List.replicate (((s_12.1.length:Int)).toNat-(s_12.2.1).toNat) (⟨(⟨#[]⟩:ByteArray),0,0⟩:Beat)++s_12.1.drop (((s_12.2.1).toNat)+(((s_12.1.length:Int)).toNat-(s_12.2.1).toNat))) 0 ((s_12.2.1).toNat))) (λ_=>none)
noncomputable def jU (l_1:(List Beat)) (player_2:ByteArray):Option ((List Beat)) :=
  (bP l_1).bind λr_4=>(bE r_4 player_2).bind λr_8=>some r_8
def bR (clock_3:Int) (r_4:(List Beat)) (k_11:Nat) (x_13:Beat) (s_16:Int):Option (Ctl (Int) (Int×Int)) :=
  bif (decide (x_13.Clock>clock_3))then some (.brk s_16)else (bif ((w64 ((k_11:Int)+1))==(r_4.length:Int))then some true else (idx r_4 (w64 ((k_11:Int)+1))).bind λy_26=>some (decide (y_26.Clock<=clock_3))).bind λv_23=>bif v_23 then some (.go (w64 ((w64 (x_13.At+clock_3))-x_13.Clock)))else (idx r_4 (w64 ((k_11:Int)+1))).bind λy_29=>(bif (decide ((w64 (y_29.At-x_13.At))>2592000000))then some true else some (decide ((w64 (y_29.Clock-x_13.Clock))>2592000000))).bind λv_32=>bif v_32 then some (.ret (0,2))else (Br .i64 (w64 ((w64 (clock_3-x_13.Clock))*(w64 (y_29.At-x_13.At)))) (w64 (y_29.Clock-x_13.Clock))).bind λq_36=>some (.go (w64 (x_13.At+q_36)))
noncomputable def jX (all_1:(List Beat)) (player_2:ByteArray) (clock_3:Int):Option (Int×Int) :=
  (jU all_1 player_2).bind λr_4=>bif ((r_4.length:Int)==0)then some (0,8)else (idx r_4 0).bind λy_7=>(idx r_4 0).bind λy_9=>(kL r_4 (w64 ((w64 (y_7.At+clock_3))-y_9.Clock)) (λk x s=>bR clock_3 r_4 k x s)).bind λo_19=>bN o_19 (λs_16=>(gQ s_16).bind λr_38=>bif (!r_38)then some (0,11)else some (s_16,0)) (λr=>some r)
def iX (a_1:Dated) (b_2:Dated) (p_3:(List Log_)):Option (Int) :=
  (idx p_3 a_1.f_i).bind λy_6=>(idx p_3 b_2.f_i).bind λy_8=>(strings_Compare y_6.Player y_8.Player).bind λr_10=>bif (r_10 != 0)then some r_10 else (nV (w64 (a_1.f_at-b_2.f_at))).bind λr_13=>some r_13
def bU (a_2:Int) (cmp4_5:(List Log_)) (s_22:(List Dated)×Int):Option (Ctl ((List Dated)×Int) (Unit)) :=
  (bif (decide (s_22.2>a_2))then (inR s_22.2 s_22.1).bind λ_=>(s_22.1[(0+(s_22.2).toNat)]?).bind λe_31=>(inR (w64 (s_22.2-1)) s_22.1).bind λ_=>(s_22.1[(0+((w64 (s_22.2-1))).toNat)]?).bind λe_34=>(iX e_31 e_34 cmp4_5).bind λr_36=>some (decide (r_36<0))else some false).bind λv_27=>bif v_27 then (inR (w64 (s_22.2-1)) s_22.1).bind λ_=>(s_22.1[(0+((w64 (s_22.2-1))).toNat)]?).bind λe_41=>(inR s_22.2 s_22.1).bind λ_=>(s_22.1[(0+(s_22.2).toNat)]?).bind λe_44=>(inR s_22.2 s_22.1).bind λ_=>(s_22.1[(0+(s_22.2).toNat)]?).bind λe_47=>(inR (w64 (s_22.2-1)) (s_22.1.set (0+(s_22.2).toNat) e_41)).bind λ_=>((s_22.1.set (0+(s_22.2).toNat) e_41)[(0+((w64 (s_22.2-1))).toNat)]?).bind λe_50=>some (.go (((s_22.1.set (0+(s_22.2).toNat) e_41).set (0+((w64 (s_22.2-1))).toNat) e_44),(w64 (s_22.2-1))))else some (.brk (s_22.1,s_22.2))
noncomputable def bW (b_3:Int) (a_2:Int) (cmp4_5:(List Log_)) (s_11:(List Dated)×Int):Option (Ctl ((List Dated)×Int) (Unit)) :=
  bif (decide (s_11.2<b_3))then (gp (s_11.1,s_11.2) (λs=>bU a_2 cmp4_5 s)).bind λo_25=>bN o_25 (λs_22=>some (.go (s_22.1,(w64 (s_11.2+1))))) (λ_=>none)else some (.brk (s_11.1,s_11.2))
noncomputable def bB (data_1:(List Dated)) (a_2:Int) (b_3:Int) (cmp4_5:(List Log_)):Option ((List Dated)) :=
  (gp (data_1,(w64 (a_2+1))) (λs=>bW b_3 a_2 cmp4_5 s)).bind λo_14=>bN o_14 (λs_11=>some s_11.1) (λ_=>none)
noncomputable def dL (n_2:Int) (cmp3_4:(List Log_)) (s_10:(List Dated)×Int×Int):Option (Ctl ((List Dated)×Int×Int) (Unit)) :=
  bif (decide (s_10.2.2<=n_2))then (bB s_10.1 s_10.2.1 s_10.2.2 cmp3_4).bind λr_16=>(iE r_16 s_10.1).bind λ_=>some (.go (r_16,s_10.2.2,(w64 (s_10.2.2+20))))else some (.brk (s_10.1,s_10.2.1,s_10.2.2))
def dP (s_27:Int) (n_2:Int) (s_38:Unit):Option (Ctl (Unit) (Unit)) :=
  bif (decide ((w64 (2*s_27))<=n_2))then none else some (.brk ())
noncomputable def dN (n_2:Int) (s_27:Int):Option (Ctl (Int) (Unit)) :=
  bif (decide (s_27<n_2))then (gp () (λs=>dP s_27 n_2 s)).bind λo_41=>bN o_41 (λs_38=>(bif (decide ((w64 (0+s_27))<n_2))then none else some ()).bind λv_44=>some (.go (w64 (s_27*2)))) (λ_=>none)else some (.brk s_27)
noncomputable def cK (data_1:(List Dated)) (n_2:Int) (cmp3_4:(List Log_)):Option ((List Dated)) :=
  (gp (data_1,0,20) (λs=>dL n_2 cmp3_4 s)).bind λo_13=>bN o_13 (λs_10=>(bB s_10.1 s_10.2.1 n_2 cmp3_4).bind λr_19=>(iE r_19 s_10.1).bind λ_=>(gp 20 (λs=>dN n_2 s)).bind λo_30=>bN o_30 (λs_27=>some r_19) (λ_=>none)) (λ_=>none)
noncomputable def aS (x_1:(List Dated)) (cmp2_3:(List Log_)):Option ((List Dated)) :=
  (cK x_1 (x_1.length:Int) cmp2_3).bind λr_4=>(iE r_4 x_1).bind λ_=>some r_4
noncomputable def iA (beats_2:(List Beat)) (k_4:Nat) (x_6:Log_) (s_9:(List Dated)×(List Int)):Option (Ctl ((List Dated)×(List Int)) (Unit)) :=
  (jX beats_2 x_6.Player x_6.Clock).bind λr_21=>bif (r_21.2==8)then (jr s_9.1 ([(⟨x_6.Clock,(k_4:Int)⟩:Dated)]:List Dated)).bind λa_24=>some (.go (a_24,s_9.2))else (bif (r_21.2==11)then some (r_21.2==11)else some (r_21.2==2)).bind λv_27=>bif v_27 then (jr s_9.2 ([(k_4:Int)]:List Int)).bind λa_31=>some (.go (s_9.1,a_31))else (jr s_9.1 ([(⟨r_21.1,(k_4:Int)⟩:Dated)]:List Dated)).bind λa_34=>some (.go (a_34,s_9.2))
def iB (l_1:(List Log_)) (k_40:Nat) (x_42:Dated) (s_45:(List Int)×(List Play)):Option (Ctl ((List Int)×(List Play)) (Unit)) :=
  (idx l_1 x_42.f_i).bind λy_56=>(idx l_1 x_42.f_i).bind λy_58=>(idx l_1 x_42.f_i).bind λy_60=>(bif (decide ((w64 ((s_45.2.length:Int)-1))>=0))then (inR (w64 ((s_45.2.length:Int)-1)) s_45.2).bind λ_=>(s_45.2[(0+((w64 ((s_45.2.length:Int)-1))).toNat)]?).bind λe_67=>some (sEq e_67.Player y_56.Player)else some false).bind λv_63=>(bif v_63 then (inR (w64 ((s_45.2.length:Int)-1)) s_45.2).bind λ_=>(s_45.2[(0+((w64 ((s_45.2.length:Int)-1))).toNat)]?).bind λe_73=>(inR (w64 ((s_45.2.length:Int)-1)) s_45.2).bind λ_=>(s_45.2[(0+((w64 ((s_45.2.length:Int)-1))).toNat)]?).bind λe_76=>bif (decide ((w64 (e_73.At+e_76.Long))>x_42.f_at))then some ((w64 (e_73.At+e_76.Long)),(w64 ((w64 (x_42.f_at+y_60.Long))-(w64 (e_73.At+e_76.Long)))))else some (x_42.f_at,y_60.Long)else some (x_42.f_at,y_60.Long)).bind λv_69=>(bif (decide (v_69.2<=0))then some true else (gQ v_69.1).bind λr_82=>some (!r_82)).bind λv_79=>bif v_79 then (jr s_45.1 ([x_42.f_i]:List Int)).bind λa_85=>some (.go (a_85,s_45.2))else (jr s_45.2 ([(⟨y_56.Player,y_58.Item,v_69.1,v_69.2⟩:Play)]:List Play)).bind λa_88=>some (.go (s_45.1,a_88))
noncomputable def j6 (l_1:(List Log_)) (beats_2:(List Beat)):Option ((List Play)×(List Int)) :=
  (kL l_1 (([]:List Dated),([]:List Int)) (λk x s=>iA beats_2 k x s)).bind λo_18=>bN o_18 (λs_9=>(aS s_9.1 l_1).bind λr_37=>(iE r_37 s_9.1).bind λ_=>(kL r_37 (s_9.2,([]:List Play)) (λk x s=>iB l_1 k x s)).bind λo_53=>bN o_53 (λs_45=>(bD s_45.1).bind λr_91=>(iE r_91 s_45.1).bind λ_=>some (s_45.2,r_91)) (λ_=>none)) (λ_=>none)
def aZ (s2_2:(List Play)) (k_4:Nat) (x_6:Play) (s_9:Unit):Option (Ctl (Unit) (Bool)) :=
  (idx s2_2 (k_4:Int)).bind λy_14=>bif (!((x_6.Player.toList==y_14.Player.toList)&&((x_6.Item.toList==y_14.Item.toList)&&((x_6.At==y_14.At)&&((x_6.Long==y_14.Long)&&true)))))then some (.ret false)else some (.go ())
def bT (s1_1:(List Play)) (s2_2:(List Play)):Option (Bool) :=
  bif ((s1_1.length:Int) != (s2_2.length:Int))then some false else (kL s1_1 () (λk x s=>aZ s2_2 k x s)).bind λo_12=>bN o_12 (λs_9=>some true) (λr=>some r)
def dA (s2_2:(List Int)) (k_4:Nat) (x_6:Int) (s_9:Unit):Option (Ctl (Unit) (Bool)) :=
  (idx s2_2 (k_4:Int)).bind λy_14=>bif (x_6 != y_14)then some (.ret false)else some (.go ())
def fB (s1_1:(List Int)) (s2_2:(List Int)):Option (Bool) :=
  bif ((s1_1.length:Int) != (s2_2.length:Int))then some false else (kL s1_1 () (λk x s=>dA s2_2 k x s)).bind λo_12=>bN o_12 (λs_9=>some true) (λr=>some r)
noncomputable def kJ (l_1:(List Int)):Option (Bool) :=
  (jl (⟨l_1,0⟩:Stream) 6).bind λr_3=>(iT r_3.2).bind λr_7=>(bif (decide ((r_3.1.length:Int)>0))then (bS r_7.2 20).bind λr_13=>some (r_13.1,r_13.2.L,r_13.2.f_at)else some (false,r_7.2.L,r_7.2.f_at)).bind λv_10=>(bif v_10.1 then (inR (w64 ((r_3.1.length:Int)-1)) r_3.1).bind λ_=>(r_3.1[(0+((w64 ((r_3.1.length:Int)-1))).toNat)]?).bind λe_20=>some (r_3.1.set (0+((w64 ((r_3.1.length:Int)-1))).toNat) (⟨e_20.Player,e_20.Item,e_20.No,345686399999,e_20.Long,e_20.Sum⟩:Log_))else some r_3.1).bind λv_16=>(gL v_16 r_7.1).bind λr_22=>(jI v_16).bind λr_24=>(jd r_7.1).bind λr_26=>(pq ([r_24,r_26]:List Int)).bind λr_28=>bif (r_28 != 0)then (bif (r_22.2.2==r_28)then bif ((w64 ((r_22.1.length:Int)+(r_22.2.1.length:Int)))==0)then (kR).bind λr_35=>some r_35 else some false else some false).bind λv_31=>some v_31 else (j6 v_16 r_7.1).bind λr_37=>(bif (r_22.2.2==0)then (bT r_22.1 r_37.1).bind λr_42=>bif r_42 then (fB r_22.2.1 r_37.2).bind λr_45=>bif r_45 then (kR).bind λr_48=>some r_48 else some false else some false else some false).bind λv_39=>some v_39
end Go.Proofs.YtdenjndllgahgaaGreatDoor.Law

