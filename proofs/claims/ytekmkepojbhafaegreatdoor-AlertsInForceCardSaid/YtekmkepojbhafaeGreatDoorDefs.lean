/-
  The functions of the program, as plain functions over data (written by a program of ours).
-/
import Derived.Test.YtekmkepojbhafaeGreatDoorEng5
open Go Go.Eng
namespace Go.Proofs.YtekmkepojbhafaeGreatDoor.Law
set_option maxRecDepth 100000
set_option linter.unusedVariables false
set_option maxHeartbeats 1000000
structure Stream where
  L:(List Int)
  f_at:Int
def Stream.enc (s:Stream):List D:=[dl eI s.L,.int .i64 s.f_at]

structure Rect where
  X:Int
  Y:Int
  W:Int
  H:Int
def Rect.enc (s:Rect):List D:=[.int .i64 s.X,.int .i64 s.Y,.int .i64 s.W,.int .i64 s.H]
abbrev Rect.v (s:Rect):List V:=[(vI s.X),(vI s.Y),(vI s.W),(vI s.H)]

structure Alert where
  Id:ByteArray
  Sender:ByteArray
  Kind:Int
  Refs:(List ByteArray)
  At:Int
  Until:Int
  Weight:Int
  Areas:(List Rect)
  Text:ByteArray
def Alert.enc (s:Alert):List D:=[.str s.Id,.str s.Sender,.int .i64 s.Kind,dl eS s.Refs,.int .i64 s.At,.int .i64 s.Until,.int .i64 s.Weight,dl Rect.enc s.Areas,.str s.Text]
abbrev Alert.v (s:Alert):List V:=[(vS s.Id),(vS s.Sender),(vI s.Kind),(vL eS s.Refs),(vI s.At),(vI s.Until),(vI s.Weight),(vL Rect.enc s.Areas),(vS s.Text)]

structure Post where
  Player:ByteArray
  X:Int
  Y:Int
def Post.enc (s:Post):List D:=[.str s.Player,.int .i64 s.X,.int .i64 s.Y]
abbrev Post.v (s:Post):List V:=[(vS s.Player),(vI s.X),(vI s.Y)]

def o8 (x_1:Int) (n_2:Int):Option (Int) :=
  bif (decide (n_2<1))then some 0 else (IU .i64 x_1 n_2).bind λq_4=>(bif (decide (q_4<0))then some (w64 (q_4+n_2))else some q_4).bind λv_6=>some v_6
def dC (s_1:Stream) (n_2:Int):Option (Int×Stream) :=
  bif ((s_1.L.length:Int)==0)then (o8 (w64 ((w64 (s_1.f_at+1))*7919)) n_2).bind λr_4=>some (r_4,(⟨s_1.L,(w64 (s_1.f_at+1))⟩:Stream))else (IU .i64 (w64 ((w64 (s_1.f_at+1))-1)) (s_1.L.length:Int)).bind λq_6=>(quoO .i64 (w64 ((w64 (s_1.f_at+1))-1)) (s_1.L.length:Int)).bind λq_8=>(idx s_1.L q_6).bind λy_10=>(o8 y_10 1073741824).bind λr_12=>(o8 (w64 (r_12+(w64 (q_8*(w64 (7919+q_6)))))) n_2).bind λr_14=>some (r_14,(⟨s_1.L,(w64 (s_1.f_at+1))⟩:Stream))
def bP (s_1:Stream) (low_2:Int) (high_3:Int):Option (Int×Stream) :=
  bif (decide (high_3<low_2))then some (low_2,s_1)else (dC s_1 (w64 ((w64 (high_3-low_2))+1))).bind λr_5=>some ((w64 (low_2+r_5.1)),r_5.2)
def dz (s_1:Stream) (l_2:(List ByteArray)):Option (ByteArray×Stream) :=
  (dC s_1 (l_2.length:Int)).bind λr_3=>(idx l_2 r_3.1).bind λy_6=>some (y_6,r_3.2)
def dL (s_1:Stream) (l_2:(List Int)):Option (Int×Stream) :=
  (dC s_1 (l_2.length:Int)).bind λr_3=>(idx l_2 r_3.1).bind λy_6=>some (y_6,r_3.2)
def fq (s_1:Stream) (n_2:Int):Option (Bool×Stream) :=
  (dC s_1 n_2).bind λr_3=>some ((r_3.1==0),r_3.2)
def cB (s_1:Stream):Option (Rect×Stream) :=
  (bP s_1 (-2) 8).bind λr_3=>(bP r_3.2 (-2) 8).bind λr_6=>(bP r_6.2 1 5).bind λr_9=>(bP r_9.2 1 5).bind λr_12=>some ((⟨r_3.1,r_6.1,r_9.1,r_12.1⟩:Rect),r_12.2)
def jG (a_1:Alert) (b_2:Alert):Option (Int) :=
  bif (a_1.At != b_2.At)then some (w64 (a_1.At-b_2.At))else bif (sLt a_1.Id b_2.Id)then some (-1)else some 1
def nS (x_1:Int):Option (Int) :=
  (bif (decide (x_1>=4294967296))then (KL .u64 x_1 32).bind λq_5=>some (q_5,32)else some (x_1,0)).bind λv_2=>(bif (decide (v_2.1>=65536))then (KL .u64 v_2.1 16).bind λq_10=>some (q_10,(w64 (v_2.2+16)))else some (v_2.1,v_2.2)).bind λv_7=>(bif (decide (v_7.1>=256))then (KL .u64 v_7.1 8).bind λq_15=>some (q_15,(w64 (v_7.2+8)))else some (v_7.1,v_7.2)).bind λv_12=>(tQ (⟨#[0,1,2,2,3,3,3,3,4,4,4,4,4,4,4,4,5,5,5,5,5,5,5,5,5,5,5,5,5,5,5,5,6,6,6,6,6,6,6,6,6,6,6,6,6,6,6,6,6,6,6,6,6,6,6,6,6,6,6,6,6,6,6,6,7,7,7,7,7,7,7,7,7,7,7,7,7,7,7,7,7,7,7,7,7,7,7,7,7,7,7,7,7,7,7,7,7,7,7,7,7,7,7,7,7,7,7,7,7,7,7,7,7,7,7,7,7,7,7,7,7,7,7,7,7,7,7,7,8,8,8,8,8,8,8,8,8,8,8,8,8,8,8,8,8,8,8,8,8,8,8,8,8,8,8,8,8,8,8,8,8,8,8,8,8,8,8,8,8,8,8,8,8,8,8,8,8,8,8,8,8,8,8,8,8,8,8,8,8,8,8,8,8,8,8,8,8,8,8,8,8,8,8,8,8,8,8,8,8,8,8,8,8,8,8,8,8,8,8,8,8,8,8,8,8,8,8,8,8,8,8,8,8,8,8,8,8,8,8,8,8,8,8,8,8,8,8,8,8,8,8,8,8,8,8,8]⟩:ByteArray) (IntKind.u8.wrap v_12.1)).bind λb_17=>some (w64 (v_12.2+(w64 (b_17.toNat:Int))))
def iQ (x_1:Int):Option (Int) :=
  (nS x_1).bind λr_2=>some r_2
def cO (a_2:Int) (s_21:(List Alert)×Int):Option (Ctl ((List Alert)×Int) (Unit)) :=
  (bif (decide (s_21.2>a_2))then (inR s_21.2 s_21.1).bind λ_=>(s_21.1[(0+(s_21.2).toNat)]?).bind λe_30=>(inR (w64 (s_21.2-1)) s_21.1).bind λ_=>(s_21.1[(0+((w64 (s_21.2-1))).toNat)]?).bind λe_33=>(jG e_30 e_33).bind λr_35=>some (decide (r_35<0))else some false).bind λv_26=>bif v_26 then (inR (w64 (s_21.2-1)) s_21.1).bind λ_=>(s_21.1[(0+((w64 (s_21.2-1))).toNat)]?).bind λe_39=>(inR s_21.2 s_21.1).bind λ_=>(s_21.1[(0+(s_21.2).toNat)]?).bind λe_42=>(inR s_21.2 s_21.1).bind λ_=>(s_21.1[(0+(s_21.2).toNat)]?).bind λe_45=>(inR (w64 (s_21.2-1)) (s_21.1.set (0+(s_21.2).toNat) e_39)).bind λ_=>((s_21.1.set (0+(s_21.2).toNat) e_39)[(0+((w64 (s_21.2-1))).toNat)]?).bind λe_48=>some (.go (((s_21.1.set (0+(s_21.2).toNat) e_39).set (0+((w64 (s_21.2-1))).toNat) e_42),(w64 (s_21.2-1))))else some (.brk (s_21.1,s_21.2))
noncomputable def cK (b_3:Int) (a_2:Int) (s_10:(List Alert)×Int):Option (Ctl ((List Alert)×Int) (Unit)) :=
  bif (decide (s_10.2<b_3))then (iT (s_10.1,s_10.2) (λs=>cO a_2 s)).bind λo_24=>thenC o_24 (λs_21=>some (.go (s_21.1,(w64 (s_10.2+1))))) (λ_=>none)else some (.brk (s_10.1,s_10.2))
noncomputable def dI (data_1:(List Alert)) (a_2:Int) (b_3:Int):Option ((List Alert)) :=
  (iT (data_1,(w64 (a_2+1))) (λs=>cK b_3 a_2 s)).bind λo_13=>thenC o_13 (λs_10=>some s_10.1) (λ_=>none)
noncomputable def dU (b_3:Int) (a_2:Int) (data_1:(List Alert)) (limit_4:Int) (s_11:Unit):Option (Ctl (Unit) ((List Alert))) :=
  bif (decide ((w64 (b_3-a_2))<=12))then (dI data_1 a_2 b_3).bind λr_17=>(kF r_17 data_1).bind λ_=>some (.ret r_17)else bif (limit_4==0)then none else none
noncomputable def eQ (data_1:(List Alert)) (a_2:Int) (b_3:Int) (limit_4:Int):Option ((List Alert)) :=
  (iT () (λs=>dU b_3 a_2 data_1 limit_4 s)).bind λo_14=>thenC o_14 (λs_11=>some data_1) (λr=>some r)
noncomputable def bE (x_1:(List Alert)):Option ((List Alert)) :=
  (iQ (IntKind.u64.wrap (x_1.length:Int))).bind λr_3=>(eQ x_1 0 (x_1.length:Int) r_3).bind λr_5=>(kF r_5 x_1).bind λ_=>some r_5
def bU (x_10:ByteArray) (k_45:Nat) (x_47:ByteArray) (s_50:(List ByteArray)×(List Int)×Int):Option (Ctl ((List ByteArray)×(List Int)×Int) (Unit)) :=
  (bif (sNe x_47 x_10)then (fq (⟨s_50.2.1,s_50.2.2⟩:Stream) 3).bind λr_61=>some (r_61.1,r_61.2.L,r_61.2.f_at)else some (false,s_50.2.1,s_50.2.2)).bind λv_58=>(bif v_58.1 then (lc s_50.1 ([x_47]:List ByteArray)).bind λa_68=>some a_68 else some s_50.1).bind λv_64=>some (.go (v_64,v_58.2.1,v_58.2.2))
def bW (k_85:Nat) (x_87:Nat) (s_90:(List Rect)×(List Int)×Int):Option (Ctl ((List Rect)×(List Int)×Int) (Unit)) :=
  (cB (⟨s_90.2.1,s_90.2.2⟩:Stream)).bind λr_97=>(lc s_90.1 ([r_97.1]:List Rect)).bind λa_100=>some (.go (a_100,r_97.2.L,r_97.2.f_at))
def dG (k_8:Nat) (x_10:ByteArray) (s_13:(List Alert)×(List Int)×Int):Option (Ctl ((List Alert)×(List Int)×Int) (Unit)) :=
  (dz (⟨s_13.2.1,s_13.2.2⟩:Stream) ([(⟨#[119,120]⟩:ByteArray),(⟨#[119,120]⟩:ByteArray),(⟨#[102,105,114,101]⟩:ByteArray)]:List ByteArray)).bind λr_21=>(dL r_21.2 ([1,1,2,2,3]:List Int)).bind λr_24=>(bP r_24.2 0 6).bind λr_27=>(dL r_27.2 ([1,5,5,9]:List Int)).bind λr_30=>(dz r_30.2 ([(⟨#[102,108,111,111,100]⟩:ByteArray),(⟨#[102,105,114,101,32,105,110,32,116,104,101,32,109,97,108,108]⟩:ByteArray)]:List ByteArray)).bind λr_33=>(dL r_33.2 ([1,10,20,50]:List Int)).bind λr_37=>(bif (r_24.1 != 1)then (forL ([(⟨#[97,97]⟩:ByteArray),(⟨#[97,98]⟩:ByteArray),(⟨#[97,99]⟩:ByteArray),(⟨#[97,100]⟩:ByteArray),(⟨#[122,122]⟩:ByteArray)]:List ByteArray) (([]:List ByteArray),r_37.2.L,r_37.2.f_at) (λk x s=>bU x_10 k x s)).bind λo_56=>thenC o_56 (λs_50=>bif ((s_50.1.length:Int)==0)then some (s_50.2.1,s_50.2.2,([(⟨#[122,121]⟩:ByteArray)]:List ByteArray))else some (s_50.2.1,s_50.2.2,s_50.1)) (λ_=>none)else some (r_37.2.L,r_37.2.f_at,([]:List ByteArray))).bind λv_42=>(bif (r_24.1==3)then (dz (⟨v_42.1,v_42.2.1⟩:Stream) ([(⟨#[]⟩:ByteArray),(⟨#[111,118,101,114]⟩:ByteArray)]:List ByteArray)).bind λr_79=>some (([]:List Rect),r_79.2.L,r_79.2.f_at,r_79.1)else (bP (⟨v_42.1,v_42.2.1⟩:Stream) 1 2).bind λr_82=>(forL (List.range (r_82.1).toNat) (([]:List Rect),r_82.2.L,r_82.2.f_at) (λk x s=>bW k x s)).bind λo_95=>thenC o_95 (λs_90=>some (s_90.1,s_90.2.1,s_90.2.2,r_33.1)) (λ_=>none)).bind λv_75=>(lc s_13.1 ([(⟨x_10,r_21.1,r_24.1,v_42.2.2,(w64 (r_27.1*5)),(w64 ((w64 (r_27.1*5))+r_37.1)),r_30.1,v_75.1,v_75.2.2.2⟩:Alert)]:List Alert)).bind λa_103=>some (.go (a_103,v_75.2.1,v_75.2.2.1))
noncomputable def eu (s_1:Stream) (most_2:Int):Option ((List Alert)×Stream) :=
  (bP s_1 0 most_2).bind λr_3=>(CU ([(⟨#[97,97]⟩:ByteArray),(⟨#[97,98]⟩:ByteArray),(⟨#[97,99]⟩:ByteArray),(⟨#[97,100]⟩:ByteArray),(⟨#[97,101]⟩:ByteArray),(⟨#[97,102]⟩:ByteArray)]:List ByteArray) 0 r_3.1).bind λy_6=>(forL y_6 (([]:List Alert),r_3.2.L,r_3.2.f_at) (λk x s=>dG k x s)).bind λo_19=>thenC o_19 (λs_13=>(bE s_13.1).bind λr_106=>(kF r_106 s_13.1).bind λ_=>some (r_106,(⟨s_13.2.1,s_13.2.2⟩:Stream))) (λ_=>none)
def dE (s_1:Stream) (low_2:Int) (high_3:Int):Option (Int×Stream) :=
  (fq s_1 12).bind λr_4=>bif r_4.1 then (dL r_4.2 ([(w64 (low_2-1)),(w64 (high_3+1)),low_2,high_3,(-1099511627776),1099511627776]:List Int)).bind λr_8=>some (r_8.1,r_8.2)else (bP r_4.2 low_2 high_3).bind λr_11=>some (r_11.1,r_11.2)
def ku (s_1:Stream):Option (Rect×Stream) :=
  (cB s_1).bind λr_3=>(fq r_3.2 20).bind λr_7=>(bif r_7.1 then (dC r_7.2 3).bind λr_13=>bif (r_13.1==0)then (dE r_13.2 (-100000) 99999).bind λr_17=>some (r_17.2.L,r_17.2.f_at,r_17.1,r_3.1.Y,r_3.1.W,r_3.1.H)else bif (r_13.1==1)then (dE r_13.2 1 200000).bind λr_21=>(dE r_21.2 1 5).bind λr_24=>some (r_24.2.L,r_24.2.f_at,r_3.1.X,r_3.1.Y,r_21.1,r_24.1)else (dL r_13.2 ([(-100000),99999]:List Int)).bind λr_27=>(dL r_27.2 ([1,2,200000]:List Int)).bind λr_30=>some (r_30.2.L,r_30.2.f_at,r_3.1.X,r_27.1,r_3.1.W,r_30.1)else some (r_7.2.L,r_7.2.f_at,r_3.1.X,r_3.1.Y,r_3.1.W,r_3.1.H)).bind λv_10=>some ((⟨v_10.2.2.1,v_10.2.2.2.1,v_10.2.2.2.2.1,v_10.2.2.2.2.2⟩:Rect),(⟨v_10.1,v_10.2.1⟩:Stream))
def gZ (k_6:Nat) (x_8:Nat) (s_11:(List Rect)×(List Int)×Int):Option (Ctl ((List Rect)×(List Int)×Int) (Unit)) :=
  (cB (⟨s_11.2.1,s_11.2.2⟩:Stream)).bind λr_19=>(fq r_19.2 60).bind λr_23=>(bif r_23.1 then (ku r_23.2).bind λr_29=>some (r_29.2.L,r_29.2.f_at,r_29.1.X,r_29.1.Y,r_29.1.W,r_29.1.H)else some (r_23.2.L,r_23.2.f_at,r_19.1.X,r_19.1.Y,r_19.1.W,r_19.1.H)).bind λv_26=>(lc s_11.1 ([(⟨v_26.2.2.1,v_26.2.2.2.1,v_26.2.2.2.2.1,v_26.2.2.2.2.2⟩:Rect)]:List Rect)).bind λa_32=>some (.go (a_32,v_26.1,v_26.2.1))
def jB (s_1:Stream) (most_2:Int):Option ((List Rect)×Stream) :=
  (bP s_1 0 most_2).bind λr_3=>(forL (List.range (r_3.1).toNat) (([]:List Rect),r_3.2.L,r_3.2.f_at) (λk x s=>gZ k x s)).bind λo_17=>thenC o_17 (λs_11=>some (s_11.1,(⟨s_11.2.1,s_11.2.2⟩:Stream))) (λ_=>none)
noncomputable def jb (s_1:Stream) (most_2:Int):Option ((List Alert)×Stream) :=
  (eu s_1 most_2).bind λr_3=>(bif (decide ((r_3.1.length:Int)>0))then (fq r_3.2 10).bind λr_10=>some (r_10.1,r_10.2.L,r_10.2.f_at)else some (false,r_3.2.L,r_3.2.f_at)).bind λv_7=>(bif v_7.1 then (dC (⟨v_7.2.1,v_7.2.2⟩:Stream) (r_3.1.length:Int)).bind λr_16=>(inR r_16.1 r_3.1).bind λ_=>(dC r_16.2 6).bind λr_20=>bif (r_20.1==0)then (r_3.1[(0+(r_16.1).toNat)]?).bind λe_24=>(dz r_20.2 ([e_24.Id,(⟨#[]⟩:ByteArray),(⟨#[97,97]⟩:ByteArray)]:List ByteArray)).bind λr_26=>(dz r_26.2 ([(⟨#[119,120]⟩:ByteArray),(⟨#[65]⟩:ByteArray)]:List ByteArray)).bind λr_29=>(r_3.1[(0+(r_16.1).toNat)]?).bind λe_32=>((r_3.1.set (0+(r_16.1).toNat) (⟨r_26.1,e_32.Sender,e_32.Kind,e_32.Refs,e_32.At,e_32.Until,e_32.Weight,e_32.Areas,e_32.Text⟩:Alert))[(0+(r_16.1).toNat)]?).bind λe_34=>some (((r_3.1.set (0+(r_16.1).toNat) (⟨r_26.1,e_32.Sender,e_32.Kind,e_32.Refs,e_32.At,e_32.Until,e_32.Weight,e_32.Areas,e_32.Text⟩:Alert)).set (0+(r_16.1).toNat) (⟨e_34.Id,r_29.1,e_34.Kind,e_34.Refs,e_34.At,e_34.Until,e_34.Weight,e_34.Areas,e_34.Text⟩:Alert)),r_29.2.L,r_29.2.f_at)else bif (r_20.1==1)then (dE r_20.2 1 3).bind λr_37=>(r_3.1[(0+(r_16.1).toNat)]?).bind λe_40=>some ((r_3.1.set (0+(r_16.1).toNat) (⟨e_40.Id,e_40.Sender,r_37.1,e_40.Refs,e_40.At,e_40.Until,e_40.Weight,e_40.Areas,e_40.Text⟩:Alert)),r_37.2.L,r_37.2.f_at)else bif (r_20.1==2)then (r_3.1[(0+(r_16.1).toNat)]?).bind λe_43=>(dC r_20.2 5).bind λr_45=>(idx ([([]:List ByteArray),([(⟨#[97,98]⟩:ByteArray),(⟨#[97,97]⟩:ByteArray)]:List ByteArray),([e_43.Id]:List ByteArray),([(⟨#[65]⟩:ByteArray)]:List ByteArray),([(⟨#[97,97]⟩:ByteArray),(⟨#[122,122]⟩:ByteArray)]:List ByteArray)]:List (List ByteArray)) r_45.1).bind λy_48=>(r_3.1[(0+(r_16.1).toNat)]?).bind λe_50=>some ((r_3.1.set (0+(r_16.1).toNat) (⟨e_50.Id,e_50.Sender,e_50.Kind,y_48,e_50.At,e_50.Until,e_50.Weight,e_50.Areas,e_50.Text⟩:Alert)),r_45.2.L,r_45.2.f_at)else bif (r_20.1==3)then (dE r_20.2 0 30).bind λr_53=>(dE r_53.2 0 60).bind λr_56=>(r_3.1[(0+(r_16.1).toNat)]?).bind λe_59=>((r_3.1.set (0+(r_16.1).toNat) (⟨e_59.Id,e_59.Sender,e_59.Kind,e_59.Refs,r_53.1,e_59.Until,e_59.Weight,e_59.Areas,e_59.Text⟩:Alert))[(0+(r_16.1).toNat)]?).bind λe_61=>some (((r_3.1.set (0+(r_16.1).toNat) (⟨e_59.Id,e_59.Sender,e_59.Kind,e_59.Refs,r_53.1,e_59.Until,e_59.Weight,e_59.Areas,e_59.Text⟩:Alert)).set (0+(r_16.1).toNat) (⟨e_61.Id,e_61.Sender,e_61.Kind,e_61.Refs,e_61.At,r_56.1,e_61.Weight,e_61.Areas,e_61.Text⟩:Alert)),r_56.2.L,r_56.2.f_at)else bif (r_20.1==4)then (jB r_20.2 2).bind λr_64=>(dE r_64.2 1 9).bind λr_67=>(r_3.1[(0+(r_16.1).toNat)]?).bind λe_70=>((r_3.1.set (0+(r_16.1).toNat) (⟨e_70.Id,e_70.Sender,e_70.Kind,e_70.Refs,e_70.At,e_70.Until,e_70.Weight,r_64.1,e_70.Text⟩:Alert))[(0+(r_16.1).toNat)]?).bind λe_72=>some (((r_3.1.set (0+(r_16.1).toNat) (⟨e_70.Id,e_70.Sender,e_70.Kind,e_70.Refs,e_70.At,e_70.Until,e_70.Weight,r_64.1,e_70.Text⟩:Alert)).set (0+(r_16.1).toNat) (⟨e_72.Id,e_72.Sender,e_72.Kind,e_72.Refs,e_72.At,e_72.Until,r_67.1,e_72.Areas,e_72.Text⟩:Alert)),r_67.2.L,r_67.2.f_at)else (dz r_20.2 ([(⟨#[]⟩:ByteArray),(⟨#[32,120]⟩:ByteArray),(⟨#[97,32,32,98]⟩:ByteArray),(⟨#[10]⟩:ByteArray),(⟨#[255]⟩:ByteArray)]:List ByteArray)).bind λr_74=>(r_3.1[(0+(r_16.1).toNat)]?).bind λe_77=>some ((r_3.1.set (0+(r_16.1).toNat) (⟨e_77.Id,e_77.Sender,e_77.Kind,e_77.Refs,e_77.At,e_77.Until,e_77.Weight,e_77.Areas,r_74.1⟩:Alert)),r_74.2.L,r_74.2.f_at)else some (r_3.1,v_7.2.1,v_7.2.2)).bind λv_13=>some (v_13.1,(⟨v_13.2.1,v_13.2.2⟩:Stream))
def iJ (s_1:ByteArray) (s_7:Int):Option (Ctl (Int) (Bool)) :=
  bif (decide (s_7<(s_1.size:Int)))then (tQ s_1 s_7).bind λb_13=>(bif (decide ((b_13.toNat:Int)>=97))then bif (decide ((b_13.toNat:Int)<=122))then some false else bif (decide (s_7>0))then bif (decide ((b_13.toNat:Int)>=48))then bif (decide ((b_13.toNat:Int)<=57))then some false else bif ((b_13.toNat:Int)==45)then some false else some (!((b_13.toNat:Int)==95))else bif ((b_13.toNat:Int)==45)then some false else some (!((b_13.toNat:Int)==95))else some true else bif (decide (s_7>0))then bif (decide ((b_13.toNat:Int)>=48))then bif (decide ((b_13.toNat:Int)<=57))then some false else bif ((b_13.toNat:Int)==45)then some false else some (!((b_13.toNat:Int)==95))else bif ((b_13.toNat:Int)==45)then some false else some (!((b_13.toNat:Int)==95))else some true).bind λv_15=>bif v_15 then some (.ret false)else some (.go (w64 (s_7+1)))else some (.brk s_7)
noncomputable def kit_IsKey (s_1:ByteArray):Option (Bool) :=
  (iT 0 (λs=>iJ s_1 s)).bind λo_10=>thenC o_10 (λs_7=>(bif (sNe s_1 (⟨#[]⟩:ByteArray))then some (decide ((s_1.size:Int)<=40))else some false).bind λv_30=>some v_30) (λr=>some r)
def bZ (n_1:Int) (low_2:Int) (high_3:Int):Option (Bool) :=
  (bif (decide (n_1<low_2))then some true else some (decide (n_1>high_3))).bind λv_4=>some v_4
noncomputable def dM (a_1:Alert) (k_4:Nat) (x_6:ByteArray) (s_9:Unit):Option (Ctl (Unit) (Int)) :=
  (kit_IsKey x_6).bind λr_14=>bif (!r_14)then some (.ret 5)else (bif (decide ((k_4:Int)>0))then (idx a_1.Refs (w64 ((k_4:Int)-1))).bind λy_20=>some (sLe x_6 y_20)else some false).bind λv_17=>bif v_17 then some (.ret 7)else bif (sEq x_6 a_1.Id)then some (.ret 14)else some (.go ())
noncomputable def gG (a_1:Alert):Option (Int) :=
  bif (decide ((a_1.Refs.length:Int)>20))then some 2 else (forL a_1.Refs () (λk x s=>dM a_1 k x s)).bind λo_12=>thenC o_12 (λs_9=>bif (!((a_1.Kind==1)==((a_1.Refs.length:Int)==0)))then some 3 else some 0) (λr=>some r)
def jo (n_1:Int):Option (Bool) :=
  (bif (decide (n_1>=0))then some (decide (n_1<345686400000))else some false).bind λv_2=>some v_2
def jc (r_1:Rect):Option (Int) :=
  ((bZ r_1.X (-100000) 100000).bind λr_5=>bif r_5 then some true else (bZ r_1.Y (-100000) 100000).bind λr_8=>some r_8).bind λv_3=>bif v_3 then some 1 else ((bZ r_1.W 1 (w64 (100000-r_1.X))).bind λr_13=>bif r_13 then some true else (bZ r_1.H 1 (w64 (100000-r_1.Y))).bind λr_16=>some r_16).bind λv_11=>bif v_11 then some 1 else some 0
def eF (x0:ByteArray):Option (Bool) :=
  GM x0
def fT (c_2:Int) (s_8:ByteArray):Option (Ctl (ByteArray) (Unit)) :=
  (bif (decide ((s_8.size:Int)>0))then (tQ s_8 (w64 ((s_8.size:Int)-1))).bind λb_16=>some ((b_16.toNat:Int)==c_2)else some false).bind λv_13=>bif v_13 then (Au s_8 0 (w64 ((s_8.size:Int)-1))).bind λy_19=>some (.go y_19)else some (.brk s_8)
noncomputable def strings_trimRightByte (s_1:ByteArray) (c_2:Int):Option (ByteArray) :=
  (iT s_1 (λs=>fT c_2 s)).bind λo_11=>thenC o_11 (λs_8=>some s_8) (λ_=>none)
def gy (c_2:Int) (s_8:ByteArray):Option (Ctl (ByteArray) (Unit)) :=
  (bif (decide ((s_8.size:Int)>0))then (tQ s_8 0).bind λb_16=>some ((b_16.toNat:Int)==c_2)else some false).bind λv_13=>bif v_13 then (Au s_8 1 s_8.size).bind λy_19=>some (.go y_19)else some (.brk s_8)
noncomputable def strings_trimLeftByte (s_1:ByteArray) (c_2:Int):Option (ByteArray) :=
  (iT s_1 (λs=>gy c_2 s)).bind λo_11=>thenC o_11 (λs_8=>some s_8) (λ_=>none)
noncomputable def kL (s_1:ByteArray) (cutset_2:ByteArray):Option (ByteArray) :=
  (bif (sEq s_1 (⟨#[]⟩:ByteArray))then some true else some (sEq cutset_2 (⟨#[]⟩:ByteArray))).bind λv_3=>bif v_3 then some s_1 else (bif ((cutset_2.size:Int)==1)then (tQ cutset_2 0).bind λb_10=>some (decide ((b_10.toNat:Int)<128))else some false).bind λv_7=>bif v_7 then (tQ cutset_2 0).bind λb_13=>(strings_trimRightByte s_1 (b_13.toNat:Int)).bind λr_15=>(tQ cutset_2 0).bind λb_17=>(strings_trimLeftByte r_15 (b_17.toNat:Int)).bind λr_19=>some r_19 else none
def strings_Contains (x0:ByteArray) (x1:ByteArray):Option (Bool) :=
  xB x0 x1
def mF (s_1:ByteArray) (s_7:Int):Option (Ctl (Int) (Bool)) :=
  bif (decide (s_7<(s_1.size:Int)))then ((tQ s_1 s_7).bind λb_15=>bif (decide ((b_15.toNat:Int)<32))then some true else (tQ s_1 s_7).bind λb_18=>some ((b_18.toNat:Int)==127)).bind λv_13=>bif v_13 then some (.ret false)else some (.go (w64 (s_7+1)))else some (.brk s_7)
noncomputable def kC (s_1:ByteArray):Option (Bool) :=
  (iT 0 (λs=>mF s_1 s)).bind λo_10=>thenC o_10 (λs_7=>((eF s_1).bind λr_23=>bif r_23 then (kL s_1 (⟨#[32]⟩:ByteArray)).bind λr_26=>bif (sEq r_26 s_1)then (strings_Contains s_1 (⟨#[32,32]⟩:ByteArray)).bind λr_29=>some (!r_29)else some false else some false).bind λv_21=>some v_21) (λr=>some r)
def dY (k_29:Nat) (x_31:Rect) (s_34:Unit):Option (Ctl (Unit) (Int)) :=
  (jc x_31).bind λr_40=>bif (r_40 != 0)then some (.ret r_40)else some (.go ())
noncomputable def fK (a_1:Alert):Option (Int) :=
  ((kit_IsKey a_1.Id).bind λr_5=>bif (!r_5)then some true else (kit_IsKey a_1.Sender).bind λr_8=>some (!r_8)).bind λv_3=>bif v_3 then some 5 else (bZ a_1.Kind 1 3).bind λr_11=>bif r_11 then some 4 else (gG a_1).bind λr_14=>bif (r_14 != 0)then some r_14 else ((jo a_1.At).bind λr_19=>bif (!r_19)then some true else (bZ a_1.Until (w64 (a_1.At+1)) (w64 (a_1.At+2592000000))).bind λr_22=>bif r_22 then some true else (bZ a_1.Weight 1 9).bind λr_25=>some r_25).bind λv_17=>bif v_17 then some 1 else bif (decide ((a_1.Areas.length:Int)>20))then some 2 else (forL a_1.Areas () (λk x s=>dY k x s)).bind λo_37=>thenC o_37 (λs_34=>bif (!((a_1.Kind==3)==((a_1.Areas.length:Int)==0)))then some 3 else bif (decide ((a_1.Text.size:Int)>500))then some 2 else ((kC a_1.Text).bind λr_47=>bif (!r_47)then some true else bif (sEq a_1.Text (⟨#[]⟩:ByteArray))then some (!(a_1.Kind==3))else some false).bind λv_45=>bif v_45 then some 3 else some 0) (λr=>some r)
def cmp_isNaN_int (x_1:Int):Option (Bool) :=
  some (x_1 != x_1)
def cmp_Compare_int (x_1:Int) (y_2:Int):Option (Int) :=
  (cmp_isNaN_int x_1).bind λr_3=>(cmp_isNaN_int y_2).bind λr_5=>bif r_3 then bif r_5 then some 0 else some (-1)else bif r_5 then some 1 else bif (decide (x_1<y_2))then some (-1)else bif (decide (x_1>y_2))then some 1 else some 0
def fI (a_1:ByteArray) (b_2:ByteArray):Option (Int) :=
  some (zD a_1 b_2)
def strings_Compare (a_1:ByteArray) (b_2:ByteArray):Option (Int) :=
  (fI a_1 b_2).bind λr_3=>some r_3
def nk (k_2:Nat) (x_4:Int) (s_7:Unit):Option (Ctl (Unit) (Int)) :=
  bif (x_4 != 0)then some (.ret x_4)else some (.go ())
def pE (vals_1:(List Int)):Option (Int) :=
  (forL vals_1 () (λk x s=>nk k x s)).bind λo_10=>thenC o_10 (λs_7=>some 0) (λr=>some r)
def gN (a_1:Alert) (b_2:Alert):Option (Int) :=
  (cmp_Compare_int a_1.At b_2.At).bind λr_5=>(strings_Compare a_1.Id b_2.Id).bind λr_7=>(pE ([r_5,r_7]:List Int)).bind λr_9=>some r_9
noncomputable def dh (l_1:(List Alert)) (k_3:Nat) (x_5:Alert) (s_8:Unit):Option (Ctl (Unit) (Int)) :=
  (fK x_5).bind λr_14=>bif (r_14 != 0)then some (.ret r_14)else (bif (decide ((k_3:Int)>0))then (idx l_1 (w64 ((k_3:Int)-1))).bind λy_20=>(gN y_20 x_5).bind λr_22=>some (decide (r_22>=0))else some false).bind λv_17=>bif v_17 then some (.ret 7)else some (.go ())
def bN (k_26:Nat) (x_28:Alert) (s_31:(List (ByteArray×Bool))):Option (Ctl ((List (ByteArray×Bool))) (Int)) :=
  bif ((qA eqS s_31 x_28.Id).getD false)then some (.ret 6)else some (.go (kQ eqS s_31 x_28.Id true))
noncomputable def bB (l_1:(List Alert)):Option (Int) :=
  bif (decide ((l_1.length:Int)>300))then some 2 else (forL l_1 () (λk x s=>dh l_1 k x s)).bind λo_11=>thenC o_11 (λs_8=>(forL l_1 ([]:List (ByteArray×Bool)) (λk x s=>bN k x s)).bind λo_34=>thenC o_34 (λs_31=>some 0) (λr=>some r)) (λr=>some r)
def eB (a_1:Alert) (p_2:ByteArray):Option (Bool) :=
  some (sEq a_1.Id p_2)
def aX (f_2:Alert->Option Bool) (k_3:Nat) (x_5:Alert) (s_8:Unit):Option (Ctl (Unit) (Int)) :=
  (f_2 x_5).bind λr_13=>bif r_13 then some (.ret (k_3:Int))else some (.go ())
def aJ (s_1:(List Alert)) (f_2:Alert->Option Bool):Option (Int) :=
  (forL s_1 () (λk x s=>aX f_2 k x s)).bind λo_11=>thenC o_11 (λs_8=>some (-1)) (λr=>some r)
def jk (o_1:Alert) (p_2:ByteArray) (p_3:Alert):Option (Bool) :=
  (bif (sEq o_1.Id p_2)then bif (sEq o_1.Sender p_3.Sender)then (gN o_1 p_3).bind λr_9=>some (decide (r_9<0))else some false else some false).bind λv_5=>some v_5
def kE (l_1:(List Alert)) (a_2:Alert) (ref_3:ByteArray):Option (Int) :=
  (aJ l_1 (λx0=>jk x0 ref_3 a_2)).bind λr_6=>some r_6
def cmp_isNaN_string (x_1:ByteArray):Option (Bool) :=
  some (sNe x_1 x_1)
def cmp_Less_string (x_1:ByteArray) (y_2:ByteArray):Option (Bool) :=
  ((cmp_isNaN_string x_1).bind λr_5=>bif r_5 then (cmp_isNaN_string y_2).bind λr_8=>bif (!r_8)then some true else some (sLt x_1 y_2)else some (sLt x_1 y_2)).bind λv_3=>some v_3
def bz (a_2:Int) (s_20:(List ByteArray)×Int):Option (Ctl ((List ByteArray)×Int) (Unit)) :=
  (bif (decide (s_20.2>a_2))then (inR s_20.2 s_20.1).bind λ_=>(s_20.1[(0+(s_20.2).toNat)]?).bind λe_29=>(inR (w64 (s_20.2-1)) s_20.1).bind λ_=>(s_20.1[(0+((w64 (s_20.2-1))).toNat)]?).bind λe_32=>(cmp_Less_string e_29 e_32).bind λr_34=>some r_34 else some false).bind λv_25=>bif v_25 then (inR (w64 (s_20.2-1)) s_20.1).bind λ_=>(s_20.1[(0+((w64 (s_20.2-1))).toNat)]?).bind λe_38=>(inR s_20.2 s_20.1).bind λ_=>(s_20.1[(0+(s_20.2).toNat)]?).bind λe_41=>(inR s_20.2 s_20.1).bind λ_=>(s_20.1[(0+(s_20.2).toNat)]?).bind λe_44=>(inR (w64 (s_20.2-1)) (s_20.1.set (0+(s_20.2).toNat) e_38)).bind λ_=>((s_20.1.set (0+(s_20.2).toNat) e_38)[(0+((w64 (s_20.2-1))).toNat)]?).bind λe_47=>some (.go (((s_20.1.set (0+(s_20.2).toNat) e_38).set (0+((w64 (s_20.2-1))).toNat) e_41),(w64 (s_20.2-1))))else some (.brk (s_20.1,s_20.2))
noncomputable def bv (b_3:Int) (a_2:Int) (s_9:(List ByteArray)×Int):Option (Ctl ((List ByteArray)×Int) (Unit)) :=
  bif (decide (s_9.2<b_3))then (iT (s_9.1,s_9.2) (λs=>bz a_2 s)).bind λo_23=>thenC o_23 (λs_20=>some (.go (s_20.1,(w64 (s_9.2+1))))) (λ_=>none)else some (.brk (s_9.1,s_9.2))
noncomputable def bI (data_1:(List ByteArray)) (a_2:Int) (b_3:Int):Option ((List ByteArray)) :=
  (iT (data_1,(w64 (a_2+1))) (λs=>bv b_3 a_2 s)).bind λo_12=>thenC o_12 (λs_9=>some s_9.1) (λ_=>none)
noncomputable def bQ (b_3:Int) (a_2:Int) (data_1:(List ByteArray)) (limit_4:Int) (s_10:Unit):Option (Ctl (Unit) ((List ByteArray))) :=
  bif (decide ((w64 (b_3-a_2))<=12))then (bI data_1 a_2 b_3).bind λr_16=>(kF r_16 data_1).bind λ_=>some (.ret r_16)else bif (limit_4==0)then none else none
noncomputable def bX (data_1:(List ByteArray)) (a_2:Int) (b_3:Int) (limit_4:Int):Option ((List ByteArray)) :=
  (iT () (λs=>bQ b_3 a_2 data_1 limit_4 s)).bind λo_13=>thenC o_13 (λs_10=>some data_1) (λr=>some r)
noncomputable def bu (x_1:(List ByteArray)):Option ((List ByteArray)) :=
  (iQ (IntKind.u64.wrap (x_1.length:Int))).bind λr_2=>(bX x_1 0 (x_1.length:Int) r_2).bind λr_4=>(kF r_4 x_1).bind λ_=>some r_4
def iG (l_1:(List Alert)) (x_18:Alert) (m_11:Nat) (k_16:Nat) (k_29:Nat) (x_31:ByteArray) (s_34:(List (List Int))):Option (Ctl ((List (List Int))) (Unit)) :=
  (kE l_1 x_18 x_31).bind λr_41=>(bif (decide (r_41>=0))then (inN r_41 m_11).bind λ_=>(s_34[(0+(r_41).toNat)]?).bind λr_48=>(lc r_48 ([(k_16:Int)]:List Int)).bind λa_50=>(inN (k_16:Int) m_11).bind λ_=>(neN (0+(r_41).toNat) (0+((k_16:Int)).toNat)).bind λ_=>(s_34[(0+((k_16:Int)).toNat)]?).bind λr_57=>(lc r_57 ([r_41]:List Int)).bind λa_60=>(inN r_41 m_11).bind λ_=>(s_34[(0+(r_41).toNat)]?).bind λr_66=>(inN (k_16:Int) m_11).bind λ_=>((s_34.set (0+(r_41).toNat) a_50)[(0+((k_16:Int)).toNat)]?).bind λr_69=>some ((s_34.set (0+(r_41).toNat) a_50).set (0+((k_16:Int)).toNat) a_60)else some s_34).bind λv_43=>some (.go v_43)
def iA (l_1:(List Alert)) (m_11:Nat) (k_16:Nat) (x_18:Alert) (s_21:(List (List Int))):Option (Ctl ((List (List Int))) (Unit)) :=
  (forL x_18.Refs s_21 (λk x s=>iG l_1 x_18 m_11 k_16 k x s)).bind λo_39=>thenC o_39 (λs_34=>some (.go s_34)) (λ_=>none)
def iE (r_101:(List Int)) (s_21:(List (List Int))) (e_98:Int) (k_103:Nat) (x_105:Nat) (s_108:(List (Int×Bool))×(List Int)×Nat):Option (Ctl ((List (Int×Bool))×(List Int)×Nat) (Unit)) :=
  (inR (k_103:Int) r_101).bind λ_=>(s_21[(0+(e_98).toNat)]?).bind λr_118=>(r_118[(0+((k_103:Int)).toNat)]?).bind λe_120=>(bif (!((qA eqI s_108.1 e_120).getD false))then (leN s_108.2.2 s_108.2.1.length).bind λ_=>(lc (s_108.2.1.drop s_108.2.2) ([e_120]:List Int)).bind λa_126=>some ((kQ eqI s_108.1 e_120 true),a_126,0)else some (s_108.1,s_108.2.1,s_108.2.2)).bind λv_122=>some (.go (v_122.1,v_122.2.1,v_122.2.2))
def iy (l_1:(List Alert)) (m_11:Nat) (s_21:(List (List Int))) (s_78:(List (Int×Bool))×(List Int)×(List ByteArray)×Nat):Option (Ctl ((List (Int×Bool))×(List Int)×(List ByteArray)×Nat) (Unit)) :=
  bif (decide ((((s_78.2.1.length-s_78.2.2.2):Nat):Int)>0))then (inN 0 (s_78.2.1.length-s_78.2.2.2)).bind λ_=>(s_78.2.1[(s_78.2.2.2+(0:Int).toNat)]?).bind λe_90=>(idx l_1 e_90).bind λy_92=>(lc s_78.2.2.1 ([y_92.Id]:List ByteArray)).bind λa_94=>(inN 0 (s_78.2.1.length-s_78.2.2.2)).bind λ_=>(s_78.2.1[(s_78.2.2.2+(0:Int).toNat)]?).bind λe_98=>(inN e_98 m_11).bind λ_=>(s_21[(0+(e_98).toNat)]?).bind λr_101=>(forL (List.range ((r_101.length:Int)).toNat) (s_78.1,s_78.2.1,s_78.2.2.2) (λk x s=>iE r_101 s_21 e_98 k x s)).bind λo_115=>thenC o_115 (λs_108=>(ltN s_108.2.2 s_108.2.1.length).bind λ_=>some (.go (s_108.1,s_108.2.1,a_94,(s_108.2.2+1)))) (λ_=>none)else some (.brk (s_78.1,s_78.2.1,s_78.2.2.1,s_78.2.2.2))
noncomputable def gL (l_1:(List Alert)) (id_2:ByteArray):Option ((List ByteArray)×Int) :=
  (bB l_1).bind λr_4=>bif (r_4 != 0)then some (([]:(List ByteArray)),r_4)else (aJ l_1 (λx0=>eB x0 id_2)).bind λr_7=>bif (decide (r_7<0))then some (([]:(List ByteArray)),8)else (mkN (l_1.length:Int) 24).bind λm_11=>(nzI (l_1.length:Int)).bind λ_=>(forL l_1 (List.replicate m_11 ([]:List Int)) (λk x s=>iA l_1 m_11 k x s)).bind λo_26=>thenC o_26 (λs_21=>(iT ((kQ eqI ([]:List (Int×Bool)) r_7 true),([r_7]:List Int),([]:List ByteArray),0) (λs=>iy l_1 m_11 s_21 s)).bind λo_86=>thenC o_86 (λs_78=>(bu s_78.2.2.1).bind λr_131=>(kF r_131 s_78.2.2.1).bind λ_=>some (r_131,0)) (λ_=>none)) (λ_=>none)
def nA (r_1:ByteArray) (p_2:(List Alert)) (p_3:Alert):Option (Bool) :=
  (kE p_2 p_3 r_1).bind λr_4=>some (decide (r_4<0))
def dD (f_2:ByteArray->Option Bool) (k_3:Nat) (x_5:ByteArray) (s_8:Unit):Option (Ctl (Unit) (Int)) :=
  (f_2 x_5).bind λr_13=>bif r_13 then some (.ret (k_3:Int))else some (.go ())
def dS (s_1:(List ByteArray)) (f_2:ByteArray->Option Bool):Option (Int) :=
  (forL s_1 () (λk x s=>dD f_2 k x s)).bind λo_11=>thenC o_11 (λs_8=>some (-1)) (λr=>some r)
def bD (s_1:(List ByteArray)) (f_2:ByteArray->Option Bool):Option (Bool) :=
  (dS s_1 f_2).bind λr_3=>some (decide (r_3>=0))
def mh (l_1:(List Alert)) (k_6:Nat) (x_8:Alert) (s_11:(List ByteArray)):Option (Ctl ((List ByteArray)) (Unit)) :=
  (bD x_8.Refs (λx0=>nA x0 l_1 x_8)).bind λr_20=>(bif r_20 then (lc s_11 ([x_8.Id]:List ByteArray)).bind λa_27=>some a_27 else some s_11).bind λv_23=>some (.go v_23)
noncomputable def kz (l_1:(List Alert)):Option ((List ByteArray)×Int) :=
  (bB l_1).bind λr_3=>bif (r_3 != 0)then some (([]:(List ByteArray)),r_3)else (forL l_1 ([]:List ByteArray) (λk x s=>mh l_1 k x s)).bind λo_17=>thenC o_17 (λs_11=>some (s_11,0)) (λ_=>none)
def gm (atv_1:Int):Option (Int) :=
  (jo atv_1).bind λr_2=>bif (!r_2)then some 1 else some 0
def kV (k_2:Nat) (x_4:Alert) (s_7:(List Int)):Option (Ctl ((List Int)) (Unit)) :=
  (lc s_7 ([x_4.Until]:List Int)).bind λa_16=>some (.go a_16)
def jH (l_1:(List Alert)) (x_21:Alert) (k_30:Nat) (x_32:ByteArray) (s_35:(List Int)):Option (Ctl ((List Int)) (Unit)) :=
  (kE l_1 x_21 x_32).bind λr_40=>(bif (decide (r_40>=0))then (inR r_40 s_35).bind λ_=>(s_35[(0+(r_40).toNat)]?).bind λe_46=>(inR r_40 s_35).bind λ_=>(s_35[(0+(r_40).toNat)]?).bind λe_49=>some (s_35.set (0+(r_40).toNat) (Ay e_46 x_21.At))else some s_35).bind λv_42=>some (.go v_42)
def kZ (l_1:(List Alert)) (k_19:Nat) (x_21:Alert) (s_24:(List Int)):Option (Ctl ((List Int)) (Unit)) :=
  (forL x_21.Refs s_24 (λk x s=>jH l_1 x_21 k x s)).bind λo_38=>thenC o_38 (λs_35=>some (.go s_35)) (λ_=>none)
def oV (l_1:(List Alert)):Option ((List Int)) :=
  (forL l_1 ([]:List Int) (λk x s=>kV k x s)).bind λo_13=>thenC o_13 (λs_7=>(forL l_1 s_7 (λk x s=>kZ l_1 k x s)).bind λo_27=>thenC o_27 (λs_24=>some s_24) (λ_=>none)) (λ_=>none)
def pz (a_1:Alert) (endv_2:Int) (atv_3:Int):Option (Bool) :=
  (bif (a_1.Kind != 3)then bif (decide (a_1.At<=atv_3))then some (decide (atv_3<endv_2))else some false else some false).bind λv_5=>some v_5
def iY (r_9:(List Int)) (atv_2:Int) (k_11:Nat) (x_13:Alert) (s_16:(List ByteArray)):Option (Ctl ((List ByteArray)) (Unit)) :=
  (idx r_9 (k_11:Int)).bind λy_25=>(pz x_13 y_25 atv_2).bind λr_27=>(bif r_27 then (lc s_16 ([x_13.Id]:List ByteArray)).bind λa_33=>some a_33 else some s_16).bind λv_29=>some (.go v_29)
noncomputable def fU (l_1:(List Alert)) (atv_2:Int):Option ((List ByteArray)×Int) :=
  (bB l_1).bind λr_3=>bif (r_3 != 0)then some (([]:(List ByteArray)),r_3)else (gm atv_2).bind λr_6=>bif (r_6 != 0)then some (([]:(List ByteArray)),r_6)else (oV l_1).bind λr_9=>(forL l_1 ([]:List ByteArray) (λk x s=>iY r_9 atv_2 k x s)).bind λo_22=>thenC o_22 (λs_16=>some (s_16,0)) (λ_=>none)
def lW (n_1:Int) (low_2:Int) (high_3:Int):Option (Bool) :=
  (bif (decide (low_2<=n_1))then some (decide (n_1<=high_3))else some false).bind λv_4=>some v_4
def dR (s_1:ByteArray) (c_2:Int):Option (Int) :=
  some (ixB s_1 c_2)
def strings_IndexByte (s_1:ByteArray) (c_2:Int):Option (Int) :=
  (dR s_1 c_2).bind λr_3=>some r_3
def lJ (s_1:ByteArray) (somev_2:ByteArray) (k_3:Nat) (x_5:Nat) (s_8:Unit):Option (Ctl (Unit) (Bool)) :=
  (tQ s_1 (k_3:Int)).bind λb_13=>(strings_IndexByte somev_2 (b_13.toNat:Int)).bind λr_15=>bif (decide (r_15<0))then some (.ret false)else some (.go ())
def qx (s_1:ByteArray) (somev_2:ByteArray):Option (Bool) :=
  (forL (List.range ((s_1.size:Int)).toNat) () (λk x s=>lJ s_1 somev_2 k x s)).bind λo_11=>thenC o_11 (λs_8=>some true) (λr=>some r)
def rG (s_1:ByteArray):Option (Bool) :=
  ((lW (s_1.size:Int) 1 40).bind λr_4=>bif r_4 then (Au s_1 0 1).bind λy_7=>(qx y_7 (⟨#[97,98,99,100,101,102,103,104,105,106,107,108,109,110,111,112,113,114,115,116,117,118,119,120,121,122]⟩:ByteArray)).bind λr_9=>bif r_9 then (qx s_1 (⟨#[97,98,99,100,101,102,103,104,105,106,107,108,109,110,111,112,113,114,115,116,117,118,119,120,121,122,48,49,50,51,52,53,54,55,56,57,45,95]⟩:ByteArray)).bind λr_12=>some r_12 else some false else some false).bind λv_2=>some v_2
def jV (atv_1:Int):Option (Bool) :=
  (lW atv_1 0 345686399999).bind λr_2=>some r_2
def lg (r_1:Rect):Option (Int) :=
  ((lW r_1.X (-100000) 100000).bind λr_5=>bif (!r_5)then some true else (lW r_1.Y (-100000) 100000).bind λr_8=>bif (!r_8)then some true else (lW r_1.W 1 (w64 (100000-r_1.X))).bind λr_11=>bif (!r_11)then some true else (lW r_1.H 1 (w64 (100000-r_1.Y))).bind λr_14=>some (!r_14)).bind λv_3=>bif v_3 then some 1 else some 0
def nJ (r_1:Int):Option (Bool) :=
  (bif (decide (r_1<32))then some true else some (r_1==127)).bind λv_2=>some v_2
noncomputable def ic (x:ByteArray):Option (Bool) :=
  pg (λa=>nJ a) x
noncomputable def oz (s_1:ByteArray):Option (Bool) :=
  ((eF s_1).bind λr_4=>bif r_4 then (ic s_1).bind λr_7=>bif (!r_7)then (kL s_1 (⟨#[32]⟩:ByteArray)).bind λr_10=>bif (sEq r_10 s_1)then (strings_Contains s_1 (⟨#[32,32]⟩:ByteArray)).bind λr_13=>some (!r_13)else some false else some false else some false).bind λv_2=>some v_2
def gq (a_1:Alert) (k_15:Nat) (x_17:ByteArray) (s_20:Unit):Option (Ctl (Unit) (Int)) :=
  (rG x_17).bind λr_25=>bif (!r_25)then some (.ret 5)else (bif (decide ((k_15:Int)>0))then (idx a_1.Refs (w64 ((k_15:Int)-1))).bind λy_31=>some (sLe x_17 y_31)else some false).bind λv_28=>bif v_28 then some (.ret 7)else bif (sEq x_17 a_1.Id)then some (.ret 14)else some (.go ())
def gz (k_48:Nat) (x_50:Rect) (s_53:Unit):Option (Ctl (Unit) (Int)) :=
  (lg x_50).bind λr_59=>bif (r_59 != 0)then some (.ret r_59)else some (.go ())
noncomputable def jS (a_1:Alert):Option (Int) :=
  ((rG a_1.Id).bind λr_5=>bif (!r_5)then some true else (rG a_1.Sender).bind λr_8=>some (!r_8)).bind λv_3=>bif v_3 then some 5 else (lW a_1.Kind 1 3).bind λr_11=>bif (!r_11)then some 4 else bif (decide ((a_1.Refs.length:Int)>20))then some 2 else (forL a_1.Refs () (λk x s=>gq a_1 k x s)).bind λo_23=>thenC o_23 (λs_20=>bif (!((a_1.Kind==1)==((a_1.Refs.length:Int)==0)))then some 3 else ((jV a_1.At).bind λr_38=>bif (!r_38)then some true else (lW a_1.Until (w64 (a_1.At+1)) (w64 (a_1.At+2592000000))).bind λr_41=>bif (!r_41)then some true else (lW a_1.Weight 1 9).bind λr_44=>some (!r_44)).bind λv_36=>bif v_36 then some 1 else bif (decide ((a_1.Areas.length:Int)>20))then some 2 else (forL a_1.Areas () (λk x s=>gz k x s)).bind λo_56=>thenC o_56 (λs_53=>bif (!((a_1.Kind==3)==((a_1.Areas.length:Int)==0)))then some 3 else bif (decide ((a_1.Text.size:Int)>500))then some 2 else ((oz a_1.Text).bind λr_66=>bif (!r_66)then some true else bif (sEq a_1.Text (⟨#[]⟩:ByteArray))then some (a_1.Kind != 3)else some false).bind λv_64=>bif v_64 then some 3 else some 0) (λr=>some r)) (λr=>some r)
def wF (n_1:Int):Option (Int) :=
  bif (decide (n_1<0))then some (-1)else bif (decide (n_1>0))then some 1 else some 0
def gY (a_1:Alert) (b_2:Alert):Option (Int) :=
  bif (a_1.At != b_2.At)then (wF (w64 (a_1.At-b_2.At))).bind λr_6=>some r_6 else (strings_Compare a_1.Id b_2.Id).bind λr_8=>some r_8
noncomputable def fP (l_1:(List Alert)) (k_3:Nat) (x_5:Alert) (s_8:Unit):Option (Ctl (Unit) (Int)) :=
  (jS x_5).bind λr_14=>bif (r_14 != 0)then some (.ret r_14)else (bif (decide ((k_3:Int)>0))then (idx l_1 (w64 ((k_3:Int)-1))).bind λy_20=>(gY y_20 x_5).bind λr_22=>some (decide (r_22>=0))else some false).bind λv_17=>bif v_17 then some (.ret 7)else some (.go ())
def ib (k_26:Nat) (x_28:Alert) (s_31:(List (ByteArray×Bool))):Option (Ctl ((List (ByteArray×Bool))) (Unit)) :=
  some (.go (kQ eqS s_31 x_28.Id true))
noncomputable def jy (l_1:(List Alert)):Option (Int) :=
  bif (decide ((l_1.length:Int)>300))then some 2 else (forL l_1 () (λk x s=>fP l_1 k x s)).bind λo_11=>thenC o_11 (λs_8=>(forL l_1 ([]:List (ByteArray×Bool)) (λk x s=>ib k x s)).bind λo_34=>thenC o_34 (λs_31=>bif (decide ((s_31.length:Int)<(l_1.length:Int)))then some 6 else some 0) (λ_=>none)) (λr=>some r)
def oL (is_1:Bool) (e_2:Int):Option (Int) :=
  bif is_1 then some e_2 else some 0
def jA (atv_1:Int):Option (Int) :=
  (jV atv_1).bind λr_2=>(oL (!r_2) 1).bind λr_4=>some r_4
def pW (k_2:Nat) (x_4:Int) (s_7:Unit):Option (Ctl (Unit) (Int)) :=
  bif (x_4 != 0)then some (.ret x_4)else some (.go ())
def sN (l_1:(List Int)):Option (Int) :=
  (forL l_1 () (λk x s=>pW k x s)).bind λo_10=>thenC o_10 (λs_7=>some 0) (λr=>some r)
def l5 (a_1:Alert) (p_2:ByteArray):Option (Bool) :=
  some (sEq a_1.Id p_2)
def aY (s_1:(List Alert)) (f_2:Alert->Option Bool):Option (Bool) :=
  (aJ s_1 f_2).bind λr_3=>some (decide (r_3>=0))
def kK (l_1:(List Alert)) (id_2:ByteArray):Option (Bool) :=
  (aY l_1 (λx0=>l5 x0 id_2)).bind λr_4=>some r_4
def jU (o_1:Alert) (p_2:ByteArray) (p_3:Alert):Option (Bool) :=
  (bif (sEq o_1.Id p_2)then bif (sEq o_1.Sender p_3.Sender)then (gY o_1 p_3).bind λr_9=>some (decide (r_9<0))else some false else some false).bind λv_5=>some v_5
def mO (l_1:(List Alert)) (a_2:Alert) (ref_3:ByteArray):Option (Bool) :=
  (aY l_1 (λx0=>jU x0 ref_3 a_2)).bind λr_6=>some r_6
def dZ (v_2:ByteArray) (k_3:Nat) (x_5:ByteArray) (s_8:Unit):Option (Ctl (Unit) (Int)) :=
  bif (sEq v_2 x_5)then some (.ret (k_3:Int))else some (.go ())
def fD (s_1:(List ByteArray)) (v_2:ByteArray):Option (Int) :=
  (forL s_1 () (λk x s=>dZ v_2 k x s)).bind λo_11=>thenC o_11 (λs_8=>some (-1)) (λr=>some r)
def cZ (s_1:(List ByteArray)) (v_2:ByteArray):Option (Bool) :=
  (fD s_1 v_2).bind λr_3=>some (decide (r_3>=0))
def bf (s_1:(List ByteArray)) (v_2:ByteArray) (k_3:Nat) (x_5:Nat) (s_8:Unit):Option (Ctl (Unit) (Int)) :=
  (inR (k_3:Int) s_1).bind λ_=>(s_1[(0+((k_3:Int)).toNat)]?).bind λe_14=>bif (sEq v_2 e_14)then some (.ret (k_3:Int))else some (.go ())
def d9 (s_1:(List ByteArray)) (v_2:ByteArray):Option (Int) :=
  (forL (List.range ((s_1.length:Int)).toNat) () (λk x s=>bf s_1 v_2 k x s)).bind λo_11=>thenC o_11 (λs_8=>some (-1)) (λr=>some r)
def bJ (s_1:(List ByteArray)) (v_2:ByteArray):Option (Bool) :=
  (d9 s_1 v_2).bind λr_3=>some (decide (r_3>=0))
def iC (l_1:(List Alert)) (x_19:Alert) (k_30:Nat) (x_32:ByteArray) (s_35:(List ByteArray)):Option (Ctl ((List ByteArray)) (Unit)) :=
  (mO l_1 x_19 x_32).bind λr_42=>bif (!r_42)then some (.go s_35)else (neL s_35).bind λ_=>(bJ s_35 x_19.Id).bind λr_46=>(neL s_35).bind λ_=>(bJ s_35 x_32).bind λr_49=>(bif r_46 then some (!r_49)else some false).bind λv_51=>(bif v_51 then (lc s_35 ([x_32]:List ByteArray)).bind λa_58=>some a_58 else (bif r_49 then some (!r_46)else some false).bind λv_61=>bif v_61 then (lc s_35 ([x_19.Id]:List ByteArray)).bind λa_65=>some a_65 else some s_35).bind λv_54=>some (.go v_54)
def iB (l_1:(List Alert)) (k_17:Nat) (x_19:Alert) (s_22:(List ByteArray)):Option (Ctl ((List ByteArray)) (Unit)) :=
  (forL x_19.Refs s_22 (λk x s=>iC l_1 x_19 k x s)).bind λo_40=>thenC o_40 (λs_35=>some (.go s_35)) (λ_=>none)
def iH (l_1:(List Alert)) (s_9:(List ByteArray)×Int):Option (Ctl ((List ByteArray)×Int) (Unit)) :=
  bif (decide (s_9.2<(s_9.1.length:Int)))then (forL l_1 s_9.1 (λk x s=>iB l_1 k x s)).bind λo_27=>thenC o_27 (λs_22=>some (.go (s_22,(s_9.1.length:Int)))) (λ_=>none)else some (.brk (s_9.1,s_9.2))
noncomputable def lU (l_1:(List Alert)) (id_2:ByteArray):Option ((List ByteArray)) :=
  (iT (([id_2]:List ByteArray),0) (λs=>iH l_1 s)).bind λo_14=>thenC o_14 (λs_9=>(neL s_9.1).bind λ_=>(bu s_9.1).bind λr_69=>(kF r_69 s_9.1).bind λ_=>some r_69) (λ_=>none)
def ni (r_1:ByteArray) (p_2:(List Alert)) (p_3:Alert):Option (Bool) :=
  (mO p_2 p_3 r_1).bind λr_4=>some (!r_4)
def lS (l_1:(List Alert)) (k_3:Nat) (x_5:Alert) (s_8:(List ByteArray)):Option (Ctl ((List ByteArray)) (Unit)) :=
  (bD x_5.Refs (λx0=>ni x0 l_1 x_5)).bind λr_17=>(bif r_17 then (lc s_8 ([x_5.Id]:List ByteArray)).bind λa_24=>some a_24 else some s_8).bind λv_20=>some (.go v_20)
def nK (l_1:(List Alert)):Option ((List ByteArray)) :=
  (forL l_1 ([]:List ByteArray) (λk x s=>lS l_1 k x s)).bind λo_14=>thenC o_14 (λs_8=>some s_8) (λ_=>none)
def lY (a_2:Alert) (l_1:(List Alert)) (k_4:Nat) (x_6:Alert) (s_9:Int):Option (Ctl (Int) (Unit)) :=
  ((cZ x_6.Refs a_2.Id).bind λr_17=>bif r_17 then (mO l_1 x_6 a_2.Id).bind λr_20=>some r_20 else some false).bind λv_15=>(bif v_15 then some (Ay s_9 x_6.At)else some s_9).bind λv_22=>some (.go v_22)
def qR (l_1:(List Alert)) (a_2:Alert):Option (Int) :=
  (forL l_1 a_2.Until (λk x s=>lY a_2 l_1 k x s)).bind λo_12=>thenC o_12 (λs_9=>some s_9) (λ_=>none)
def oW (l_1:(List Alert)) (a_2:Alert) (atv_3:Int):Option (Bool) :=
  (bif (a_2.Kind != 3)then bif (decide (a_2.At<=atv_3))then (qR l_1 a_2).bind λr_9=>some (decide (atv_3<r_9))else some false else some false).bind λv_5=>some v_5
def mE (l_1:(List Alert)) (atv_2:Int) (k_3:Nat) (x_5:Alert) (s_8:(List ByteArray)):Option (Ctl ((List ByteArray)) (Unit)) :=
  (oW l_1 x_5 atv_2).bind λr_17=>(bif r_17 then (lc s_8 ([x_5.Id]:List ByteArray)).bind λa_23=>some a_23 else some s_8).bind λv_19=>some (.go v_19)
def lI (l_1:(List Alert)) (atv_2:Int):Option ((List ByteArray)) :=
  (forL l_1 ([]:List ByteArray) (λk x s=>mE l_1 atv_2 k x s)).bind λo_14=>thenC o_14 (λs_8=>some s_8) (λ_=>none)
def bR (s2_2:(List ByteArray)) (k_4:Nat) (x_6:ByteArray) (s_9:Unit):Option (Ctl (Unit) (Bool)) :=
  (idx s2_2 (k_4:Int)).bind λy_14=>bif (sNe x_6 y_14)then some (.ret false)else some (.go ())
def bG (s1_1:(List ByteArray)) (s2_2:(List ByteArray)):Option (Bool) :=
  bif ((s1_1.length:Int) != (s2_2.length:Int))then some false else (forL s1_1 () (λk x s=>bR s2_2 k x s)).bind λo_12=>thenC o_12 (λs_9=>some true) (λr=>some r)
noncomputable def gK (l_1:(List Post)) (k_3:Nat) (x_5:Post) (s_8:Unit):Option (Ctl (Unit) (Int)) :=
  (kit_IsKey x_5.Player).bind λr_14=>bif (!r_14)then some (.ret 5)else ((bZ x_5.X (-100000) 100000).bind λr_19=>bif r_19 then some true else (bZ x_5.Y (-100000) 100000).bind λr_22=>some r_22).bind λv_17=>bif v_17 then some (.ret 1)else (bif (decide ((k_3:Int)>0))then (idx l_1 (w64 ((k_3:Int)-1))).bind λy_28=>some (sLe x_5.Player y_28.Player)else some false).bind λv_25=>bif v_25 then some (.ret 7)else some (.go ())
noncomputable def iZ (l_1:(List Post)):Option (Int) :=
  bif (decide ((l_1.length:Int)>500))then some 2 else (forL l_1 () (λk x s=>gK l_1 k x s)).bind λo_11=>thenC o_11 (λs_8=>some 0) (λr=>some r)
noncomputable def jw (l_1:(List Alert)) (posts_2:(List Post)):Option (Int) :=
  (bB l_1).bind λr_3=>bif (r_3 != 0)then some r_3 else (iZ posts_2).bind λr_6=>some r_6
def nW (r_1:Rect) (p_2:Post):Option (Bool) :=
  (bif (decide (r_1.X<=p_2.X))then bif (decide (p_2.X<(w64 (r_1.X+r_1.W))))then bif (decide (r_1.Y<=p_2.Y))then some (decide (p_2.Y<(w64 (r_1.Y+r_1.H))))else some false else some false else some false).bind λv_4=>some v_4
def dX (f_2:Rect->Option Bool) (k_3:Nat) (x_5:Rect) (s_8:Unit):Option (Ctl (Unit) (Int)) :=
  (f_2 x_5).bind λr_13=>bif r_13 then some (.ret (k_3:Int))else some (.go ())
def eT (s_1:(List Rect)) (f_2:Rect->Option Bool):Option (Int) :=
  (forL s_1 () (λk x s=>dX f_2 k x s)).bind λo_11=>thenC o_11 (λs_8=>some (-1)) (λr=>some r)
def dW (s_1:(List Rect)) (f_2:Rect->Option Bool):Option (Bool) :=
  (eT s_1 f_2).bind λr_3=>some (decide (r_3>=0))
def nu (a_1:Alert) (p_2:Post):Option (Bool) :=
  (dW a_1.Areas (λx0=>nW x0 p_2)).bind λr_5=>some r_5
noncomputable def lh (a_1:Alert) (p_2:Post):Option (Bool×Int) :=
  (jw ([a_1]:List Alert) ([p_2]:List Post)).bind λr_5=>bif (r_5 != 0)then some (false,r_5)else (nu a_1 p_2).bind λr_8=>some (r_8,0)
noncomputable def mR  : Option (Bool) :=
  (lh (⟨(⟨#[97]⟩:ByteArray),(⟨#[115]⟩:ByteArray),1,([]:List ByteArray),0,5,1,([(⟨0,0,2,2⟩:Rect)]:List Rect),(⟨#[120]⟩:ByteArray)⟩:Alert) (⟨(⟨#[112]⟩:ByteArray),1,1⟩:Post)).bind λr_2=>(bif (r_2.2==0)then some r_2.1 else some false).bind λv_4=>some v_4
noncomputable def jP (l_1:(List Int)):Option (Bool) :=
  (jb (⟨l_1,0⟩:Stream) 6).bind λr_3=>(dz r_3.2 ([(⟨#[97,97]⟩:ByteArray),(⟨#[97,98]⟩:ByteArray),(⟨#[97,99]⟩:ByteArray),(⟨#[122,122]⟩:ByteArray)]:List ByteArray)).bind λr_6=>(dL r_6.2 ([0,5,10,15,20,25,30,60,(-1)]:List Int)).bind λr_9=>(gL r_3.1 r_6.1).bind λr_12=>(kz r_3.1).bind λr_14=>(fU r_3.1 r_9.1).bind λr_16=>(jy r_3.1).bind λr_18=>(jA r_9.1).bind λr_20=>(sN ([r_18,r_20]:List Int)).bind λr_22=>(bif (r_18==0)then (kK r_3.1 r_6.1).bind λr_27=>(oL (!r_27) 8).bind λr_29=>some r_29 else some r_18).bind λv_24=>(bif (v_24==0)then (lU r_3.1 r_6.1).bind λr_36=>some r_36 else some ([]:List ByteArray)).bind λv_33=>(bif (r_18==0)then (nK r_3.1).bind λr_43=>some r_43 else some ([]:List ByteArray)).bind λv_40=>(bif (r_22==0)then (lI r_3.1 r_9.1).bind λr_50=>some r_50 else some ([]:List ByteArray)).bind λv_47=>(bif (r_12.2==v_24)then (bG r_12.1 v_33).bind λr_55=>bif r_55 then bif (r_14.2==r_18)then (bG r_14.1 v_40).bind λr_59=>bif r_59 then bif (r_16.2==r_22)then (bG r_16.1 v_47).bind λr_63=>bif r_63 then (mR).bind λr_66=>some r_66 else some false else some false else some false else some false else some false else some false).bind λv_52=>some v_52
end Go.Proofs.YtekmkepojbhafaeGreatDoor.Law

