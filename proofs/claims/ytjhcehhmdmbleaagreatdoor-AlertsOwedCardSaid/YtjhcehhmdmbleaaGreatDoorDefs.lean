/-
  The functions of the program, as plain functions over data (written by a program of ours).
-/
import Derived.Test.YtjhcehhmdmbleaaGreatDoorEng5
open Go Go.Eng
namespace Go.Proofs.YtjhcehhmdmbleaaGreatDoor.Law
set_option maxRecDepth 100000
set_option linter.unusedVariables false
set_option maxHeartbeats 1000000
structure Stream where
  L:(List Int)
  f_at:Int
def Stream.enc (s:Stream):List D:=[dl eI s.L,.int .i64 s.f_at]

structure Rect where
  X:Int
  Y:Int
  W:Int
  H:Int
def Rect.enc (s:Rect):List D:=[.int .i64 s.X,.int .i64 s.Y,.int .i64 s.W,.int .i64 s.H]

structure Alert where
  Id:ByteArray
  Sender:ByteArray
  Kind:Int
  Refs:(List ByteArray)
  At:Int
  Until:Int
  Weight:Int
  Areas:(List Rect)
  Text:ByteArray
def Alert.enc (s:Alert):List D:=[.str s.Id,.str s.Sender,.int .i64 s.Kind,dl eS s.Refs,.int .i64 s.At,.int .i64 s.Until,.int .i64 s.Weight,dl Rect.enc s.Areas,.str s.Text]

structure Post where
  Player:ByteArray
  X:Int
  Y:Int
def Post.enc (s:Post):List D:=[.str s.Player,.int .i64 s.X,.int .i64 s.Y]

structure Receipt where
  Player:ByteArray
  Alert:ByteArray
  At:Int
  Seen:Bool
def Receipt.enc (s:Receipt):List D:=[.str s.Player,.str s.Alert,.int .i64 s.At,.bool s.Seen]

structure Debt where
  Player:ByteArray
  Alert:ByteArray
  Due:Int
  Got:Int
def Debt.enc (s:Debt):List D:=[.str s.Player,.str s.Alert,.int .i64 s.Due,.int .i64 s.Got]

structure Pair where
  f_player:ByteArray
  f_alert:ByteArray
def Pair.enc (s:Pair):List D:=[.str s.f_player,.str s.f_alert]

structure Fraction where
  Num:Int
  Den:Int
def Fraction.enc (s:Fraction):List D:=[.int .i64 s.Num,.int .i64 s.Den]

structure Window where
  From:Int
  To:Int
def Window.enc (s:Window):List D:=[.int .i64 s.From,.int .i64 s.To]

structure Slot_ where
  Time:Window
  Entry:ByteArray
def Slot_.enc (s:Slot_):List D:=[.int .i64 s.Time.From,.int .i64 s.Time.To,.str s.Entry]

structure Run where
  f_from:Int
  f_to:Int
def Run.enc (s:Run):List D:=[.int .i64 s.f_from,.int .i64 s.f_to]

def rR (x_1:Int) (n_2:Int):Option (Int) :=
  bif (decide (n_2<1))then some 0 else (Ht .i64 x_1 n_2).bind λq_4=>(bif (decide (q_4<0))then some (w64 (q_4+n_2))else some q_4).bind λv_6=>some v_6
def dN (s_1:Stream) (n_2:Int):Option (Int×Stream) :=
  bif ((s_1.L.length:Int)==0)then (rR (w64 ((w64 (s_1.f_at+1))*7919)) n_2).bind λr_4=>some (r_4,(⟨s_1.L,(w64 (s_1.f_at+1))⟩:Stream))else (Ht .i64 (w64 ((w64 (s_1.f_at+1))-1)) (s_1.L.length:Int)).bind λq_6=>(Bf .i64 (w64 ((w64 (s_1.f_at+1))-1)) (s_1.L.length:Int)).bind λq_8=>(idx s_1.L q_6).bind λy_10=>(rR y_10 1073741824).bind λr_12=>(rR (w64 (r_12+(w64 (q_8*(w64 (7919+q_6)))))) n_2).bind λr_14=>some (r_14,(⟨s_1.L,(w64 (s_1.f_at+1))⟩:Stream))
def bS (s_1:Stream) (low_2:Int) (high_3:Int):Option (Int×Stream) :=
  bif (decide (high_3<low_2))then some (low_2,s_1)else (dN s_1 (w64 ((w64 (high_3-low_2))+1))).bind λr_5=>some ((w64 (low_2+r_5.1)),r_5.2)
def dG (s_1:Stream) (l_2:(List ByteArray)):Option (ByteArray×Stream) :=
  (dN s_1 (l_2.length:Int)).bind λr_3=>(idx l_2 r_3.1).bind λy_6=>some (y_6,r_3.2)
def eZ (s_1:Stream) (l_2:(List Int)):Option (Int×Stream) :=
  (dN s_1 (l_2.length:Int)).bind λr_3=>(idx l_2 r_3.1).bind λy_6=>some (y_6,r_3.2)
def ed (s_1:Stream) (n_2:Int):Option (Bool×Stream) :=
  (dN s_1 n_2).bind λr_3=>some ((r_3.1==0),r_3.2)
def dZ (s_1:Stream):Option (Rect×Stream) :=
  (bS s_1 (-2) 8).bind λr_3=>(bS r_3.2 (-2) 8).bind λr_6=>(bS r_6.2 1 5).bind λr_9=>(bS r_9.2 1 5).bind λr_12=>some ((⟨r_3.1,r_6.1,r_9.1,r_12.1⟩:Rect),r_12.2)
def lG (a_1:Alert) (b_2:Alert):Option (Int) :=
  bif (a_1.At != b_2.At)then some (w64 (a_1.At-b_2.At))else bif (sLt a_1.Id b_2.Id)then some (-1)else some 1
def qG (x_1:Int):Option (Int) :=
  (bif (decide (x_1>=4294967296))then (L9 .u64 x_1 32).bind λq_5=>some (q_5,32)else some (x_1,0)).bind λv_2=>(bif (decide (v_2.1>=65536))then (L9 .u64 v_2.1 16).bind λq_10=>some (q_10,(w64 (v_2.2+16)))else some (v_2.1,v_2.2)).bind λv_7=>(bif (decide (v_7.1>=256))then (L9 .u64 v_7.1 8).bind λq_15=>some (q_15,(w64 (v_7.2+8)))else some (v_7.1,v_7.2)).bind λv_12=>(ww (⟨#[0,1,2,2,3,3,3,3,4,4,4,4,4,4,4,4,5,5,5,5,5,5,5,5,5,5,5,5,5,5,5,5,6,6,6,6,6,6,6,6,6,6,6,6,6,6,6,6,6,6,6,6,6,6,6,6,6,6,6,6,6,6,6,6,7,7,7,7,7,7,7,7,7,7,7,7,7,7,7,7,7,7,7,7,7,7,7,7,7,7,7,7,7,7,7,7,7,7,7,7,7,7,7,7,7,7,7,7,7,7,7,7,7,7,7,7,7,7,7,7,7,7,7,7,7,7,7,7,8,8,8,8,8,8,8,8,8,8,8,8,8,8,8,8,8,8,8,8,8,8,8,8,8,8,8,8,8,8,8,8,8,8,8,8,8,8,8,8,8,8,8,8,8,8,8,8,8,8,8,8,8,8,8,8,8,8,8,8,8,8,8,8,8,8,8,8,8,8,8,8,8,8,8,8,8,8,8,8,8,8,8,8,8,8,8,8,8,8,8,8,8,8,8,8,8,8,8,8,8,8,8,8,8,8,8,8,8,8,8,8,8,8,8,8,8,8,8,8,8,8,8,8,8,8,8,8]⟩:ByteArray) (IntKind.u8.wrap v_12.1)).bind λb_17=>some (w64 (v_12.2+(w64 (b_17.toNat:Int))))
def lD (x_1:Int):Option (Int) :=
  (qG x_1).bind λr_2=>some r_2
def eH (a_2:Int) (s_21:(List Alert)×Int):Option (Ctl ((List Alert)×Int) (Unit)) :=
  (bif (decide (s_21.2>a_2))then (inR s_21.2 s_21.1).bind λ_=>(s_21.1[(0+(s_21.2).toNat)]?).bind λe_30=>(inR (w64 (s_21.2-1)) s_21.1).bind λ_=>(s_21.1[(0+((w64 (s_21.2-1))).toNat)]?).bind λe_33=>(lG e_30 e_33).bind λr_35=>some (decide (r_35<0))else some false).bind λv_26=>bif v_26 then (inR (w64 (s_21.2-1)) s_21.1).bind λ_=>(s_21.1[(0+((w64 (s_21.2-1))).toNat)]?).bind λe_39=>(inR s_21.2 s_21.1).bind λ_=>(s_21.1[(0+(s_21.2).toNat)]?).bind λe_42=>(inR s_21.2 s_21.1).bind λ_=>(s_21.1[(0+(s_21.2).toNat)]?).bind λe_45=>(inR (w64 (s_21.2-1)) (s_21.1.set (0+(s_21.2).toNat) e_39)).bind λ_=>((s_21.1.set (0+(s_21.2).toNat) e_39)[(0+((w64 (s_21.2-1))).toNat)]?).bind λe_48=>some (.go (((s_21.1.set (0+(s_21.2).toNat) e_39).set (0+((w64 (s_21.2-1))).toNat) e_42),(w64 (s_21.2-1))))else some (.brk (s_21.1,s_21.2))
noncomputable def eG (b_3:Int) (a_2:Int) (s_10:(List Alert)×Int):Option (Ctl ((List Alert)×Int) (Unit)) :=
  bif (decide (s_10.2<b_3))then (lN (s_10.1,s_10.2) (λs=>eH a_2 s)).bind λo_24=>thenC o_24 (λs_21=>some (.go (s_21.1,(w64 (s_10.2+1))))) (λ_=>none)else some (.brk (s_10.1,s_10.2))
noncomputable def fA (data_1:(List Alert)) (a_2:Int) (b_3:Int):Option ((List Alert)) :=
  (lN (data_1,(w64 (a_2+1))) (λs=>eG b_3 a_2 s)).bind λo_13=>thenC o_13 (λs_10=>some s_10.1) (λ_=>none)
noncomputable def fT (b_3:Int) (a_2:Int) (data_1:(List Alert)) (limit_4:Int) (s_11:Unit):Option (Ctl (Unit) ((List Alert))) :=
  bif (decide ((w64 (b_3-a_2))<=12))then (fA data_1 a_2 b_3).bind λr_17=>(mP r_17 data_1).bind λ_=>some (.ret r_17)else bif (limit_4==0)then none else none
noncomputable def gL (data_1:(List Alert)) (a_2:Int) (b_3:Int) (limit_4:Int):Option ((List Alert)) :=
  (lN () (λs=>fT b_3 a_2 data_1 limit_4 s)).bind λo_14=>thenC o_14 (λs_11=>some data_1) (λr=>some r)
noncomputable def cB (x_1:(List Alert)):Option ((List Alert)) :=
  (lD (IntKind.u64.wrap (x_1.length:Int))).bind λr_3=>(gL x_1 0 (x_1.length:Int) r_3).bind λr_5=>(mP r_5 x_1).bind λ_=>some r_5
def dR (x_10:ByteArray) (k_45:Nat) (x_47:ByteArray) (s_50:(List ByteArray)×(List Int)×Int):Option (Ctl ((List ByteArray)×(List Int)×Int) (Unit)) :=
  (bif (sNe x_47 x_10)then (ed (⟨s_50.2.1,s_50.2.2⟩:Stream) 3).bind λr_61=>some (r_61.1,r_61.2.L,r_61.2.f_at)else some (false,s_50.2.1,s_50.2.2)).bind λv_58=>(bif v_58.1 then (uj s_50.1 ([x_47]:List ByteArray)).bind λa_68=>some a_68 else some s_50.1).bind λv_64=>some (.go (v_64,v_58.2.1,v_58.2.2))
def dU (k_85:Nat) (x_87:Nat) (s_90:(List Rect)×(List Int)×Int):Option (Ctl ((List Rect)×(List Int)×Int) (Unit)) :=
  (dZ (⟨s_90.2.1,s_90.2.2⟩:Stream)).bind λr_97=>(uj s_90.1 ([r_97.1]:List Rect)).bind λa_100=>some (.go (a_100,r_97.2.L,r_97.2.f_at))
def fu (k_8:Nat) (x_10:ByteArray) (s_13:(List Alert)×(List Int)×Int):Option (Ctl ((List Alert)×(List Int)×Int) (Unit)) :=
  (dG (⟨s_13.2.1,s_13.2.2⟩:Stream) ([(⟨#[119,120]⟩:ByteArray),(⟨#[119,120]⟩:ByteArray),(⟨#[102,105,114,101]⟩:ByteArray)]:List ByteArray)).bind λr_21=>(eZ r_21.2 ([1,1,2,2,3]:List Int)).bind λr_24=>(bS r_24.2 0 6).bind λr_27=>(eZ r_27.2 ([1,5,5,9]:List Int)).bind λr_30=>(dG r_30.2 ([(⟨#[102,108,111,111,100]⟩:ByteArray),(⟨#[102,105,114,101,32,105,110,32,116,104,101,32,109,97,108,108]⟩:ByteArray)]:List ByteArray)).bind λr_33=>(eZ r_33.2 ([1,10,20,50]:List Int)).bind λr_37=>(bif (r_24.1 != 1)then (forL ([(⟨#[97,97]⟩:ByteArray),(⟨#[97,98]⟩:ByteArray),(⟨#[97,99]⟩:ByteArray),(⟨#[97,100]⟩:ByteArray),(⟨#[122,122]⟩:ByteArray)]:List ByteArray) (([]:List ByteArray),r_37.2.L,r_37.2.f_at) (λk x s=>dR x_10 k x s)).bind λo_56=>thenC o_56 (λs_50=>bif ((s_50.1.length:Int)==0)then some (s_50.2.1,s_50.2.2,([(⟨#[122,121]⟩:ByteArray)]:List ByteArray))else some (s_50.2.1,s_50.2.2,s_50.1)) (λ_=>none)else some (r_37.2.L,r_37.2.f_at,([]:List ByteArray))).bind λv_42=>(bif (r_24.1==3)then (dG (⟨v_42.1,v_42.2.1⟩:Stream) ([(⟨#[]⟩:ByteArray),(⟨#[111,118,101,114]⟩:ByteArray)]:List ByteArray)).bind λr_79=>some (([]:List Rect),r_79.2.L,r_79.2.f_at,r_79.1)else (bS (⟨v_42.1,v_42.2.1⟩:Stream) 1 2).bind λr_82=>(forL (List.range (r_82.1).toNat) (([]:List Rect),r_82.2.L,r_82.2.f_at) (λk x s=>dU k x s)).bind λo_95=>thenC o_95 (λs_90=>some (s_90.1,s_90.2.1,s_90.2.2,r_33.1)) (λ_=>none)).bind λv_75=>(uj s_13.1 ([(⟨x_10,r_21.1,r_24.1,v_42.2.2,(w64 (r_27.1*5)),(w64 ((w64 (r_27.1*5))+r_37.1)),r_30.1,v_75.1,v_75.2.2.2⟩:Alert)]:List Alert)).bind λa_103=>some (.go (a_103,v_75.2.1,v_75.2.2.1))
noncomputable def gy (s_1:Stream) (most_2:Int):Option ((List Alert)×Stream) :=
  (bS s_1 0 most_2).bind λr_3=>(E5 ([(⟨#[97,97]⟩:ByteArray),(⟨#[97,98]⟩:ByteArray),(⟨#[97,99]⟩:ByteArray),(⟨#[97,100]⟩:ByteArray),(⟨#[97,101]⟩:ByteArray),(⟨#[97,102]⟩:ByteArray)]:List ByteArray) 0 r_3.1).bind λy_6=>(forL y_6 (([]:List Alert),r_3.2.L,r_3.2.f_at) (λk x s=>fu k x s)).bind λo_19=>thenC o_19 (λs_13=>(cB s_13.1).bind λr_106=>(mP r_106 s_13.1).bind λ_=>some (r_106,(⟨s_13.2.1,s_13.2.2⟩:Stream))) (λ_=>none)
def dS (s_1:Stream) (low_2:Int) (high_3:Int):Option (Int×Stream) :=
  (ed s_1 12).bind λr_4=>bif r_4.1 then (eZ r_4.2 ([(w64 (low_2-1)),(w64 (high_3+1)),low_2,high_3,(-1099511627776),1099511627776]:List Int)).bind λr_8=>some (r_8.1,r_8.2)else (bS r_4.2 low_2 high_3).bind λr_11=>some (r_11.1,r_11.2)
def l5 (s_1:Stream):Option (Rect×Stream) :=
  (dZ s_1).bind λr_3=>(ed r_3.2 20).bind λr_7=>(bif r_7.1 then (dN r_7.2 3).bind λr_13=>bif (r_13.1==0)then (dS r_13.2 (-100000) 99999).bind λr_17=>some (r_17.2.L,r_17.2.f_at,r_17.1,r_3.1.Y,r_3.1.W,r_3.1.H)else bif (r_13.1==1)then (dS r_13.2 1 200000).bind λr_21=>(dS r_21.2 1 5).bind λr_24=>some (r_24.2.L,r_24.2.f_at,r_3.1.X,r_3.1.Y,r_21.1,r_24.1)else (eZ r_13.2 ([(-100000),99999]:List Int)).bind λr_27=>(eZ r_27.2 ([1,2,200000]:List Int)).bind λr_30=>some (r_30.2.L,r_30.2.f_at,r_3.1.X,r_27.1,r_3.1.W,r_30.1)else some (r_7.2.L,r_7.2.f_at,r_3.1.X,r_3.1.Y,r_3.1.W,r_3.1.H)).bind λv_10=>some ((⟨v_10.2.2.1,v_10.2.2.2.1,v_10.2.2.2.2.1,v_10.2.2.2.2.2⟩:Rect),(⟨v_10.1,v_10.2.1⟩:Stream))
def jw (k_6:Nat) (x_8:Nat) (s_11:(List Rect)×(List Int)×Int):Option (Ctl ((List Rect)×(List Int)×Int) (Unit)) :=
  (dZ (⟨s_11.2.1,s_11.2.2⟩:Stream)).bind λr_19=>(ed r_19.2 60).bind λr_23=>(bif r_23.1 then (l5 r_23.2).bind λr_29=>some (r_29.2.L,r_29.2.f_at,r_29.1.X,r_29.1.Y,r_29.1.W,r_29.1.H)else some (r_23.2.L,r_23.2.f_at,r_19.1.X,r_19.1.Y,r_19.1.W,r_19.1.H)).bind λv_26=>(uj s_11.1 ([(⟨v_26.2.2.1,v_26.2.2.2.1,v_26.2.2.2.2.1,v_26.2.2.2.2.2⟩:Rect)]:List Rect)).bind λa_32=>some (.go (a_32,v_26.1,v_26.2.1))
def lq (s_1:Stream) (most_2:Int):Option ((List Rect)×Stream) :=
  (bS s_1 0 most_2).bind λr_3=>(forL (List.range (r_3.1).toNat) (([]:List Rect),r_3.2.L,r_3.2.f_at) (λk x s=>jw k x s)).bind λo_17=>thenC o_17 (λs_11=>some (s_11.1,(⟨s_11.2.1,s_11.2.2⟩:Stream))) (λ_=>none)
noncomputable def kr (s_1:Stream) (most_2:Int):Option ((List Alert)×Stream) :=
  (gy s_1 most_2).bind λr_3=>(bif (decide ((r_3.1.length:Int)>0))then (ed r_3.2 10).bind λr_10=>some (r_10.1,r_10.2.L,r_10.2.f_at)else some (false,r_3.2.L,r_3.2.f_at)).bind λv_7=>(bif v_7.1 then (dN (⟨v_7.2.1,v_7.2.2⟩:Stream) (r_3.1.length:Int)).bind λr_16=>(inR r_16.1 r_3.1).bind λ_=>(dN r_16.2 6).bind λr_20=>bif (r_20.1==0)then (r_3.1[(0+(r_16.1).toNat)]?).bind λe_24=>(dG r_20.2 ([e_24.Id,(⟨#[]⟩:ByteArray),(⟨#[97,97]⟩:ByteArray)]:List ByteArray)).bind λr_26=>(dG r_26.2 ([(⟨#[119,120]⟩:ByteArray),(⟨#[65]⟩:ByteArray)]:List ByteArray)).bind λr_29=>(r_3.1[(0+(r_16.1).toNat)]?).bind λe_32=>((r_3.1.set (0+(r_16.1).toNat) (⟨r_26.1,e_32.Sender,e_32.Kind,e_32.Refs,e_32.At,e_32.Until,e_32.Weight,e_32.Areas,e_32.Text⟩:Alert))[(0+(r_16.1).toNat)]?).bind λe_34=>some (((r_3.1.set (0+(r_16.1).toNat) (⟨r_26.1,e_32.Sender,e_32.Kind,e_32.Refs,e_32.At,e_32.Until,e_32.Weight,e_32.Areas,e_32.Text⟩:Alert)).set (0+(r_16.1).toNat) (⟨e_34.Id,r_29.1,e_34.Kind,e_34.Refs,e_34.At,e_34.Until,e_34.Weight,e_34.Areas,e_34.Text⟩:Alert)),r_29.2.L,r_29.2.f_at)else bif (r_20.1==1)then (dS r_20.2 1 3).bind λr_37=>(r_3.1[(0+(r_16.1).toNat)]?).bind λe_40=>some ((r_3.1.set (0+(r_16.1).toNat) (⟨e_40.Id,e_40.Sender,r_37.1,e_40.Refs,e_40.At,e_40.Until,e_40.Weight,e_40.Areas,e_40.Text⟩:Alert)),r_37.2.L,r_37.2.f_at)else bif (r_20.1==2)then (r_3.1[(0+(r_16.1).toNat)]?).bind λe_43=>(dN r_20.2 5).bind λr_45=>(idx ([([]:List ByteArray),([(⟨#[97,98]⟩:ByteArray),(⟨#[97,97]⟩:ByteArray)]:List ByteArray),([e_43.Id]:List ByteArray),([(⟨#[65]⟩:ByteArray)]:List ByteArray),([(⟨#[97,97]⟩:ByteArray),(⟨#[122,122]⟩:ByteArray)]:List ByteArray)]:List (List ByteArray)) r_45.1).bind λy_48=>(r_3.1[(0+(r_16.1).toNat)]?).bind λe_50=>some ((r_3.1.set (0+(r_16.1).toNat) (⟨e_50.Id,e_50.Sender,e_50.Kind,y_48,e_50.At,e_50.Until,e_50.Weight,e_50.Areas,e_50.Text⟩:Alert)),r_45.2.L,r_45.2.f_at)else bif (r_20.1==3)then (dS r_20.2 0 30).bind λr_53=>(dS r_53.2 0 60).bind λr_56=>(r_3.1[(0+(r_16.1).toNat)]?).bind λe_59=>((r_3.1.set (0+(r_16.1).toNat) (⟨e_59.Id,e_59.Sender,e_59.Kind,e_59.Refs,r_53.1,e_59.Until,e_59.Weight,e_59.Areas,e_59.Text⟩:Alert))[(0+(r_16.1).toNat)]?).bind λe_61=>some (((r_3.1.set (0+(r_16.1).toNat) (⟨e_59.Id,e_59.Sender,e_59.Kind,e_59.Refs,r_53.1,e_59.Until,e_59.Weight,e_59.Areas,e_59.Text⟩:Alert)).set (0+(r_16.1).toNat) (⟨e_61.Id,e_61.Sender,e_61.Kind,e_61.Refs,e_61.At,r_56.1,e_61.Weight,e_61.Areas,e_61.Text⟩:Alert)),r_56.2.L,r_56.2.f_at)else bif (r_20.1==4)then (lq r_20.2 2).bind λr_64=>(dS r_64.2 1 9).bind λr_67=>(r_3.1[(0+(r_16.1).toNat)]?).bind λe_70=>((r_3.1.set (0+(r_16.1).toNat) (⟨e_70.Id,e_70.Sender,e_70.Kind,e_70.Refs,e_70.At,e_70.Until,e_70.Weight,r_64.1,e_70.Text⟩:Alert))[(0+(r_16.1).toNat)]?).bind λe_72=>some (((r_3.1.set (0+(r_16.1).toNat) (⟨e_70.Id,e_70.Sender,e_70.Kind,e_70.Refs,e_70.At,e_70.Until,e_70.Weight,r_64.1,e_70.Text⟩:Alert)).set (0+(r_16.1).toNat) (⟨e_72.Id,e_72.Sender,e_72.Kind,e_72.Refs,e_72.At,e_72.Until,r_67.1,e_72.Areas,e_72.Text⟩:Alert)),r_67.2.L,r_67.2.f_at)else (dG r_20.2 ([(⟨#[]⟩:ByteArray),(⟨#[32,120]⟩:ByteArray),(⟨#[97,32,32,98]⟩:ByteArray),(⟨#[10]⟩:ByteArray),(⟨#[255]⟩:ByteArray)]:List ByteArray)).bind λr_74=>(r_3.1[(0+(r_16.1).toNat)]?).bind λe_77=>some ((r_3.1.set (0+(r_16.1).toNat) (⟨e_77.Id,e_77.Sender,e_77.Kind,e_77.Refs,e_77.At,e_77.Until,e_77.Weight,e_77.Areas,r_74.1⟩:Alert)),r_74.2.L,r_74.2.f_at)else some (r_3.1,v_7.2.1,v_7.2.2)).bind λv_13=>some (v_13.1,(⟨v_13.2.1,v_13.2.2⟩:Stream))
def fG (k_2:Nat) (x_4:ByteArray) (s_7:(List Post)×(List Int)×Int):Option (Ctl ((List Post)×(List Int)×Int) (Unit)) :=
  (ed (⟨s_7.2.1,s_7.2.2⟩:Stream) 5).bind λr_15=>(bif (!r_15.1)then (bS r_15.2 (-2) 10).bind λr_22=>(bS r_22.2 (-2) 10).bind λr_25=>(uj s_7.1 ([(⟨x_4,r_22.1,r_25.1⟩:Post)]:List Post)).bind λa_28=>some (a_28,r_25.2.L,r_25.2.f_at)else some (s_7.1,r_15.2.L,r_15.2.f_at)).bind λv_18=>some (.go (v_18.1,v_18.2.1,v_18.2.2))
def iW (s_1:Stream):Option ((List Post)×Stream) :=
  (forL ([(⟨#[112,97]⟩:ByteArray),(⟨#[112,98]⟩:ByteArray),(⟨#[112,99]⟩:ByteArray)]:List ByteArray) (([]:List Post),s_1.L,s_1.f_at) (λk x s=>fG k x s)).bind λo_13=>thenC o_13 (λs_7=>some (s_7.1,(⟨s_7.2.1,s_7.2.2⟩:Stream))) (λ_=>none)
def lw (s_1:Stream):Option ((List Post)×Stream) :=
  (iW s_1).bind λr_2=>(bif (decide ((r_2.1.length:Int)>0))then (ed r_2.2 15).bind λr_9=>some (r_9.1,r_9.2.L,r_9.2.f_at)else some (false,r_2.2.L,r_2.2.f_at)).bind λv_6=>(bif v_6.1 then (dN (⟨v_6.2.1,v_6.2.2⟩:Stream) (r_2.1.length:Int)).bind λr_15=>(inR r_15.1 r_2.1).bind λ_=>(r_2.1[(0+(r_15.1).toNat)]?).bind λe_19=>(dG r_15.2 ([e_19.Player,(⟨#[]⟩:ByteArray),(⟨#[112,97]⟩:ByteArray)]:List ByteArray)).bind λr_21=>(dS r_21.2 (-100000) 100000).bind λr_24=>(r_2.1[(0+(r_15.1).toNat)]?).bind λe_27=>((r_2.1.set (0+(r_15.1).toNat) (⟨r_21.1,e_27.X,e_27.Y⟩:Post))[(0+(r_15.1).toNat)]?).bind λe_29=>some (((r_2.1.set (0+(r_15.1).toNat) (⟨r_21.1,e_27.X,e_27.Y⟩:Post)).set (0+(r_15.1).toNat) (⟨e_29.Player,r_24.1,e_29.Y⟩:Post)),r_24.2.L,r_24.2.f_at)else some (r_2.1,v_6.2.1,v_6.2.2)).bind λv_12=>some (v_12.1,(⟨v_12.2.1,v_12.2.2⟩:Stream))
def iA (x_4:ByteArray) (x_17:ByteArray) (k_27:Nat) (x_29:Bool) (s_32:(List Receipt)×(List Int)×Int):Option (Ctl ((List Receipt)×(List Int)×Int) (Unit)) :=
  (ed (⟨s_32.2.1,s_32.2.2⟩:Stream) 3).bind λr_39=>(bif r_39.1 then (bS r_39.2 0 50).bind λr_46=>(uj s_32.1 ([(⟨x_4,x_17,r_46.1,x_29⟩:Receipt)]:List Receipt)).bind λa_49=>some (a_49,r_46.2.L,r_46.2.f_at)else some (s_32.1,r_39.2.L,r_39.2.f_at)).bind λv_42=>some (.go (v_42.1,v_42.2.1,v_42.2.2))
def iC (x_4:ByteArray) (k_15:Nat) (x_17:ByteArray) (s_20:(List Receipt)×(List Int)×Int):Option (Ctl ((List Receipt)×(List Int)×Int) (Unit)) :=
  (forL ([false,true]:List Bool) (s_20.1,s_20.2.1,s_20.2.2) (λk x s=>iA x_4 x_17 k x s)).bind λo_37=>thenC o_37 (λs_32=>some (.go (s_32.1,s_32.2.1,s_32.2.2))) (λ_=>none)
def iB (k_2:Nat) (x_4:ByteArray) (s_7:(List Receipt)×(List Int)×Int):Option (Ctl ((List Receipt)×(List Int)×Int) (Unit)) :=
  (forL ([(⟨#[97,97]⟩:ByteArray),(⟨#[97,98]⟩:ByteArray),(⟨#[97,99]⟩:ByteArray)]:List ByteArray) (s_7.1,s_7.2.1,s_7.2.2) (λk x s=>iC x_4 k x s)).bind λo_25=>thenC o_25 (λs_20=>some (.go (s_20.1,s_20.2.1,s_20.2.2))) (λ_=>none)
def iJ (s_1:Stream):Option ((List Receipt)×Stream) :=
  (forL ([(⟨#[112,97]⟩:ByteArray),(⟨#[112,98]⟩:ByteArray),(⟨#[112,99]⟩:ByteArray)]:List ByteArray) (([]:List Receipt),s_1.L,s_1.f_at) (λk x s=>iB k x s)).bind λo_13=>thenC o_13 (λs_7=>(bif (decide ((s_7.1.length:Int)>0))then (ed (⟨s_7.2.1,s_7.2.2⟩:Stream) 15).bind λr_55=>some (r_55.1,r_55.2.L,r_55.2.f_at)else some (false,s_7.2.1,s_7.2.2)).bind λv_52=>(bif v_52.1 then (dN (⟨v_52.2.1,v_52.2.2⟩:Stream) (s_7.1.length:Int)).bind λr_61=>(inR r_61.1 s_7.1).bind λ_=>(s_7.1[(0+(r_61.1).toNat)]?).bind λe_65=>(dG r_61.2 ([e_65.Player,(⟨#[]⟩:ByteArray),(⟨#[122,122]⟩:ByteArray)]:List ByteArray)).bind λr_67=>(s_7.1[(0+(r_61.1).toNat)]?).bind λe_70=>(dG r_67.2 ([e_70.Alert,(⟨#[65]⟩:ByteArray)]:List ByteArray)).bind λr_72=>(dS r_72.2 0 50).bind λr_75=>(s_7.1[(0+(r_61.1).toNat)]?).bind λe_78=>((s_7.1.set (0+(r_61.1).toNat) (⟨r_67.1,e_78.Alert,e_78.At,e_78.Seen⟩:Receipt))[(0+(r_61.1).toNat)]?).bind λe_80=>(((s_7.1.set (0+(r_61.1).toNat) (⟨r_67.1,e_78.Alert,e_78.At,e_78.Seen⟩:Receipt)).set (0+(r_61.1).toNat) (⟨e_80.Player,r_72.1,e_80.At,e_80.Seen⟩:Receipt))[(0+(r_61.1).toNat)]?).bind λe_82=>some ((((s_7.1.set (0+(r_61.1).toNat) (⟨r_67.1,e_78.Alert,e_78.At,e_78.Seen⟩:Receipt)).set (0+(r_61.1).toNat) (⟨e_80.Player,r_72.1,e_80.At,e_80.Seen⟩:Receipt)).set (0+(r_61.1).toNat) (⟨e_82.Player,e_82.Alert,r_75.1,e_82.Seen⟩:Receipt)),r_75.2.L,r_75.2.f_at)else some (s_7.1,v_52.2.1,v_52.2.2)).bind λv_58=>some (v_58.1,(⟨v_58.2.1,v_58.2.2⟩:Stream))) (λ_=>none)
def jT (s_1:ByteArray) (s_7:Int):Option (Ctl (Int) (Bool)) :=
  bif (decide (s_7<(s_1.size:Int)))then (ww s_1 s_7).bind λb_13=>(bif (decide ((b_13.toNat:Int)>=97))then bif (decide ((b_13.toNat:Int)<=122))then some false else bif (decide (s_7>0))then bif (decide ((b_13.toNat:Int)>=48))then bif (decide ((b_13.toNat:Int)<=57))then some false else bif ((b_13.toNat:Int)==45)then some false else some (!((b_13.toNat:Int)==95))else bif ((b_13.toNat:Int)==45)then some false else some (!((b_13.toNat:Int)==95))else some true else bif (decide (s_7>0))then bif (decide ((b_13.toNat:Int)>=48))then bif (decide ((b_13.toNat:Int)<=57))then some false else bif ((b_13.toNat:Int)==45)then some false else some (!((b_13.toNat:Int)==95))else bif ((b_13.toNat:Int)==45)then some false else some (!((b_13.toNat:Int)==95))else some true).bind λv_15=>bif v_15 then some (.ret false)else some (.go (w64 (s_7+1)))else some (.brk s_7)
noncomputable def kit_IsKey (s_1:ByteArray):Option (Bool) :=
  (lN 0 (λs=>jT s_1 s)).bind λo_10=>thenC o_10 (λs_7=>(bif (sNe s_1 (⟨#[]⟩:ByteArray))then some (decide ((s_1.size:Int)<=40))else some false).bind λv_30=>some v_30) (λr=>some r)
def gY (n_1:Int):Option (Bool) :=
  (bif (decide (n_1>=0))then some (decide (n_1<345686400000))else some false).bind λv_2=>some v_2
def iI (a_1:ByteArray) (b_2:ByteArray):Option (Int) :=
  some (ko a_1 b_2)
def strings_Compare (a_1:ByteArray) (b_2:ByteArray):Option (Int) :=
  (iI a_1 b_2).bind λr_3=>some r_3
def gM (b_1:Bool):Option (Int) :=
  bif b_1 then some 1 else some 0
def cmp_isNaN_int (x_1:Int):Option (Bool) :=
  some (x_1 != x_1)
def cmp_Compare_int (x_1:Int) (y_2:Int):Option (Int) :=
  (cmp_isNaN_int x_1).bind λr_3=>(cmp_isNaN_int y_2).bind λr_5=>bif r_3 then bif r_5 then some 0 else some (-1)else bif r_5 then some 1 else bif (decide (x_1<y_2))then some (-1)else bif (decide (x_1>y_2))then some 1 else some 0
def mZ (k_2:Nat) (x_4:Int) (s_7:Unit):Option (Ctl (Unit) (Int)) :=
  bif (x_4 != 0)then some (.ret x_4)else some (.go ())
def jX (vals_1:(List Int)):Option (Int) :=
  (forL vals_1 () (λk x s=>mZ k x s)).bind λo_10=>thenC o_10 (λs_7=>some 0) (λr=>some r)
def dY (a_1:Receipt) (b_2:Receipt):Option (Int) :=
  (strings_Compare a_1.Player b_2.Player).bind λr_5=>(strings_Compare a_1.Alert b_2.Alert).bind λr_7=>(gM a_1.Seen).bind λr_9=>(gM b_2.Seen).bind λr_11=>(cmp_Compare_int r_9 r_11).bind λr_13=>(jX ([r_5,r_7,r_13]:List Int)).bind λr_15=>some r_15
noncomputable def fO (l_1:(List Receipt)) (k_3:Nat) (x_5:Receipt) (s_8:Unit):Option (Ctl (Unit) (Int)) :=
  ((kit_IsKey x_5.Player).bind λr_16=>bif (!r_16)then some true else (kit_IsKey x_5.Alert).bind λr_19=>some (!r_19)).bind λv_14=>bif v_14 then some (.ret 5)else (gY x_5.At).bind λr_22=>bif (!r_22)then some (.ret 1)else (bif (decide ((k_3:Int)>0))then (idx l_1 (w64 ((k_3:Int)-1))).bind λy_28=>(dY y_28 x_5).bind λr_30=>some (decide (r_30>=0))else some false).bind λv_25=>bif v_25 then some (.ret 7)else some (.go ())
noncomputable def fZ (l_1:(List Receipt)):Option (Int) :=
  bif (decide ((l_1.length:Int)>2000))then some 2 else (forL l_1 () (λk x s=>fO l_1 k x s)).bind λo_11=>thenC o_11 (λs_8=>some 0) (λr=>some r)
def cZ (n_1:Int):Option Bool :=
  bif (decide (n_1<0))then none else bif (decide ((w64 (n_1-(w64 (0-0))))>0))then (zN (w64 (n_1-(w64 (0-0)))) 48).bind λ_=>some true else some false
def bu (k_2:Nat) (x_4:(List Receipt)) (s_7:Int):Option (Ctl (Int) (Unit)) :=
  (bif (decide ((w64 (s_7+(x_4.length:Int)))<0))then none else some ()).bind λv_12=>some (.go (w64 (s_7+(x_4.length:Int))))
def bv (k_18:Nat) (x_20:(List Receipt)) (s_23:(List Receipt)):Option (Ctl ((List Receipt)) (Unit)) :=
  (uj s_23 x_20).bind λa_30=>some (.go a_30)
def jm (x_1:Receipt) (y_2:Receipt):Option (Int) :=
  (dY x_1 y_2).bind λr_5=>(cmp_Compare_int x_1.At y_2.At).bind λr_7=>(jX ([r_5,r_7]:List Int)).bind λr_9=>some r_9
noncomputable def eY (x:(List Receipt)):Option ((List Receipt)) :=
  rY (λa b=>jm a b) x
def bK (slices_1:(List (List Receipt))):Option ((List Receipt)) :=
  (forL slices_1 0 (λk x s=>bu k x s)).bind λo_10=>thenC o_10 (λs_7=>(cZ s_7).bind λb_15=>(forL slices_1 ([]:List Receipt) (λk x s=>bv k x s)).bind λo_28=>thenC o_28 (λs_23=>(kE b_15 s_23).bind λ_=>some s_23) (λ_=>none)) (λ_=>none)
def iV (x_1:Receipt) (y_2:Receipt):Option (Bool) :=
  (dY x_1 y_2).bind λr_5=>some (r_5==0)
def aM (s_1:(List Receipt)) (s_9:Int) (s_31:(List Receipt)×Int×Int):Option (Ctl ((List Receipt)×Int×Int) (Unit)) :=
  bif (decide (s_31.2.2<(((((s_1.length:Int)).toNat-(s_9).toNat):Nat):Int)))then (inN s_31.2.2 (((s_1.length:Int)).toNat-(s_9).toNat)).bind λ_=>(s_31.1[(((s_9).toNat)+(s_31.2.2).toNat)]?).bind λe_38=>(inN (w64 (s_31.2.2-1)) (((s_1.length:Int)).toNat-(s_9).toNat)).bind λ_=>(s_31.1[(((s_9).toNat)+((w64 (s_31.2.2-1))).toNat)]?).bind λe_41=>(iV e_38 e_41).bind λr_43=>(bif (!r_43)then (inN s_31.2.2 (((s_1.length:Int)).toNat-(s_9).toNat)).bind λ_=>(s_31.1[(((s_9).toNat)+(s_31.2.2).toNat)]?).bind λe_49=>(inR s_31.2.1 s_31.1).bind λ_=>(s_31.1[(0+(s_31.2.1).toNat)]?).bind λe_52=>some ((s_31.1.set (0+(s_31.2.1).toNat) e_49),(w64 (s_31.2.1+1)))else some (s_31.1,s_31.2.1)).bind λv_45=>some (.go (v_45.1,v_45.2,(w64 (s_31.2.2+1))))else some (.brk (s_31.1,s_31.2.1,s_31.2.2))
noncomputable def aK (s_1:(List Receipt)) (s_9:Int):Option (Ctl (Int) ((List Receipt))) :=
  bif (decide (s_9<(s_1.length:Int)))then (inR s_9 s_1).bind λ_=>(s_1[(0+(s_9).toNat)]?).bind λe_16=>(inR (w64 (s_9-1)) s_1).bind λ_=>(s_1[(0+((w64 (s_9-1))).toNat)]?).bind λe_19=>(iV e_16 e_19).bind λr_21=>bif r_21 then (neL s_1).bind λ_=>(vT s_1 s_9 (s_1.length:Int)).bind λ_=>(lN (s_1,s_9,1) (λs=>aM s_1 s_9 s)).bind λo_34=>thenC o_34 (λs_31=>(vT s_31.1 s_31.2.1 (s_31.1.length:Int)).bind λ_=>(vT (s_31.1.take ((s_31.2.1).toNat)++List.replicate (((s_31.1.length:Int)).toNat-(s_31.2.1).toNat) (⟨(⟨#[]⟩:ByteArray),(⟨#[]⟩:ByteArray),0,false⟩:Receipt)++s_31.1.drop (((s_31.2.1).toNat)+(((s_31.1.length:Int)).toNat-(s_31.2.1).toNat))) 0 s_31.2.1).bind λ_=>some (.ret (Ka (s_31.1.take ((s_31.2.1).toNat)++List.replicate (((s_31.1.length:Int)).toNat-(s_31.2.1).toNat) (⟨(⟨#[]⟩:ByteArray),(⟨#[]⟩:ByteArray),0,false⟩:Receipt)++s_31.1.drop (((s_31.2.1).toNat)+(((s_31.1.length:Int)).toNat-(s_31.2.1).toNat))) 0 ((s_31.2.1).toNat)))) (λ_=>none)else some (.go (w64 (s_9+1)))else some (.brk s_9)
noncomputable def aX (s_1:(List Receipt)):Option ((List Receipt)) :=
  bif (decide ((s_1.length:Int)<2))then some s_1 else (lN 1 (λs=>aK s_1 s)).bind λo_12=>thenC o_12 (λs_9=>some s_1) (λr=>some r)
noncomputable def l8 (a_1:(List Receipt)) (b_2:(List Receipt)) (k_3:Nat) (x_5:Nat) (s_8:Unit):Option (Ctl (Unit) ((List Receipt)×Int)) :=
  (idx ([a_1,b_2]:List (List Receipt)) (k_3:Int)).bind λy_13=>(fZ y_13).bind λr_15=>bif (r_15 != 0)then some (.ret (([]:(List Receipt)),r_15))else some (.go ())
noncomputable def nU (a_1:(List Receipt)) (b_2:(List Receipt)):Option ((List Receipt)×Int) :=
  (forL (List.range (2:Int).toNat) () (λk x s=>l8 a_1 b_2 k x s)).bind λo_11=>thenC o_11 (λs_8=>(bK ([a_1,b_2]:List (List Receipt))).bind λr_18=>(eY r_18).bind λr_22=>(mP r_22 r_18).bind λ_=>(aX r_22).bind λr_25=>bif (decide ((r_25.length:Int)>2000))then some (([]:(List Receipt)),2)else some (r_25,0)) (λr=>some r)
def dB (n_1:Int) (low_2:Int) (high_3:Int):Option (Bool) :=
  (bif (decide (n_1<low_2))then some true else some (decide (n_1>high_3))).bind λv_4=>some v_4
noncomputable def fK (a_1:Alert) (k_4:Nat) (x_6:ByteArray) (s_9:Unit):Option (Ctl (Unit) (Int)) :=
  (kit_IsKey x_6).bind λr_14=>bif (!r_14)then some (.ret 5)else (bif (decide ((k_4:Int)>0))then (idx a_1.Refs (w64 ((k_4:Int)-1))).bind λy_20=>some (sLe x_6 y_20)else some false).bind λv_17=>bif v_17 then some (.ret 7)else bif (sEq x_6 a_1.Id)then some (.ret 14)else some (.go ())
noncomputable def jf (a_1:Alert):Option (Int) :=
  bif (decide ((a_1.Refs.length:Int)>20))then some 2 else (forL a_1.Refs () (λk x s=>fK a_1 k x s)).bind λo_12=>thenC o_12 (λs_9=>bif (!((a_1.Kind==1)==((a_1.Refs.length:Int)==0)))then some 3 else some 0) (λr=>some r)
def kv (r_1:Rect):Option (Int) :=
  ((dB r_1.X (-100000) 100000).bind λr_5=>bif r_5 then some true else (dB r_1.Y (-100000) 100000).bind λr_8=>some r_8).bind λv_3=>bif v_3 then some 1 else ((dB r_1.W 1 (w64 (100000-r_1.X))).bind λr_13=>bif r_13 then some true else (dB r_1.H 1 (w64 (100000-r_1.Y))).bind λr_16=>some r_16).bind λv_11=>bif v_11 then some 1 else some 0
def gG (x0:ByteArray):Option (Bool) :=
  I9 x0
def iU (c_2:Int) (s_8:ByteArray):Option (Ctl (ByteArray) (Unit)) :=
  (bif (decide ((s_8.size:Int)>0))then (ww s_8 (w64 ((s_8.size:Int)-1))).bind λb_16=>some ((b_16.toNat:Int)==c_2)else some false).bind λv_13=>bif v_13 then (Ch s_8 0 (w64 ((s_8.size:Int)-1))).bind λy_19=>some (.go y_19)else some (.brk s_8)
noncomputable def strings_trimRightByte (s_1:ByteArray) (c_2:Int):Option (ByteArray) :=
  (lN s_1 (λs=>iU c_2 s)).bind λo_11=>thenC o_11 (λs_8=>some s_8) (λ_=>none)
def ja (c_2:Int) (s_8:ByteArray):Option (Ctl (ByteArray) (Unit)) :=
  (bif (decide ((s_8.size:Int)>0))then (ww s_8 0).bind λb_16=>some ((b_16.toNat:Int)==c_2)else some false).bind λv_13=>bif v_13 then (Ch s_8 1 s_8.size).bind λy_19=>some (.go y_19)else some (.brk s_8)
noncomputable def strings_trimLeftByte (s_1:ByteArray) (c_2:Int):Option (ByteArray) :=
  (lN s_1 (λs=>ja c_2 s)).bind λo_11=>thenC o_11 (λs_8=>some s_8) (λ_=>none)
noncomputable def mK (s_1:ByteArray) (cutset_2:ByteArray):Option (ByteArray) :=
  (bif (sEq s_1 (⟨#[]⟩:ByteArray))then some true else some (sEq cutset_2 (⟨#[]⟩:ByteArray))).bind λv_3=>bif v_3 then some s_1 else (bif ((cutset_2.size:Int)==1)then (ww cutset_2 0).bind λb_10=>some (decide ((b_10.toNat:Int)<128))else some false).bind λv_7=>bif v_7 then (ww cutset_2 0).bind λb_13=>(strings_trimRightByte s_1 (b_13.toNat:Int)).bind λr_15=>(ww cutset_2 0).bind λb_17=>(strings_trimLeftByte r_15 (b_17.toNat:Int)).bind λr_19=>some r_19 else none
def strings_Contains (x0:ByteArray) (x1:ByteArray):Option (Bool) :=
  Am x0 x1
def oq (s_1:ByteArray) (s_7:Int):Option (Ctl (Int) (Bool)) :=
  bif (decide (s_7<(s_1.size:Int)))then ((ww s_1 s_7).bind λb_15=>bif (decide ((b_15.toNat:Int)<32))then some true else (ww s_1 s_7).bind λb_18=>some ((b_18.toNat:Int)==127)).bind λv_13=>bif v_13 then some (.ret false)else some (.go (w64 (s_7+1)))else some (.brk s_7)
noncomputable def mr (s_1:ByteArray):Option (Bool) :=
  (lN 0 (λs=>oq s_1 s)).bind λo_10=>thenC o_10 (λs_7=>((gG s_1).bind λr_23=>bif r_23 then (mK s_1 (⟨#[32]⟩:ByteArray)).bind λr_26=>bif (sEq r_26 s_1)then (strings_Contains s_1 (⟨#[32,32]⟩:ByteArray)).bind λr_29=>some (!r_29)else some false else some false).bind λv_21=>some v_21) (λr=>some r)
def fV (k_29:Nat) (x_31:Rect) (s_34:Unit):Option (Ctl (Unit) (Int)) :=
  (kv x_31).bind λr_40=>bif (r_40 != 0)then some (.ret r_40)else some (.go ())
noncomputable def iL (a_1:Alert):Option (Int) :=
  ((kit_IsKey a_1.Id).bind λr_5=>bif (!r_5)then some true else (kit_IsKey a_1.Sender).bind λr_8=>some (!r_8)).bind λv_3=>bif v_3 then some 5 else (dB a_1.Kind 1 3).bind λr_11=>bif r_11 then some 4 else (jf a_1).bind λr_14=>bif (r_14 != 0)then some r_14 else ((gY a_1.At).bind λr_19=>bif (!r_19)then some true else (dB a_1.Until (w64 (a_1.At+1)) (w64 (a_1.At+2592000000))).bind λr_22=>bif r_22 then some true else (dB a_1.Weight 1 9).bind λr_25=>some r_25).bind λv_17=>bif v_17 then some 1 else bif (decide ((a_1.Areas.length:Int)>20))then some 2 else (forL a_1.Areas () (λk x s=>fV k x s)).bind λo_37=>thenC o_37 (λs_34=>bif (!((a_1.Kind==3)==((a_1.Areas.length:Int)==0)))then some 3 else bif (decide ((a_1.Text.size:Int)>500))then some 2 else ((mr a_1.Text).bind λr_47=>bif (!r_47)then some true else bif (sEq a_1.Text (⟨#[]⟩:ByteArray))then some (!(a_1.Kind==3))else some false).bind λv_45=>bif v_45 then some 3 else some 0) (λr=>some r)
def jl (a_1:Alert) (b_2:Alert):Option (Int) :=
  (cmp_Compare_int a_1.At b_2.At).bind λr_5=>(strings_Compare a_1.Id b_2.Id).bind λr_7=>(jX ([r_5,r_7]:List Int)).bind λr_9=>some r_9
noncomputable def eQ (l_1:(List Alert)) (k_3:Nat) (x_5:Alert) (s_8:Unit):Option (Ctl (Unit) (Int)) :=
  (iL x_5).bind λr_14=>bif (r_14 != 0)then some (.ret r_14)else (bif (decide ((k_3:Int)>0))then (idx l_1 (w64 ((k_3:Int)-1))).bind λy_20=>(jl y_20 x_5).bind λr_22=>some (decide (r_22>=0))else some false).bind λv_17=>bif v_17 then some (.ret 7)else some (.go ())
def dE (k_26:Nat) (x_28:Alert) (s_31:(List (ByteArray×Bool))):Option (Ctl ((List (ByteArray×Bool))) (Int)) :=
  bif ((mGet eqS s_31 x_28.Id).getD false)then some (.ret 6)else some (.go (sS eqS s_31 x_28.Id true))
noncomputable def gX (l_1:(List Alert)):Option (Int) :=
  bif (decide ((l_1.length:Int)>300))then some 2 else (forL l_1 () (λk x s=>eQ l_1 k x s)).bind λo_11=>thenC o_11 (λs_8=>(forL l_1 ([]:List (ByteArray×Bool)) (λk x s=>dE k x s)).bind λo_34=>thenC o_34 (λs_31=>some 0) (λr=>some r)) (λr=>some r)
noncomputable def fw (l_1:(List Post)) (k_3:Nat) (x_5:Post) (s_8:Unit):Option (Ctl (Unit) (Int)) :=
  (kit_IsKey x_5.Player).bind λr_14=>bif (!r_14)then some (.ret 5)else ((dB x_5.X (-100000) 100000).bind λr_19=>bif r_19 then some true else (dB x_5.Y (-100000) 100000).bind λr_22=>some r_22).bind λv_17=>bif v_17 then some (.ret 1)else (bif (decide ((k_3:Int)>0))then (idx l_1 (w64 ((k_3:Int)-1))).bind λy_28=>some (sLe x_5.Player y_28.Player)else some false).bind λv_25=>bif v_25 then some (.ret 7)else some (.go ())
noncomputable def iM (l_1:(List Post)):Option (Int) :=
  bif (decide ((l_1.length:Int)>500))then some 2 else (forL l_1 () (λk x s=>fw l_1 k x s)).bind λo_11=>thenC o_11 (λs_8=>some 0) (λr=>some r)
noncomputable def ig (l_1:(List Alert)) (posts_2:(List Post)):Option (Int) :=
  (gX l_1).bind λr_3=>bif (r_3 != 0)then some r_3 else (iM posts_2).bind λr_6=>some r_6
noncomputable def jB (l_1:(List Alert)) (posts_2:(List Post)) (r_3:(List Receipt)):Option (Int) :=
  (ig l_1 posts_2).bind λr_4=>bif (r_4 != 0)then some r_4 else (fZ r_3).bind λr_7=>some r_7
def mE (atv_2:Int) (k_4:Nat) (x_6:Receipt) (s_9:(List (Pair×Int))):Option (Ctl ((List (Pair×Int))) (Unit)) :=
  (bif (decide (x_6.At<=atv_2))then bif (!((mGet (λ(a b:Pair)=>(eqS a.f_player b.f_player&&(eqS a.f_alert b.f_alert&&true))) s_9 (⟨x_6.Player,x_6.Alert⟩:Pair)).isSome))then some true else some (decide (x_6.At<((mGet (λ(a b:Pair)=>(eqS a.f_player b.f_player&&(eqS a.f_alert b.f_alert&&true))) s_9 (⟨x_6.Player,x_6.Alert⟩:Pair)).getD 0)))else some false).bind λv_16=>(bif v_16 then some (sS (λ(a b:Pair)=>(eqS a.f_player b.f_player&&(eqS a.f_alert b.f_alert&&true))) s_9 (⟨x_6.Player,x_6.Alert⟩:Pair) x_6.At)else some s_9).bind λv_20=>some (.go v_20)
def l6 (r_1:(List Receipt)) (atv_2:Int):Option ((List (Pair×Int))) :=
  (forL r_1 ([]:List (Pair×Int)) (λk x s=>mE atv_2 k x s)).bind λo_12=>thenC o_12 (λs_9=>some s_9) (λ_=>none)
def kN (o_1:Alert) (p_2:ByteArray) (p_3:Alert):Option (Bool) :=
  (bif (sEq o_1.Id p_2)then bif (sEq o_1.Sender p_3.Sender)then (jl o_1 p_3).bind λr_9=>some (decide (r_9<0))else some false else some false).bind λv_5=>some v_5
def bJ (f_2:Alert->Option Bool) (k_3:Nat) (x_5:Alert) (s_8:Unit):Option (Ctl (Unit) (Int)) :=
  (f_2 x_5).bind λr_13=>bif r_13 then some (.ret (k_3:Int))else some (.go ())
def aP (s_1:(List Alert)) (f_2:Alert->Option Bool):Option (Int) :=
  (forL s_1 () (λk x s=>bJ f_2 k x s)).bind λo_11=>thenC o_11 (λs_8=>some (-1)) (λr=>some r)
def pM (l_1:(List Alert)) (a_2:Alert) (ref_3:ByteArray):Option (Int) :=
  (aP l_1 (λx0=>kN x0 ref_3 a_2)).bind λr_6=>some r_6
def mY (k_2:Nat) (x_4:Alert) (s_7:(List Int)):Option (Ctl ((List Int)) (Unit)) :=
  (uj s_7 ([x_4.Until]:List Int)).bind λa_16=>some (.go a_16)
def lI (l_1:(List Alert)) (x_21:Alert) (k_30:Nat) (x_32:ByteArray) (s_35:(List Int)):Option (Ctl ((List Int)) (Unit)) :=
  (pM l_1 x_21 x_32).bind λr_40=>(bif (decide (r_40>=0))then (inR r_40 s_35).bind λ_=>(s_35[(0+(r_40).toNat)]?).bind λe_46=>(inR r_40 s_35).bind λ_=>(s_35[(0+(r_40).toNat)]?).bind λe_49=>some (s_35.set (0+(r_40).toNat) (BD e_46 x_21.At))else some s_35).bind λv_42=>some (.go v_42)
def ng (l_1:(List Alert)) (k_19:Nat) (x_21:Alert) (s_24:(List Int)):Option (Ctl ((List Int)) (Unit)) :=
  (forL x_21.Refs s_24 (λk x s=>lI l_1 x_21 k x s)).bind λo_38=>thenC o_38 (λs_35=>some (.go s_35)) (λ_=>none)
def nN (l_1:(List Alert)):Option ((List Int)) :=
  (forL l_1 ([]:List Int) (λk x s=>mY k x s)).bind λo_13=>thenC o_13 (λs_7=>(forL l_1 s_7 (λk x s=>ng l_1 k x s)).bind λo_27=>thenC o_27 (λs_24=>some s_24) (λ_=>none)) (λ_=>none)
def lu (r_1:Rect) (p_2:Post):Option (Bool) :=
  (bif (decide (r_1.X<=p_2.X))then bif (decide (p_2.X<(w64 (r_1.X+r_1.W))))then bif (decide (r_1.Y<=p_2.Y))then some (decide (p_2.Y<(w64 (r_1.Y+r_1.H))))else some false else some false else some false).bind λv_4=>some v_4
def bB (f_2:Rect->Option Bool) (k_3:Nat) (x_5:Rect) (s_8:Unit):Option (Ctl (Unit) (Int)) :=
  (f_2 x_5).bind λr_13=>bif r_13 then some (.ret (k_3:Int))else some (.go ())
def eU (s_1:(List Rect)) (f_2:Rect->Option Bool):Option (Int) :=
  (forL s_1 () (λk x s=>bB f_2 k x s)).bind λo_11=>thenC o_11 (λs_8=>some (-1)) (λr=>some r)
def bP (s_1:(List Rect)) (f_2:Rect->Option Bool):Option (Bool) :=
  (eU s_1 f_2).bind λr_3=>some (decide (r_3>=0))
def jo (a_1:Alert) (p_2:Post):Option (Bool) :=
  (bP a_1.Areas (λx0=>lu x0 p_2)).bind λr_5=>some r_5
def mG (a_1:Alert) (endv_2:Int) (p_3:Post) (atv_4:Int):Option (Bool) :=
  (bif (a_1.Kind != 3)then bif (decide (a_1.At<=atv_4))then bif (decide (a_1.At<endv_2))then (jo a_1 p_3).bind λr_12=>some r_12 else some false else some false else some false).bind λv_7=>some v_7
def jk (a_1:Debt) (b_2:Debt):Option (Int) :=
  (strings_Compare a_1.Player b_2.Player).bind λr_5=>(strings_Compare a_1.Alert b_2.Alert).bind λr_7=>(jX ([r_5,r_7]:List Int)).bind λr_9=>some r_9
noncomputable def dh (x:(List Debt)):Option ((List Debt)) :=
  rY (λa b=>jk a b) x
def kH (r_20:(List Int)) (x_24:Post) (atv_5:Int) (inv_4:Int) (r_17:(List (Pair×Int))) (k_36:Nat) (x_38:Alert) (s_41:(List Debt)):Option (Ctl ((List Debt)) (Unit)) :=
  ((idx r_20 (k_36:Int)).bind λy_51=>(mG x_38 y_51 x_24 atv_5).bind λr_53=>bif (!r_53)then some true else bif (decide ((w64 (x_38.At+inv_4))>=atv_5))then some true else (idx r_20 (k_36:Int)).bind λy_57=>some (decide (y_57<(w64 (x_38.At+inv_4))))).bind λv_49=>bif v_49 then some (.go s_41)else (bif (!((mGet (λ(a b:Pair)=>(eqS a.f_player b.f_player&&(eqS a.f_alert b.f_alert&&true))) r_17 (⟨x_24.Player,x_38.Id⟩:Pair)).isSome))then (uj s_41 ([(⟨x_24.Player,x_38.Id,(w64 (x_38.At+inv_4)),(-1)⟩:Debt)]:List Debt)).bind λa_64=>some a_64 else bif (decide (((mGet (λ(a b:Pair)=>(eqS a.f_player b.f_player&&(eqS a.f_alert b.f_alert&&true))) r_17 (⟨x_24.Player,x_38.Id⟩:Pair)).getD 0)>(w64 (x_38.At+inv_4))))then (uj s_41 ([(⟨x_24.Player,x_38.Id,(w64 (x_38.At+inv_4)),((mGet (λ(a b:Pair)=>(eqS a.f_player b.f_player&&(eqS a.f_alert b.f_alert&&true))) r_17 (⟨x_24.Player,x_38.Id⟩:Pair)).getD 0)⟩:Debt)]:List Debt)).bind λa_68=>some a_68 else some s_41).bind λv_60=>some (.go v_60)
def l7 (l_1:(List Alert)) (r_20:(List Int)) (atv_5:Int) (inv_4:Int) (r_17:(List (Pair×Int))) (k_22:Nat) (x_24:Post) (s_27:(List Debt)):Option (Ctl ((List Debt)) (Unit)) :=
  (forL l_1 s_27 (λk x s=>kH r_20 x_24 atv_5 inv_4 r_17 k x s)).bind λo_46=>thenC o_46 (λs_41=>some (.go s_41)) (λ_=>none)
noncomputable def qf (l_1:(List Alert)) (posts_2:(List Post)) (r_3:(List Receipt)) (inv_4:Int) (atv_5:Int):Option ((List Debt)×Int) :=
  (jB l_1 posts_2 r_3).bind λr_6=>bif (r_6 != 0)then some (([]:(List Debt)),r_6)else ((dB inv_4 0 2592000000).bind λr_11=>bif r_11 then some true else (gY atv_5).bind λr_14=>some (!r_14)).bind λv_9=>bif v_9 then some (([]:(List Debt)),1)else (l6 r_3 atv_5).bind λr_17=>(nN l_1).bind λr_20=>(forL posts_2 ([]:List Debt) (λk x s=>l7 l_1 r_20 atv_5 inv_4 r_17 k x s)).bind λo_33=>thenC o_33 (λs_27=>(dh s_27).bind λr_71=>(mP r_71 s_27).bind λ_=>some (r_71,0)) (λ_=>none)
def ik (a_1:Alert) (p_2:ByteArray):Option (Bool) :=
  some (sEq a_1.Id p_2)
def je (atv_1:Int):Option (Int) :=
  (gY atv_1).bind λr_2=>bif (!r_2)then some 1 else some 0
def uM (s_8:Int×Int):Option (Ctl (Int×Int) (Unit)) :=
  bif (s_8.2 != 0)then (Ht .i64 s_8.1 s_8.2).bind λq_14=>some (.go (s_8.2,q_14))else some (.brk (s_8.1,s_8.2))
noncomputable def yN (a_1:Int) (b_2:Int):Option (Int) :=
  (lN (a_1,b_2) (λs=>uM s)).bind λo_11=>thenC o_11 (λs_8=>some (Mi s_8.1 (w64 (0-s_8.1)))) (λ_=>none)
noncomputable def nH (num_1:Int) (den_2:Int):Option (Fraction) :=
  (bif (decide (den_2<0))then some ((w64 (0-num_1)),(w64 (0-den_2)))else some (num_1,den_2)).bind λv_4=>(yN v_4.1 v_4.2).bind λr_7=>(Bf .i64 v_4.1 r_7).bind λq_9=>(Bf .i64 v_4.2 r_7).bind λq_11=>some (⟨q_9,q_11⟩:Fraction)
def jq (l_1:(List Alert)) (r_11:Int) (r_21:(List Int)) (atv_5:Int) (r_18:(List (Pair×Int))) (id_4:ByteArray) (k_23:Nat) (x_25:Post) (s_28:Int×Int):Option (Ctl (Int×Int) (Unit)) :=
  (idx l_1 r_11).bind λy_34=>(idx r_21 r_11).bind λy_36=>(mG y_34 y_36 x_25 atv_5).bind λr_38=>bif (!r_38)then some (.go (s_28.1,s_28.2))else (bif (mGet (λ(a b:Pair)=>(eqS a.f_player b.f_player&&(eqS a.f_alert b.f_alert&&true))) r_18 (⟨x_25.Player,id_4⟩:Pair)).isSome then some (w64 (s_28.2+1))else some s_28.2).bind λv_41=>some (.go ((w64 (s_28.1+1)),v_41))
noncomputable def ni (l_1:(List Alert)) (posts_2:(List Post)) (r_3:(List Receipt)) (id_4:ByteArray) (atv_5:Int):Option (Fraction×Int) :=
  (jB l_1 posts_2 r_3).bind λr_8=>bif (r_8 != 0)then some ((⟨0,0⟩:Fraction),r_8)else (aP l_1 (λx0=>ik x0 id_4)).bind λr_11=>bif (decide (r_11<0))then some ((⟨0,0⟩:Fraction),8)else (je atv_5).bind λr_15=>bif (r_15 != 0)then some ((⟨0,0⟩:Fraction),r_15)else (l6 r_3 atv_5).bind λr_18=>(nN l_1).bind λr_21=>(forL posts_2 (0,0) (λk x s=>jq l_1 r_11 r_21 atv_5 r_18 id_4 k x s)).bind λo_31=>thenC o_31 (λs_28=>bif (s_28.1==0)then some ((⟨0,0⟩:Fraction),8)else (nH s_28.2 s_28.1).bind λr_45=>some (r_45,0)) (λ_=>none)
def rO (a_1:Alert) (endv_2:Int) (atv_3:Int):Option (Bool) :=
  (bif (a_1.Kind != 3)then bif (decide (a_1.At<=atv_3))then some (decide (atv_3<endv_2))else some false else some false).bind λv_5=>some v_5
def jO (atv_5:Int) (k_18:Nat) (x_20:Receipt) (s_23:(List (Pair×Bool))):Option (Ctl ((List (Pair×Bool))) (Unit)) :=
  (bif x_20.Seen then some (decide (x_20.At<=atv_5))else some false).bind λv_29=>(bif v_29 then some (sS (λ(a b:Pair)=>(eqS a.f_player b.f_player&&(eqS a.f_alert b.f_alert&&true))) s_23 (⟨x_20.Player,x_20.Alert⟩:Pair) true)else some s_23).bind λv_32=>some (.go v_32)
def jP (x_39:Alert) (s_23:(List (Pair×Bool))) (k_59:Nat) (x_61:Post) (s_64:Int×Int):Option (Ctl (Int×Int) (Unit)) :=
  (jo x_39 x_61).bind λr_70=>(bif r_70 then (gM ((mGet (λ(a b:Pair)=>(eqS a.f_player b.f_player&&(eqS a.f_alert b.f_alert&&true))) s_23 (⟨x_61.Player,x_39.Id⟩:Pair)).getD false)).bind λr_75=>some ((w64 (s_64.1+1)),(w64 (s_64.2+r_75)))else some (s_64.1,s_64.2)).bind λv_72=>some (.go (v_72.1,v_72.2))
def jN (r_35:(List Int)) (atv_5:Int) (wait_4:Int) (posts_2:(List Post)) (s_23:(List (Pair×Bool))) (k_37:Nat) (x_39:Alert) (s_42:(List ByteArray)):Option (Ctl ((List ByteArray)) (Unit)) :=
  ((idx r_35 (k_37:Int)).bind λy_53=>(rO x_39 y_53 atv_5).bind λr_55=>bif (!r_55)then some true else some (decide ((w64 (x_39.At+wait_4))>atv_5))).bind λv_51=>bif v_51 then some (.go s_42)else (forL posts_2 (0,0) (λk x s=>jP x_39 s_23 k x s)).bind λo_67=>thenC o_67 (λs_64=>(bif (decide (s_64.1>0))then some (s_64.2==0)else some false).bind λv_77=>(bif v_77 then (uj s_42 ([x_39.Id]:List ByteArray)).bind λa_84=>some a_84 else some s_42).bind λv_80=>some (.go v_80)) (λ_=>none)
noncomputable def ow (l_1:(List Alert)) (posts_2:(List Post)) (r_3:(List Receipt)) (wait_4:Int) (atv_5:Int):Option ((List ByteArray)×Int) :=
  (jB l_1 posts_2 r_3).bind λr_6=>bif (r_6 != 0)then some (([]:(List ByteArray)),r_6)else ((dB wait_4 0 2592000000).bind λr_11=>bif r_11 then some true else (gY atv_5).bind λr_14=>some (!r_14)).bind λv_9=>bif v_9 then some (([]:(List ByteArray)),1)else (forL r_3 ([]:List (Pair×Bool)) (λk x s=>jO atv_5 k x s)).bind λo_26=>thenC o_26 (λs_23=>(nN l_1).bind λr_35=>(forL l_1 ([]:List ByteArray) (λk x s=>jN r_35 atv_5 wait_4 posts_2 s_23 k x s)).bind λo_48=>thenC o_48 (λs_42=>some (s_42,0)) (λ_=>none)) (λ_=>none)
def kT (n_1:Int) (low_2:Int) (high_3:Int):Option (Bool) :=
  (bif (decide (low_2<=n_1))then some (decide (n_1<=high_3))else some false).bind λv_4=>some v_4
def fP (s_1:ByteArray) (c_2:Int):Option (Int) :=
  some (ixB s_1 c_2)
def strings_IndexByte (s_1:ByteArray) (c_2:Int):Option (Int) :=
  (fP s_1 c_2).bind λr_3=>some r_3
def nW (s_1:ByteArray) (somev_2:ByteArray) (k_3:Nat) (x_5:Nat) (s_8:Unit):Option (Ctl (Unit) (Bool)) :=
  (ww s_1 (k_3:Int)).bind λb_13=>(strings_IndexByte somev_2 (b_13.toNat:Int)).bind λr_15=>bif (decide (r_15<0))then some (.ret false)else some (.go ())
def uw (s_1:ByteArray) (somev_2:ByteArray):Option (Bool) :=
  (forL (List.range ((s_1.size:Int)).toNat) () (λk x s=>nW s_1 somev_2 k x s)).bind λo_11=>thenC o_11 (λs_8=>some true) (λr=>some r)
def p9 (s_1:ByteArray):Option (Bool) :=
  ((kT (s_1.size:Int) 1 40).bind λr_4=>bif r_4 then (Ch s_1 0 1).bind λy_7=>(uw y_7 (⟨#[97,98,99,100,101,102,103,104,105,106,107,108,109,110,111,112,113,114,115,116,117,118,119,120,121,122]⟩:ByteArray)).bind λr_9=>bif r_9 then (uw s_1 (⟨#[97,98,99,100,101,102,103,104,105,106,107,108,109,110,111,112,113,114,115,116,117,118,119,120,121,122,48,49,50,51,52,53,54,55,56,57,45,95]⟩:ByteArray)).bind λr_12=>some r_12 else some false else some false).bind λv_2=>some v_2
def jF (atv_1:Int):Option (Bool) :=
  (kT atv_1 0 345686399999).bind λr_2=>some r_2
def fe (r_1:Receipt):Option ((List ByteArray)) :=
  (bif r_1.Seen then some (⟨#[49]⟩:ByteArray)else some (⟨#[48]⟩:ByteArray)).bind λv_3=>some ([r_1.Player,r_1.Alert,v_3]:List ByteArray)
def cmp_isNaN_string (x_1:ByteArray):Option (Bool) :=
  some (sNe x_1 x_1)
def jD (x_1:ByteArray) (y_2:ByteArray):Option (Int) :=
  (cmp_isNaN_string x_1).bind λr_3=>(cmp_isNaN_string y_2).bind λr_5=>bif r_3 then bif r_5 then some 0 else some (-1)else bif r_5 then some 1 else bif (sLt x_1 y_2)then some (-1)else bif (sGt x_1 y_2)then some 1 else some 0
def bT (s2_2:(List ByteArray)) (k_3:Nat) (x_5:ByteArray) (s_8:Unit):Option (Ctl (Unit) (Int)) :=
  bif (decide ((k_3:Int)>=(s2_2.length:Int)))then some (.ret 1)else (idx s2_2 (k_3:Int)).bind λy_14=>(jD x_5 y_14).bind λr_16=>bif (r_16 != 0)then some (.ret r_16)else some (.go ())
def bn (s1_1:(List ByteArray)) (s2_2:(List ByteArray)):Option (Int) :=
  (forL s1_1 () (λk x s=>bT s2_2 k x s)).bind λo_11=>thenC o_11 (λs_8=>bif (decide ((s1_1.length:Int)<(s2_2.length:Int)))then some (-1)else some 0) (λr=>some r)
def gN (l_1:(List Receipt)) (k_3:Nat) (x_5:Receipt) (s_8:Unit):Option (Ctl (Unit) (Int)) :=
  ((p9 x_5.Player).bind λr_16=>bif (!r_16)then some true else (p9 x_5.Alert).bind λr_19=>some (!r_19)).bind λv_14=>bif v_14 then some (.ret 5)else (jF x_5.At).bind λr_22=>bif (!r_22)then some (.ret 1)else (bif (decide ((k_3:Int)>0))then (idx l_1 (w64 ((k_3:Int)-1))).bind λy_28=>(fe y_28).bind λr_30=>(fe x_5).bind λr_32=>(bn r_30 r_32).bind λr_34=>some (decide (r_34>=0))else some false).bind λv_25=>bif v_25 then some (.ret 7)else some (.go ())
def jd (l_1:(List Receipt)):Option (Int) :=
  bif (decide ((l_1.length:Int)>2000))then some 2 else (forL l_1 () (λk x s=>gN l_1 k x s)).bind λo_11=>thenC o_11 (λs_8=>some 0) (λr=>some r)
def mW (r_1:Rect):Option (Int) :=
  ((kT r_1.X (-100000) 100000).bind λr_5=>bif (!r_5)then some true else (kT r_1.Y (-100000) 100000).bind λr_8=>bif (!r_8)then some true else (kT r_1.W 1 (w64 (100000-r_1.X))).bind λr_11=>bif (!r_11)then some true else (kT r_1.H 1 (w64 (100000-r_1.Y))).bind λr_14=>some (!r_14)).bind λv_3=>bif v_3 then some 1 else some 0
def qm (r_1:Int):Option (Bool) :=
  (bif (decide (r_1<32))then some true else some (r_1==127)).bind λv_2=>some v_2
noncomputable def jy (x:ByteArray):Option (Bool) :=
  r9 (λa=>qm a) x
noncomputable def q8 (s_1:ByteArray):Option (Bool) :=
  ((gG s_1).bind λr_4=>bif r_4 then (jy s_1).bind λr_7=>bif (!r_7)then (mK s_1 (⟨#[32]⟩:ByteArray)).bind λr_10=>bif (sEq r_10 s_1)then (strings_Contains s_1 (⟨#[32,32]⟩:ByteArray)).bind λr_13=>some (!r_13)else some false else some false else some false).bind λv_2=>some v_2
def jb (a_1:Alert) (k_15:Nat) (x_17:ByteArray) (s_20:Unit):Option (Ctl (Unit) (Int)) :=
  (p9 x_17).bind λr_25=>bif (!r_25)then some (.ret 5)else (bif (decide ((k_15:Int)>0))then (idx a_1.Refs (w64 ((k_15:Int)-1))).bind λy_31=>some (sLe x_17 y_31)else some false).bind λv_28=>bif v_28 then some (.ret 7)else bif (sEq x_17 a_1.Id)then some (.ret 14)else some (.go ())
def jc (k_48:Nat) (x_50:Rect) (s_53:Unit):Option (Ctl (Unit) (Int)) :=
  (mW x_50).bind λr_59=>bif (r_59 != 0)then some (.ret r_59)else some (.go ())
noncomputable def lY (a_1:Alert):Option (Int) :=
  ((p9 a_1.Id).bind λr_5=>bif (!r_5)then some true else (p9 a_1.Sender).bind λr_8=>some (!r_8)).bind λv_3=>bif v_3 then some 5 else (kT a_1.Kind 1 3).bind λr_11=>bif (!r_11)then some 4 else bif (decide ((a_1.Refs.length:Int)>20))then some 2 else (forL a_1.Refs () (λk x s=>jb a_1 k x s)).bind λo_23=>thenC o_23 (λs_20=>bif (!((a_1.Kind==1)==((a_1.Refs.length:Int)==0)))then some 3 else ((jF a_1.At).bind λr_38=>bif (!r_38)then some true else (kT a_1.Until (w64 (a_1.At+1)) (w64 (a_1.At+2592000000))).bind λr_41=>bif (!r_41)then some true else (kT a_1.Weight 1 9).bind λr_44=>some (!r_44)).bind λv_36=>bif v_36 then some 1 else bif (decide ((a_1.Areas.length:Int)>20))then some 2 else (forL a_1.Areas () (λk x s=>jc k x s)).bind λo_56=>thenC o_56 (λs_53=>bif (!((a_1.Kind==3)==((a_1.Areas.length:Int)==0)))then some 3 else bif (decide ((a_1.Text.size:Int)>500))then some 2 else ((q8 a_1.Text).bind λr_66=>bif (!r_66)then some true else bif (sEq a_1.Text (⟨#[]⟩:ByteArray))then some (a_1.Kind != 3)else some false).bind λv_64=>bif v_64 then some 3 else some 0) (λr=>some r)) (λr=>some r)
def uh (n_1:Int):Option (Int) :=
  bif (decide (n_1<0))then some (-1)else bif (decide (n_1>0))then some 1 else some 0
def jA (a_1:Alert) (b_2:Alert):Option (Int) :=
  bif (a_1.At != b_2.At)then (uh (w64 (a_1.At-b_2.At))).bind λr_6=>some r_6 else (strings_Compare a_1.Id b_2.Id).bind λr_8=>some r_8
noncomputable def iK (l_1:(List Alert)) (k_3:Nat) (x_5:Alert) (s_8:Unit):Option (Ctl (Unit) (Int)) :=
  (lY x_5).bind λr_14=>bif (r_14 != 0)then some (.ret r_14)else (bif (decide ((k_3:Int)>0))then (idx l_1 (w64 ((k_3:Int)-1))).bind λy_20=>(jA y_20 x_5).bind λr_22=>some (decide (r_22>=0))else some false).bind λv_17=>bif v_17 then some (.ret 7)else some (.go ())
def jH (k_26:Nat) (x_28:Alert) (s_31:(List (ByteArray×Bool))):Option (Ctl ((List (ByteArray×Bool))) (Unit)) :=
  some (.go (sS eqS s_31 x_28.Id true))
noncomputable def lh (l_1:(List Alert)):Option (Int) :=
  bif (decide ((l_1.length:Int)>300))then some 2 else (forL l_1 () (λk x s=>iK l_1 k x s)).bind λo_11=>thenC o_11 (λs_8=>(forL l_1 ([]:List (ByteArray×Bool)) (λk x s=>jH k x s)).bind λo_34=>thenC o_34 (λs_31=>bif (decide ((s_31.length:Int)<(l_1.length:Int)))then some 6 else some 0) (λ_=>none)) (λr=>some r)
def ib (k_3:Nat) (x_5:Post) (s_8:ByteArray):Option (Ctl (ByteArray) (Int)) :=
  (p9 x_5.Player).bind λr_14=>bif (!r_14)then some (.ret 5)else ((kT x_5.X (-100000) 100000).bind λr_19=>bif (!r_19)then some true else (kT x_5.Y (-100000) 100000).bind λr_22=>some (!r_22)).bind λv_17=>bif v_17 then some (.ret 1)else bif (sLe x_5.Player s_8)then some (.ret 7)else some (.go x_5.Player)
def l9 (l_1:(List Post)):Option (Int) :=
  bif (decide ((l_1.length:Int)>500))then some 2 else (forL l_1 (⟨#[]⟩:ByteArray) (λk x s=>ib k x s)).bind λo_11=>thenC o_11 (λs_8=>some 0) (λr=>some r)
def qi (k_2:Nat) (x_4:Int) (s_7:Unit):Option (Ctl (Unit) (Int)) :=
  bif (x_4 != 0)then some (.ret x_4)else some (.go ())
def jI (l_1:(List Int)):Option (Int) :=
  (forL l_1 () (λk x s=>qi k x s)).bind λo_10=>thenC o_10 (λs_7=>some 0) (λr=>some r)
def iX (is_1:Bool) (e_2:Int):Option (Int) :=
  bif is_1 then some e_2 else some 0
def fo (atv_1:Int):Option (Int) :=
  (jF atv_1).bind λr_2=>(iX (!r_2) 1).bind λr_4=>some r_4
def oM (a_1:Alert) (p_2:ByteArray):Option (Bool) :=
  some (sEq a_1.Id p_2)
def bI (s_1:(List Alert)) (f_2:Alert->Option Bool):Option (Bool) :=
  (aP s_1 f_2).bind λr_3=>some (decide (r_3>=0))
def jS (l_1:(List Alert)) (id_2:ByteArray):Option (Bool) :=
  (bI l_1 (λx0=>oM x0 id_2)).bind λr_4=>some r_4
def iQ (x_1:Receipt) (y_2:Receipt):Option (Int) :=
  (fe x_1).bind λr_5=>(fe y_2).bind λr_7=>(bn r_5 r_7).bind λr_9=>bif (r_9 != 0)then some r_9 else (uh (w64 (x_1.At-y_2.At))).bind λr_12=>some r_12
noncomputable def fH (x:(List Receipt)):Option ((List Receipt)) :=
  rY (λa b=>iQ a b) x
def bQ (s2_2:(List ByteArray)) (k_4:Nat) (x_6:ByteArray) (s_9:Unit):Option (Ctl (Unit) (Bool)) :=
  (idx s2_2 (k_4:Int)).bind λy_14=>bif (sNe x_6 y_14)then some (.ret false)else some (.go ())
def cz (s1_1:(List ByteArray)) (s2_2:(List ByteArray)):Option (Bool) :=
  bif ((s1_1.length:Int) != (s2_2.length:Int))then some false else (forL s1_1 () (λk x s=>bQ s2_2 k x s)).bind λo_12=>thenC o_12 (λs_9=>some true) (λr=>some r)
def iO (x_1:Receipt) (y_2:Receipt):Option (Bool) :=
  (fe x_1).bind λr_5=>(fe y_2).bind λr_7=>(cz r_5 r_7).bind λr_9=>some r_9
def bC (s_1:(List Receipt)) (s_9:Int) (s_31:(List Receipt)×Int×Int):Option (Ctl ((List Receipt)×Int×Int) (Unit)) :=
  bif (decide (s_31.2.2<(((((s_1.length:Int)).toNat-(s_9).toNat):Nat):Int)))then (inN s_31.2.2 (((s_1.length:Int)).toNat-(s_9).toNat)).bind λ_=>(s_31.1[(((s_9).toNat)+(s_31.2.2).toNat)]?).bind λe_38=>(inN (w64 (s_31.2.2-1)) (((s_1.length:Int)).toNat-(s_9).toNat)).bind λ_=>(s_31.1[(((s_9).toNat)+((w64 (s_31.2.2-1))).toNat)]?).bind λe_41=>(iO e_38 e_41).bind λr_43=>(bif (!r_43)then (inN s_31.2.2 (((s_1.length:Int)).toNat-(s_9).toNat)).bind λ_=>(s_31.1[(((s_9).toNat)+(s_31.2.2).toNat)]?).bind λe_49=>(inR s_31.2.1 s_31.1).bind λ_=>(s_31.1[(0+(s_31.2.1).toNat)]?).bind λe_52=>some ((s_31.1.set (0+(s_31.2.1).toNat) e_49),(w64 (s_31.2.1+1)))else some (s_31.1,s_31.2.1)).bind λv_45=>some (.go (v_45.1,v_45.2,(w64 (s_31.2.2+1))))else some (.brk (s_31.1,s_31.2.1,s_31.2.2))
noncomputable def bD (s_1:(List Receipt)) (s_9:Int):Option (Ctl (Int) ((List Receipt))) :=
  bif (decide (s_9<(s_1.length:Int)))then (inR s_9 s_1).bind λ_=>(s_1[(0+(s_9).toNat)]?).bind λe_16=>(inR (w64 (s_9-1)) s_1).bind λ_=>(s_1[(0+((w64 (s_9-1))).toNat)]?).bind λe_19=>(iO e_16 e_19).bind λr_21=>bif r_21 then (neL s_1).bind λ_=>(vT s_1 s_9 (s_1.length:Int)).bind λ_=>(lN (s_1,s_9,1) (λs=>bC s_1 s_9 s)).bind λo_34=>thenC o_34 (λs_31=>(vT s_31.1 s_31.2.1 (s_31.1.length:Int)).bind λ_=>(vT (s_31.1.take ((s_31.2.1).toNat)++List.replicate (((s_31.1.length:Int)).toNat-(s_31.2.1).toNat) (⟨(⟨#[]⟩:ByteArray),(⟨#[]⟩:ByteArray),0,false⟩:Receipt)++s_31.1.drop (((s_31.2.1).toNat)+(((s_31.1.length:Int)).toNat-(s_31.2.1).toNat))) 0 s_31.2.1).bind λ_=>some (.ret (Ka (s_31.1.take ((s_31.2.1).toNat)++List.replicate (((s_31.1.length:Int)).toNat-(s_31.2.1).toNat) (⟨(⟨#[]⟩:ByteArray),(⟨#[]⟩:ByteArray),0,false⟩:Receipt)++s_31.1.drop (((s_31.2.1).toNat)+(((s_31.1.length:Int)).toNat-(s_31.2.1).toNat))) 0 ((s_31.2.1).toNat)))) (λ_=>none)else some (.go (w64 (s_9+1)))else some (.brk s_9)
noncomputable def bL (s_1:(List Receipt)):Option ((List Receipt)) :=
  bif (decide ((s_1.length:Int)<2))then some s_1 else (lN 1 (λs=>bD s_1 s)).bind λo_12=>thenC o_12 (λs_9=>some s_1) (λr=>some r)
noncomputable def kC (a_1:(List Receipt)) (b_2:(List Receipt)):Option ((List Receipt)×Int) :=
  (bK ([a_1,b_2]:List (List Receipt))).bind λr_3=>(fH r_3).bind λr_7=>(mP r_7 r_3).bind λ_=>(bL r_7).bind λr_10=>bif (decide ((r_10.length:Int)>2000))then some (([]:(List Receipt)),2)else some (r_10,0)
def sK (player_2:ByteArray) (id_3:ByteArray) (atv_4:Int) (k_5:Nat) (x_7:Receipt) (s_10:Int):Option (Ctl (Int) (Unit)) :=
  (bif (sEq x_7.Player player_2)then bif (sEq x_7.Alert id_3)then bif (decide (x_7.At<=atv_4))then bif (decide (s_10<0))then some true else some (decide (x_7.At<s_10))else some false else some false else some false).bind λv_16=>(bif v_16 then some x_7.At else some s_10).bind λv_22=>some (.go v_22)
def wY (r_1:(List Receipt)) (player_2:ByteArray) (id_3:ByteArray) (atv_4:Int):Option (Int) :=
  (forL r_1 (-1) (λk x s=>sK player_2 id_3 atv_4 k x s)).bind λo_13=>thenC o_13 (λs_10=>some s_10) (λ_=>none)
def gp (v_2:ByteArray) (k_3:Nat) (x_5:ByteArray) (s_8:Unit):Option (Ctl (Unit) (Int)) :=
  bif (sEq v_2 x_5)then some (.ret (k_3:Int))else some (.go ())
def gU (s_1:(List ByteArray)) (v_2:ByteArray):Option (Int) :=
  (forL s_1 () (λk x s=>gp v_2 k x s)).bind λo_11=>thenC o_11 (λs_8=>some (-1)) (λr=>some r)
def eT (s_1:(List ByteArray)) (v_2:ByteArray):Option (Bool) :=
  (gU s_1 v_2).bind λr_3=>some (decide (r_3>=0))
def mF (o_1:Alert) (p_2:ByteArray) (p_3:Alert):Option (Bool) :=
  (bif (sEq o_1.Id p_2)then bif (sEq o_1.Sender p_3.Sender)then (jA o_1 p_3).bind λr_9=>some (decide (r_9<0))else some false else some false).bind λv_5=>some v_5
def tV (l_1:(List Alert)) (a_2:Alert) (ref_3:ByteArray):Option (Bool) :=
  (bI l_1 (λx0=>mF x0 ref_3 a_2)).bind λr_6=>some r_6
def oG (a_2:Alert) (l_1:(List Alert)) (k_4:Nat) (x_6:Alert) (s_9:Int):Option (Ctl (Int) (Unit)) :=
  ((eT x_6.Refs a_2.Id).bind λr_17=>bif r_17 then (tV l_1 x_6 a_2.Id).bind λr_20=>some r_20 else some false).bind λv_15=>(bif v_15 then some (BD s_9 x_6.At)else some s_9).bind λv_22=>some (.go v_22)
def pF (l_1:(List Alert)) (a_2:Alert):Option (Int) :=
  (forL l_1 a_2.Until (λk x s=>oG a_2 l_1 k x s)).bind λo_12=>thenC o_12 (λs_9=>some s_9) (λ_=>none)
def zq (r_1:Rect) (x_2:Int) (y_3:Int):Option (Bool) :=
  ((kT x_2 r_1.X (w64 ((w64 (r_1.X+r_1.W))-1))).bind λr_7=>bif r_7 then (kT y_3 r_1.Y (w64 ((w64 (r_1.Y+r_1.H))-1))).bind λr_10=>some r_10 else some false).bind λv_5=>some v_5
def sF (r_1:Rect) (p_2:Int) (p_3:Int):Option (Bool) :=
  (zq r_1 p_2 p_3).bind λr_5=>some r_5
def zm (l_1:(List Rect)) (x_2:Int) (y_3:Int):Option (Bool) :=
  (bP l_1 (λx0=>sF x0 x_2 y_3)).bind λr_6=>some r_6
def lF (a_1:Alert) (p_2:Post):Option (Bool) :=
  (zm a_1.Areas p_2.X p_2.Y).bind λr_5=>some r_5
def pK (l_1:(List Alert)) (a_2:Alert) (p_3:Post) (atv_4:Int):Option (Bool) :=
  (bif (a_2.Kind != 3)then bif (decide (a_2.At<=atv_4))then (pF l_1 a_2).bind λr_11=>bif (decide (a_2.At<r_11))then (lF a_2 p_3).bind λr_14=>some r_14 else some false else some false else some false).bind λv_7=>some v_7
def lH (a_1:Debt) (b_2:Debt):Option (Int) :=
  (bn ([a_1.Player,a_1.Alert]:List ByteArray) ([b_2.Player,b_2.Alert]:List ByteArray)).bind λr_5=>some r_5
noncomputable def gK (x:(List Debt)):Option ((List Debt)) :=
  rY (λa b=>lH a b) x
def kG (r_3:(List Receipt)) (x_8:Post) (atv_5:Int) (long_4:Int) (l_1:(List Alert)) (k_20:Nat) (x_22:Alert) (s_25:(List Debt)):Option (Ctl ((List Debt)) (Unit)) :=
  (wY r_3 x_8.Player x_22.Id atv_5).bind λr_33=>(bif (decide (r_33<0))then some true else some (decide (r_33>(w64 (x_22.At+long_4))))).bind λv_36=>((pK l_1 x_22 x_8 atv_5).bind λr_41=>bif r_41 then bif (decide ((w64 (x_22.At+long_4))<atv_5))then bif v_36 then (pF l_1 x_22).bind λr_46=>some (decide (r_46>=(w64 (x_22.At+long_4))))else some false else some false else some false).bind λv_39=>(bif v_39 then (uj s_25 ([(⟨x_8.Player,x_22.Id,(w64 (x_22.At+long_4)),r_33⟩:Debt)]:List Debt)).bind λa_52=>some a_52 else some s_25).bind λv_48=>some (.go v_48)
def ol (l_1:(List Alert)) (r_3:(List Receipt)) (atv_5:Int) (long_4:Int) (k_6:Nat) (x_8:Post) (s_11:(List Debt)):Option (Ctl ((List Debt)) (Unit)) :=
  (forL l_1 s_11 (λk x s=>kG r_3 x_8 atv_5 long_4 l_1 k x s)).bind λo_30=>thenC o_30 (λs_25=>some (.go s_25)) (λ_=>none)
noncomputable def nV (l_1:(List Alert)) (posts_2:(List Post)) (r_3:(List Receipt)) (long_4:Int) (atv_5:Int):Option ((List Debt)) :=
  (forL posts_2 ([]:List Debt) (λk x s=>ol l_1 r_3 atv_5 long_4 k x s)).bind λo_17=>thenC o_17 (λs_11=>(gK s_11).bind λr_55=>(mP r_55 s_11).bind λ_=>some r_55) (λ_=>none)
def jE (x_1:Receipt) (p_2:Post) (p_3:Alert) (p_4:Int):Option (Bool) :=
  (bif (sEq x_1.Player p_2.Player)then bif (sEq x_1.Alert p_3.Id)then bif x_1.Seen then some (decide (x_1.At<=p_4))else some false else some false else some false).bind λv_6=>some v_6
def dw (f_2:Receipt->Option Bool) (k_3:Nat) (x_5:Receipt) (s_8:Unit):Option (Ctl (Unit) (Int)) :=
  (f_2 x_5).bind λr_13=>bif r_13 then some (.ret (k_3:Int))else some (.go ())
def dI (s_1:(List Receipt)) (f_2:Receipt->Option Bool):Option (Int) :=
  (forL s_1 () (λk x s=>dw f_2 k x s)).bind λo_11=>thenC o_11 (λs_8=>some (-1)) (λr=>some r)
def bO (s_1:(List Receipt)) (f_2:Receipt->Option Bool):Option (Bool) :=
  (dI s_1 f_2).bind λr_3=>some (decide (r_3>=0))
def sH (l_1:(List Alert)) (a_2:Alert) (atv_3:Int):Option (Bool) :=
  (bif (a_2.Kind != 3)then bif (decide (a_2.At<=atv_3))then (pF l_1 a_2).bind λr_9=>some (decide (atv_3<r_9))else some false else some false).bind λv_5=>some v_5
def lc (x_9:Alert) (r_3:(List Receipt)) (atv_5:Int) (k_21:Nat) (x_23:Post) (s_26:Bool×Bool):Option (Ctl (Bool×Bool) (Unit)) :=
  (lF x_9 x_23).bind λr_32=>bif (!r_32)then some (.go (s_26.1,s_26.2))else (bif s_26.2 then some true else (bO r_3 (λx0=>jE x0 x_23 x_9 atv_5)).bind λr_38=>some r_38).bind λv_35=>some (.go (true,v_35))
def jQ (posts_2:(List Post)) (r_3:(List Receipt)) (atv_5:Int) (l_1:(List Alert)) (wait_4:Int) (k_7:Nat) (x_9:Alert) (s_12:(List ByteArray)):Option (Ctl ((List ByteArray)) (Unit)) :=
  (forL posts_2 (false,false) (λk x s=>lc x_9 r_3 atv_5 k x s)).bind λo_29=>thenC o_29 (λs_26=>((sH l_1 x_9 atv_5).bind λr_43=>bif r_43 then bif (decide ((w64 (atv_5-x_9.At))>=wait_4))then bif s_26.1 then some (!s_26.2)else some false else some false else some false).bind λv_41=>(bif v_41 then (uj s_12 ([x_9.Id]:List ByteArray)).bind λa_52=>some a_52 else some s_12).bind λv_48=>some (.go v_48)) (λ_=>none)
def oN (l_1:(List Alert)) (posts_2:(List Post)) (r_3:(List Receipt)) (wait_4:Int) (atv_5:Int):Option ((List ByteArray)) :=
  (forL l_1 ([]:List ByteArray) (λk x s=>jQ posts_2 r_3 atv_5 l_1 wait_4 k x s)).bind λo_18=>thenC o_18 (λs_12=>some s_12) (λ_=>none)
def pO (s_9:Int×Int):Option (Ctl (Int×Int) (Unit)) :=
  bif (s_9.2 != 0)then (Ht .i64 s_9.1 s_9.2).bind λq_15=>some (.go (s_9.2,q_15))else some (.brk (s_9.1,s_9.2))
noncomputable def nJ (num_1:Int) (den_2:Int):Option (Fraction) :=
  (lN (num_1,den_2) (λs=>pO s)).bind λo_12=>thenC o_12 (λs_9=>(bif (decide (s_9.1<0))then some (w64 (0-s_9.1))else some s_9.1).bind λv_17=>(Bf .i64 num_1 v_17).bind λq_20=>(Bf .i64 den_2 v_17).bind λq_22=>some (⟨q_20,q_22⟩:Fraction)) (λ_=>none)
def iH (x_9:Alert) (id_4:ByteArray) (l_1:(List Alert)) (atv_5:Int) (r_3:(List Receipt)) (k_18:Nat) (x_20:Post) (s_23:Int×Int):Option (Ctl (Int×Int) (Unit)) :=
  (bif (sEq x_9.Id id_4)then (pK l_1 x_9 x_20 atv_5).bind λr_32=>some r_32 else some false).bind λv_29=>(bif v_29 then (wY r_3 x_20.Player id_4 atv_5).bind λr_37=>bif (decide (r_37>=0))then some ((w64 (s_23.1+1)),(w64 (s_23.2+1)))else some (s_23.1,(w64 (s_23.2+1)))else some (s_23.1,s_23.2)).bind λv_34=>some (.go (v_34.1,v_34.2))
def iT (posts_2:(List Post)) (id_4:ByteArray) (l_1:(List Alert)) (atv_5:Int) (r_3:(List Receipt)) (k_7:Nat) (x_9:Alert) (s_12:Int×Int):Option (Ctl (Int×Int) (Unit)) :=
  (forL posts_2 (s_12.1,s_12.2) (λk x s=>iH x_9 id_4 l_1 atv_5 r_3 k x s)).bind λo_26=>thenC o_26 (λs_23=>some (.go (s_23.1,s_23.2))) (λ_=>none)
noncomputable def lC (l_1:(List Alert)) (posts_2:(List Post)) (r_3:(List Receipt)) (id_4:ByteArray) (atv_5:Int):Option (Fraction×Bool) :=
  (forL l_1 (0,0) (λk x s=>iT posts_2 id_4 l_1 atv_5 r_3 k x s)).bind λo_15=>thenC o_15 (λs_12=>bif (s_12.2==0)then some ((⟨0,0⟩:Fraction),false)else (nJ s_12.1 s_12.2).bind λr_41=>some (r_41,true)) (λ_=>none)
def bH (s2_2:(List Receipt)) (k_4:Nat) (x_6:Receipt) (s_9:Unit):Option (Ctl (Unit) (Bool)) :=
  (idx s2_2 (k_4:Int)).bind λy_14=>bif (!((x_6.Player.toList==y_14.Player.toList)&&((x_6.Alert.toList==y_14.Alert.toList)&&((x_6.At==y_14.At)&&((x_6.Seen==y_14.Seen)&&true)))))then some (.ret false)else some (.go ())
def dx (s1_1:(List Receipt)) (s2_2:(List Receipt)):Option (Bool) :=
  bif ((s1_1.length:Int) != (s2_2.length:Int))then some false else (forL s1_1 () (λk x s=>bH s2_2 k x s)).bind λo_12=>thenC o_12 (λs_9=>some true) (λr=>some r)
def bZ (s2_2:(List Debt)) (k_4:Nat) (x_6:Debt) (s_9:Unit):Option (Ctl (Unit) (Bool)) :=
  (idx s2_2 (k_4:Int)).bind λy_14=>bif (!((x_6.Player.toList==y_14.Player.toList)&&((x_6.Alert.toList==y_14.Alert.toList)&&((x_6.Due==y_14.Due)&&((x_6.Got==y_14.Got)&&true)))))then some (.ret false)else some (.go ())
def d9 (s1_1:(List Debt)) (s2_2:(List Debt)):Option (Bool) :=
  bif ((s1_1.length:Int) != (s2_2.length:Int))then some false else (forL s1_1 () (λk x s=>bZ s2_2 k x s)).bind λo_12=>thenC o_12 (λs_9=>some true) (λr=>some r)
noncomputable def nk (a_1:Alert) (p_2:Post):Option (Bool×Int) :=
  (ig ([a_1]:List Alert) ([p_2]:List Post)).bind λr_5=>bif (r_5 != 0)then some (false,r_5)else (jo a_1 p_2).bind λr_8=>some (r_8,0)
noncomputable def pG  : Option (Bool) :=
  (nk (⟨(⟨#[97]⟩:ByteArray),(⟨#[115]⟩:ByteArray),1,([]:List ByteArray),0,5,1,([(⟨0,0,2,2⟩:Rect)]:List Rect),(⟨#[120]⟩:ByteArray)⟩:Alert) (⟨(⟨#[112]⟩:ByteArray),1,1⟩:Post)).bind λr_2=>(bif (r_2.2==0)then some r_2.1 else some false).bind λv_4=>some v_4
noncomputable def oD (l_1:(List Int)):Option (Bool) :=
  (kr (⟨l_1,0⟩:Stream) 5).bind λr_3=>(lw r_3.2).bind λr_6=>(iJ r_6.2).bind λr_9=>(iJ r_9.2).bind λr_12=>(eZ r_12.2 ([0,5,10,30,(-1),2592000001]:List Int)).bind λr_15=>(eZ r_15.2 ([0,5,10,20,30,60,(-1)]:List Int)).bind λr_18=>(dG r_18.2 ([(⟨#[97,97]⟩:ByteArray),(⟨#[97,98]⟩:ByteArray),(⟨#[97,99]⟩:ByteArray),(⟨#[122,122]⟩:ByteArray)]:List ByteArray)).bind λr_21=>(nU r_9.1 r_12.1).bind λr_24=>(qf r_3.1 r_6.1 r_9.1 r_15.1 r_18.1).bind λr_26=>(ni r_3.1 r_6.1 r_9.1 r_21.1 r_18.1).bind λr_28=>(ow r_3.1 r_6.1 r_9.1 r_15.1 r_18.1).bind λr_31=>(jd r_9.1).bind λr_33=>(fZ r_9.1).bind λr_35=>bif (r_35 != r_33)then some false else (lh r_3.1).bind λr_38=>(l9 r_6.1).bind λr_40=>(jI ([r_38,r_40,r_33]:List Int)).bind λr_42=>(bif (decide (r_15.1<0))then (iX true 1).bind λr_47=>(fo r_18.1).bind λr_49=>(jI ([r_42,r_47,r_49]:List Int)).bind λr_51=>some r_51 else (iX (decide (r_15.1>2592000000)) 1).bind λr_53=>(fo r_18.1).bind λr_55=>(jI ([r_42,r_53,r_55]:List Int)).bind λr_57=>some r_57).bind λv_44=>(bif (r_42==0)then (jS r_3.1 r_21.1).bind λr_62=>(iX (!r_62) 8).bind λr_64=>(fo r_18.1).bind λr_66=>(jI ([r_64,r_66]:List Int)).bind λr_68=>some r_68 else some r_42).bind λv_59=>(jd r_12.1).bind λr_70=>(jI ([r_33,r_70]:List Int)).bind λr_72=>(bif (r_72==0)then (kC r_9.1 r_12.1).bind λr_79=>some (r_79.2,r_79.1)else some (r_72,([]:List Receipt))).bind λv_76=>(bif (v_44==0)then (nV r_3.1 r_6.1 r_9.1 r_15.1 r_18.1).bind λr_88=>(oN r_3.1 r_6.1 r_9.1 r_15.1 r_18.1).bind λr_90=>some (r_88,r_90)else some (([]:List Debt),([]:List ByteArray))).bind λv_85=>(bif (v_59==0)then (lC r_3.1 r_6.1 r_9.1 r_21.1 r_18.1).bind λr_96=>(iX (!r_96.2) 8).bind λr_99=>some (r_99,r_96.1.Num,r_96.1.Den)else some (v_59,0,0)).bind λv_93=>(bif (r_24.2==v_76.1)then (dx r_24.1 v_76.2).bind λr_104=>bif r_104 then bif (r_26.2==v_44)then (d9 r_26.1 v_85.1).bind λr_108=>bif r_108 then bif (r_28.2==v_93.1)then bif ((r_28.1.Num==v_93.2.1)&&((r_28.1.Den==v_93.2.2)&&true))then bif (r_31.2==v_44)then (cz r_31.1 v_85.2).bind λr_114=>bif r_114 then (pG).bind λr_117=>some r_117 else some false else some false else some false else some false else some false else some false else some false else some false).bind λv_101=>some v_101
end Go.Proofs.YtjhcehhmdmbleaaGreatDoor.Law

