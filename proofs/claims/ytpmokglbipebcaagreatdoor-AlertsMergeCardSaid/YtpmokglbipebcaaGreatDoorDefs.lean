/-
  The functions of the program, as plain functions over data (written by a program of ours).
-/
import Derived.Test.YtpmokglbipebcaaGreatDoorEng5
open Go Go.Eng
namespace Go.Proofs.YtpmokglbipebcaaGreatDoor.Law
set_option maxRecDepth 100000
set_option linter.unusedVariables false
set_option maxHeartbeats 1000000
structure Stream where
  L:(List Int)
  f_at:Int
def Stream.enc (s:Stream):List D:=[dl eI s.L,.int .i64 s.f_at]

structure Rect where
  X:Int
  Y:Int
  W:Int
  H:Int
def Rect.enc (s:Rect):List D:=[.int .i64 s.X,.int .i64 s.Y,.int .i64 s.W,.int .i64 s.H]

structure Alert where
  Id:ByteArray
  Sender:ByteArray
  Kind:Int
  Refs:(List ByteArray)
  At:Int
  Until:Int
  Weight:Int
  Areas:(List Rect)
  Text:ByteArray
def Alert.enc (s:Alert):List D:=[.str s.Id,.str s.Sender,.int .i64 s.Kind,dl eS s.Refs,.int .i64 s.At,.int .i64 s.Until,.int .i64 s.Weight,dl Rect.enc s.Areas,.str s.Text]

structure Post where
  Player:ByteArray
  X:Int
  Y:Int
def Post.enc (s:Post):List D:=[.str s.Player,.int .i64 s.X,.int .i64 s.Y]

structure Run where
  f_from:Int
  f_to:Int
def Run.enc (s:Run):List D:=[.int .i64 s.f_from,.int .i64 s.f_to]

structure Window where
  From:Int
  To:Int
def Window.enc (s:Window):List D:=[.int .i64 s.From,.int .i64 s.To]

def oz (x_1:Int) (n_2:Int):Option (Int) :=
  bif (decide (n_2<1))then some 0 else (Gu .i64 x_1 n_2).bind λq_4=>(bif (decide (q_4<0))then some (w64 (q_4+n_2))else some q_4).bind λv_6=>some v_6
def bQ (s_1:Stream) (n_2:Int):Option (Int×Stream) :=
  bif ((s_1.L.length:Int)==0)then (oz (w64 ((w64 (s_1.f_at+1))*7919)) n_2).bind λr_4=>some (r_4,(⟨s_1.L,(w64 (s_1.f_at+1))⟩:Stream))else (Gu .i64 (w64 ((w64 (s_1.f_at+1))-1)) (s_1.L.length:Int)).bind λq_6=>(quoO .i64 (w64 ((w64 (s_1.f_at+1))-1)) (s_1.L.length:Int)).bind λq_8=>(idx s_1.L q_6).bind λy_10=>(oz y_10 1073741824).bind λr_12=>(oz (w64 (r_12+(w64 (q_8*(w64 (7919+q_6)))))) n_2).bind λr_14=>some (r_14,(⟨s_1.L,(w64 (s_1.f_at+1))⟩:Stream))
def bg (s_1:Stream) (low_2:Int) (high_3:Int):Option (Int×Stream) :=
  bif (decide (high_3<low_2))then some (low_2,s_1)else (bQ s_1 (w64 ((w64 (high_3-low_2))+1))).bind λr_5=>some ((w64 (low_2+r_5.1)),r_5.2)
def dR (s_1:Stream) (l_2:(List ByteArray)):Option (ByteArray×Stream) :=
  (bQ s_1 (l_2.length:Int)).bind λr_3=>(idx l_2 r_3.1).bind λy_6=>some (y_6,r_3.2)
def eH (s_1:Stream) (l_2:(List Int)):Option (Int×Stream) :=
  (bQ s_1 (l_2.length:Int)).bind λr_3=>(idx l_2 r_3.1).bind λy_6=>some (y_6,r_3.2)
def cz (s_1:Stream) (n_2:Int):Option (Bool×Stream) :=
  (bQ s_1 n_2).bind λr_3=>some ((r_3.1==0),r_3.2)
def bZ (s_1:Stream):Option (Rect×Stream) :=
  (bg s_1 (-2) 8).bind λr_3=>(bg r_3.2 (-2) 8).bind λr_6=>(bg r_6.2 1 5).bind λr_9=>(bg r_9.2 1 5).bind λr_12=>some ((⟨r_3.1,r_6.1,r_9.1,r_12.1⟩:Rect),r_12.2)
def jy (a_1:Alert) (b_2:Alert):Option (Int) :=
  bif (a_1.At != b_2.At)then some (w64 (a_1.At-b_2.At))else bif (sLt a_1.Id b_2.Id)then some (-1)else some 1
def mZ (x_1:Int):Option (Int) :=
  (bif (decide (x_1>=4294967296))then (Io .u64 x_1 32).bind λq_5=>some (q_5,32)else some (x_1,0)).bind λv_2=>(bif (decide (v_2.1>=65536))then (Io .u64 v_2.1 16).bind λq_10=>some (q_10,(w64 (v_2.2+16)))else some (v_2.1,v_2.2)).bind λv_7=>(bif (decide (v_7.1>=256))then (Io .u64 v_7.1 8).bind λq_15=>some (q_15,(w64 (v_7.2+8)))else some (v_7.1,v_7.2)).bind λv_12=>(rO (⟨#[0,1,2,2,3,3,3,3,4,4,4,4,4,4,4,4,5,5,5,5,5,5,5,5,5,5,5,5,5,5,5,5,6,6,6,6,6,6,6,6,6,6,6,6,6,6,6,6,6,6,6,6,6,6,6,6,6,6,6,6,6,6,6,6,7,7,7,7,7,7,7,7,7,7,7,7,7,7,7,7,7,7,7,7,7,7,7,7,7,7,7,7,7,7,7,7,7,7,7,7,7,7,7,7,7,7,7,7,7,7,7,7,7,7,7,7,7,7,7,7,7,7,7,7,7,7,7,7,8,8,8,8,8,8,8,8,8,8,8,8,8,8,8,8,8,8,8,8,8,8,8,8,8,8,8,8,8,8,8,8,8,8,8,8,8,8,8,8,8,8,8,8,8,8,8,8,8,8,8,8,8,8,8,8,8,8,8,8,8,8,8,8,8,8,8,8,8,8,8,8,8,8,8,8,8,8,8,8,8,8,8,8,8,8,8,8,8,8,8,8,8,8,8,8,8,8,8,8,8,8,8,8,8,8,8,8,8,8,8,8,8,8,8,8,8,8,8,8,8,8,8,8,8,8,8,8]⟩:ByteArray) (IntKind.u8.wrap v_12.1)).bind λb_17=>some (w64 (v_12.2+(w64 (b_17.toNat:Int))))
def fK (x_1:Int):Option (Int) :=
  (mZ x_1).bind λr_2=>some r_2
def dx (a_2:Int) (s_21:(List Alert)×Int):Option (Ctl ((List Alert)×Int) (Unit)) :=
  (bif (decide (s_21.2>a_2))then (inR s_21.2 s_21.1).bind λ_=>(s_21.1[(0+(s_21.2).toNat)]?).bind λe_30=>(inR (w64 (s_21.2-1)) s_21.1).bind λ_=>(s_21.1[(0+((w64 (s_21.2-1))).toNat)]?).bind λe_33=>(jy e_30 e_33).bind λr_35=>some (decide (r_35<0))else some false).bind λv_26=>bif v_26 then (inR (w64 (s_21.2-1)) s_21.1).bind λ_=>(s_21.1[(0+((w64 (s_21.2-1))).toNat)]?).bind λe_39=>(inR s_21.2 s_21.1).bind λ_=>(s_21.1[(0+(s_21.2).toNat)]?).bind λe_42=>(inR s_21.2 s_21.1).bind λ_=>(s_21.1[(0+(s_21.2).toNat)]?).bind λe_45=>(inR (w64 (s_21.2-1)) (s_21.1.set (0+(s_21.2).toNat) e_39)).bind λ_=>((s_21.1.set (0+(s_21.2).toNat) e_39)[(0+((w64 (s_21.2-1))).toNat)]?).bind λe_48=>some (.go (((s_21.1.set (0+(s_21.2).toNat) e_39).set (0+((w64 (s_21.2-1))).toNat) e_42),(w64 (s_21.2-1))))else some (.brk (s_21.1,s_21.2))
noncomputable def cO (b_3:Int) (a_2:Int) (s_10:(List Alert)×Int):Option (Ctl ((List Alert)×Int) (Unit)) :=
  bif (decide (s_10.2<b_3))then (jF (s_10.1,s_10.2) (λs=>dx a_2 s)).bind λo_24=>thenC o_24 (λs_21=>some (.go (s_21.1,(w64 (s_10.2+1))))) (λ_=>none)else some (.brk (s_10.1,s_10.2))
noncomputable def dI (data_1:(List Alert)) (a_2:Int) (b_3:Int):Option ((List Alert)) :=
  (jF (data_1,(w64 (a_2+1))) (λs=>cO b_3 a_2 s)).bind λo_13=>thenC o_13 (λs_10=>some s_10.1) (λ_=>none)
noncomputable def d9 (b_3:Int) (a_2:Int) (data_1:(List Alert)) (limit_4:Int) (s_11:Unit):Option (Ctl (Unit) ((List Alert))) :=
  bif (decide ((w64 (b_3-a_2))<=12))then (dI data_1 a_2 b_3).bind λr_17=>(jH r_17 data_1).bind λ_=>some (.ret r_17)else bif (limit_4==0)then none else none
noncomputable def eU (data_1:(List Alert)) (a_2:Int) (b_3:Int) (limit_4:Int):Option ((List Alert)) :=
  (jF () (λs=>d9 b_3 a_2 data_1 limit_4 s)).bind λo_14=>thenC o_14 (λs_11=>some data_1) (λr=>some r)
noncomputable def bB (x_1:(List Alert)):Option ((List Alert)) :=
  (fK (IntKind.u64.wrap (x_1.length:Int))).bind λr_3=>(eU x_1 0 (x_1.length:Int) r_3).bind λr_5=>(jH r_5 x_1).bind λ_=>some r_5
def bR (x_10:ByteArray) (k_45:Nat) (x_47:ByteArray) (s_50:(List ByteArray)×(List Int)×Int):Option (Ctl ((List ByteArray)×(List Int)×Int) (Unit)) :=
  (bif (sNe x_47 x_10)then (cz (⟨s_50.2.1,s_50.2.2⟩:Stream) 3).bind λr_61=>some (r_61.1,r_61.2.L,r_61.2.f_at)else some (false,s_50.2.1,s_50.2.2)).bind λv_58=>(bif v_58.1 then (oJ s_50.1 ([x_47]:List ByteArray)).bind λa_68=>some a_68 else some s_50.1).bind λv_64=>some (.go (v_64,v_58.2.1,v_58.2.2))
def bT (k_85:Nat) (x_87:Nat) (s_90:(List Rect)×(List Int)×Int):Option (Ctl ((List Rect)×(List Int)×Int) (Unit)) :=
  (bZ (⟨s_90.2.1,s_90.2.2⟩:Stream)).bind λr_97=>(oJ s_90.1 ([r_97.1]:List Rect)).bind λa_100=>some (.go (a_100,r_97.2.L,r_97.2.f_at))
def dE (k_8:Nat) (x_10:ByteArray) (s_13:(List Alert)×(List Int)×Int):Option (Ctl ((List Alert)×(List Int)×Int) (Unit)) :=
  (dR (⟨s_13.2.1,s_13.2.2⟩:Stream) ([(⟨#[119,120]⟩:ByteArray),(⟨#[119,120]⟩:ByteArray),(⟨#[102,105,114,101]⟩:ByteArray)]:List ByteArray)).bind λr_21=>(eH r_21.2 ([1,1,2,2,3]:List Int)).bind λr_24=>(bg r_24.2 0 6).bind λr_27=>(eH r_27.2 ([1,5,5,9]:List Int)).bind λr_30=>(dR r_30.2 ([(⟨#[102,108,111,111,100]⟩:ByteArray),(⟨#[102,105,114,101,32,105,110,32,116,104,101,32,109,97,108,108]⟩:ByteArray)]:List ByteArray)).bind λr_33=>(eH r_33.2 ([1,10,20,50]:List Int)).bind λr_37=>(bif (r_24.1 != 1)then (forL ([(⟨#[97,97]⟩:ByteArray),(⟨#[97,98]⟩:ByteArray),(⟨#[97,99]⟩:ByteArray),(⟨#[97,100]⟩:ByteArray),(⟨#[122,122]⟩:ByteArray)]:List ByteArray) (([]:List ByteArray),r_37.2.L,r_37.2.f_at) (λk x s=>bR x_10 k x s)).bind λo_56=>thenC o_56 (λs_50=>bif ((s_50.1.length:Int)==0)then some (s_50.2.1,s_50.2.2,([(⟨#[122,121]⟩:ByteArray)]:List ByteArray))else some (s_50.2.1,s_50.2.2,s_50.1)) (λ_=>none)else some (r_37.2.L,r_37.2.f_at,([]:List ByteArray))).bind λv_42=>(bif (r_24.1==3)then (dR (⟨v_42.1,v_42.2.1⟩:Stream) ([(⟨#[]⟩:ByteArray),(⟨#[111,118,101,114]⟩:ByteArray)]:List ByteArray)).bind λr_79=>some (([]:List Rect),r_79.2.L,r_79.2.f_at,r_79.1)else (bg (⟨v_42.1,v_42.2.1⟩:Stream) 1 2).bind λr_82=>(forL (List.range (r_82.1).toNat) (([]:List Rect),r_82.2.L,r_82.2.f_at) (λk x s=>bT k x s)).bind λo_95=>thenC o_95 (λs_90=>some (s_90.1,s_90.2.1,s_90.2.2,r_33.1)) (λ_=>none)).bind λv_75=>(oJ s_13.1 ([(⟨x_10,r_21.1,r_24.1,v_42.2.2,(w64 (r_27.1*5)),(w64 ((w64 (r_27.1*5))+r_37.1)),r_30.1,v_75.1,v_75.2.2.2⟩:Alert)]:List Alert)).bind λa_103=>some (.go (a_103,v_75.2.1,v_75.2.2.1))
noncomputable def eD (s_1:Stream) (most_2:Int):Option ((List Alert)×Stream) :=
  (bg s_1 0 most_2).bind λr_3=>(uY ([(⟨#[97,97]⟩:ByteArray),(⟨#[97,98]⟩:ByteArray),(⟨#[97,99]⟩:ByteArray),(⟨#[97,100]⟩:ByteArray),(⟨#[97,101]⟩:ByteArray),(⟨#[97,102]⟩:ByteArray)]:List ByteArray) 0 r_3.1).bind λy_6=>(forL y_6 (([]:List Alert),r_3.2.L,r_3.2.f_at) (λk x s=>dE k x s)).bind λo_19=>thenC o_19 (λs_13=>(bB s_13.1).bind λr_106=>(jH r_106 s_13.1).bind λ_=>some (r_106,(⟨s_13.2.1,s_13.2.2⟩:Stream))) (λ_=>none)
def dD (s_1:Stream) (low_2:Int) (high_3:Int):Option (Int×Stream) :=
  (cz s_1 12).bind λr_4=>bif r_4.1 then (eH r_4.2 ([(w64 (low_2-1)),(w64 (high_3+1)),low_2,high_3,(-1099511627776),1099511627776]:List Int)).bind λr_8=>some (r_8.1,r_8.2)else (bg r_4.2 low_2 high_3).bind λr_11=>some (r_11.1,r_11.2)
def jS (s_1:Stream):Option (Rect×Stream) :=
  (bZ s_1).bind λr_3=>(cz r_3.2 20).bind λr_7=>(bif r_7.1 then (bQ r_7.2 3).bind λr_13=>bif (r_13.1==0)then (dD r_13.2 (-100000) 99999).bind λr_17=>some (r_17.2.L,r_17.2.f_at,r_17.1,r_3.1.Y,r_3.1.W,r_3.1.H)else bif (r_13.1==1)then (dD r_13.2 1 200000).bind λr_21=>(dD r_21.2 1 5).bind λr_24=>some (r_24.2.L,r_24.2.f_at,r_3.1.X,r_3.1.Y,r_21.1,r_24.1)else (eH r_13.2 ([(-100000),99999]:List Int)).bind λr_27=>(eH r_27.2 ([1,2,200000]:List Int)).bind λr_30=>some (r_30.2.L,r_30.2.f_at,r_3.1.X,r_27.1,r_3.1.W,r_30.1)else some (r_7.2.L,r_7.2.f_at,r_3.1.X,r_3.1.Y,r_3.1.W,r_3.1.H)).bind λv_10=>some ((⟨v_10.2.2.1,v_10.2.2.2.1,v_10.2.2.2.2.1,v_10.2.2.2.2.2⟩:Rect),(⟨v_10.1,v_10.2.1⟩:Stream))
def gU (k_6:Nat) (x_8:Nat) (s_11:(List Rect)×(List Int)×Int):Option (Ctl ((List Rect)×(List Int)×Int) (Unit)) :=
  (bZ (⟨s_11.2.1,s_11.2.2⟩:Stream)).bind λr_19=>(cz r_19.2 60).bind λr_23=>(bif r_23.1 then (jS r_23.2).bind λr_29=>some (r_29.2.L,r_29.2.f_at,r_29.1.X,r_29.1.Y,r_29.1.W,r_29.1.H)else some (r_23.2.L,r_23.2.f_at,r_19.1.X,r_19.1.Y,r_19.1.W,r_19.1.H)).bind λv_26=>(oJ s_11.1 ([(⟨v_26.2.2.1,v_26.2.2.2.1,v_26.2.2.2.2.1,v_26.2.2.2.2.2⟩:Rect)]:List Rect)).bind λa_32=>some (.go (a_32,v_26.1,v_26.2.1))
def jg (s_1:Stream) (most_2:Int):Option ((List Rect)×Stream) :=
  (bg s_1 0 most_2).bind λr_3=>(forL (List.range (r_3.1).toNat) (([]:List Rect),r_3.2.L,r_3.2.f_at) (λk x s=>gU k x s)).bind λo_17=>thenC o_17 (λs_11=>some (s_11.1,(⟨s_11.2.1,s_11.2.2⟩:Stream))) (λ_=>none)
noncomputable def gQ (s_1:Stream) (most_2:Int):Option ((List Alert)×Stream) :=
  (eD s_1 most_2).bind λr_3=>(bif (decide ((r_3.1.length:Int)>0))then (cz r_3.2 10).bind λr_10=>some (r_10.1,r_10.2.L,r_10.2.f_at)else some (false,r_3.2.L,r_3.2.f_at)).bind λv_7=>(bif v_7.1 then (bQ (⟨v_7.2.1,v_7.2.2⟩:Stream) (r_3.1.length:Int)).bind λr_16=>(inR r_16.1 r_3.1).bind λ_=>(bQ r_16.2 6).bind λr_20=>bif (r_20.1==0)then (r_3.1[(0+(r_16.1).toNat)]?).bind λe_24=>(dR r_20.2 ([e_24.Id,(⟨#[]⟩:ByteArray),(⟨#[97,97]⟩:ByteArray)]:List ByteArray)).bind λr_26=>(dR r_26.2 ([(⟨#[119,120]⟩:ByteArray),(⟨#[65]⟩:ByteArray)]:List ByteArray)).bind λr_29=>(r_3.1[(0+(r_16.1).toNat)]?).bind λe_32=>((r_3.1.set (0+(r_16.1).toNat) (⟨r_26.1,e_32.Sender,e_32.Kind,e_32.Refs,e_32.At,e_32.Until,e_32.Weight,e_32.Areas,e_32.Text⟩:Alert))[(0+(r_16.1).toNat)]?).bind λe_34=>some (((r_3.1.set (0+(r_16.1).toNat) (⟨r_26.1,e_32.Sender,e_32.Kind,e_32.Refs,e_32.At,e_32.Until,e_32.Weight,e_32.Areas,e_32.Text⟩:Alert)).set (0+(r_16.1).toNat) (⟨e_34.Id,r_29.1,e_34.Kind,e_34.Refs,e_34.At,e_34.Until,e_34.Weight,e_34.Areas,e_34.Text⟩:Alert)),r_29.2.L,r_29.2.f_at)else bif (r_20.1==1)then (dD r_20.2 1 3).bind λr_37=>(r_3.1[(0+(r_16.1).toNat)]?).bind λe_40=>some ((r_3.1.set (0+(r_16.1).toNat) (⟨e_40.Id,e_40.Sender,r_37.1,e_40.Refs,e_40.At,e_40.Until,e_40.Weight,e_40.Areas,e_40.Text⟩:Alert)),r_37.2.L,r_37.2.f_at)else bif (r_20.1==2)then (r_3.1[(0+(r_16.1).toNat)]?).bind λe_43=>(bQ r_20.2 5).bind λr_45=>(idx ([([]:List ByteArray),([(⟨#[97,98]⟩:ByteArray),(⟨#[97,97]⟩:ByteArray)]:List ByteArray),([e_43.Id]:List ByteArray),([(⟨#[65]⟩:ByteArray)]:List ByteArray),([(⟨#[97,97]⟩:ByteArray),(⟨#[122,122]⟩:ByteArray)]:List ByteArray)]:List (List ByteArray)) r_45.1).bind λy_48=>(r_3.1[(0+(r_16.1).toNat)]?).bind λe_50=>some ((r_3.1.set (0+(r_16.1).toNat) (⟨e_50.Id,e_50.Sender,e_50.Kind,y_48,e_50.At,e_50.Until,e_50.Weight,e_50.Areas,e_50.Text⟩:Alert)),r_45.2.L,r_45.2.f_at)else bif (r_20.1==3)then (dD r_20.2 0 30).bind λr_53=>(dD r_53.2 0 60).bind λr_56=>(r_3.1[(0+(r_16.1).toNat)]?).bind λe_59=>((r_3.1.set (0+(r_16.1).toNat) (⟨e_59.Id,e_59.Sender,e_59.Kind,e_59.Refs,r_53.1,e_59.Until,e_59.Weight,e_59.Areas,e_59.Text⟩:Alert))[(0+(r_16.1).toNat)]?).bind λe_61=>some (((r_3.1.set (0+(r_16.1).toNat) (⟨e_59.Id,e_59.Sender,e_59.Kind,e_59.Refs,r_53.1,e_59.Until,e_59.Weight,e_59.Areas,e_59.Text⟩:Alert)).set (0+(r_16.1).toNat) (⟨e_61.Id,e_61.Sender,e_61.Kind,e_61.Refs,e_61.At,r_56.1,e_61.Weight,e_61.Areas,e_61.Text⟩:Alert)),r_56.2.L,r_56.2.f_at)else bif (r_20.1==4)then (jg r_20.2 2).bind λr_64=>(dD r_64.2 1 9).bind λr_67=>(r_3.1[(0+(r_16.1).toNat)]?).bind λe_70=>((r_3.1.set (0+(r_16.1).toNat) (⟨e_70.Id,e_70.Sender,e_70.Kind,e_70.Refs,e_70.At,e_70.Until,e_70.Weight,r_64.1,e_70.Text⟩:Alert))[(0+(r_16.1).toNat)]?).bind λe_72=>some (((r_3.1.set (0+(r_16.1).toNat) (⟨e_70.Id,e_70.Sender,e_70.Kind,e_70.Refs,e_70.At,e_70.Until,e_70.Weight,r_64.1,e_70.Text⟩:Alert)).set (0+(r_16.1).toNat) (⟨e_72.Id,e_72.Sender,e_72.Kind,e_72.Refs,e_72.At,e_72.Until,r_67.1,e_72.Areas,e_72.Text⟩:Alert)),r_67.2.L,r_67.2.f_at)else (dR r_20.2 ([(⟨#[]⟩:ByteArray),(⟨#[32,120]⟩:ByteArray),(⟨#[97,32,32,98]⟩:ByteArray),(⟨#[10]⟩:ByteArray),(⟨#[255]⟩:ByteArray)]:List ByteArray)).bind λr_74=>(r_3.1[(0+(r_16.1).toNat)]?).bind λe_77=>some ((r_3.1.set (0+(r_16.1).toNat) (⟨e_77.Id,e_77.Sender,e_77.Kind,e_77.Refs,e_77.At,e_77.Until,e_77.Weight,e_77.Areas,r_74.1⟩:Alert)),r_74.2.L,r_74.2.f_at)else some (r_3.1,v_7.2.1,v_7.2.2)).bind λv_13=>some (v_13.1,(⟨v_13.2.1,v_13.2.2⟩:Stream))
def aP (s_1:(List Alert)):Option ((List Alert)) :=
  (oJ [] s_1).bind λa_4=>some a_4
def iE (s_1:ByteArray) (s_7:Int):Option (Ctl (Int) (Bool)) :=
  bif (decide (s_7<(s_1.size:Int)))then (rO s_1 s_7).bind λb_13=>(bif (decide ((b_13.toNat:Int)>=97))then bif (decide ((b_13.toNat:Int)<=122))then some false else bif (decide (s_7>0))then bif (decide ((b_13.toNat:Int)>=48))then bif (decide ((b_13.toNat:Int)<=57))then some false else bif ((b_13.toNat:Int)==45)then some false else some (!((b_13.toNat:Int)==95))else bif ((b_13.toNat:Int)==45)then some false else some (!((b_13.toNat:Int)==95))else some true else bif (decide (s_7>0))then bif (decide ((b_13.toNat:Int)>=48))then bif (decide ((b_13.toNat:Int)<=57))then some false else bif ((b_13.toNat:Int)==45)then some false else some (!((b_13.toNat:Int)==95))else bif ((b_13.toNat:Int)==45)then some false else some (!((b_13.toNat:Int)==95))else some true).bind λv_15=>bif v_15 then some (.ret false)else some (.go (w64 (s_7+1)))else some (.brk s_7)
noncomputable def kit_IsKey (s_1:ByteArray):Option (Bool) :=
  (jF 0 (λs=>iE s_1 s)).bind λo_10=>thenC o_10 (λs_7=>(bif (sNe s_1 (⟨#[]⟩:ByteArray))then some (decide ((s_1.size:Int)<=40))else some false).bind λv_30=>some v_30) (λr=>some r)
def bW (n_1:Int) (low_2:Int) (high_3:Int):Option (Bool) :=
  (bif (decide (n_1<low_2))then some true else some (decide (n_1>high_3))).bind λv_4=>some v_4
noncomputable def dP (a_1:Alert) (k_4:Nat) (x_6:ByteArray) (s_9:Unit):Option (Ctl (Unit) (Int)) :=
  (kit_IsKey x_6).bind λr_14=>bif (!r_14)then some (.ret 5)else (bif (decide ((k_4:Int)>0))then (idx a_1.Refs (w64 ((k_4:Int)-1))).bind λy_20=>some (sLe x_6 y_20)else some false).bind λv_17=>bif v_17 then some (.ret 7)else bif (sEq x_6 a_1.Id)then some (.ret 14)else some (.go ())
noncomputable def gG (a_1:Alert):Option (Int) :=
  bif (decide ((a_1.Refs.length:Int)>20))then some 2 else (forL a_1.Refs () (λk x s=>dP a_1 k x s)).bind λo_12=>thenC o_12 (λs_9=>bif (!((a_1.Kind==1)==((a_1.Refs.length:Int)==0)))then some 3 else some 0) (λr=>some r)
def kg (n_1:Int):Option (Bool) :=
  (bif (decide (n_1>=0))then some (decide (n_1<345686400000))else some false).bind λv_2=>some v_2
def iO (r_1:Rect):Option (Int) :=
  ((bW r_1.X (-100000) 100000).bind λr_5=>bif r_5 then some true else (bW r_1.Y (-100000) 100000).bind λr_8=>some r_8).bind λv_3=>bif v_3 then some 1 else ((bW r_1.W 1 (w64 (100000-r_1.X))).bind λr_13=>bif r_13 then some true else (bW r_1.H 1 (w64 (100000-r_1.Y))).bind λr_16=>some r_16).bind λv_11=>bif v_11 then some 1 else some 0
def eP (x0:ByteArray):Option (Bool) :=
  EW x0
def fM (c_2:Int) (s_8:ByteArray):Option (Ctl (ByteArray) (Unit)) :=
  (bif (decide ((s_8.size:Int)>0))then (rO s_8 (w64 ((s_8.size:Int)-1))).bind λb_16=>some ((b_16.toNat:Int)==c_2)else some false).bind λv_13=>bif v_13 then (zF s_8 0 (w64 ((s_8.size:Int)-1))).bind λy_19=>some (.go y_19)else some (.brk s_8)
noncomputable def strings_trimRightByte (s_1:ByteArray) (c_2:Int):Option (ByteArray) :=
  (jF s_1 (λs=>fM c_2 s)).bind λo_11=>thenC o_11 (λs_8=>some s_8) (λ_=>none)
def gm (c_2:Int) (s_8:ByteArray):Option (Ctl (ByteArray) (Unit)) :=
  (bif (decide ((s_8.size:Int)>0))then (rO s_8 0).bind λb_16=>some ((b_16.toNat:Int)==c_2)else some false).bind λv_13=>bif v_13 then (zF s_8 1 s_8.size).bind λy_19=>some (.go y_19)else some (.brk s_8)
noncomputable def strings_trimLeftByte (s_1:ByteArray) (c_2:Int):Option (ByteArray) :=
  (jF s_1 (λs=>gm c_2 s)).bind λo_11=>thenC o_11 (λs_8=>some s_8) (λ_=>none)
noncomputable def kw (s_1:ByteArray) (cutset_2:ByteArray):Option (ByteArray) :=
  (bif (sEq s_1 (⟨#[]⟩:ByteArray))then some true else some (sEq cutset_2 (⟨#[]⟩:ByteArray))).bind λv_3=>bif v_3 then some s_1 else (bif ((cutset_2.size:Int)==1)then (rO cutset_2 0).bind λb_10=>some (decide ((b_10.toNat:Int)<128))else some false).bind λv_7=>bif v_7 then (rO cutset_2 0).bind λb_13=>(strings_trimRightByte s_1 (b_13.toNat:Int)).bind λr_15=>(rO cutset_2 0).bind λb_17=>(strings_trimLeftByte r_15 (b_17.toNat:Int)).bind λr_19=>some r_19 else none
def strings_Contains (x0:ByteArray) (x1:ByteArray):Option (Bool) :=
  wy x0 x1
def lH (s_1:ByteArray) (s_7:Int):Option (Ctl (Int) (Bool)) :=
  bif (decide (s_7<(s_1.size:Int)))then ((rO s_1 s_7).bind λb_15=>bif (decide ((b_15.toNat:Int)<32))then some true else (rO s_1 s_7).bind λb_18=>some ((b_18.toNat:Int)==127)).bind λv_13=>bif v_13 then some (.ret false)else some (.go (w64 (s_7+1)))else some (.brk s_7)
noncomputable def jZ (s_1:ByteArray):Option (Bool) :=
  (jF 0 (λs=>lH s_1 s)).bind λo_10=>thenC o_10 (λs_7=>((eP s_1).bind λr_23=>bif r_23 then (kw s_1 (⟨#[32]⟩:ByteArray)).bind λr_26=>bif (sEq r_26 s_1)then (strings_Contains s_1 (⟨#[32,32]⟩:ByteArray)).bind λr_29=>some (!r_29)else some false else some false).bind λv_21=>some v_21) (λr=>some r)
def eB (k_29:Nat) (x_31:Rect) (s_34:Unit):Option (Ctl (Unit) (Int)) :=
  (iO x_31).bind λr_40=>bif (r_40 != 0)then some (.ret r_40)else some (.go ())
noncomputable def fD (a_1:Alert):Option (Int) :=
  ((kit_IsKey a_1.Id).bind λr_5=>bif (!r_5)then some true else (kit_IsKey a_1.Sender).bind λr_8=>some (!r_8)).bind λv_3=>bif v_3 then some 5 else (bW a_1.Kind 1 3).bind λr_11=>bif r_11 then some 4 else (gG a_1).bind λr_14=>bif (r_14 != 0)then some r_14 else ((kg a_1.At).bind λr_19=>bif (!r_19)then some true else (bW a_1.Until (w64 (a_1.At+1)) (w64 (a_1.At+2592000000))).bind λr_22=>bif r_22 then some true else (bW a_1.Weight 1 9).bind λr_25=>some r_25).bind λv_17=>bif v_17 then some 1 else bif (decide ((a_1.Areas.length:Int)>20))then some 2 else (forL a_1.Areas () (λk x s=>eB k x s)).bind λo_37=>thenC o_37 (λs_34=>bif (!((a_1.Kind==3)==((a_1.Areas.length:Int)==0)))then some 3 else bif (decide ((a_1.Text.size:Int)>500))then some 2 else ((jZ a_1.Text).bind λr_47=>bif (!r_47)then some true else bif (sEq a_1.Text (⟨#[]⟩:ByteArray))then some (!(a_1.Kind==3))else some false).bind λv_45=>bif v_45 then some 3 else some 0) (λr=>some r)
def cmp_isNaN_int (x_1:Int):Option (Bool) :=
  some (x_1 != x_1)
def cmp_Compare_int (x_1:Int) (y_2:Int):Option (Int) :=
  (cmp_isNaN_int x_1).bind λr_3=>(cmp_isNaN_int y_2).bind λr_5=>bif r_3 then bif r_5 then some 0 else some (-1)else bif r_5 then some 1 else bif (decide (x_1<y_2))then some (-1)else bif (decide (x_1>y_2))then some 1 else some 0
def fG (a_1:ByteArray) (b_2:ByteArray):Option (Int) :=
  some (zG a_1 b_2)
def strings_Compare (a_1:ByteArray) (b_2:ByteArray):Option (Int) :=
  (fG a_1 b_2).bind λr_3=>some r_3
def mK (k_2:Nat) (x_4:Int) (s_7:Unit):Option (Ctl (Unit) (Int)) :=
  bif (x_4 != 0)then some (.ret x_4)else some (.go ())
def oK (vals_1:(List Int)):Option (Int) :=
  (forL vals_1 () (λk x s=>mK k x s)).bind λo_10=>thenC o_10 (λs_7=>some 0) (λr=>some r)
def fO (a_1:Alert) (b_2:Alert):Option (Int) :=
  (cmp_Compare_int a_1.At b_2.At).bind λr_5=>(strings_Compare a_1.Id b_2.Id).bind λr_7=>(oK ([r_5,r_7]:List Int)).bind λr_9=>some r_9
noncomputable def dz (l_1:(List Alert)) (k_3:Nat) (x_5:Alert) (s_8:Unit):Option (Ctl (Unit) (Int)) :=
  (fD x_5).bind λr_14=>bif (r_14 != 0)then some (.ret r_14)else (bif (decide ((k_3:Int)>0))then (idx l_1 (w64 ((k_3:Int)-1))).bind λy_20=>(fO y_20 x_5).bind λr_22=>some (decide (r_22>=0))else some false).bind λv_17=>bif v_17 then some (.ret 7)else some (.go ())
def bH (k_26:Nat) (x_28:Alert) (s_31:(List (ByteArray×Bool))):Option (Ctl ((List (ByteArray×Bool))) (Int)) :=
  bif ((jo eqS s_31 x_28.Id).getD false)then some (.ret 6)else some (.go (pg eqS s_31 x_28.Id true))
noncomputable def dJ (l_1:(List Alert)):Option (Int) :=
  bif (decide ((l_1.length:Int)>300))then some 2 else (forL l_1 () (λk x s=>dz l_1 k x s)).bind λo_11=>thenC o_11 (λs_8=>(forL l_1 ([]:List (ByteArray×Bool)) (λk x s=>bH k x s)).bind λo_34=>thenC o_34 (λs_31=>some 0) (λr=>some r)) (λr=>some r)
def bJ (n_1:Int):Option Bool :=
  bif (decide (n_1<0))then none else bif (decide ((w64 (n_1-(w64 (0-0))))>0))then (zN (w64 (n_1-(w64 (0-0)))) 128).bind λ_=>some true else some false
def aO (k_2:Nat) (x_4:(List Alert)) (s_7:Int):Option (Ctl (Int) (Unit)) :=
  (bif (decide ((w64 (s_7+(x_4.length:Int)))<0))then none else some ()).bind λv_12=>some (.go (w64 (s_7+(x_4.length:Int))))
def aN (k_18:Nat) (x_20:(List Alert)) (s_23:(List Alert)):Option (Ctl ((List Alert)) (Unit)) :=
  (oJ s_23 x_20).bind λa_30=>some (.go a_30)
def bK (slices_1:(List (List Alert))):Option ((List Alert)) :=
  (forL slices_1 0 (λk x s=>aO k x s)).bind λo_10=>thenC o_10 (λs_7=>(bJ s_7).bind λb_15=>(forL slices_1 ([]:List Alert) (λk x s=>aN k x s)).bind λo_28=>thenC o_28 (λs_23=>some s_23) (λ_=>none)) (λ_=>none)
def fo (s_1:(List ByteArray)):Option ((List ByteArray)) :=
  (oJ [] s_1).bind λa_4=>some a_4
def dU (s_1:(List Rect)):Option ((List Rect)) :=
  (oJ [] s_1).bind λa_4=>some a_4
def mW (a_1:Alert):Option (Alert) :=
  (fo a_1.Refs).bind λr_4=>(dU a_1.Areas).bind λr_6=>some (⟨a_1.Id,a_1.Sender,a_1.Kind,r_4,a_1.At,a_1.Until,a_1.Weight,r_6,a_1.Text⟩:Alert)
def bI (s2_2:(List ByteArray)) (k_4:Nat) (x_6:ByteArray) (s_9:Unit):Option (Ctl (Unit) (Bool)) :=
  (idx s2_2 (k_4:Int)).bind λy_14=>bif (sNe x_6 y_14)then some (.ret false)else some (.go ())
def dQ (s1_1:(List ByteArray)) (s2_2:(List ByteArray)):Option (Bool) :=
  bif ((s1_1.length:Int) != (s2_2.length:Int))then some false else (forL s1_1 () (λk x s=>bI s2_2 k x s)).bind λo_12=>thenC o_12 (λs_9=>some true) (λr=>some r)
def bu (s2_2:(List Rect)) (k_4:Nat) (x_6:Rect) (s_9:Unit):Option (Ctl (Unit) (Bool)) :=
  (idx s2_2 (k_4:Int)).bind λy_14=>bif (!((x_6.X==y_14.X)&&((x_6.Y==y_14.Y)&&((x_6.W==y_14.W)&&((x_6.H==y_14.H)&&true)))))then some (.ret false)else some (.go ())
def cB (s1_1:(List Rect)) (s2_2:(List Rect)):Option (Bool) :=
  bif ((s1_1.length:Int) != (s2_2.length:Int))then some false else (forL s1_1 () (λk x s=>bu s2_2 k x s)).bind λo_12=>thenC o_12 (λs_9=>some true) (λr=>some r)
def ow (a_1:Alert) (b_2:Alert):Option (Bool) :=
  (bif (sEq a_1.Id b_2.Id)then bif (sEq a_1.Sender b_2.Sender)then bif (a_1.Kind==b_2.Kind)then (dQ a_1.Refs b_2.Refs).bind λr_10=>bif r_10 then bif (a_1.At==b_2.At)then bif (a_1.Until==b_2.Until)then bif (a_1.Weight==b_2.Weight)then (cB a_1.Areas b_2.Areas).bind λr_16=>bif r_16 then some (sEq a_1.Text b_2.Text)else some false else some false else some false else some false else some false else some false else some false else some false).bind λv_5=>some v_5
def dh (a_2:Int) (s_21:(List Alert)×Int):Option (Ctl ((List Alert)×Int) (Unit)) :=
  (bif (decide (s_21.2>a_2))then (inR s_21.2 s_21.1).bind λ_=>(s_21.1[(0+(s_21.2).toNat)]?).bind λe_30=>(inR (w64 (s_21.2-1)) s_21.1).bind λ_=>(s_21.1[(0+((w64 (s_21.2-1))).toNat)]?).bind λe_33=>(fO e_30 e_33).bind λr_35=>some (decide (r_35<0))else some false).bind λv_26=>bif v_26 then (inR (w64 (s_21.2-1)) s_21.1).bind λ_=>(s_21.1[(0+((w64 (s_21.2-1))).toNat)]?).bind λe_39=>(inR s_21.2 s_21.1).bind λ_=>(s_21.1[(0+(s_21.2).toNat)]?).bind λe_42=>(inR s_21.2 s_21.1).bind λ_=>(s_21.1[(0+(s_21.2).toNat)]?).bind λe_45=>(inR (w64 (s_21.2-1)) (s_21.1.set (0+(s_21.2).toNat) e_39)).bind λ_=>((s_21.1.set (0+(s_21.2).toNat) e_39)[(0+((w64 (s_21.2-1))).toNat)]?).bind λe_48=>some (.go (((s_21.1.set (0+(s_21.2).toNat) e_39).set (0+((w64 (s_21.2-1))).toNat) e_42),(w64 (s_21.2-1))))else some (.brk (s_21.1,s_21.2))
noncomputable def dn (b_3:Int) (a_2:Int) (s_10:(List Alert)×Int):Option (Ctl ((List Alert)×Int) (Unit)) :=
  bif (decide (s_10.2<b_3))then (jF (s_10.1,s_10.2) (λs=>dh a_2 s)).bind λo_24=>thenC o_24 (λs_21=>some (.go (s_21.1,(w64 (s_10.2+1))))) (λ_=>none)else some (.brk (s_10.1,s_10.2))
noncomputable def dG (data_1:(List Alert)) (a_2:Int) (b_3:Int):Option ((List Alert)) :=
  (jF (data_1,(w64 (a_2+1))) (λs=>dn b_3 a_2 s)).bind λo_13=>thenC o_13 (λs_10=>some s_10.1) (λ_=>none)
noncomputable def dW (b_3:Int) (a_2:Int) (data_1:(List Alert)) (limit_4:Int) (s_11:Unit):Option (Ctl (Unit) ((List Alert))) :=
  bif (decide ((w64 (b_3-a_2))<=12))then (dG data_1 a_2 b_3).bind λr_17=>(jH r_17 data_1).bind λ_=>some (.ret r_17)else bif (limit_4==0)then none else none
noncomputable def eX (data_1:(List Alert)) (a_2:Int) (b_3:Int) (limit_4:Int):Option ((List Alert)) :=
  (jF () (λs=>dW b_3 a_2 data_1 limit_4 s)).bind λo_14=>thenC o_14 (λs_11=>some data_1) (λr=>some r)
noncomputable def bz (x_1:(List Alert)):Option ((List Alert)) :=
  (fK (IntKind.u64.wrap (x_1.length:Int))).bind λr_3=>(eX x_1 0 (x_1.length:Int) r_3).bind λr_5=>(jH r_5 x_1).bind λ_=>some r_5
noncomputable def fQ (a_1:(List Alert)) (b_2:(List Alert)) (k_3:Nat) (x_5:Nat) (s_8:Unit):Option (Ctl (Unit) ((List Alert)×Int)) :=
  (idx ([a_1,b_2]:List (List Alert)) (k_3:Int)).bind λy_13=>(dJ y_13).bind λr_15=>bif (r_15 != 0)then some (.ret (([]:(List Alert)),r_15))else some (.go ())
def ib (k_21:Nat) (x_23:Alert) (s_26:(List (ByteArray×Alert))×(List Alert)):Option (Ctl ((List (ByteArray×Alert))×(List Alert)) ((List Alert)×Int)) :=
  bif (!((jo eqS s_26.1 x_23.Id).isSome))then (mW x_23).bind λr_37=>(oJ s_26.2 ([r_37]:List Alert)).bind λa_39=>some (.go ((pg eqS s_26.1 x_23.Id x_23),a_39))else (ow ((jo eqS s_26.1 x_23.Id).getD (⟨(⟨#[]⟩:ByteArray),(⟨#[]⟩:ByteArray),0,([]:List ByteArray),0,0,0,([]:List Rect),(⟨#[]⟩:ByteArray)⟩:Alert)) x_23).bind λr_42=>bif (!r_42)then some (.ret (([]:(List Alert)),13))else some (.go (s_26.1,s_26.2))
noncomputable def jU (a_1:(List Alert)) (b_2:(List Alert)):Option ((List Alert)×Int) :=
  (forL (List.range (2:Int).toNat) () (λk x s=>fQ a_1 b_2 k x s)).bind λo_11=>thenC o_11 (λs_8=>(bK ([a_1,b_2]:List (List Alert))).bind λr_19=>(forL r_19 (([]:List (ByteArray×Alert)),([]:List Alert)) (λk x s=>ib k x s)).bind λo_32=>thenC o_32 (λs_26=>bif (decide ((s_26.2.length:Int)>300))then some (([]:(List Alert)),2)else (bz s_26.2).bind λr_46=>(jH r_46 s_26.2).bind λ_=>some (r_46,0)) (λr=>some r)) (λr=>some r)
def lN (n_1:Int) (low_2:Int) (high_3:Int):Option (Bool) :=
  (bif (decide (low_2<=n_1))then some (decide (n_1<=high_3))else some false).bind λv_4=>some v_4
def dZ (s_1:ByteArray) (c_2:Int):Option (Int) :=
  some (ixB s_1 c_2)
def strings_IndexByte (s_1:ByteArray) (c_2:Int):Option (Int) :=
  (dZ s_1 c_2).bind λr_3=>some r_3
def ll (s_1:ByteArray) (somev_2:ByteArray) (k_3:Nat) (x_5:Nat) (s_8:Unit):Option (Ctl (Unit) (Bool)) :=
  (rO s_1 (k_3:Int)).bind λb_13=>(strings_IndexByte somev_2 (b_13.toNat:Int)).bind λr_15=>bif (decide (r_15<0))then some (.ret false)else some (.go ())
def p9 (s_1:ByteArray) (somev_2:ByteArray):Option (Bool) :=
  (forL (List.range ((s_1.size:Int)).toNat) () (λk x s=>ll s_1 somev_2 k x s)).bind λo_11=>thenC o_11 (λs_8=>some true) (λr=>some r)
def qy (s_1:ByteArray):Option (Bool) :=
  ((lN (s_1.size:Int) 1 40).bind λr_4=>bif r_4 then (zF s_1 0 1).bind λy_7=>(p9 y_7 (⟨#[97,98,99,100,101,102,103,104,105,106,107,108,109,110,111,112,113,114,115,116,117,118,119,120,121,122]⟩:ByteArray)).bind λr_9=>bif r_9 then (p9 s_1 (⟨#[97,98,99,100,101,102,103,104,105,106,107,108,109,110,111,112,113,114,115,116,117,118,119,120,121,122,48,49,50,51,52,53,54,55,56,57,45,95]⟩:ByteArray)).bind λr_12=>some r_12 else some false else some false).bind λv_2=>some v_2
def nV (atv_1:Int):Option (Bool) :=
  (lN atv_1 0 345686399999).bind λr_2=>some r_2
def kQ (r_1:Rect):Option (Int) :=
  ((lN r_1.X (-100000) 100000).bind λr_5=>bif (!r_5)then some true else (lN r_1.Y (-100000) 100000).bind λr_8=>bif (!r_8)then some true else (lN r_1.W 1 (w64 (100000-r_1.X))).bind λr_11=>bif (!r_11)then some true else (lN r_1.H 1 (w64 (100000-r_1.Y))).bind λr_14=>some (!r_14)).bind λv_3=>bif v_3 then some 1 else some 0
def mY (r_1:Int):Option (Bool) :=
  (bif (decide (r_1<32))then some true else some (r_1==127)).bind λv_2=>some v_2
noncomputable def gZ (x:ByteArray):Option (Bool) :=
  nX (λa=>mY a) x
noncomputable def nT (s_1:ByteArray):Option (Bool) :=
  ((eP s_1).bind λr_4=>bif r_4 then (gZ s_1).bind λr_7=>bif (!r_7)then (kw s_1 (⟨#[32]⟩:ByteArray)).bind λr_10=>bif (sEq r_10 s_1)then (strings_Contains s_1 (⟨#[32,32]⟩:ByteArray)).bind λr_13=>some (!r_13)else some false else some false else some false).bind λv_2=>some v_2
def gy (a_1:Alert) (k_15:Nat) (x_17:ByteArray) (s_20:Unit):Option (Ctl (Unit) (Int)) :=
  (qy x_17).bind λr_25=>bif (!r_25)then some (.ret 5)else (bif (decide ((k_15:Int)>0))then (idx a_1.Refs (w64 ((k_15:Int)-1))).bind λy_31=>some (sLe x_17 y_31)else some false).bind λv_28=>bif v_28 then some (.ret 7)else bif (sEq x_17 a_1.Id)then some (.ret 14)else some (.go ())
def gq (k_48:Nat) (x_50:Rect) (s_53:Unit):Option (Ctl (Unit) (Int)) :=
  (kQ x_50).bind λr_59=>bif (r_59 != 0)then some (.ret r_59)else some (.go ())
noncomputable def jT (a_1:Alert):Option (Int) :=
  ((qy a_1.Id).bind λr_5=>bif (!r_5)then some true else (qy a_1.Sender).bind λr_8=>some (!r_8)).bind λv_3=>bif v_3 then some 5 else (lN a_1.Kind 1 3).bind λr_11=>bif (!r_11)then some 4 else bif (decide ((a_1.Refs.length:Int)>20))then some 2 else (forL a_1.Refs () (λk x s=>gy a_1 k x s)).bind λo_23=>thenC o_23 (λs_20=>bif (!((a_1.Kind==1)==((a_1.Refs.length:Int)==0)))then some 3 else ((nV a_1.At).bind λr_38=>bif (!r_38)then some true else (lN a_1.Until (w64 (a_1.At+1)) (w64 (a_1.At+2592000000))).bind λr_41=>bif (!r_41)then some true else (lN a_1.Weight 1 9).bind λr_44=>some (!r_44)).bind λv_36=>bif v_36 then some 1 else bif (decide ((a_1.Areas.length:Int)>20))then some 2 else (forL a_1.Areas () (λk x s=>gq k x s)).bind λo_56=>thenC o_56 (λs_53=>bif (!((a_1.Kind==3)==((a_1.Areas.length:Int)==0)))then some 3 else bif (decide ((a_1.Text.size:Int)>500))then some 2 else ((nT a_1.Text).bind λr_66=>bif (!r_66)then some true else bif (sEq a_1.Text (⟨#[]⟩:ByteArray))then some (a_1.Kind != 3)else some false).bind λv_64=>bif v_64 then some 3 else some 0) (λr=>some r)) (λr=>some r)
def ve (n_1:Int):Option (Int) :=
  bif (decide (n_1<0))then some (-1)else bif (decide (n_1>0))then some 1 else some 0
def fT (a_1:Alert) (b_2:Alert):Option (Int) :=
  bif (a_1.At != b_2.At)then (ve (w64 (a_1.At-b_2.At))).bind λr_6=>some r_6 else (strings_Compare a_1.Id b_2.Id).bind λr_8=>some r_8
noncomputable def fH (l_1:(List Alert)) (k_3:Nat) (x_5:Alert) (s_8:Unit):Option (Ctl (Unit) (Int)) :=
  (jT x_5).bind λr_14=>bif (r_14 != 0)then some (.ret r_14)else (bif (decide ((k_3:Int)>0))then (idx l_1 (w64 ((k_3:Int)-1))).bind λy_20=>(fT y_20 x_5).bind λr_22=>some (decide (r_22>=0))else some false).bind λv_17=>bif v_17 then some (.ret 7)else some (.go ())
def gX (k_26:Nat) (x_28:Alert) (s_31:(List (ByteArray×Bool))):Option (Ctl ((List (ByteArray×Bool))) (Unit)) :=
  some (.go (pg eqS s_31 x_28.Id true))
noncomputable def iA (l_1:(List Alert)):Option (Int) :=
  bif (decide ((l_1.length:Int)>300))then some 2 else (forL l_1 () (λk x s=>fH l_1 k x s)).bind λo_11=>thenC o_11 (λs_8=>(forL l_1 ([]:List (ByteArray×Bool)) (λk x s=>gX k x s)).bind λo_34=>thenC o_34 (λs_31=>bif (decide ((s_31.length:Int)<(l_1.length:Int)))then some 6 else some 0) (λ_=>none)) (λr=>some r)
def mM (k_2:Nat) (x_4:Int) (s_7:Unit):Option (Ctl (Unit) (Int)) :=
  bif (x_4 != 0)then some (.ret x_4)else some (.go ())
def rE (l_1:(List Int)):Option (Int) :=
  (forL l_1 () (λk x s=>mM k x s)).bind λo_10=>thenC o_10 (λs_7=>some 0) (λr=>some r)
def lQ (o_1:Alert) (p_2:Alert):Option (Bool) :=
  some (sEq o_1.Id p_2.Id)
def aU (s_1:(List Alert)) (f2_3:Alert) (k_4:Nat) (x_6:Nat) (s_9:Unit):Option (Ctl (Unit) (Int)) :=
  (inR (k_4:Int) s_1).bind λ_=>(s_1[(0+((k_4:Int)).toNat)]?).bind λe_15=>(lQ e_15 f2_3).bind λr_17=>bif r_17 then some (.ret (k_4:Int))else some (.go ())
def bf (s_1:(List Alert)) (f2_3:Alert):Option (Int) :=
  (forL (List.range ((s_1.length:Int)).toNat) () (λk x s=>aU s_1 f2_3 k x s)).bind λo_12=>thenC o_12 (λs_9=>some (-1)) (λr=>some r)
def lM  : Option ((List ByteArray)) :=
  some ([(⟨#[]⟩:ByteArray),(⟨#[110,101,119]⟩:ByteArray),(⟨#[117,112,100,97,116,101]⟩:ByteArray),(⟨#[99,97,110,99,101,108]⟩:ByteArray)]:List ByteArray)
def strconv_Itoa (x0:Int):Option (ByteArray) :=
  FY x0
def strings_Join (x0:(List ByteArray)) (x1:ByteArray):Option (ByteArray) :=
  FQ x0 x1
def iM (k_2:Nat) (x_4:Int) (s_7:(List ByteArray)):Option (Ctl ((List ByteArray)) (Unit)) :=
  (strconv_Itoa x_4).bind λr_15=>(oJ s_7 ([r_15]:List ByteArray)).bind λa_17=>some (.go a_17)
def jO (l_1:(List Int)):Option (ByteArray) :=
  (forL l_1 ([]:List ByteArray) (λk x s=>iM k x s)).bind λo_13=>thenC o_13 (λs_7=>(strings_Join s_7 (⟨#[32]⟩:ByteArray)).bind λr_20=>some r_20) (λ_=>none)
def gD (k_37:Nat) (x_39:ByteArray) (s_42:ByteArray):Option (Ctl (ByteArray) (Unit)) :=
  (kE (⟨#[114,101,102,32]⟩:ByteArray) x_39).bind λs_47=>(kE s_47 (⟨#[10]⟩:ByteArray)).bind λs_49=>(kE s_42 s_49).bind λs_51=>some (.go s_51)
def gz (k_53:Nat) (x_55:Rect) (s_58:ByteArray):Option (Ctl (ByteArray) (Unit)) :=
  (jO ([x_55.X,x_55.Y,x_55.W,x_55.H]:List Int)).bind λr_64=>(kE (⟨#[97,114,101,97,32]⟩:ByteArray) r_64).bind λs_66=>(kE s_66 (⟨#[10]⟩:ByteArray)).bind λs_68=>(kE s_58 s_68).bind λs_70=>some (.go s_70)
def iB (k_2:Nat) (x_4:Alert) (s_7:ByteArray):Option (Ctl (ByteArray) (Unit)) :=
  (kE (⟨#[97,108,101,114,116,32]⟩:ByteArray) x_4.Id).bind λs_13=>(kE s_13 (⟨#[32]⟩:ByteArray)).bind λs_15=>(kE s_15 x_4.Sender).bind λs_17=>(kE s_17 (⟨#[32]⟩:ByteArray)).bind λs_19=>(lM).bind λr_21=>(idx r_21 x_4.Kind).bind λy_23=>(kE s_19 y_23).bind λs_25=>(kE s_25 (⟨#[32]⟩:ByteArray)).bind λs_27=>(jO ([x_4.At,x_4.Until,x_4.Weight]:List Int)).bind λr_29=>(kE s_27 r_29).bind λs_31=>(kE s_31 (⟨#[10]⟩:ByteArray)).bind λs_33=>(kE s_7 s_33).bind λs_35=>(forL x_4.Refs s_35 (λk x s=>gD k x s)).bind λo_45=>thenC o_45 (λs_42=>(forL x_4.Areas s_42 (λk x s=>gz k x s)).bind λo_61=>thenC o_61 (λs_58=>(bif (sNe x_4.Text (⟨#[]⟩:ByteArray))then (kE (⟨#[116,101,120,116,32]⟩:ByteArray) x_4.Text).bind λs_75=>(kE s_75 (⟨#[10]⟩:ByteArray)).bind λs_77=>(kE s_58 s_77).bind λs_79=>some s_79 else some s_58).bind λv_72=>some (.go v_72)) (λ_=>none)) (λ_=>none)
def iL (l_1:(List Alert)):Option (ByteArray) :=
  (forL l_1 (⟨#[]⟩:ByteArray) (λk x s=>iB k x s)).bind λo_10=>thenC o_10 (λs_7=>some s_7) (λ_=>none)
def jA (a_1:Alert) (b_2:Alert):Option (Bool) :=
  (iL ([a_1]:List Alert)).bind λr_5=>(iL ([b_2]:List Alert)).bind λr_7=>some (sEq r_5 r_7)
def di (a_2:Int) (s_21:(List Alert)×Int):Option (Ctl ((List Alert)×Int) (Unit)) :=
  (bif (decide (s_21.2>a_2))then (inR s_21.2 s_21.1).bind λ_=>(s_21.1[(0+(s_21.2).toNat)]?).bind λe_30=>(inR (w64 (s_21.2-1)) s_21.1).bind λ_=>(s_21.1[(0+((w64 (s_21.2-1))).toNat)]?).bind λe_33=>(fT e_30 e_33).bind λr_35=>some (decide (r_35<0))else some false).bind λv_26=>bif v_26 then (inR (w64 (s_21.2-1)) s_21.1).bind λ_=>(s_21.1[(0+((w64 (s_21.2-1))).toNat)]?).bind λe_39=>(inR s_21.2 s_21.1).bind λ_=>(s_21.1[(0+(s_21.2).toNat)]?).bind λe_42=>(inR s_21.2 s_21.1).bind λ_=>(s_21.1[(0+(s_21.2).toNat)]?).bind λe_45=>(inR (w64 (s_21.2-1)) (s_21.1.set (0+(s_21.2).toNat) e_39)).bind λ_=>((s_21.1.set (0+(s_21.2).toNat) e_39)[(0+((w64 (s_21.2-1))).toNat)]?).bind λe_48=>some (.go (((s_21.1.set (0+(s_21.2).toNat) e_39).set (0+((w64 (s_21.2-1))).toNat) e_42),(w64 (s_21.2-1))))else some (.brk (s_21.1,s_21.2))
noncomputable def dw (b_3:Int) (a_2:Int) (s_10:(List Alert)×Int):Option (Ctl ((List Alert)×Int) (Unit)) :=
  bif (decide (s_10.2<b_3))then (jF (s_10.1,s_10.2) (λs=>di a_2 s)).bind λo_24=>thenC o_24 (λs_21=>some (.go (s_21.1,(w64 (s_10.2+1))))) (λ_=>none)else some (.brk (s_10.1,s_10.2))
noncomputable def dF (data_1:(List Alert)) (a_2:Int) (b_3:Int):Option ((List Alert)) :=
  (jF (data_1,(w64 (a_2+1))) (λs=>dw b_3 a_2 s)).bind λo_13=>thenC o_13 (λs_10=>some s_10.1) (λ_=>none)
noncomputable def dY (b_3:Int) (a_2:Int) (data_1:(List Alert)) (limit_4:Int) (s_11:Unit):Option (Ctl (Unit) ((List Alert))) :=
  bif (decide ((w64 (b_3-a_2))<=12))then (dF data_1 a_2 b_3).bind λr_17=>(jH r_17 data_1).bind λ_=>some (.ret r_17)else bif (limit_4==0)then none else none
noncomputable def eZ (data_1:(List Alert)) (a_2:Int) (b_3:Int) (limit_4:Int):Option ((List Alert)) :=
  (jF () (λs=>dY b_3 a_2 data_1 limit_4 s)).bind λo_14=>thenC o_14 (λs_11=>some data_1) (λr=>some r)
noncomputable def bA (x_1:(List Alert)):Option ((List Alert)) :=
  (fK (IntKind.u64.wrap (x_1.length:Int))).bind λr_3=>(eZ x_1 0 (x_1.length:Int) r_3).bind λr_5=>(jH r_5 x_1).bind λ_=>some r_5
def gJ (k_7:Nat) (x_9:Alert) (s_12:(List Alert)):Option (Ctl ((List Alert)) ((List Alert)×Int)) :=
  (bf s_12 x_9).bind λr_20=>bif (decide (r_20<0))then (oJ s_12 ([x_9]:List Alert)).bind λa_23=>some (.go a_23)else (inR r_20 s_12).bind λ_=>(s_12[(0+(r_20).toNat)]?).bind λe_27=>(jA e_27 x_9).bind λr_29=>bif (!r_29)then some (.ret (([]:(List Alert)),13))else some (.go s_12)
noncomputable def lJ (a_1:(List Alert)) (b_2:(List Alert)):Option ((List Alert)×Int) :=
  (aP a_1).bind λr_3=>(forL b_2 r_3 (λk x s=>gJ k x s)).bind λo_17=>thenC o_17 (λs_12=>(bA s_12).bind λr_32=>(jH r_32 s_12).bind λ_=>bif (decide ((r_32.length:Int)>300))then some (([]:(List Alert)),2)else some (r_32,0)) (λr=>some r)
def aL (s2_2:(List Alert)) (k_5:Nat) (x_7:Alert) (s_10:Unit):Option (Ctl (Unit) (Bool)) :=
  (idx s2_2 (k_5:Int)).bind λy_16=>(jA x_7 y_16).bind λr_19=>bif (!r_19)then some (.ret false)else some (.go ())
def aM (s1_1:(List Alert)) (s2_2:(List Alert)):Option (Bool) :=
  bif ((s1_1.length:Int) != (s2_2.length:Int))then some false else (forL s1_1 () (λk x s=>aL s2_2 k x s)).bind λo_13=>thenC o_13 (λs_10=>some true) (λr=>some r)
noncomputable def gM (l_1:(List Post)) (k_3:Nat) (x_5:Post) (s_8:Unit):Option (Ctl (Unit) (Int)) :=
  (kit_IsKey x_5.Player).bind λr_14=>bif (!r_14)then some (.ret 5)else ((bW x_5.X (-100000) 100000).bind λr_19=>bif r_19 then some true else (bW x_5.Y (-100000) 100000).bind λr_22=>some r_22).bind λv_17=>bif v_17 then some (.ret 1)else (bif (decide ((k_3:Int)>0))then (idx l_1 (w64 ((k_3:Int)-1))).bind λy_28=>some (sLe x_5.Player y_28.Player)else some false).bind λv_25=>bif v_25 then some (.ret 7)else some (.go ())
noncomputable def iQ (l_1:(List Post)):Option (Int) :=
  bif (decide ((l_1.length:Int)>500))then some 2 else (forL l_1 () (λk x s=>gM l_1 k x s)).bind λo_11=>thenC o_11 (λs_8=>some 0) (λr=>some r)
noncomputable def ji (l_1:(List Alert)) (posts_2:(List Post)):Option (Int) :=
  (dJ l_1).bind λr_3=>bif (r_3 != 0)then some r_3 else (iQ posts_2).bind λr_6=>some r_6
def nz (r_1:Rect) (p_2:Post):Option (Bool) :=
  (bif (decide (r_1.X<=p_2.X))then bif (decide (p_2.X<(w64 (r_1.X+r_1.W))))then bif (decide (r_1.Y<=p_2.Y))then some (decide (p_2.Y<(w64 (r_1.Y+r_1.H))))else some false else some false else some false).bind λv_4=>some v_4
def ed (f_2:Rect->Option Bool) (k_3:Nat) (x_5:Rect) (s_8:Unit):Option (Ctl (Unit) (Int)) :=
  (f_2 x_5).bind λr_13=>bif r_13 then some (.ret (k_3:Int))else some (.go ())
def eY (s_1:(List Rect)) (f_2:Rect->Option Bool):Option (Int) :=
  (forL s_1 () (λk x s=>ed f_2 k x s)).bind λo_11=>thenC o_11 (λs_8=>some (-1)) (λr=>some r)
def dX (s_1:(List Rect)) (f_2:Rect->Option Bool):Option (Bool) :=
  (eY s_1 f_2).bind λr_3=>some (decide (r_3>=0))
def mF (a_1:Alert) (p_2:Post):Option (Bool) :=
  (dX a_1.Areas (λx0=>nz x0 p_2)).bind λr_5=>some r_5
noncomputable def kP (a_1:Alert) (p_2:Post):Option (Bool×Int) :=
  (ji ([a_1]:List Alert) ([p_2]:List Post)).bind λr_5=>bif (r_5 != 0)then some (false,r_5)else (mF a_1 p_2).bind λr_8=>some (r_8,0)
noncomputable def mh  : Option (Bool) :=
  (kP (⟨(⟨#[97]⟩:ByteArray),(⟨#[115]⟩:ByteArray),1,([]:List ByteArray),0,5,1,([(⟨0,0,2,2⟩:Rect)]:List Rect),(⟨#[120]⟩:ByteArray)⟩:Alert) (⟨(⟨#[112]⟩:ByteArray),1,1⟩:Post)).bind λr_2=>(bif (r_2.2==0)then some r_2.1 else some false).bind λv_4=>some v_4
noncomputable def kT (l_1:(List Int)):Option (Bool) :=
  (gQ (⟨l_1,0⟩:Stream) 6).bind λr_3=>(gQ r_3.2 4).bind λr_6=>(bif (decide ((r_3.1.length:Int)>0))then (cz r_6.2 2).bind λr_12=>some (r_12.1,r_12.2.L,r_12.2.f_at)else some (false,r_6.2.L,r_6.2.f_at)).bind λv_9=>(bif v_9.1 then (bQ (⟨v_9.2.1,v_9.2.2⟩:Stream) (r_3.1.length:Int)).bind λr_20=>(uY r_3.1 r_20.1 r_3.1.length).bind λy_23=>(aP y_23).bind λr_25=>(cz r_20.2 4).bind λr_29=>bif r_29.1 then (bg r_29.2 1 9).bind λr_33=>(inR 0 r_25).bind λ_=>(r_25[(0+(0:Int).toNat)]?).bind λe_37=>some ((r_25.set (0+(0:Int).toNat) (⟨e_37.Id,e_37.Sender,e_37.Kind,e_37.Refs,e_37.At,e_37.Until,r_33.1,e_37.Areas,e_37.Text⟩:Alert)),r_33.2.L,r_33.2.f_at)else some (r_25,r_29.2.L,r_29.2.f_at)else some (r_6.1,v_9.2.1,v_9.2.2)).bind λv_17=>(jU r_3.1 v_17.1).bind λr_39=>(iA r_3.1).bind λr_41=>(dJ r_3.1).bind λr_43=>bif (r_43 != r_41)then some false else (iA v_17.1).bind λr_46=>(rE ([r_41,r_46]:List Int)).bind λr_48=>(bif (r_48==0)then (lJ r_3.1 v_17.1).bind λr_55=>some (r_55.2,r_55.1)else some (r_48,([]:List Alert))).bind λv_52=>(bif (r_39.2==v_52.1)then (aM r_39.1 v_52.2).bind λr_60=>bif r_60 then (mh).bind λr_63=>some r_63 else some false else some false).bind λv_57=>some v_57
end Go.Proofs.YtpmokglbipebcaaGreatDoor.Law

