/-
  The functions of the program, as plain functions over data (written by a program of ours).
-/
import Derived.Test.YtljhfffghjclfaaGreatDoorEng5
open Go Go.Eng
namespace Go.Proofs.YtljhfffghjclfaaGreatDoor.Law
set_option maxRecDepth 100000
set_option linter.unusedVariables false
set_option maxHeartbeats 1000000
structure Stream where
  L:(List Int)
  f_at:Int
def Stream.enc (s:Stream):List D:=[dl eI s.L,.int .i64 s.f_at]

structure Rect where
  X:Int
  Y:Int
  W:Int
  H:Int
def Rect.enc (s:Rect):List D:=[.int .i64 s.X,.int .i64 s.Y,.int .i64 s.W,.int .i64 s.H]
abbrev Rect.v (s:Rect):List V:=[(vI s.X),(vI s.Y),(vI s.W),(vI s.H)]

structure Alert where
  Id:ByteArray
  Sender:ByteArray
  Kind:Int
  Refs:(List ByteArray)
  At:Int
  Until:Int
  Weight:Int
  Areas:(List Rect)
  Text:ByteArray
def Alert.enc (s:Alert):List D:=[.str s.Id,.str s.Sender,.int .i64 s.Kind,dl eS s.Refs,.int .i64 s.At,.int .i64 s.Until,.int .i64 s.Weight,dl Rect.enc s.Areas,.str s.Text]
abbrev Alert.v (s:Alert):List V:=[(vS s.Id),(vS s.Sender),(vI s.Kind),(vL eS s.Refs),(vI s.At),(vI s.Until),(vI s.Weight),(vL Rect.enc s.Areas),(vS s.Text)]

structure AlertReader where
  f_l:(List Alert)
  f_rank:Int
def AlertReader.enc (s:AlertReader):List D:=[dl Alert.enc s.f_l,.int .i64 s.f_rank]

structure Post where
  Player:ByteArray
  X:Int
  Y:Int
def Post.enc (s:Post):List D:=[.str s.Player,.int .i64 s.X,.int .i64 s.Y]
abbrev Post.v (s:Post):List V:=[(vS s.Player),(vI s.X),(vI s.Y)]

def Alert.encN (s:Alert):List D:=[.str s.Id,.str s.Sender,.int .i64 s.Kind,.nils,.int .i64 s.At,.int .i64 s.Until,.int .i64 s.Weight,.nils,.str s.Text]

def Alert.al:AlK where
  A:=Alert
  R1:=ByteArray
  R2:=Rect
  enc:=Alert.enc
  encN:=Alert.encN
  lc:=λu v s=>[(vS s.Id),(vS s.Sender),(vI s.Kind),u,(vI s.At),(vI s.Until),(vI s.Weight),v,(vS s.Text)]
  f1:=Alert.Refs
  f2:=Alert.Areas
  e1:=eS
  e2:=Rect.enc
  sz:=9
  s1:=1
  s2:=4
  len:=λ_=>rfl
  lenN:=λ_=>rfl
  lcd:=λ_=>rfl
  lcl:=λ_ _ _=>rfl
  ren:=λ_ _ _ _=>rfl
  ok:=λk u v _ h1 h2=>by simp [okL,okV,h1,h2]
  co:=λ_ _ _ _=>rfl
  nild:=λ_ _ _=>(.same _ (.same _ (.same _ (.nils (.same _ (.same _ (.same _ (.nils (.same _ .nil)))))))))
  sz1:=by decide
  sz2:=by decide

def pV (x_1:Int) (n_2:Int):Option (Int) :=
  bif (decide (n_2<1))then some 0 else (JV .i64 x_1 n_2).bind λq_4=>(bif (decide (q_4<0))then some (w64 (q_4+n_2))else some q_4).bind λv_6=>some v_6
def bW (s_1:Stream) (n_2:Int):Option (Int×Stream) :=
  bif ((s_1.L.length:Int)==0)then (pV (w64 ((w64 (s_1.f_at+1))*7919)) n_2).bind λr_4=>some (r_4,(⟨s_1.L,(w64 (s_1.f_at+1))⟩:Stream))else (JV .i64 (w64 ((w64 (s_1.f_at+1))-1)) (s_1.L.length:Int)).bind λq_6=>(quoO .i64 (w64 ((w64 (s_1.f_at+1))-1)) (s_1.L.length:Int)).bind λq_8=>(idx s_1.L q_6).bind λy_10=>(pV y_10 1073741824).bind λr_12=>(pV (w64 (r_12+(w64 (q_8*(w64 (7919+q_6)))))) n_2).bind λr_14=>some (r_14,(⟨s_1.L,(w64 (s_1.f_at+1))⟩:Stream))
def bT (s_1:Stream) (low_2:Int) (high_3:Int):Option (Int×Stream) :=
  bif (decide (high_3<low_2))then some (low_2,s_1)else (bW s_1 (w64 ((w64 (high_3-low_2))+1))).bind λr_5=>some ((w64 (low_2+r_5.1)),r_5.2)
def dJ (s_1:Stream) (l_2:(List ByteArray)):Option (ByteArray×Stream) :=
  (bW s_1 (l_2.length:Int)).bind λr_3=>(idx l_2 r_3.1).bind λy_6=>some (y_6,r_3.2)
def dQ (s_1:Stream) (l_2:(List Int)):Option (Int×Stream) :=
  (bW s_1 (l_2.length:Int)).bind λr_3=>(idx l_2 r_3.1).bind λy_6=>some (y_6,r_3.2)
def eU (s_1:Stream) (n_2:Int):Option (Bool×Stream) :=
  (bW s_1 n_2).bind λr_3=>some ((r_3.1==0),r_3.2)
def dA (s_1:Stream):Option (Rect×Stream) :=
  (bT s_1 (-2) 8).bind λr_3=>(bT r_3.2 (-2) 8).bind λr_6=>(bT r_6.2 1 5).bind λr_9=>(bT r_9.2 1 5).bind λr_12=>some ((⟨r_3.1,r_6.1,r_9.1,r_12.1⟩:Rect),r_12.2)
def jL (a_1:Alert) (b_2:Alert):Option (Int) :=
  bif (a_1.At != b_2.At)then some (w64 (a_1.At-b_2.At))else bif (sLt a_1.Id b_2.Id)then some (-1)else some 1
def oq (x_1:Int):Option (Int) :=
  (bif (decide (x_1>=4294967296))then (Mj .u64 x_1 32).bind λq_5=>some (q_5,32)else some (x_1,0)).bind λv_2=>(bif (decide (v_2.1>=65536))then (Mj .u64 v_2.1 16).bind λq_10=>some (q_10,(w64 (v_2.2+16)))else some (v_2.1,v_2.2)).bind λv_7=>(bif (decide (v_7.1>=256))then (Mj .u64 v_7.1 8).bind λq_15=>some (q_15,(w64 (v_7.2+8)))else some (v_7.1,v_7.2)).bind λv_12=>(tJ (⟨#[0,1,2,2,3,3,3,3,4,4,4,4,4,4,4,4,5,5,5,5,5,5,5,5,5,5,5,5,5,5,5,5,6,6,6,6,6,6,6,6,6,6,6,6,6,6,6,6,6,6,6,6,6,6,6,6,6,6,6,6,6,6,6,6,7,7,7,7,7,7,7,7,7,7,7,7,7,7,7,7,7,7,7,7,7,7,7,7,7,7,7,7,7,7,7,7,7,7,7,7,7,7,7,7,7,7,7,7,7,7,7,7,7,7,7,7,7,7,7,7,7,7,7,7,7,7,7,7,8,8,8,8,8,8,8,8,8,8,8,8,8,8,8,8,8,8,8,8,8,8,8,8,8,8,8,8,8,8,8,8,8,8,8,8,8,8,8,8,8,8,8,8,8,8,8,8,8,8,8,8,8,8,8,8,8,8,8,8,8,8,8,8,8,8,8,8,8,8,8,8,8,8,8,8,8,8,8,8,8,8,8,8,8,8,8,8,8,8,8,8,8,8,8,8,8,8,8,8,8,8,8,8,8,8,8,8,8,8,8,8,8,8,8,8,8,8,8,8,8,8,8,8,8,8,8,8]⟩:ByteArray) (IntKind.u8.wrap v_12.1)).bind λb_17=>some (w64 (v_12.2+(w64 (b_17.toNat:Int))))
def jP (x_1:Int):Option (Int) :=
  (oq x_1).bind λr_2=>some r_2
def dG (a_2:Int) (s_21:(List Alert)×Int):Option (Ctl ((List Alert)×Int) (Unit)) :=
  (bif (decide (s_21.2>a_2))then (inR s_21.2 s_21.1).bind λ_=>(s_21.1[(0+(s_21.2).toNat)]?).bind λe_30=>(inR (w64 (s_21.2-1)) s_21.1).bind λ_=>(s_21.1[(0+((w64 (s_21.2-1))).toNat)]?).bind λe_33=>(jL e_30 e_33).bind λr_35=>some (decide (r_35<0))else some false).bind λv_26=>bif v_26 then (inR (w64 (s_21.2-1)) s_21.1).bind λ_=>(s_21.1[(0+((w64 (s_21.2-1))).toNat)]?).bind λe_39=>(inR s_21.2 s_21.1).bind λ_=>(s_21.1[(0+(s_21.2).toNat)]?).bind λe_42=>(inR s_21.2 s_21.1).bind λ_=>(s_21.1[(0+(s_21.2).toNat)]?).bind λe_45=>(inR (w64 (s_21.2-1)) (s_21.1.set (0+(s_21.2).toNat) e_39)).bind λ_=>((s_21.1.set (0+(s_21.2).toNat) e_39)[(0+((w64 (s_21.2-1))).toNat)]?).bind λe_48=>some (.go (((s_21.1.set (0+(s_21.2).toNat) e_39).set (0+((w64 (s_21.2-1))).toNat) e_42),(w64 (s_21.2-1))))else some (.brk (s_21.1,s_21.2))
noncomputable def dF (b_3:Int) (a_2:Int) (s_10:(List Alert)×Int):Option (Ctl ((List Alert)×Int) (Unit)) :=
  bif (decide (s_10.2<b_3))then (l8 (s_10.1,s_10.2) (λs=>dG a_2 s)).bind λo_24=>thenC o_24 (λs_21=>some (.go (s_21.1,(w64 (s_10.2+1))))) (λ_=>none)else some (.brk (s_10.1,s_10.2))
noncomputable def dM (data_1:(List Alert)) (a_2:Int) (b_3:Int):Option ((List Alert)) :=
  (l8 (data_1,(w64 (a_2+1))) (λs=>dF b_3 a_2 s)).bind λo_13=>thenC o_13 (λs_10=>some s_10.1) (λ_=>none)
noncomputable def d9 (b_3:Int) (a_2:Int) (data_1:(List Alert)) (limit_4:Int) (s_11:Unit):Option (Ctl (Unit) ((List Alert))) :=
  bif (decide ((w64 (b_3-a_2))<=12))then (dM data_1 a_2 b_3).bind λr_17=>(qR r_17 data_1).bind λ_=>some (.ret r_17)else bif (limit_4==0)then none else none
noncomputable def eY (data_1:(List Alert)) (a_2:Int) (b_3:Int) (limit_4:Int):Option ((List Alert)) :=
  (l8 () (λs=>d9 b_3 a_2 data_1 limit_4 s)).bind λo_14=>thenC o_14 (λs_11=>some data_1) (λr=>some r)
noncomputable def bE (x_1:(List Alert)):Option ((List Alert)) :=
  (jP (IntKind.u64.wrap (x_1.length:Int))).bind λr_3=>(eY x_1 0 (x_1.length:Int) r_3).bind λr_5=>(qR r_5 x_1).bind λ_=>some r_5
def bC (x_10:ByteArray) (k_45:Nat) (x_47:ByteArray) (s_50:(List ByteArray)×(List Int)×Int):Option (Ctl ((List ByteArray)×(List Int)×Int) (Unit)) :=
  (bif (sNe x_47 x_10)then (eU (⟨s_50.2.1,s_50.2.2⟩:Stream) 3).bind λr_61=>some (r_61.1,r_61.2.L,r_61.2.f_at)else some (false,s_50.2.1,s_50.2.2)).bind λv_58=>(bif v_58.1 then (kM s_50.1 ([x_47]:List ByteArray)).bind λa_68=>some a_68 else some s_50.1).bind λv_64=>some (.go (v_64,v_58.2.1,v_58.2.2))
def bA (k_85:Nat) (x_87:Nat) (s_90:(List Rect)×(List Int)×Int):Option (Ctl ((List Rect)×(List Int)×Int) (Unit)) :=
  (dA (⟨s_90.2.1,s_90.2.2⟩:Stream)).bind λr_97=>(kM s_90.1 ([r_97.1]:List Rect)).bind λa_100=>some (.go (a_100,r_97.2.L,r_97.2.f_at))
def bR (k_8:Nat) (x_10:ByteArray) (s_13:(List Alert)×(List Int)×Int):Option (Ctl ((List Alert)×(List Int)×Int) (Unit)) :=
  (dJ (⟨s_13.2.1,s_13.2.2⟩:Stream) ([(⟨#[119,120]⟩:ByteArray),(⟨#[119,120]⟩:ByteArray),(⟨#[102,105,114,101]⟩:ByteArray)]:List ByteArray)).bind λr_21=>(dQ r_21.2 ([1,1,2,2,3]:List Int)).bind λr_24=>(bT r_24.2 0 6).bind λr_27=>(dQ r_27.2 ([1,5,5,9]:List Int)).bind λr_30=>(dJ r_30.2 ([(⟨#[102,108,111,111,100]⟩:ByteArray),(⟨#[102,105,114,101,32,105,110,32,116,104,101,32,109,97,108,108]⟩:ByteArray)]:List ByteArray)).bind λr_33=>(dQ r_33.2 ([1,10,20,50]:List Int)).bind λr_37=>(bif (r_24.1 != 1)then (forL ([(⟨#[97,97]⟩:ByteArray),(⟨#[97,98]⟩:ByteArray),(⟨#[97,99]⟩:ByteArray),(⟨#[97,100]⟩:ByteArray),(⟨#[122,122]⟩:ByteArray)]:List ByteArray) (([]:List ByteArray),r_37.2.L,r_37.2.f_at) (λk x s=>bC x_10 k x s)).bind λo_56=>thenC o_56 (λs_50=>bif ((s_50.1.length:Int)==0)then some (s_50.2.1,s_50.2.2,([(⟨#[122,121]⟩:ByteArray)]:List ByteArray))else some (s_50.2.1,s_50.2.2,s_50.1)) (λ_=>none)else some (r_37.2.L,r_37.2.f_at,([]:List ByteArray))).bind λv_42=>(bif (r_24.1==3)then (dJ (⟨v_42.1,v_42.2.1⟩:Stream) ([(⟨#[]⟩:ByteArray),(⟨#[111,118,101,114]⟩:ByteArray)]:List ByteArray)).bind λr_79=>some (([]:List Rect),r_79.2.L,r_79.2.f_at,r_79.1)else (bT (⟨v_42.1,v_42.2.1⟩:Stream) 1 2).bind λr_82=>(forL (List.range (r_82.1).toNat) (([]:List Rect),r_82.2.L,r_82.2.f_at) (λk x s=>bA k x s)).bind λo_95=>thenC o_95 (λs_90=>some (s_90.1,s_90.2.1,s_90.2.2,r_33.1)) (λ_=>none)).bind λv_75=>(kM s_13.1 ([(⟨x_10,r_21.1,r_24.1,v_42.2.2,(w64 (r_27.1*5)),(w64 ((w64 (r_27.1*5))+r_37.1)),r_30.1,v_75.1,v_75.2.2.2⟩:Alert)]:List Alert)).bind λa_103=>some (.go (a_103,v_75.2.1,v_75.2.2.1))
noncomputable def bX (s_1:Stream) (most_2:Int):Option ((List Alert)×Stream) :=
  (bT s_1 0 most_2).bind λr_3=>(pu ([(⟨#[97,97]⟩:ByteArray),(⟨#[97,98]⟩:ByteArray),(⟨#[97,99]⟩:ByteArray),(⟨#[97,100]⟩:ByteArray),(⟨#[97,101]⟩:ByteArray),(⟨#[97,102]⟩:ByteArray)]:List ByteArray) 0 r_3.1).bind λy_6=>(forL y_6 (([]:List Alert),r_3.2.L,r_3.2.f_at) (λk x s=>bR k x s)).bind λo_19=>thenC o_19 (λs_13=>(bE s_13.1).bind λr_106=>(qR r_106 s_13.1).bind λ_=>some (r_106,(⟨s_13.2.1,s_13.2.2⟩:Stream))) (λ_=>none)
def dL (s_1:Stream) (low_2:Int) (high_3:Int):Option (Int×Stream) :=
  (eU s_1 12).bind λr_4=>bif r_4.1 then (dQ r_4.2 ([(w64 (low_2-1)),(w64 (high_3+1)),low_2,high_3,(-1099511627776),1099511627776]:List Int)).bind λr_8=>some (r_8.1,r_8.2)else (bT r_4.2 low_2 high_3).bind λr_11=>some (r_11.1,r_11.2)
def ko (s_1:Stream):Option (Rect×Stream) :=
  (dA s_1).bind λr_3=>(eU r_3.2 20).bind λr_7=>(bif r_7.1 then (bW r_7.2 3).bind λr_13=>bif (r_13.1==0)then (dL r_13.2 (-100000) 99999).bind λr_17=>some (r_17.2.L,r_17.2.f_at,r_17.1,r_3.1.Y,r_3.1.W,r_3.1.H)else bif (r_13.1==1)then (dL r_13.2 1 200000).bind λr_21=>(dL r_21.2 1 5).bind λr_24=>some (r_24.2.L,r_24.2.f_at,r_3.1.X,r_3.1.Y,r_21.1,r_24.1)else (dQ r_13.2 ([(-100000),99999]:List Int)).bind λr_27=>(dQ r_27.2 ([1,2,200000]:List Int)).bind λr_30=>some (r_30.2.L,r_30.2.f_at,r_3.1.X,r_27.1,r_3.1.W,r_30.1)else some (r_7.2.L,r_7.2.f_at,r_3.1.X,r_3.1.Y,r_3.1.W,r_3.1.H)).bind λv_10=>some ((⟨v_10.2.2.1,v_10.2.2.2.1,v_10.2.2.2.2.1,v_10.2.2.2.2.2⟩:Rect),(⟨v_10.1,v_10.2.1⟩:Stream))
def iL (k_6:Nat) (x_8:Nat) (s_11:(List Rect)×(List Int)×Int):Option (Ctl ((List Rect)×(List Int)×Int) (Unit)) :=
  (dA (⟨s_11.2.1,s_11.2.2⟩:Stream)).bind λr_19=>(eU r_19.2 60).bind λr_23=>(bif r_23.1 then (ko r_23.2).bind λr_29=>some (r_29.2.L,r_29.2.f_at,r_29.1.X,r_29.1.Y,r_29.1.W,r_29.1.H)else some (r_23.2.L,r_23.2.f_at,r_19.1.X,r_19.1.Y,r_19.1.W,r_19.1.H)).bind λv_26=>(kM s_11.1 ([(⟨v_26.2.2.1,v_26.2.2.2.1,v_26.2.2.2.2.1,v_26.2.2.2.2.2⟩:Rect)]:List Rect)).bind λa_32=>some (.go (a_32,v_26.1,v_26.2.1))
def jH (s_1:Stream) (most_2:Int):Option ((List Rect)×Stream) :=
  (bT s_1 0 most_2).bind λr_3=>(forL (List.range (r_3.1).toNat) (([]:List Rect),r_3.2.L,r_3.2.f_at) (λk x s=>iL k x s)).bind λo_17=>thenC o_17 (λs_11=>some (s_11.1,(⟨s_11.2.1,s_11.2.2⟩:Stream))) (λ_=>none)
noncomputable def jf (s_1:Stream) (most_2:Int):Option ((List Alert)×Stream) :=
  (bX s_1 most_2).bind λr_3=>(bif (decide ((r_3.1.length:Int)>0))then (eU r_3.2 10).bind λr_10=>some (r_10.1,r_10.2.L,r_10.2.f_at)else some (false,r_3.2.L,r_3.2.f_at)).bind λv_7=>(bif v_7.1 then (bW (⟨v_7.2.1,v_7.2.2⟩:Stream) (r_3.1.length:Int)).bind λr_16=>(inR r_16.1 r_3.1).bind λ_=>(bW r_16.2 6).bind λr_20=>bif (r_20.1==0)then (r_3.1[(0+(r_16.1).toNat)]?).bind λe_24=>(dJ r_20.2 ([e_24.Id,(⟨#[]⟩:ByteArray),(⟨#[97,97]⟩:ByteArray)]:List ByteArray)).bind λr_26=>(dJ r_26.2 ([(⟨#[119,120]⟩:ByteArray),(⟨#[65]⟩:ByteArray)]:List ByteArray)).bind λr_29=>(r_3.1[(0+(r_16.1).toNat)]?).bind λe_32=>((r_3.1.set (0+(r_16.1).toNat) (⟨r_26.1,e_32.Sender,e_32.Kind,e_32.Refs,e_32.At,e_32.Until,e_32.Weight,e_32.Areas,e_32.Text⟩:Alert))[(0+(r_16.1).toNat)]?).bind λe_34=>some (((r_3.1.set (0+(r_16.1).toNat) (⟨r_26.1,e_32.Sender,e_32.Kind,e_32.Refs,e_32.At,e_32.Until,e_32.Weight,e_32.Areas,e_32.Text⟩:Alert)).set (0+(r_16.1).toNat) (⟨e_34.Id,r_29.1,e_34.Kind,e_34.Refs,e_34.At,e_34.Until,e_34.Weight,e_34.Areas,e_34.Text⟩:Alert)),r_29.2.L,r_29.2.f_at)else bif (r_20.1==1)then (dL r_20.2 1 3).bind λr_37=>(r_3.1[(0+(r_16.1).toNat)]?).bind λe_40=>some ((r_3.1.set (0+(r_16.1).toNat) (⟨e_40.Id,e_40.Sender,r_37.1,e_40.Refs,e_40.At,e_40.Until,e_40.Weight,e_40.Areas,e_40.Text⟩:Alert)),r_37.2.L,r_37.2.f_at)else bif (r_20.1==2)then (r_3.1[(0+(r_16.1).toNat)]?).bind λe_43=>(bW r_20.2 5).bind λr_45=>(idx ([([]:List ByteArray),([(⟨#[97,98]⟩:ByteArray),(⟨#[97,97]⟩:ByteArray)]:List ByteArray),([e_43.Id]:List ByteArray),([(⟨#[65]⟩:ByteArray)]:List ByteArray),([(⟨#[97,97]⟩:ByteArray),(⟨#[122,122]⟩:ByteArray)]:List ByteArray)]:List (List ByteArray)) r_45.1).bind λy_48=>(r_3.1[(0+(r_16.1).toNat)]?).bind λe_50=>some ((r_3.1.set (0+(r_16.1).toNat) (⟨e_50.Id,e_50.Sender,e_50.Kind,y_48,e_50.At,e_50.Until,e_50.Weight,e_50.Areas,e_50.Text⟩:Alert)),r_45.2.L,r_45.2.f_at)else bif (r_20.1==3)then (dL r_20.2 0 30).bind λr_53=>(dL r_53.2 0 60).bind λr_56=>(r_3.1[(0+(r_16.1).toNat)]?).bind λe_59=>((r_3.1.set (0+(r_16.1).toNat) (⟨e_59.Id,e_59.Sender,e_59.Kind,e_59.Refs,r_53.1,e_59.Until,e_59.Weight,e_59.Areas,e_59.Text⟩:Alert))[(0+(r_16.1).toNat)]?).bind λe_61=>some (((r_3.1.set (0+(r_16.1).toNat) (⟨e_59.Id,e_59.Sender,e_59.Kind,e_59.Refs,r_53.1,e_59.Until,e_59.Weight,e_59.Areas,e_59.Text⟩:Alert)).set (0+(r_16.1).toNat) (⟨e_61.Id,e_61.Sender,e_61.Kind,e_61.Refs,e_61.At,r_56.1,e_61.Weight,e_61.Areas,e_61.Text⟩:Alert)),r_56.2.L,r_56.2.f_at)else bif (r_20.1==4)then (jH r_20.2 2).bind λr_64=>(dL r_64.2 1 9).bind λr_67=>(r_3.1[(0+(r_16.1).toNat)]?).bind λe_70=>((r_3.1.set (0+(r_16.1).toNat) (⟨e_70.Id,e_70.Sender,e_70.Kind,e_70.Refs,e_70.At,e_70.Until,e_70.Weight,r_64.1,e_70.Text⟩:Alert))[(0+(r_16.1).toNat)]?).bind λe_72=>some (((r_3.1.set (0+(r_16.1).toNat) (⟨e_70.Id,e_70.Sender,e_70.Kind,e_70.Refs,e_70.At,e_70.Until,e_70.Weight,r_64.1,e_70.Text⟩:Alert)).set (0+(r_16.1).toNat) (⟨e_72.Id,e_72.Sender,e_72.Kind,e_72.Refs,e_72.At,e_72.Until,r_67.1,e_72.Areas,e_72.Text⟩:Alert)),r_67.2.L,r_67.2.f_at)else (dJ r_20.2 ([(⟨#[]⟩:ByteArray),(⟨#[32,120]⟩:ByteArray),(⟨#[97,32,32,98]⟩:ByteArray),(⟨#[10]⟩:ByteArray),(⟨#[255]⟩:ByteArray)]:List ByteArray)).bind λr_74=>(r_3.1[(0+(r_16.1).toNat)]?).bind λe_77=>some ((r_3.1.set (0+(r_16.1).toNat) (⟨e_77.Id,e_77.Sender,e_77.Kind,e_77.Refs,e_77.At,e_77.Until,e_77.Weight,e_77.Areas,r_74.1⟩:Alert)),r_74.2.L,r_74.2.f_at)else some (r_3.1,v_7.2.1,v_7.2.2)).bind λv_13=>some (v_13.1,(⟨v_13.2.1,v_13.2.2⟩:Stream))
def iG  : Option ((List ByteArray)) :=
  some ([(⟨#[]⟩:ByteArray),(⟨#[110,101,119]⟩:ByteArray),(⟨#[117,112,100,97,116,101]⟩:ByteArray),(⟨#[99,97,110,99,101,108]⟩:ByteArray)]:List ByteArray)
def strconv_Itoa (x0:Int):Option (ByteArray) :=
  JH x0
def strings_Join (x0:(List ByteArray)) (x1:ByteArray):Option (ByteArray) :=
  I1 x0 x1
def jm (k_2:Nat) (x_4:Int) (s_7:(List ByteArray)):Option (Ctl ((List ByteArray)) (Unit)) :=
  (strconv_Itoa x_4).bind λr_15=>(kM s_7 ([r_15]:List ByteArray)).bind λa_17=>some (.go a_17)
def kG (l_1:(List Int)):Option (ByteArray) :=
  (forL l_1 ([]:List ByteArray) (λk x s=>jm k x s)).bind λo_13=>thenC o_13 (λs_7=>(strings_Join s_7 (⟨#[32]⟩:ByteArray)).bind λr_20=>some r_20) (λ_=>none)
def gL (k_37:Nat) (x_39:ByteArray) (s_42:ByteArray):Option (Ctl (ByteArray) (Unit)) :=
  (eH (⟨#[114,101,102,32]⟩:ByteArray) x_39).bind λs_47=>(eH s_47 (⟨#[10]⟩:ByteArray)).bind λs_49=>(eH s_42 s_49).bind λs_51=>some (.go s_51)
def gJ (k_53:Nat) (x_55:Rect) (s_58:ByteArray):Option (Ctl (ByteArray) (Unit)) :=
  (kG ([x_55.X,x_55.Y,x_55.W,x_55.H]:List Int)).bind λr_64=>(eH (⟨#[97,114,101,97,32]⟩:ByteArray) r_64).bind λs_66=>(eH s_66 (⟨#[10]⟩:ByteArray)).bind λs_68=>(eH s_58 s_68).bind λs_70=>some (.go s_70)
def gH (k_2:Nat) (x_4:Alert) (s_7:ByteArray):Option (Ctl (ByteArray) (Unit)) :=
  (eH (⟨#[97,108,101,114,116,32]⟩:ByteArray) x_4.Id).bind λs_13=>(eH s_13 (⟨#[32]⟩:ByteArray)).bind λs_15=>(eH s_15 x_4.Sender).bind λs_17=>(eH s_17 (⟨#[32]⟩:ByteArray)).bind λs_19=>(iG).bind λr_21=>(idx r_21 x_4.Kind).bind λy_23=>(eH s_19 y_23).bind λs_25=>(eH s_25 (⟨#[32]⟩:ByteArray)).bind λs_27=>(kG ([x_4.At,x_4.Until,x_4.Weight]:List Int)).bind λr_29=>(eH s_27 r_29).bind λs_31=>(eH s_31 (⟨#[10]⟩:ByteArray)).bind λs_33=>(eH s_7 s_33).bind λs_35=>(forL x_4.Refs s_35 (λk x s=>gL k x s)).bind λo_45=>thenC o_45 (λs_42=>(forL x_4.Areas s_42 (λk x s=>gJ k x s)).bind λo_61=>thenC o_61 (λs_58=>(bif (sNe x_4.Text (⟨#[]⟩:ByteArray))then (eH (⟨#[116,101,120,116,32]⟩:ByteArray) x_4.Text).bind λs_75=>(eH s_75 (⟨#[10]⟩:ByteArray)).bind λs_77=>(eH s_58 s_77).bind λs_79=>some s_79 else some s_58).bind λv_72=>some (.go v_72)) (λ_=>none)) (λ_=>none)
def fF (l_1:(List Alert)):Option (ByteArray) :=
  (forL l_1 (⟨#[]⟩:ByteArray) (λk x s=>gH k x s)).bind λo_10=>thenC o_10 (λs_7=>some s_7) (λ_=>none)
def gD (s_1:Stream) (t_2:ByteArray) (withv_3:ByteArray):Option (ByteArray×Stream) :=
  (bif (sEq t_2 (⟨#[]⟩:ByteArray))then some true else some (sEq withv_3 (⟨#[]⟩:ByteArray))).bind λv_4=>bif v_4 then some (withv_3,s_1)else (bW s_1 (t_2.size:Int)).bind λr_8=>(bW r_8.2 (withv_3.size:Int)).bind λr_11=>(tJ withv_3 r_11.1).bind λb_14=>(bW r_11.2 3).bind λr_16=>bif (r_16.1==0)then (mU t_2 0 r_8.1).bind λy_20=>(eH y_20 (Utf8.encode (IntKind.i32.wrap (b_14.toNat:Int)))).bind λs_22=>(mU t_2 (w64 (r_8.1+1)) t_2.size).bind λy_24=>(eH s_22 y_24).bind λs_26=>some (s_26,r_16.2)else bif (r_16.1==1)then (mU t_2 0 r_8.1).bind λy_29=>(eH y_29 (Utf8.encode (IntKind.i32.wrap (b_14.toNat:Int)))).bind λs_31=>(mU t_2 r_8.1 t_2.size).bind λy_33=>(eH s_31 y_33).bind λs_35=>some (s_35,r_16.2)else (mU t_2 0 r_8.1).bind λy_37=>(mU t_2 (w64 (r_8.1+1)) t_2.size).bind λy_39=>(eH y_37 y_39).bind λs_41=>some (s_41,r_16.2)
def fw (k_10:Nat) (x_12:Nat) (s_15:ByteArray×(List Int)×Int):Option (Ctl (ByteArray×(List Int)×Int) (Unit)) :=
  (gD (⟨s_15.2.1,s_15.2.2⟩:Stream) s_15.1 (⟨#[32,10,48,45,57,97,116,114]⟩:ByteArray)).bind λr_20=>some (.go (r_20.1,r_20.2.L,r_20.2.f_at))
noncomputable def gZ (s_1:Stream):Option (ByteArray×Stream) :=
  (bX s_1 3).bind λr_2=>(fF r_2.1).bind λr_5=>(dQ r_2.2 ([0,0,1,2]:List Int)).bind λr_7=>(forL (List.range (r_7.1).toNat) (r_5,r_7.2.L,r_7.2.f_at) (λk x s=>fw k x s)).bind λo_18=>thenC o_18 (λs_15=>(eU (⟨s_15.2.1,s_15.2.2⟩:Stream) 12).bind λr_23=>(bif r_23.1 then (dJ r_23.2 ([(⟨#[116,101,120,116,32,120,10]⟩:ByteArray),(⟨#[114,101,102,32,122,122,10]⟩:ByteArray),(⟨#[97,114,101,97,32,48,32,48,32,49,32,49,10]⟩:ByteArray),(⟨#[116,101,120,116,32,10]⟩:ByteArray),(⟨#[116,101,120,116,32,32,120,10]⟩:ByteArray)]:List ByteArray)).bind λr_29=>(eH s_15.1 r_29.1).bind λs_32=>some (s_32,r_29.2.L,r_29.2.f_at)else some (s_15.1,r_23.2.L,r_23.2.f_at)).bind λv_26=>some (v_26.1,(⟨v_26.2.1,v_26.2.2⟩:Stream))) (λ_=>none)
def iX (s_1:ByteArray) (s_7:Int):Option (Ctl (Int) (Bool)) :=
  bif (decide (s_7<(s_1.size:Int)))then (tJ s_1 s_7).bind λb_13=>(bif (decide ((b_13.toNat:Int)>=97))then bif (decide ((b_13.toNat:Int)<=122))then some false else bif (decide (s_7>0))then bif (decide ((b_13.toNat:Int)>=48))then bif (decide ((b_13.toNat:Int)<=57))then some false else bif ((b_13.toNat:Int)==45)then some false else some (!((b_13.toNat:Int)==95))else bif ((b_13.toNat:Int)==45)then some false else some (!((b_13.toNat:Int)==95))else some true else bif (decide (s_7>0))then bif (decide ((b_13.toNat:Int)>=48))then bif (decide ((b_13.toNat:Int)<=57))then some false else bif ((b_13.toNat:Int)==45)then some false else some (!((b_13.toNat:Int)==95))else bif ((b_13.toNat:Int)==45)then some false else some (!((b_13.toNat:Int)==95))else some true).bind λv_15=>bif v_15 then some (.ret false)else some (.go (w64 (s_7+1)))else some (.brk s_7)
noncomputable def kit_IsKey (s_1:ByteArray):Option (Bool) :=
  (l8 0 (λs=>iX s_1 s)).bind λo_10=>thenC o_10 (λs_7=>(bif (sNe s_1 (⟨#[]⟩:ByteArray))then some (decide ((s_1.size:Int)<=40))else some false).bind λv_30=>some v_30) (λr=>some r)
def dx (n_1:Int) (low_2:Int) (high_3:Int):Option (Bool) :=
  (bif (decide (n_1<low_2))then some true else some (decide (n_1>high_3))).bind λv_4=>some v_4
noncomputable def dS (a_1:Alert) (k_4:Nat) (x_6:ByteArray) (s_9:Unit):Option (Ctl (Unit) (Int)) :=
  (kit_IsKey x_6).bind λr_14=>bif (!r_14)then some (.ret 5)else (bif (decide ((k_4:Int)>0))then (idx a_1.Refs (w64 ((k_4:Int)-1))).bind λy_20=>some (sLe x_6 y_20)else some false).bind λv_17=>bif v_17 then some (.ret 7)else bif (sEq x_6 a_1.Id)then some (.ret 14)else some (.go ())
noncomputable def gP (a_1:Alert):Option (Int) :=
  bif (decide ((a_1.Refs.length:Int)>20))then some 2 else (forL a_1.Refs () (λk x s=>dS a_1 k x s)).bind λo_12=>thenC o_12 (λs_9=>bif (!((a_1.Kind==1)==((a_1.Refs.length:Int)==0)))then some 3 else some 0) (λr=>some r)
def kT (n_1:Int):Option (Bool) :=
  (bif (decide (n_1>=0))then some (decide (n_1<345686400000))else some false).bind λv_2=>some v_2
def jv (r_1:Rect):Option (Int) :=
  ((dx r_1.X (-100000) 100000).bind λr_5=>bif r_5 then some true else (dx r_1.Y (-100000) 100000).bind λr_8=>some r_8).bind λv_3=>bif v_3 then some 1 else ((dx r_1.W 1 (w64 (100000-r_1.X))).bind λr_13=>bif r_13 then some true else (dx r_1.H 1 (w64 (100000-r_1.Y))).bind λr_16=>some r_16).bind λv_11=>bif v_11 then some 1 else some 0
def dK (x0:ByteArray):Option (Bool) :=
  wR x0
def mF (x0:ByteArray) (x1:ByteArray):Option (ByteArray) :=
  Av x0 x1
def strings_Contains (x0:ByteArray) (x1:ByteArray):Option (Bool) :=
  qP x0 x1
def eQ (s_1:ByteArray) (s_7:Int):Option (Ctl (Int) (Bool)) :=
  bif (decide (s_7<(s_1.size:Int)))then ((tJ s_1 s_7).bind λb_15=>bif (decide ((b_15.toNat:Int)<32))then some true else (tJ s_1 s_7).bind λb_18=>some ((b_18.toNat:Int)==127)).bind λv_13=>bif v_13 then some (.ret false)else some (.go (w64 (s_7+1)))else some (.brk s_7)
noncomputable def kit_IsPlain (s_1:ByteArray):Option (Bool) :=
  (l8 0 (λs=>eQ s_1 s)).bind λo_10=>thenC o_10 (λs_7=>((dK s_1).bind λr_23=>bif r_23 then (mF s_1 (⟨#[32]⟩:ByteArray)).bind λr_26=>bif (sEq r_26 s_1)then (strings_Contains s_1 (⟨#[32,32]⟩:ByteArray)).bind λr_29=>some (!r_29)else some false else some false).bind λv_21=>some v_21) (λr=>some r)
def eB (k_29:Nat) (x_31:Rect) (s_34:Unit):Option (Ctl (Unit) (Int)) :=
  (jv x_31).bind λr_40=>bif (r_40 != 0)then some (.ret r_40)else some (.go ())
noncomputable def fV (a_1:Alert):Option (Int) :=
  ((kit_IsKey a_1.Id).bind λr_5=>bif (!r_5)then some true else (kit_IsKey a_1.Sender).bind λr_8=>some (!r_8)).bind λv_3=>bif v_3 then some 5 else (dx a_1.Kind 1 3).bind λr_11=>bif r_11 then some 4 else (gP a_1).bind λr_14=>bif (r_14 != 0)then some r_14 else ((kT a_1.At).bind λr_19=>bif (!r_19)then some true else (dx a_1.Until (w64 (a_1.At+1)) (w64 (a_1.At+2592000000))).bind λr_22=>bif r_22 then some true else (dx a_1.Weight 1 9).bind λr_25=>some r_25).bind λv_17=>bif v_17 then some 1 else bif (decide ((a_1.Areas.length:Int)>20))then some 2 else (forL a_1.Areas () (λk x s=>eB k x s)).bind λo_37=>thenC o_37 (λs_34=>bif (!((a_1.Kind==3)==((a_1.Areas.length:Int)==0)))then some 3 else bif (decide ((a_1.Text.size:Int)>500))then some 2 else ((kit_IsPlain a_1.Text).bind λr_47=>bif (!r_47)then some true else bif (sEq a_1.Text (⟨#[]⟩:ByteArray))then some (!(a_1.Kind==3))else some false).bind λv_45=>bif v_45 then some 3 else some 0) (λr=>some r)
def cmp_isNaN_int (x_1:Int):Option (Bool) :=
  some (x_1 != x_1)
def cmp_Compare_int (x_1:Int) (y_2:Int):Option (Int) :=
  (cmp_isNaN_int x_1).bind λr_3=>(cmp_isNaN_int y_2).bind λr_5=>bif r_3 then bif r_5 then some 0 else some (-1)else bif r_5 then some 1 else bif (decide (x_1<y_2))then some (-1)else bif (decide (x_1>y_2))then some 1 else some 0
def fT (a_1:ByteArray) (b_2:ByteArray):Option (Int) :=
  some (zZ a_1 b_2)
def strings_Compare (a_1:ByteArray) (b_2:ByteArray):Option (Int) :=
  (fT a_1 b_2).bind λr_3=>some r_3
def nK (k_2:Nat) (x_4:Int) (s_7:Unit):Option (Ctl (Unit) (Int)) :=
  bif (x_4 != 0)then some (.ret x_4)else some (.go ())
def pF (vals_1:(List Int)):Option (Int) :=
  (forL vals_1 () (λk x s=>nK k x s)).bind λo_10=>thenC o_10 (λs_7=>some 0) (λr=>some r)
def je (a_1:Alert) (b_2:Alert):Option (Int) :=
  (cmp_Compare_int a_1.At b_2.At).bind λr_5=>(strings_Compare a_1.Id b_2.Id).bind λr_7=>(pF ([r_5,r_7]:List Int)).bind λr_9=>some r_9
noncomputable def dH (l_1:(List Alert)) (k_3:Nat) (x_5:Alert) (s_8:Unit):Option (Ctl (Unit) (Int)) :=
  (fV x_5).bind λr_14=>bif (r_14 != 0)then some (.ret r_14)else (bif (decide ((k_3:Int)>0))then (idx l_1 (w64 ((k_3:Int)-1))).bind λy_20=>(je y_20 x_5).bind λr_22=>some (decide (r_22>=0))else some false).bind λv_17=>bif v_17 then some (.ret 7)else some (.go ())
def bP (k_26:Nat) (x_28:Alert) (s_31:(List (ByteArray×Bool))):Option (Ctl ((List (ByteArray×Bool))) (Int)) :=
  bif ((eX eqS s_31 x_28.Id).getD false)then some (.ret 6)else some (.go (aO eqS s_31 x_28.Id true))
noncomputable def bS (l_1:(List Alert)):Option (Int) :=
  bif (decide ((l_1.length:Int)>300))then some 2 else (forL l_1 () (λk x s=>dH l_1 k x s)).bind λo_11=>thenC o_11 (λs_8=>(forL l_1 ([]:List (ByteArray×Bool)) (λk x s=>bP k x s)).bind λo_34=>thenC o_34 (λs_31=>some 0) (λr=>some r)) (λr=>some r)
def gQ  : Option ((List ByteArray)) :=
  some ([(⟨#[]⟩:ByteArray),(⟨#[110,101,119]⟩:ByteArray),(⟨#[117,112,100,97,116,101]⟩:ByteArray),(⟨#[99,97,110,99,101,108]⟩:ByteArray)]:List ByteArray)
def jg (k_3:Nat) (x_5:Int) (s_8:ByteArray):Option (Ctl (ByteArray) (Unit)) :=
  (strconv_Itoa x_5).bind λr_13=>(eH (⟨#[32]⟩:ByteArray) r_13).bind λs_15=>(eH s_8 s_15).bind λs_17=>some (.go s_17)
def kr (first_1:ByteArray) (numbers_2:(List Int)):Option (ByteArray) :=
  (forL numbers_2 first_1 (λk x s=>jg k x s)).bind λo_11=>thenC o_11 (λs_8=>(eH s_8 (⟨#[10]⟩:ByteArray)).bind λs_19=>some s_19) (λ_=>none)
def jN (k_39:Nat) (x_41:ByteArray) (s_44:(List Int)):Option (Ctl ((List Int)) (Unit)) :=
  (eH (⟨#[114,101,102,32]⟩:ByteArray) x_41).bind λs_51=>(eH s_51 (⟨#[10]⟩:ByteArray)).bind λs_53=>(Ec s_44 s_53).bind λa_55=>some (.go a_55)
def jQ (k_58:Nat) (x_60:Rect) (s_63:(List Int)):Option (Ctl ((List Int)) (Unit)) :=
  (kr (⟨#[97,114,101,97]⟩:ByteArray) ([x_60.X,x_60.Y,x_60.W,x_60.H]:List Int)).bind λr_71=>(Ec s_63 r_71).bind λa_73=>some (.go a_73)
def jO (k_7:Nat) (x_9:Alert) (s_12:(List Int)):Option (Ctl ((List Int)) (Unit)) :=
  (eH (⟨#[97,108,101,114,116,32]⟩:ByteArray) x_9.Id).bind λs_20=>(eH s_20 (⟨#[32]⟩:ByteArray)).bind λs_22=>(eH s_22 x_9.Sender).bind λs_24=>(eH s_24 (⟨#[32]⟩:ByteArray)).bind λs_26=>(gQ).bind λr_28=>(idx r_28 x_9.Kind).bind λy_30=>(eH s_26 y_30).bind λs_32=>(kr s_32 ([x_9.At,x_9.Until,x_9.Weight]:List Int)).bind λr_34=>(Ec s_12 r_34).bind λa_36=>(forL x_9.Refs a_36 (λk x s=>jN k x s)).bind λo_49=>thenC o_49 (λs_44=>(forL x_9.Areas s_44 (λk x s=>jQ k x s)).bind λo_68=>thenC o_68 (λs_63=>(bif (sNe x_9.Text (⟨#[]⟩:ByteArray))then (eH (⟨#[116,101,120,116,32]⟩:ByteArray) x_9.Text).bind λs_80=>(eH s_80 (⟨#[10]⟩:ByteArray)).bind λs_82=>(Ec s_63 s_82).bind λa_84=>some a_84 else some s_63).bind λv_76=>some (.go v_76)) (λ_=>none)) (λ_=>none)
noncomputable def lI (l_1:(List Alert)):Option (ByteArray×Int) :=
  (bS l_1).bind λr_2=>bif (r_2 != 0)then some ((⟨#[]⟩:ByteArray),r_2)else (forL l_1 ([]:List Int) (λk x s=>jO k x s)).bind λo_17=>thenC o_17 (λs_12=>bif (decide ((s_12.length:Int)>200000))then some ((⟨#[]⟩:ByteArray),2)else (yE s_12).bind λs_88=>some (s_88,0)) (λ_=>none)
def mI (n_1:Int) (low_2:Int) (high_3:Int):Option (Bool) :=
  (bif (decide (low_2<=n_1))then some (decide (n_1<=high_3))else some false).bind λv_4=>some v_4
def dB (s_1:ByteArray) (c_2:Int):Option (Int) :=
  some (ixB s_1 c_2)
def strings_IndexByte (s_1:ByteArray) (c_2:Int):Option (Int) :=
  (dB s_1 c_2).bind λr_3=>some r_3
def l6 (s_1:ByteArray) (somev_2:ByteArray) (k_3:Nat) (x_5:Nat) (s_8:Unit):Option (Ctl (Unit) (Bool)) :=
  (tJ s_1 (k_3:Int)).bind λb_13=>(strings_IndexByte somev_2 (b_13.toNat:Int)).bind λr_15=>bif (decide (r_15<0))then some (.ret false)else some (.go ())
def nQ (s_1:ByteArray) (somev_2:ByteArray):Option (Bool) :=
  (forL (List.range ((s_1.size:Int)).toNat) () (λk x s=>l6 s_1 somev_2 k x s)).bind λo_11=>thenC o_11 (λs_8=>some true) (λr=>some r)
def sF (s_1:ByteArray):Option (Bool) :=
  ((mI (s_1.size:Int) 1 40).bind λr_4=>bif r_4 then (mU s_1 0 1).bind λy_7=>(nQ y_7 (⟨#[97,98,99,100,101,102,103,104,105,106,107,108,109,110,111,112,113,114,115,116,117,118,119,120,121,122]⟩:ByteArray)).bind λr_9=>bif r_9 then (nQ s_1 (⟨#[97,98,99,100,101,102,103,104,105,106,107,108,109,110,111,112,113,114,115,116,117,118,119,120,121,122,48,49,50,51,52,53,54,55,56,57,45,95]⟩:ByteArray)).bind λr_12=>some r_12 else some false else some false).bind λv_2=>some v_2
def oQ (atv_1:Int):Option (Bool) :=
  (mI atv_1 0 345686399999).bind λr_2=>some r_2
def lm (r_1:Rect):Option (Int) :=
  ((mI r_1.X (-100000) 100000).bind λr_5=>bif (!r_5)then some true else (mI r_1.Y (-100000) 100000).bind λr_8=>bif (!r_8)then some true else (mI r_1.W 1 (w64 (100000-r_1.X))).bind λr_11=>bif (!r_11)then some true else (mI r_1.H 1 (w64 (100000-r_1.Y))).bind λr_14=>some (!r_14)).bind λv_3=>bif v_3 then some 1 else some 0
def nN (r_1:Int):Option (Bool) :=
  (bif (decide (r_1<32))then some true else some (r_1==127)).bind λv_2=>some v_2
noncomputable def fP (x:ByteArray):Option (Bool) :=
  o8 (λa=>nN a) x
noncomputable def ref_Plain (s_1:ByteArray):Option (Bool) :=
  ((dK s_1).bind λr_4=>bif r_4 then (fP s_1).bind λr_7=>bif (!r_7)then (mF s_1 (⟨#[32]⟩:ByteArray)).bind λr_10=>bif (sEq r_10 s_1)then (strings_Contains s_1 (⟨#[32,32]⟩:ByteArray)).bind λr_13=>some (!r_13)else some false else some false else some false).bind λv_2=>some v_2
def gK (a_1:Alert) (k_15:Nat) (x_17:ByteArray) (s_20:Unit):Option (Ctl (Unit) (Int)) :=
  (sF x_17).bind λr_25=>bif (!r_25)then some (.ret 5)else (bif (decide ((k_15:Int)>0))then (idx a_1.Refs (w64 ((k_15:Int)-1))).bind λy_31=>some (sLe x_17 y_31)else some false).bind λv_28=>bif v_28 then some (.ret 7)else bif (sEq x_17 a_1.Id)then some (.ret 14)else some (.go ())
def gM (k_48:Nat) (x_50:Rect) (s_53:Unit):Option (Ctl (Unit) (Int)) :=
  (lm x_50).bind λr_59=>bif (r_59 != 0)then some (.ret r_59)else some (.go ())
noncomputable def kz (a_1:Alert):Option (Int) :=
  ((sF a_1.Id).bind λr_5=>bif (!r_5)then some true else (sF a_1.Sender).bind λr_8=>some (!r_8)).bind λv_3=>bif v_3 then some 5 else (mI a_1.Kind 1 3).bind λr_11=>bif (!r_11)then some 4 else bif (decide ((a_1.Refs.length:Int)>20))then some 2 else (forL a_1.Refs () (λk x s=>gK a_1 k x s)).bind λo_23=>thenC o_23 (λs_20=>bif (!((a_1.Kind==1)==((a_1.Refs.length:Int)==0)))then some 3 else ((oQ a_1.At).bind λr_38=>bif (!r_38)then some true else (mI a_1.Until (w64 (a_1.At+1)) (w64 (a_1.At+2592000000))).bind λr_41=>bif (!r_41)then some true else (mI a_1.Weight 1 9).bind λr_44=>some (!r_44)).bind λv_36=>bif v_36 then some 1 else bif (decide ((a_1.Areas.length:Int)>20))then some 2 else (forL a_1.Areas () (λk x s=>gM k x s)).bind λo_56=>thenC o_56 (λs_53=>bif (!((a_1.Kind==3)==((a_1.Areas.length:Int)==0)))then some 3 else bif (decide ((a_1.Text.size:Int)>500))then some 2 else ((ref_Plain a_1.Text).bind λr_66=>bif (!r_66)then some true else bif (sEq a_1.Text (⟨#[]⟩:ByteArray))then some (a_1.Kind != 3)else some false).bind λv_64=>bif v_64 then some 3 else some 0) (λr=>some r)) (λr=>some r)
def xe (n_1:Int):Option (Int) :=
  bif (decide (n_1<0))then some (-1)else bif (decide (n_1>0))then some 1 else some 0
def jr (a_1:Alert) (b_2:Alert):Option (Int) :=
  bif (a_1.At != b_2.At)then (xe (w64 (a_1.At-b_2.At))).bind λr_6=>some r_6 else (strings_Compare a_1.Id b_2.Id).bind λr_8=>some r_8
noncomputable def fZ (l_1:(List Alert)) (k_3:Nat) (x_5:Alert) (s_8:Unit):Option (Ctl (Unit) (Int)) :=
  (kz x_5).bind λr_14=>bif (r_14 != 0)then some (.ret r_14)else (bif (decide ((k_3:Int)>0))then (idx l_1 (w64 ((k_3:Int)-1))).bind λy_20=>(jr y_20 x_5).bind λr_22=>some (decide (r_22>=0))else some false).bind λv_17=>bif v_17 then some (.ret 7)else some (.go ())
def iJ (k_26:Nat) (x_28:Alert) (s_31:(List (ByteArray×Bool))):Option (Ctl ((List (ByteArray×Bool))) (Unit)) :=
  some (.go (aO eqS s_31 x_28.Id true))
noncomputable def gU (l_1:(List Alert)):Option (Int) :=
  bif (decide ((l_1.length:Int)>300))then some 2 else (forL l_1 () (λk x s=>fZ l_1 k x s)).bind λo_11=>thenC o_11 (λs_8=>(forL l_1 ([]:List (ByteArray×Bool)) (λk x s=>iJ k x s)).bind λo_34=>thenC o_34 (λs_31=>bif (decide ((s_31.length:Int)<(l_1.length:Int)))then some 6 else some 0) (λ_=>none)) (λr=>some r)
def strings_Split (x0:ByteArray) (x1:ByteArray):Option ((List ByteArray)) :=
  BN x0 x1
def uU (s_1:ByteArray):Option ((List ByteArray)×Bool) :=
  (strings_Split s_1 (⟨#[10]⟩:ByteArray)).bind λr_2=>(idx r_2 (w64 ((r_2.length:Int)-1))).bind λy_4=>bif (sEq y_4 (⟨#[]⟩:ByteArray))then (pu r_2 0 (w64 ((r_2.length:Int)-1))).bind λy_7=>some (y_7,true)else some (r_2,false)
def bz (s_1:ByteArray) (prefixv_2:ByteArray):Option (Bool) :=
  (bif (decide ((s_1.size:Int)>=(prefixv_2.size:Int)))then (mU s_1 0 (prefixv_2.size:Int)).bind λy_6=>some (sEq y_6 prefixv_2)else some false).bind λv_3=>some v_3
def eu (s_1:ByteArray) (prefixv_2:ByteArray):Option (ByteArray×Bool) :=
  (bz s_1 prefixv_2).bind λr_3=>bif (!r_3)then some (s_1,false)else (mU s_1 (prefixv_2.size:Int) s_1.size).bind λy_6=>some (y_6,true)
def strings_CutPrefix (s_1:ByteArray) (prefixv_2:ByteArray):Option (ByteArray×Bool) :=
  (eu s_1 prefixv_2).bind λr_3=>some (r_3.1,r_3.2)
def bZ (v_2:ByteArray) (k_3:Nat) (x_5:ByteArray) (s_8:Unit):Option (Ctl (Unit) (Int)) :=
  bif (sEq v_2 x_5)then some (.ret (k_3:Int))else some (.go ())
def bg (s_1:(List ByteArray)) (v_2:ByteArray):Option (Int) :=
  (forL s_1 () (λk x s=>bZ v_2 k x s)).bind λo_11=>thenC o_11 (λs_8=>some (-1)) (λr=>some r)
def cz (s_1:(List ByteArray)) (v_2:ByteArray):Option (Bool) :=
  (bg s_1 v_2).bind λr_3=>some (decide (r_3>=0))
def lZ (s_1:ByteArray):Option ((List ByteArray)×Bool) :=
  (strings_Split s_1 (⟨#[32]⟩:ByteArray)).bind λr_2=>(cz r_2 (⟨#[]⟩:ByteArray)).bind λr_4=>some (r_2,(!r_4))
def dw (s_1:ByteArray) (prefixv_2:ByteArray):Option (ByteArray) :=
  (bz s_1 prefixv_2).bind λr_3=>bif r_3 then (mU s_1 (prefixv_2.size:Int) s_1.size).bind λy_6=>some y_6 else some s_1
def strings_TrimPrefix (s_1:ByteArray) (prefixv_2:ByteArray):Option (ByteArray) :=
  (dw s_1 prefixv_2).bind λr_3=>some r_3
def strconv_Atoi (x0:ByteArray):Option (Int) :=
  GX x0
def gu (r_3:ByteArray) (s_18:Int):Option (Ctl (Int) (Int×Bool)) :=
  bif (decide (s_18<(r_3.size:Int)))then ((tJ r_3 s_18).bind λb_26=>bif (decide ((b_26.toNat:Int)<48))then some true else (tJ r_3 s_18).bind λb_29=>some (decide ((b_29.toNat:Int)>57))).bind λv_24=>bif v_24 then some (.ret (0,false))else some (.go (w64 (s_18+1)))else some (.brk s_18)
noncomputable def pM (s_1:ByteArray) (most_2:Int):Option (Int×Bool) :=
  (strings_TrimPrefix s_1 (⟨#[45]⟩:ByteArray)).bind λr_3=>(bif (sEq r_3 (⟨#[]⟩:ByteArray))then some true else bif (decide ((r_3.size:Int)>most_2))then some true else (tJ r_3 0).bind λb_9=>bif ((b_9.toNat:Int)==48)then some (sNe s_1 (⟨#[48]⟩:ByteArray))else some false).bind λv_5=>bif v_5 then some (0,false)else (l8 0 (λs=>gu r_3 s)).bind λo_21=>thenC o_21 (λs_18=>(strconv_Atoi s_1).bind λr_32=>some (r_32,true)) (λr=>some r)
noncomputable def fo (k_2:Nat) (x_4:ByteArray) (s_7:(List Int)):Option (Ctl ((List Int)) ((List Int)×Bool)) :=
  (pM x_4 15).bind λr_15=>bif (!r_15.2)then some (.ret (([]:(List Int)),false))else (kM s_7 ([r_15.1]:List Int)).bind λa_18=>some (.go a_18)
noncomputable def iw (l_1:(List ByteArray)):Option ((List Int)×Bool) :=
  (forL l_1 ([]:List Int) (λk x s=>fo k x s)).bind λo_13=>thenC o_13 (λs_7=>some (s_7,true)) (λr=>some r)
noncomputable def alert_readLine (l_1:(List Alert)) (line_2:ByteArray):Option ((List Alert)×Bool) :=
  (strings_CutPrefix line_2 (⟨#[116,101,120,116,32]⟩:ByteArray)).bind λr_3=>bif r_3.2 then (bif ((l_1.length:Int)==0)then some true else bif (sEq r_3.1 (⟨#[]⟩:ByteArray))then some true else (inR (w64 ((l_1.length:Int)-1)) l_1).bind λ_=>(iM l_1 (w64 ((l_1.length:Int)-1))).bind λe_11=>some (sNe e_11.Text (⟨#[]⟩:ByteArray))).bind λv_6=>bif v_6 then some (l_1,false)else (inR (w64 ((l_1.length:Int)-1)) l_1).bind λ_=>(iM l_1 (w64 ((l_1.length:Int)-1))).bind λe_15=>some ((setLast l_1 (⟨e_15.Id,e_15.Sender,e_15.Kind,e_15.Refs,e_15.At,e_15.Until,e_15.Weight,e_15.Areas,r_3.1⟩:Alert)),true)else (lZ line_2).bind λr_17=>bif (!r_17.2)then some (l_1,false)else ((idx r_17.1 0).bind λy_22=>bif (sEq y_22 (⟨#[97,108,101,114,116]⟩:ByteArray))then some ((r_17.1.length:Int)==7)else some false).bind λv_20=>bif v_20 then (gQ).bind λr_26=>(idx r_17.1 3).bind λy_28=>(bg r_26 y_28).bind λr_30=>(pu r_17.1 4 r_17.1.length).bind λy_32=>(iw y_32).bind λr_34=>(bif (!r_34.2)then some true else some (decide (r_30<1))).bind λv_36=>bif v_36 then some (l_1,false)else (idx r_17.1 1).bind λy_40=>(idx r_17.1 2).bind λy_42=>(idx r_34.1 0).bind λy_44=>(idx r_34.1 1).bind λy_46=>(idx r_34.1 2).bind λy_48=>(kM l_1 [(⟨y_40,y_42,r_30,[],y_44,y_46,y_48,[],(⟨#[]⟩:ByteArray)⟩:Alert)]).bind λa_50=>some (a_50,true)else (bif ((l_1.length:Int)==0)then some true else (inR (w64 ((l_1.length:Int)-1)) l_1).bind λ_=>(iM l_1 (w64 ((l_1.length:Int)-1))).bind λe_57=>some (sNe e_57.Text (⟨#[]⟩:ByteArray))).bind λv_53=>bif v_53 then some (l_1,false)else (inR (w64 ((l_1.length:Int)-1)) l_1).bind λ_=>((idx r_17.1 0).bind λy_63=>bif (sEq y_63 (⟨#[114,101,102]⟩:ByteArray))then bif ((r_17.1.length:Int)==2)then (iM l_1 (w64 ((l_1.length:Int)-1))).bind λe_67=>some (((aY Alert.Areas l_1).length:Int)==0)else some false else some false).bind λv_61=>bif v_61 then (iM l_1 (w64 ((l_1.length:Int)-1))).bind λe_70=>(idx r_17.1 1).bind λy_72=>(kM (aY Alert.Refs l_1) ([y_72]:List ByteArray)).bind λa_74=>(iM l_1 (w64 ((l_1.length:Int)-1))).bind λe_77=>some ((setLast l_1 (⟨e_77.Id,e_77.Sender,e_77.Kind,a_74,e_77.At,e_77.Until,e_77.Weight,e_77.Areas,e_77.Text⟩:Alert)),true)else ((idx r_17.1 0).bind λy_81=>bif (sEq y_81 (⟨#[97,114,101,97]⟩:ByteArray))then some ((r_17.1.length:Int)==5)else some false).bind λv_79=>bif v_79 then (pu r_17.1 1 r_17.1.length).bind λy_85=>(iw y_85).bind λr_87=>bif (!r_87.2)then some (l_1,false)else (iM l_1 (w64 ((l_1.length:Int)-1))).bind λe_90=>(idx r_87.1 0).bind λy_92=>(idx r_87.1 1).bind λy_94=>(idx r_87.1 2).bind λy_96=>(idx r_87.1 3).bind λy_98=>(kM (aY Alert.Areas l_1) ([(⟨y_92,y_94,y_96,y_98⟩:Rect)]:List Rect)).bind λa_100=>(iM l_1 (w64 ((l_1.length:Int)-1))).bind λe_103=>some ((setLast l_1 (⟨e_103.Id,e_103.Sender,e_103.Kind,e_103.Refs,e_103.At,e_103.Until,e_103.Weight,a_100,e_103.Text⟩:Alert)),true)else some (l_1,false)
noncomputable def eO (r_3:(List ByteArray)×Bool) (k_5:Nat) (x_7:ByteArray) (s_10:(List Alert)):Option (Ctl ((List Alert)) ((List Alert)×Int×Int)) :=
  (alert_readLine s_10 x_7).bind λr_24=>(bif (!r_24.2)then some true else bif (!r_3.2)then some ((k_5:Int)==(w64 ((r_3.1.length:Int)-1)))else some false).bind λv_29=>bif v_29 then some (.ret (([]:(List Alert)),(k_5:Int),9))else some (.go r_24.1)
noncomputable def kv (text_1:ByteArray):Option ((List Alert)×Int×Int) :=
  bif (decide ((text_1.size:Int)>200000))then some (([]:(List Alert)),0,2)else (uU text_1).bind λr_3=>(forL r_3.1 ([]:List Alert) (λk x s=>eO r_3 k x s)).bind λo_22=>thenC o_22 (λs_10=>(bS s_10).bind λr_34=>bif (r_34 != 0)then some (([]:(List Alert)),0,r_34)else some (s_10,0,0)) (λr=>some r)
def dR (s_1:ByteArray) (substr_2:ByteArray):Option (Int) :=
  (bif ((substr_2.size:Int)==0)then some true else some (sEq substr_2 s_1)).bind λv_3=>bif v_3 then some 0 else bif ((substr_2.size:Int)==1)then (tJ substr_2 0).bind λb_8=>(dB s_1 (b_8.toNat:Int)).bind λr_10=>some r_10 else bif (decide ((substr_2.size:Int)>=(s_1.size:Int)))then some (-1)else none
def eP (s_1:ByteArray) (sep_2:ByteArray):Option (ByteArray×ByteArray×Bool) :=
  (dR s_1 sep_2).bind λr_3=>bif (decide (r_3>=0))then (mU s_1 0 r_3).bind λy_6=>(mU s_1 (w64 (r_3+(sep_2.size:Int))) s_1.size).bind λy_8=>some (y_6,y_8,true)else some (s_1,(⟨#[]⟩:ByteArray),false)
def strings_Cut (s_1:ByteArray) (sep_2:ByteArray):Option (ByteArray×ByteArray×Bool) :=
  (eP s_1 sep_2).bind λr_3=>some (r_3.1,r_3.2.1,r_3.2.2)
def uX (line_1:ByteArray):Option ((List ByteArray)×Bool) :=
  (strings_Split line_1 (⟨#[32]⟩:ByteArray)).bind λr_2=>(cz r_2 (⟨#[]⟩:ByteArray)).bind λr_4=>some (r_2,(!r_4))
def o7 (s_1:ByteArray) (most_2:Int):Option (Int×Bool) :=
  (strings_TrimPrefix s_1 (⟨#[45]⟩:ByteArray)).bind λr_3=>(bif (sEq r_3 (⟨#[]⟩:ByteArray))then some true else bif (decide ((r_3.size:Int)>most_2))then some true else (nQ r_3 (⟨#[48,49,50,51,52,53,54,55,56,57]⟩:ByteArray)).bind λr_9=>some (!r_9)).bind λv_5=>bif v_5 then some (0,false)else (strconv_Atoi s_1).bind λr_12=>((strconv_Itoa r_12).bind λr_16=>some (sEq r_16 s_1)).bind λv_14=>some (r_12,v_14)
def iB (most_2:Int) (k_3:Nat) (x_5:ByteArray) (s_8:(List Int)×Bool):Option (Ctl ((List Int)×Bool) (Unit)) :=
  (o7 x_5 most_2).bind λr_16=>((kM s_8.1 ([r_16.1]:List Int)).bind λa_21=>bif s_8.2 then some (a_21,r_16.2)else some (a_21,false)).bind λv_18=>some (.go (v_18.1,v_18.2))
def iA (l_1:(List ByteArray)) (most_2:Int):Option ((List Int)×Bool) :=
  (forL l_1 (([]:List Int),true) (λk x s=>iB most_2 k x s)).bind λo_14=>thenC o_14 (λs_8=>some (s_8.1,s_8.2)) (λ_=>none)
def ref_alertReader_line (r_1:AlertReader) (line_2:ByteArray):Option (Bool×AlertReader) :=
  (strings_CutPrefix line_2 (⟨#[116,101,120,116,32]⟩:ByteArray)).bind λr_3=>bif r_3.2 then (bif (sEq r_3.1 (⟨#[]⟩:ByteArray))then some true else bif (r_1.f_rank==0)then some true else some (r_1.f_rank==4)).bind λv_6=>bif v_6 then some (false,r_1)else (inR (w64 ((r_1.f_l.length:Int)-1)) r_1.f_l).bind λ_=>(iM r_1.f_l (w64 ((r_1.f_l.length:Int)-1))).bind λe_12=>some (true,(⟨(setLast r_1.f_l (⟨e_12.Id,e_12.Sender,e_12.Kind,e_12.Refs,e_12.At,e_12.Until,e_12.Weight,e_12.Areas,r_3.1⟩:Alert)),4⟩:AlertReader))else (uX line_2).bind λr_14=>(idx r_14.1 0).bind λy_17=>(bif (!r_14.2)then some true else bif (((eX eqS (aO eqS (aO eqS (aO eqS ([]:List (ByteArray×Int)) (⟨#[97,108,101,114,116]⟩:ByteArray) 1) (⟨#[114,101,102]⟩:ByteArray) 2) (⟨#[97,114,101,97]⟩:ByteArray) 3) y_17).getD 0)==0)then some true else bif (decide (((eX eqS (aO eqS (aO eqS (aO eqS ([]:List (ByteArray×Int)) (⟨#[97,108,101,114,116]⟩:ByteArray) 1) (⟨#[114,101,102]⟩:ByteArray) 2) (⟨#[97,114,101,97]⟩:ByteArray) 3) y_17).getD 0)>1))then bif (r_1.f_rank==0)then some true else some (decide (r_1.f_rank>((eX eqS (aO eqS (aO eqS (aO eqS ([]:List (ByteArray×Int)) (⟨#[97,108,101,114,116]⟩:ByteArray) 1) (⟨#[114,101,102]⟩:ByteArray) 2) (⟨#[97,114,101,97]⟩:ByteArray) 3) y_17).getD 0)))else some false).bind λv_19=>bif v_19 then some (false,r_1)else (bif (((eX eqS (aO eqS (aO eqS (aO eqS ([]:List (ByteArray×Int)) (⟨#[97,108,101,114,116]⟩:ByteArray) 1) (⟨#[114,101,102]⟩:ByteArray) 2) (⟨#[97,114,101,97]⟩:ByteArray) 3) y_17).getD 0)==1)then some ((r_14.1.length:Int)==7)else some false).bind λv_26=>bif v_26 then (iG).bind λr_30=>(idx r_14.1 3).bind λy_32=>(bg r_30 y_32).bind λr_34=>(pu r_14.1 4 r_14.1.length).bind λy_36=>(iA y_36 15).bind λr_38=>(idx r_14.1 1).bind λy_40=>(idx r_14.1 2).bind λy_42=>(idx r_38.1 0).bind λy_44=>(idx r_38.1 1).bind λy_46=>(idx r_38.1 2).bind λy_48=>(kM r_1.f_l [(⟨y_40,y_42,r_34,[],y_44,y_46,y_48,[],(⟨#[]⟩:ByteArray)⟩:Alert)]).bind λa_50=>(bif r_38.2 then some (decide (r_34>0))else some false).bind λv_53=>some (v_53,(⟨a_50,((eX eqS (aO eqS (aO eqS (aO eqS ([]:List (ByteArray×Int)) (⟨#[97,108,101,114,116]⟩:ByteArray) 1) (⟨#[114,101,102]⟩:ByteArray) 2) (⟨#[97,114,101,97]⟩:ByteArray) 3) y_17).getD 0)⟩:AlertReader))else (bif (((eX eqS (aO eqS (aO eqS (aO eqS ([]:List (ByteArray×Int)) (⟨#[97,108,101,114,116]⟩:ByteArray) 1) (⟨#[114,101,102]⟩:ByteArray) 2) (⟨#[97,114,101,97]⟩:ByteArray) 3) y_17).getD 0)==2)then some ((r_14.1.length:Int)==2)else some false).bind λv_56=>bif v_56 then (inR (w64 ((r_1.f_l.length:Int)-1)) r_1.f_l).bind λ_=>(iM r_1.f_l (w64 ((r_1.f_l.length:Int)-1))).bind λe_61=>(idx r_14.1 1).bind λy_63=>(kM (aY Alert.Refs r_1.f_l) ([y_63]:List ByteArray)).bind λa_65=>(iM r_1.f_l (w64 ((r_1.f_l.length:Int)-1))).bind λe_68=>some (true,(⟨(setLast r_1.f_l (⟨e_68.Id,e_68.Sender,e_68.Kind,a_65,e_68.At,e_68.Until,e_68.Weight,e_68.Areas,e_68.Text⟩:Alert)),((eX eqS (aO eqS (aO eqS (aO eqS ([]:List (ByteArray×Int)) (⟨#[97,108,101,114,116]⟩:ByteArray) 1) (⟨#[114,101,102]⟩:ByteArray) 2) (⟨#[97,114,101,97]⟩:ByteArray) 3) y_17).getD 0)⟩:AlertReader))else (bif (((eX eqS (aO eqS (aO eqS (aO eqS ([]:List (ByteArray×Int)) (⟨#[97,108,101,114,116]⟩:ByteArray) 1) (⟨#[114,101,102]⟩:ByteArray) 2) (⟨#[97,114,101,97]⟩:ByteArray) 3) y_17).getD 0)==3)then some ((r_14.1.length:Int)==5)else some false).bind λv_70=>bif v_70 then (pu r_14.1 1 r_14.1.length).bind λy_74=>(iA y_74 15).bind λr_76=>(inR (w64 ((r_1.f_l.length:Int)-1)) r_1.f_l).bind λ_=>(iM r_1.f_l (w64 ((r_1.f_l.length:Int)-1))).bind λe_79=>(idx r_76.1 0).bind λy_81=>(idx r_76.1 1).bind λy_83=>(idx r_76.1 2).bind λy_85=>(idx r_76.1 3).bind λy_87=>(kM (aY Alert.Areas r_1.f_l) ([(⟨y_81,y_83,y_85,y_87⟩:Rect)]:List Rect)).bind λa_89=>(iM r_1.f_l (w64 ((r_1.f_l.length:Int)-1))).bind λe_92=>some (r_76.2,(⟨(setLast r_1.f_l (⟨e_92.Id,e_92.Sender,e_92.Kind,e_92.Refs,e_92.At,e_92.Until,e_92.Weight,a_89,e_92.Text⟩:Alert)),((eX eqS (aO eqS (aO eqS (aO eqS ([]:List (ByteArray×Int)) (⟨#[97,108,101,114,116]⟩:ByteArray) 1) (⟨#[114,101,102]⟩:ByteArray) 2) (⟨#[97,114,101,97]⟩:ByteArray) 3) y_17).getD 0)⟩:AlertReader))else some (false,(⟨r_1.f_l,((eX eqS (aO eqS (aO eqS (aO eqS ([]:List (ByteArray×Int)) (⟨#[97,108,101,114,116]⟩:ByteArray) 1) (⟨#[114,101,102]⟩:ByteArray) 2) (⟨#[97,114,101,97]⟩:ByteArray) 3) y_17).getD 0)⟩:AlertReader))
def fD (s_8:(List Alert)×ByteArray×Int×Int):Option (Ctl ((List Alert)×ByteArray×Int×Int) (Int×Bool×AlertReader)) :=
  bif (sNe s_8.2.1 (⟨#[]⟩:ByteArray))then (strings_Cut s_8.2.1 (⟨#[10]⟩:ByteArray)).bind λr_20=>(bif (!r_20.2.2)then some (s_8.1,true,s_8.2.2.2)else (ref_alertReader_line (⟨s_8.1,s_8.2.2.2⟩:AlertReader) r_20.1).bind λr_28=>some (r_28.2.f_l,(!r_28.1),r_28.2.f_rank)).bind λv_22=>bif v_22.2.1 then some (.ret (s_8.2.2.1,false,(⟨v_22.1,v_22.2.2⟩:AlertReader)))else some (.go (v_22.1,r_20.2.1,(w64 (s_8.2.2.1+1)),v_22.2.2))else some (.brk (s_8.1,s_8.2.1,s_8.2.2.1,s_8.2.2.2))
noncomputable def qV (text_1:ByteArray) (take_2:AlertReader):Option (Int×Bool×AlertReader) :=
  (l8 (take_2.f_l,text_1,0,take_2.f_rank) (λs=>fD s)).bind λo_17=>thenC o_17 (λs_8=>some (0,true,(⟨s_8.1,s_8.2.2.2⟩:AlertReader))) (λr=>some r)
noncomputable def gy (text_1:ByteArray):Option ((List Alert)×Int×Int) :=
  bif (decide ((text_1.size:Int)>200000))then some (([]:(List Alert)),0,2)else (qV text_1 (⟨([]:List Alert),0⟩:AlertReader)).bind λr_7=>bif (!r_7.2.1)then some (([]:(List Alert)),r_7.1,9)else (gU r_7.2.2.f_l).bind λr_13=>bif (r_13 != 0)then some (([]:(List Alert)),0,r_13)else some (r_7.2.2.f_l,0,0)
def iy (a_1:Alert) (b_2:Alert):Option (Bool) :=
  (fF ([a_1]:List Alert)).bind λr_5=>(fF ([b_2]:List Alert)).bind λr_7=>some (sEq r_5 r_7)
def aL (s2_2:(List Alert)) (k_5:Nat) (x_7:Alert) (s_10:Unit):Option (Ctl (Unit) (Bool)) :=
  (idx s2_2 (k_5:Int)).bind λy_16=>(iy x_7 y_16).bind λr_19=>bif (!r_19)then some (.ret false)else some (.go ())
def aU (s1_1:(List Alert)) (s2_2:(List Alert)):Option (Bool) :=
  bif ((s1_1.length:Int) != (s2_2.length:Int))then some false else (forL s1_1 () (λk x s=>aL s2_2 k x s)).bind λo_13=>thenC o_13 (λs_10=>some true) (λr=>some r)
noncomputable def ic (l_1:(List Post)) (k_3:Nat) (x_5:Post) (s_8:Unit):Option (Ctl (Unit) (Int)) :=
  (kit_IsKey x_5.Player).bind λr_14=>bif (!r_14)then some (.ret 5)else ((dx x_5.X (-100000) 100000).bind λr_19=>bif r_19 then some true else (dx x_5.Y (-100000) 100000).bind λr_22=>some r_22).bind λv_17=>bif v_17 then some (.ret 1)else (bif (decide ((k_3:Int)>0))then (idx l_1 (w64 ((k_3:Int)-1))).bind λy_28=>some (sLe x_5.Player y_28.Player)else some false).bind λv_25=>bif v_25 then some (.ret 7)else some (.go ())
noncomputable def jo (l_1:(List Post)):Option (Int) :=
  bif (decide ((l_1.length:Int)>500))then some 2 else (forL l_1 () (λk x s=>ic l_1 k x s)).bind λo_11=>thenC o_11 (λs_8=>some 0) (λr=>some r)
noncomputable def jJ (l_1:(List Alert)) (posts_2:(List Post)):Option (Int) :=
  (bS l_1).bind λr_3=>bif (r_3 != 0)then some r_3 else (jo posts_2).bind λr_6=>some r_6
def og (r_1:Rect) (p_2:Post):Option (Bool) :=
  (bif (decide (r_1.X<=p_2.X))then bif (decide (p_2.X<(w64 (r_1.X+r_1.W))))then bif (decide (r_1.Y<=p_2.Y))then some (decide (p_2.Y<(w64 (r_1.Y+r_1.H))))else some false else some false else some false).bind λv_4=>some v_4
def dY (f_2:Rect->Option Bool) (k_3:Nat) (x_5:Rect) (s_8:Unit):Option (Ctl (Unit) (Int)) :=
  (f_2 x_5).bind λr_13=>bif r_13 then some (.ret (k_3:Int))else some (.go ())
def eZ (s_1:(List Rect)) (f_2:Rect->Option Bool):Option (Int) :=
  (forL s_1 () (λk x s=>dY f_2 k x s)).bind λo_11=>thenC o_11 (λs_8=>some (-1)) (λr=>some r)
def ed (s_1:(List Rect)) (f_2:Rect->Option Bool):Option (Bool) :=
  (eZ s_1 f_2).bind λr_3=>some (decide (r_3>=0))
def nH (a_1:Alert) (p_2:Post):Option (Bool) :=
  (ed a_1.Areas (λx0=>og x0 p_2)).bind λr_5=>some r_5
noncomputable def lw (a_1:Alert) (p_2:Post):Option (Bool×Int) :=
  (jJ ([a_1]:List Alert) ([p_2]:List Post)).bind λr_5=>bif (r_5 != 0)then some (false,r_5)else (nH a_1 p_2).bind λr_8=>some (r_8,0)
noncomputable def ny  : Option (Bool) :=
  (lw (⟨(⟨#[97]⟩:ByteArray),(⟨#[115]⟩:ByteArray),1,([]:List ByteArray),0,5,1,([(⟨0,0,2,2⟩:Rect)]:List Rect),(⟨#[120]⟩:ByteArray)⟩:Alert) (⟨(⟨#[112]⟩:ByteArray),1,1⟩:Post)).bind λr_2=>(bif (r_2.2==0)then some r_2.1 else some false).bind λv_4=>some v_4
noncomputable def mP (l_1:(List Int)):Option (Bool) :=
  (jf (⟨l_1,0⟩:Stream) 4).bind λr_3=>(gZ r_3.2).bind λr_6=>(lI r_3.1).bind λr_9=>(gU r_3.1).bind λr_11=>(bif (r_11==0)then (fF r_3.1).bind λr_16=>some r_16 else some (⟨#[]⟩:ByteArray)).bind λv_13=>(kv r_6.1).bind λr_18=>(gy r_6.1).bind λr_20=>(bif (r_9.2==r_11)then bif (sEq r_9.1 v_13)then (aU r_18.1 r_20.1).bind λr_26=>bif r_26 then bif (r_18.2.1==r_20.2.1)then bif (r_18.2.2==r_20.2.2)then (ny).bind λr_31=>some r_31 else some false else some false else some false else some false else some false).bind λv_22=>some v_22
end Go.Proofs.YtljhfffghjclfaaGreatDoor.Law

