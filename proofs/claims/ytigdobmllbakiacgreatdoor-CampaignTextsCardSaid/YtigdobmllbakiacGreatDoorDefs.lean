/-
  The functions of the program, as plain functions over data (written by a program of ours).
-/
import Derived.Test.YtigdobmllbakiacGreatDoorEng5
open Go Go.Eng
namespace Go.Proofs.YtigdobmllbakiacGreatDoor.Law
set_option maxRecDepth 100000
set_option linter.unusedVariables false
set_option maxHeartbeats 1000000
structure Stream where
  L:(List Int)
  f_at:Int
def Stream.enc (s:Stream):List D:=[dl eI s.L,.int .i64 s.f_at]

structure Window where
  From:Int
  To:Int
def Window.enc (s:Window):List D:=[.int .i64 s.From,.int .i64 s.To]

structure Campaign where
  Key:ByteArray
  Class:ByteArray
  Time:Window
  Tags:(List ByteArray)
  Goal:Int
  Most:Int
  Cents:Int
def Campaign.enc (s:Campaign):List D:=[.str s.Key,.str s.Class,.int .i64 s.Time.From,.int .i64 s.Time.To,dl eS s.Tags,.int .i64 s.Goal,.int .i64 s.Most,.int .i64 s.Cents]
abbrev Campaign.v (s:Campaign):List V:=[(vS s.Key),(vS s.Class),(vI s.Time.From),(vI s.Time.To),(vL eS s.Tags),(vI s.Goal),(vI s.Most),(vI s.Cents)]

def lM (x_1:Int) (n_2:Int):Option (Int) :=
  bif (decide (n_2<1))then some 0 else (Dj .i64 x_1 n_2).bind λq_4=>(bif (decide (q_4<0))then some (w64 (q_4+n_2))else some q_4).bind λv_6=>some v_6
def bG (s_1:Stream) (n_2:Int):Option (Int×Stream) :=
  bif ((s_1.L.length:Int)==0)then (lM (w64 ((w64 (s_1.f_at+1))*7919)) n_2).bind λr_4=>some (r_4,(⟨s_1.L,(w64 (s_1.f_at+1))⟩:Stream))else (Dj .i64 (w64 ((w64 (s_1.f_at+1))-1)) (s_1.L.length:Int)).bind λq_6=>(Fq .i64 (w64 ((w64 (s_1.f_at+1))-1)) (s_1.L.length:Int)).bind λq_8=>(idx s_1.L q_6).bind λy_10=>(lM y_10 1073741824).bind λr_12=>(lM (w64 (r_12+(w64 (q_8*(w64 (7919+q_6)))))) n_2).bind λr_14=>some (r_14,(⟨s_1.L,(w64 (s_1.f_at+1))⟩:Stream))
def bU (s_1:Stream) (n_2:Int):Option (Bool×Stream) :=
  (bG s_1 n_2).bind λr_3=>some ((r_3.1==0),r_3.2)
def eT (s_1:Stream) (l_2:(List ByteArray)):Option (ByteArray×Stream) :=
  (bG s_1 (l_2.length:Int)).bind λr_3=>(idx l_2 r_3.1).bind λy_6=>some (y_6,r_3.2)
def bW (s_1:Stream) (l_2:(List Int)):Option (Int×Stream) :=
  (bG s_1 (l_2.length:Int)).bind λr_3=>(idx l_2 r_3.1).bind λy_6=>some (y_6,r_3.2)
def bv (k_41:Nat) (x_43:ByteArray) (s_46:(List ByteArray)×(List Int)×Int):Option (Ctl ((List ByteArray)×(List Int)×Int) (Unit)) :=
  (bU (⟨s_46.2.1,s_46.2.2⟩:Stream) 4).bind λr_54=>(bif r_54.1 then (qE s_46.1 ([x_43]:List ByteArray)).bind λa_61=>some a_61 else some s_46.1).bind λv_57=>some (.go (v_57,r_54.2.L,r_54.2.f_at))
def aV (k_5:Nat) (x_7:ByteArray) (s_10:(List Campaign)×(List Int)×Int):Option (Ctl ((List Campaign)×(List Int)×Int) (Unit)) :=
  (bU (⟨s_10.2.1,s_10.2.2⟩:Stream) 5).bind λr_18=>bif r_18.1 then some (.go (s_10.1,r_18.2.L,r_18.2.f_at))else (eT r_18.2 ([(⟨#[]⟩:ByteArray),(⟨#[]⟩:ByteArray),(⟨#[99,97,114,115]⟩:ByteArray),(⟨#[102,111,111,100]⟩:ByteArray)]:List ByteArray)).bind λr_22=>(bW r_22.2 ([0,0,10,20]:List Int)).bind λr_25=>(bW r_25.2 ([30,50,60,100]:List Int)).bind λr_28=>(bW r_28.2 ([0,1,2,3,4,6]:List Int)).bind λr_31=>(bW r_31.2 ([0,1,2,3,9]:List Int)).bind λr_34=>(bW r_34.2 ([0,500,1000,1500]:List Int)).bind λr_37=>(forL ([(⟨#[99,105,116,121]⟩:ByteArray),(⟨#[109,97,108,108]⟩:ByteArray)]:List ByteArray) (([]:List ByteArray),r_37.2.L,r_37.2.f_at) (λk x s=>bv k x s)).bind λo_52=>thenC o_52 (λs_46=>(qE s_10.1 ([(⟨x_7,r_22.1,(⟨r_25.1,r_28.1⟩:Window),s_46.1,r_31.1,r_34.1,r_37.1⟩:Campaign)]:List Campaign)).bind λa_64=>some (.go (a_64,s_46.2.1,s_46.2.2))) (λ_=>none)
def aW (s_1:Stream) (most_2:Int):Option ((List Campaign)×Stream) :=
  (pK ([(⟨#[99,97]⟩:ByteArray),(⟨#[99,98]⟩:ByteArray),(⟨#[99,99]⟩:ByteArray),(⟨#[99,100]⟩:ByteArray)]:List ByteArray) 0 most_2).bind λy_3=>(forL y_3 (([]:List Campaign),s_1.L,s_1.f_at) (λk x s=>aV k x s)).bind λo_16=>thenC o_16 (λs_10=>some (s_10.1,(⟨s_10.2.1,s_10.2.2⟩:Stream))) (λ_=>none)
def gy (s_1:Stream) (low_2:Int) (high_3:Int):Option (Int×Stream) :=
  bif (decide (high_3<low_2))then some (low_2,s_1)else (bG s_1 (w64 ((w64 (high_3-low_2))+1))).bind λr_5=>some ((w64 (low_2+r_5.1)),r_5.2)
def eF (s_1:Stream) (low_2:Int) (high_3:Int):Option (Int×Stream) :=
  (bU s_1 12).bind λr_4=>bif r_4.1 then (bW r_4.2 ([(w64 (low_2-1)),(w64 (high_3+1)),low_2,high_3,(-1099511627776),1099511627776]:List Int)).bind λr_8=>some (r_8.1,r_8.2)else (gy r_4.2 low_2 high_3).bind λr_11=>some (r_11.1,r_11.2)
def eD (s_1:Stream) (most_2:Int):Option ((List Campaign)×Stream) :=
  (aW s_1 most_2).bind λr_3=>(bif (decide ((r_3.1.length:Int)>0))then (bU r_3.2 12).bind λr_10=>some (r_10.1,r_10.2.L,r_10.2.f_at)else some (false,r_3.2.L,r_3.2.f_at)).bind λv_7=>(bif v_7.1 then (bG (⟨v_7.2.1,v_7.2.2⟩:Stream) (r_3.1.length:Int)).bind λr_16=>(inR r_16.1 r_3.1).bind λ_=>(bG r_16.2 4).bind λr_20=>bif (r_20.1==0)then (r_3.1[(0+(r_16.1).toNat)]?).bind λe_24=>(eT r_20.2 ([e_24.Key,(⟨#[]⟩:ByteArray),(⟨#[99,97]⟩:ByteArray)]:List ByteArray)).bind λr_26=>(eT r_26.2 ([(⟨#[]⟩:ByteArray),(⟨#[65]⟩:ByteArray)]:List ByteArray)).bind λr_29=>(r_3.1[(0+(r_16.1).toNat)]?).bind λe_32=>((r_3.1.set (0+(r_16.1).toNat) (⟨r_26.1,e_32.Class,e_32.Time,e_32.Tags,e_32.Goal,e_32.Most,e_32.Cents⟩:Campaign))[(0+(r_16.1).toNat)]?).bind λe_34=>some (((r_3.1.set (0+(r_16.1).toNat) (⟨r_26.1,e_32.Class,e_32.Time,e_32.Tags,e_32.Goal,e_32.Most,e_32.Cents⟩:Campaign)).set (0+(r_16.1).toNat) (⟨e_34.Key,r_29.1,e_34.Time,e_34.Tags,e_34.Goal,e_34.Most,e_34.Cents⟩:Campaign)),r_29.2.L,r_29.2.f_at)else bif (r_20.1==1)then (eF r_20.2 0 60).bind λr_37=>(r_3.1[(0+(r_16.1).toNat)]?).bind λe_40=>some ((r_3.1.set (0+(r_16.1).toNat) (⟨e_40.Key,e_40.Class,(⟨e_40.Time.From,r_37.1⟩:Window),e_40.Tags,e_40.Goal,e_40.Most,e_40.Cents⟩:Campaign)),r_37.2.L,r_37.2.f_at)else bif (r_20.1==2)then (eF r_20.2 0 6).bind λr_43=>(eF r_43.2 0 6).bind λr_46=>(eF r_46.2 0 1000).bind λr_49=>(r_3.1[(0+(r_16.1).toNat)]?).bind λe_52=>((r_3.1.set (0+(r_16.1).toNat) (⟨e_52.Key,e_52.Class,e_52.Time,e_52.Tags,r_43.1,e_52.Most,e_52.Cents⟩:Campaign))[(0+(r_16.1).toNat)]?).bind λe_54=>(((r_3.1.set (0+(r_16.1).toNat) (⟨e_52.Key,e_52.Class,e_52.Time,e_52.Tags,r_43.1,e_52.Most,e_52.Cents⟩:Campaign)).set (0+(r_16.1).toNat) (⟨e_54.Key,e_54.Class,e_54.Time,e_54.Tags,e_54.Goal,r_46.1,e_54.Cents⟩:Campaign))[(0+(r_16.1).toNat)]?).bind λe_56=>some ((((r_3.1.set (0+(r_16.1).toNat) (⟨e_52.Key,e_52.Class,e_52.Time,e_52.Tags,r_43.1,e_52.Most,e_52.Cents⟩:Campaign)).set (0+(r_16.1).toNat) (⟨e_54.Key,e_54.Class,e_54.Time,e_54.Tags,e_54.Goal,r_46.1,e_54.Cents⟩:Campaign)).set (0+(r_16.1).toNat) (⟨e_56.Key,e_56.Class,e_56.Time,e_56.Tags,e_56.Goal,e_56.Most,r_49.1⟩:Campaign)),r_49.2.L,r_49.2.f_at)else (bG r_20.2 3).bind λr_58=>(idx ([([(⟨#[98]⟩:ByteArray),(⟨#[97]⟩:ByteArray)]:List ByteArray),([(⟨#[65]⟩:ByteArray)]:List ByteArray),([(⟨#[97]⟩:ByteArray),(⟨#[97]⟩:ByteArray)]:List ByteArray)]:List (List ByteArray)) r_58.1).bind λy_61=>(r_3.1[(0+(r_16.1).toNat)]?).bind λe_63=>some ((r_3.1.set (0+(r_16.1).toNat) (⟨e_63.Key,e_63.Class,e_63.Time,y_61,e_63.Goal,e_63.Most,e_63.Cents⟩:Campaign)),r_58.2.L,r_58.2.f_at)else some (r_3.1,v_7.2.1,v_7.2.2)).bind λv_13=>some (v_13.1,(⟨v_13.2.1,v_13.2.2⟩:Stream))
def strconv_Itoa (x0:Int):Option (ByteArray) :=
  Cs x0
def strings_Join (x0:(List ByteArray)) (x1:ByteArray):Option (ByteArray) :=
  Cm x0 x1
def fM (k_2:Nat) (x_4:Int) (s_7:(List ByteArray)):Option (Ctl ((List ByteArray)) (Unit)) :=
  (strconv_Itoa x_4).bind λr_15=>(qE s_7 ([r_15]:List ByteArray)).bind λa_17=>some (.go a_17)
def jX (l_1:(List Int)):Option (ByteArray) :=
  (forL l_1 ([]:List ByteArray) (λk x s=>fM k x s)).bind λo_13=>thenC o_13 (λs_7=>(strings_Join s_7 (⟨#[32]⟩:ByteArray)).bind λr_20=>some r_20) (λ_=>none)
def kZ (l_1:(List ByteArray)):Option (ByteArray) :=
  bif ((l_1.length:Int)==0)then some (⟨#[45]⟩:ByteArray)else (strings_Join l_1 (⟨#[44]⟩:ByteArray)).bind λr_3=>some r_3
def cZ (c_1:Campaign):Option (ByteArray) :=
  (bif (sEq c_1.Class (⟨#[]⟩:ByteArray))then some (⟨#[45]⟩:ByteArray)else some c_1.Class).bind λv_3=>(jX ([c_1.Time.From,c_1.Time.To,c_1.Goal,c_1.Most,c_1.Cents]:List Int)).bind λr_6=>(kZ c_1.Tags).bind λr_8=>(strings_Join ([c_1.Key,v_3,r_6,r_8]:List ByteArray) (⟨#[32]⟩:ByteArray)).bind λr_10=>some r_10
def dE (k_2:Nat) (x_4:Campaign) (s_7:ByteArray):Option (Ctl (ByteArray) (Unit)) :=
  (cZ x_4).bind λr_13=>(l9 r_13 (⟨#[10]⟩:ByteArray)).bind λs_15=>(l9 s_7 s_15).bind λs_17=>some (.go s_17)
def dz (l_1:(List Campaign)):Option (ByteArray) :=
  (forL l_1 (⟨#[]⟩:ByteArray) (λk x s=>dE k x s)).bind λo_10=>thenC o_10 (λs_7=>some s_7) (λ_=>none)
def ek (s_1:Stream) (t_2:ByteArray) (withv_3:ByteArray):Option (ByteArray×Stream) :=
  (bif (sEq t_2 (⟨#[]⟩:ByteArray))then some true else some (sEq withv_3 (⟨#[]⟩:ByteArray))).bind λv_4=>bif v_4 then some (withv_3,s_1)else (bG s_1 (t_2.size:Int)).bind λr_8=>(bG r_8.2 (withv_3.size:Int)).bind λr_11=>(rD withv_3 r_11.1).bind λb_14=>(bG r_11.2 3).bind λr_16=>bif (r_16.1==0)then (jv t_2 0 r_8.1).bind λy_20=>(l9 y_20 (Utf8.encode (IntKind.i32.wrap (b_14.toNat:Int)))).bind λs_22=>(jv t_2 (w64 (r_8.1+1)) t_2.size).bind λy_24=>(l9 s_22 y_24).bind λs_26=>some (s_26,r_16.2)else bif (r_16.1==1)then (jv t_2 0 r_8.1).bind λy_29=>(l9 y_29 (Utf8.encode (IntKind.i32.wrap (b_14.toNat:Int)))).bind λs_31=>(jv t_2 r_8.1 t_2.size).bind λy_33=>(l9 s_31 y_33).bind λs_35=>some (s_35,r_16.2)else (jv t_2 0 r_8.1).bind λy_37=>(jv t_2 (w64 (r_8.1+1)) t_2.size).bind λy_39=>(l9 y_37 y_39).bind λs_41=>some (s_41,r_16.2)
def dn (k_10:Nat) (x_12:Nat) (s_15:ByteArray×(List Int)×Int):Option (Ctl (ByteArray×(List Int)×Int) (Unit)) :=
  (ek (⟨s_15.2.1,s_15.2.2⟩:Stream) s_15.1 (⟨#[32,10,48,45,57,44,99,109]⟩:ByteArray)).bind λr_20=>some (.go (r_20.1,r_20.2.L,r_20.2.f_at))
def dM (s_1:Stream):Option (ByteArray×Stream) :=
  (aW s_1 3).bind λr_2=>(dz r_2.1).bind λr_5=>(bW r_2.2 ([0,0,1,2]:List Int)).bind λr_7=>(forL (List.range (r_7.1).toNat) (r_5,r_7.2.L,r_7.2.f_at) (λk x s=>dn k x s)).bind λo_18=>thenC o_18 (λs_15=>some (s_15.1,(⟨s_15.2.1,s_15.2.2⟩:Stream))) (λ_=>none)
def fB (s_1:ByteArray) (s_7:Int):Option (Ctl (Int) (Bool)) :=
  bif (decide (s_7<(s_1.size:Int)))then (rD s_1 s_7).bind λb_13=>(bif (decide ((b_13.toNat:Int)>=97))then bif (decide ((b_13.toNat:Int)<=122))then some false else bif (decide (s_7>0))then bif (decide ((b_13.toNat:Int)>=48))then bif (decide ((b_13.toNat:Int)<=57))then some false else bif ((b_13.toNat:Int)==45)then some false else some (!((b_13.toNat:Int)==95))else bif ((b_13.toNat:Int)==45)then some false else some (!((b_13.toNat:Int)==95))else some true else bif (decide (s_7>0))then bif (decide ((b_13.toNat:Int)>=48))then bif (decide ((b_13.toNat:Int)<=57))then some false else bif ((b_13.toNat:Int)==45)then some false else some (!((b_13.toNat:Int)==95))else bif ((b_13.toNat:Int)==45)then some false else some (!((b_13.toNat:Int)==95))else some true).bind λv_15=>bif v_15 then some (.ret false)else some (.go (w64 (s_7+1)))else some (.brk s_7)
noncomputable def iA (s_1:ByteArray):Option (Bool) :=
  (pX 0 (λs=>fB s_1 s)).bind λo_10=>thenC o_10 (λs_7=>(bif (sNe s_1 (⟨#[]⟩:ByteArray))then some (decide ((s_1.size:Int)<=40))else some false).bind λv_30=>some v_30) (λr=>some r)
def fQ (wv_1:Window):Option (Bool) :=
  (bif (decide (wv_1.From>=0))then bif (decide (wv_1.From<wv_1.To))then some (decide (wv_1.To<=345686400000))else some false else some false).bind λv_3=>some v_3
def eG (n_1:Int) (low_2:Int) (high_3:Int):Option (Bool) :=
  (bif (decide (n_1<low_2))then some true else some (decide (n_1>high_3))).bind λv_4=>some v_4
noncomputable def dW (l_1:(List ByteArray)) (k_2:Nat) (x_4:ByteArray) (s_7:Unit):Option (Ctl (Unit) (Int)) :=
  (iA x_4).bind λr_12=>bif (!r_12)then some (.ret 5)else (bif (decide ((k_2:Int)>0))then (idx l_1 (w64 ((k_2:Int)-1))).bind λy_18=>some (sLe x_4 y_18)else some false).bind λv_15=>bif v_15 then some (.ret 7)else some (.go ())
noncomputable def fA (l_1:(List ByteArray)):Option (Int) :=
  (forL l_1 () (λk x s=>dW l_1 k x s)).bind λo_10=>thenC o_10 (λs_7=>some 0) (λr=>some r)
noncomputable def dP (l_1:(List ByteArray)):Option (Int) :=
  bif (decide ((l_1.length:Int)>20))then some 2 else (fA l_1).bind λr_3=>some r_3
noncomputable def bO (l_1:(List Campaign)) (k_3:Nat) (x_5:Campaign) (s_8:Unit):Option (Ctl (Unit) (Int)) :=
  ((iA x_5.Key).bind λr_16=>bif (!r_16)then some true else bif (sNe x_5.Class (⟨#[]⟩:ByteArray))then (iA x_5.Class).bind λr_20=>some (!r_20)else some false).bind λv_14=>bif v_14 then some (.ret 5)else (bif (decide ((k_3:Int)>0))then (idx l_1 (w64 ((k_3:Int)-1))).bind λy_26=>some (sLe x_5.Key y_26.Key)else some false).bind λv_23=>bif v_23 then some (.ret 7)else ((fQ x_5.Time).bind λr_31=>bif (!r_31)then some true else (eG x_5.Goal 0 1000000).bind λr_34=>bif r_34 then some true else (eG x_5.Most 0 1000000).bind λr_37=>bif r_37 then some true else (eG x_5.Cents 0 1000000000).bind λr_40=>some r_40).bind λv_29=>bif v_29 then some (.ret 1)else (dP x_5.Tags).bind λr_43=>bif (r_43 != 0)then some (.ret r_43)else some (.go ())
noncomputable def aN (l_1:(List Campaign)):Option (Int) :=
  bif (decide ((l_1.length:Int)>30))then some 2 else (forL l_1 () (λk x s=>bO l_1 k x s)).bind λo_11=>thenC o_11 (λs_8=>some 0) (λr=>some r)
def ib (s_1:ByteArray):Option (ByteArray) :=
  bif (sEq s_1 (⟨#[]⟩:ByteArray))then some (⟨#[45]⟩:ByteArray)else some s_1
def fq (k_29:Nat) (x_31:Int) (s_34:(List Int)):Option (Ctl ((List Int)) (Unit)) :=
  (strconv_Itoa x_31).bind λr_41=>(l9 (⟨#[32]⟩:ByteArray) r_41).bind λs_43=>(BL s_34 s_43).bind λa_45=>some (.go a_45)
def fw (k_7:Nat) (x_9:Campaign) (s_12:(List Int)):Option (Ctl ((List Int)) (Unit)) :=
  (l9 x_9.Key (⟨#[32]⟩:ByteArray)).bind λs_20=>(ib x_9.Class).bind λr_22=>(l9 s_20 r_22).bind λs_24=>(BL s_12 s_24).bind λa_26=>(forL ([x_9.Time.From,x_9.Time.To,x_9.Goal,x_9.Most,x_9.Cents]:List Int) a_26 (λk x s=>fq k x s)).bind λo_39=>thenC o_39 (λs_34=>(strings_Join x_9.Tags (⟨#[44]⟩:ByteArray)).bind λr_48=>(ib r_48).bind λr_50=>(l9 (⟨#[32]⟩:ByteArray) r_50).bind λs_52=>(l9 s_52 (⟨#[10]⟩:ByteArray)).bind λs_54=>(BL s_34 s_54).bind λa_56=>some (.go a_56)) (λ_=>none)
noncomputable def fC (l_1:(List Campaign)):Option (ByteArray×Int) :=
  (aN l_1).bind λr_2=>bif (r_2 != 0)then some ((⟨#[]⟩:ByteArray),r_2)else (forL l_1 ([]:List Int) (λk x s=>fw k x s)).bind λo_17=>thenC o_17 (λs_12=>(sw s_12).bind λs_59=>some (s_59,0)) (λ_=>none)
def nz (n_1:Int) (low_2:Int) (high_3:Int):Option (Bool) :=
  (bif (decide (low_2<=n_1))then some (decide (n_1<=high_3))else some false).bind λv_4=>some v_4
def bJ (s_1:ByteArray) (c_2:Int):Option (Int) :=
  some (ixB s_1 c_2)
def strings_IndexByte (s_1:ByteArray) (c_2:Int):Option (Int) :=
  (bJ s_1 c_2).bind λr_3=>some r_3
def jc (s_1:ByteArray) (somev_2:ByteArray) (k_3:Nat) (x_5:Nat) (s_8:Unit):Option (Ctl (Unit) (Bool)) :=
  (rD s_1 (k_3:Int)).bind λb_13=>(strings_IndexByte somev_2 (b_13.toNat:Int)).bind λr_15=>bif (decide (r_15<0))then some (.ret false)else some (.go ())
def j6 (s_1:ByteArray) (somev_2:ByteArray):Option (Bool) :=
  (forL (List.range ((s_1.size:Int)).toNat) () (λk x s=>jc s_1 somev_2 k x s)).bind λo_11=>thenC o_11 (λs_8=>some true) (λr=>some r)
def mU (s_1:ByteArray):Option (Bool) :=
  ((nz (s_1.size:Int) 1 40).bind λr_4=>bif r_4 then (jv s_1 0 1).bind λy_7=>(j6 y_7 (⟨#[97,98,99,100,101,102,103,104,105,106,107,108,109,110,111,112,113,114,115,116,117,118,119,120,121,122]⟩:ByteArray)).bind λr_9=>bif r_9 then (j6 s_1 (⟨#[97,98,99,100,101,102,103,104,105,106,107,108,109,110,111,112,113,114,115,116,117,118,119,120,121,122,48,49,50,51,52,53,54,55,56,57,45,95]⟩:ByteArray)).bind λr_12=>some r_12 else some false else some false).bind λv_2=>some v_2
def gm (l_1:(List ByteArray)) (k_2:Nat) (x_4:ByteArray) (s_7:Unit):Option (Ctl (Unit) (Int)) :=
  (mU x_4).bind λr_12=>bif (!r_12)then some (.ret 5)else (bif (decide ((k_2:Int)>0))then (idx l_1 (w64 ((k_2:Int)-1))).bind λy_18=>some (sLe x_4 y_18)else some false).bind λv_15=>bif v_15 then some (.ret 7)else some (.go ())
def iQ (l_1:(List ByteArray)):Option (Int) :=
  (forL l_1 () (λk x s=>gm l_1 k x s)).bind λo_10=>thenC o_10 (λs_7=>some 0) (λr=>some r)
def iI (l_1:(List ByteArray)):Option (Int) :=
  bif (decide ((l_1.length:Int)>20))then some 2 else (iQ l_1).bind λr_3=>some r_3
def dA (k_3:Nat) (x_5:Campaign) (s_8:ByteArray):Option (Ctl (ByteArray) (Int)) :=
  ((mU x_5.Key).bind λr_16=>bif (!r_16)then some true else bif (sNe x_5.Class (⟨#[]⟩:ByteArray))then (mU x_5.Class).bind λr_20=>some (!r_20)else some false).bind λv_14=>bif v_14 then some (.ret 5)else bif (sLe x_5.Key s_8)then some (.ret 7)else (bif (decide (x_5.Time.From<0))then some true else bif (decide (x_5.Time.From>=x_5.Time.To))then some true else bif (decide (x_5.Time.To>345686400000))then some true else (nz x_5.Goal 0 1000000).bind λr_29=>bif (!r_29)then some true else (nz x_5.Most 0 1000000).bind λr_32=>bif (!r_32)then some true else (nz x_5.Cents 0 1000000000).bind λr_35=>some (!r_35)).bind λv_24=>bif v_24 then some (.ret 1)else (iI x_5.Tags).bind λr_38=>bif (r_38 != 0)then some (.ret r_38)else some (.go x_5.Key)
def dD (l_1:(List Campaign)):Option (Int) :=
  bif (decide ((l_1.length:Int)>30))then some 2 else (forL l_1 (⟨#[]⟩:ByteArray) (λk x s=>dA k x s)).bind λo_11=>thenC o_11 (λs_8=>some 0) (λr=>some r)
def strings_Split (x0:ByteArray) (x1:ByteArray):Option ((List ByteArray)) :=
  qC x0 x1
def o5 (s_1:ByteArray):Option ((List ByteArray)×Bool) :=
  (strings_Split s_1 (⟨#[10]⟩:ByteArray)).bind λr_2=>(idx r_2 (w64 ((r_2.length:Int)-1))).bind λy_4=>bif (sEq y_4 (⟨#[]⟩:ByteArray))then (pK r_2 0 (w64 ((r_2.length:Int)-1))).bind λy_7=>some (y_7,true)else some (r_2,false)
def bN (v_2:ByteArray) (k_3:Nat) (x_5:ByteArray) (s_8:Unit):Option (Ctl (Unit) (Int)) :=
  bif (sEq v_2 x_5)then some (.ret (k_3:Int))else some (.go ())
def dN (s_1:(List ByteArray)) (v_2:ByteArray):Option (Int) :=
  (forL s_1 () (λk x s=>bN v_2 k x s)).bind λo_11=>thenC o_11 (λs_8=>some (-1)) (λr=>some r)
def aQ (s_1:(List ByteArray)) (v_2:ByteArray):Option (Bool) :=
  (dN s_1 v_2).bind λr_3=>some (decide (r_3>=0))
def kV (s_1:ByteArray):Option ((List ByteArray)×Bool) :=
  (strings_Split s_1 (⟨#[32]⟩:ByteArray)).bind λr_2=>(aQ r_2 (⟨#[]⟩:ByteArray)).bind λr_4=>some (r_2,(!r_4))
def bK (s_1:ByteArray) (prefixv_2:ByteArray):Option (Bool) :=
  (bif (decide ((s_1.size:Int)>=(prefixv_2.size:Int)))then (jv s_1 0 (prefixv_2.size:Int)).bind λy_6=>some (sEq y_6 prefixv_2)else some false).bind λv_3=>some v_3
def bH (s_1:ByteArray) (prefixv_2:ByteArray):Option (ByteArray) :=
  (bK s_1 prefixv_2).bind λr_3=>bif r_3 then (jv s_1 (prefixv_2.size:Int) s_1.size).bind λy_6=>some y_6 else some s_1
def strings_TrimPrefix (s_1:ByteArray) (prefixv_2:ByteArray):Option (ByteArray) :=
  (bH s_1 prefixv_2).bind λr_3=>some r_3
def strconv_Atoi (x0:ByteArray):Option (Int) :=
  Ac x0
def dZ (r_3:ByteArray) (s_18:Int):Option (Ctl (Int) (Int×Bool)) :=
  bif (decide (s_18<(r_3.size:Int)))then ((rD r_3 s_18).bind λb_26=>bif (decide ((b_26.toNat:Int)<48))then some true else (rD r_3 s_18).bind λb_29=>some (decide ((b_29.toNat:Int)>57))).bind λv_24=>bif v_24 then some (.ret (0,false))else some (.go (w64 (s_18+1)))else some (.brk s_18)
noncomputable def lN (s_1:ByteArray) (most_2:Int):Option (Int×Bool) :=
  (strings_TrimPrefix s_1 (⟨#[45]⟩:ByteArray)).bind λr_3=>(bif (sEq r_3 (⟨#[]⟩:ByteArray))then some true else bif (decide ((r_3.size:Int)>most_2))then some true else (rD r_3 0).bind λb_9=>bif ((b_9.toNat:Int)==48)then some (sNe s_1 (⟨#[48]⟩:ByteArray))else some false).bind λv_5=>bif v_5 then some (0,false)else (pX 0 (λs=>dZ r_3 s)).bind λo_21=>thenC o_21 (λs_18=>(strconv_Atoi s_1).bind λr_32=>some (r_32,true)) (λr=>some r)
noncomputable def bn (k_11:Nat) (x_13:ByteArray) (s_16:(List Int)):Option (Ctl ((List Int)) (Campaign×Bool)) :=
  (lN x_13 15).bind λr_24=>bif (!r_24.2)then some (.ret ((⟨(⟨#[]⟩:ByteArray),(⟨#[]⟩:ByteArray),(⟨0,0⟩:Window),([]:List ByteArray),0,0,0⟩:Campaign),false))else (qE s_16 ([r_24.1]:List Int)).bind λa_27=>some (.go a_27)
noncomputable def bZ (line_1:ByteArray):Option (Campaign×Bool) :=
  (kV line_1).bind λr_3=>(bif (!r_3.2)then some true else some ((r_3.1.length:Int) != 8)).bind λv_5=>bif v_5 then some ((⟨(⟨#[]⟩:ByteArray),(⟨#[]⟩:ByteArray),(⟨0,0⟩:Window),([]:List ByteArray),0,0,0⟩:Campaign),false)else (pK r_3.1 2 7).bind λy_9=>(forL y_9 ([]:List Int) (λk x s=>bn k x s)).bind λo_22=>thenC o_22 (λs_16=>(idx r_3.1 0).bind λy_30=>(inR 0 s_16).bind λ_=>(s_16[(0+(0:Int).toNat)]?).bind λe_33=>(inR 1 s_16).bind λ_=>(s_16[(0+(1:Int).toNat)]?).bind λe_36=>(inR 2 s_16).bind λ_=>(s_16[(0+(2:Int).toNat)]?).bind λe_39=>(inR 3 s_16).bind λ_=>(s_16[(0+(3:Int).toNat)]?).bind λe_42=>(inR 4 s_16).bind λ_=>(s_16[(0+(4:Int).toNat)]?).bind λe_45=>(idx r_3.1 1).bind λy_48=>(bif (sNe y_48 (⟨#[45]⟩:ByteArray))then (idx r_3.1 1).bind λy_53=>some y_53 else some (⟨#[]⟩:ByteArray)).bind λv_50=>(idx r_3.1 7).bind λy_55=>(bif (sNe y_55 (⟨#[45]⟩:ByteArray))then (idx r_3.1 7).bind λy_62=>(strings_Split y_62 (⟨#[44]⟩:ByteArray)).bind λr_64=>some r_64 else some ([]:List ByteArray)).bind λv_59=>(aQ v_59 (⟨#[]⟩:ByteArray)).bind λr_66=>some ((⟨y_30,v_50,(⟨e_33,e_36⟩:Window),v_59,e_39,e_42,e_45⟩:Campaign),(!r_66))) (λr=>some r)
noncomputable def bR (r_3:(List ByteArray)×Bool) (k_5:Nat) (x_7:ByteArray) (s_10:(List Campaign)):Option (Ctl ((List Campaign)) ((List Campaign)×Int×Int)) :=
  (bZ x_7).bind λr_18=>(bif (!r_18.2)then some true else bif (!r_3.2)then some ((k_5:Int)==(w64 ((r_3.1.length:Int)-1)))else some false).bind λv_21=>bif v_21 then some (.ret (([]:(List Campaign)),(k_5:Int),9))else (qE s_10 ([r_18.1]:List Campaign)).bind λa_26=>some (.go a_26)
noncomputable def ig (text_1:ByteArray):Option ((List Campaign)×Int×Int) :=
  bif (decide ((text_1.size:Int)>200000))then some (([]:(List Campaign)),0,2)else (o5 text_1).bind λr_3=>(forL r_3.1 ([]:List Campaign) (λk x s=>bR r_3 k x s)).bind λo_16=>thenC o_16 (λs_10=>(aN s_10).bind λr_29=>bif (r_29 != 0)then some (([]:(List Campaign)),0,r_29)else some (s_10,0,0)) (λr=>some r)
def o6 (line_1:ByteArray):Option ((List ByteArray)×Bool) :=
  (strings_Split line_1 (⟨#[32]⟩:ByteArray)).bind λr_2=>(aQ r_2 (⟨#[]⟩:ByteArray)).bind λr_4=>some (r_2,(!r_4))
def lq (s_1:ByteArray) (most_2:Int):Option (Int×Bool) :=
  (strings_TrimPrefix s_1 (⟨#[45]⟩:ByteArray)).bind λr_3=>(bif (sEq r_3 (⟨#[]⟩:ByteArray))then some true else bif (decide ((r_3.size:Int)>most_2))then some true else (j6 r_3 (⟨#[48,49,50,51,52,53,54,55,56,57]⟩:ByteArray)).bind λr_9=>some (!r_9)).bind λv_5=>bif v_5 then some (0,false)else (strconv_Atoi s_1).bind λr_12=>((strconv_Itoa r_12).bind λr_16=>some (sEq r_16 s_1)).bind λv_14=>some (r_12,v_14)
def eO (most_2:Int) (k_3:Nat) (x_5:ByteArray) (s_8:(List Int)×Bool):Option (Ctl ((List Int)×Bool) (Unit)) :=
  (lq x_5 most_2).bind λr_16=>((qE s_8.1 ([r_16.1]:List Int)).bind λa_21=>bif s_8.2 then some (a_21,r_16.2)else some (a_21,false)).bind λv_18=>some (.go (v_18.1,v_18.2))
def iJ (l_1:(List ByteArray)) (most_2:Int):Option ((List Int)×Bool) :=
  (forL l_1 (([]:List Int),true) (λk x s=>eO most_2 k x s)).bind λo_14=>thenC o_14 (λs_8=>some (s_8.1,s_8.2)) (λ_=>none)
def jk (s_1:ByteArray):Option ((List ByteArray)×Bool) :=
  bif (sEq s_1 (⟨#[45]⟩:ByteArray))then some (([]:(List ByteArray)),true)else (strings_Split s_1 (⟨#[44]⟩:ByteArray)).bind λr_3=>(aQ r_3 (⟨#[]⟩:ByteArray)).bind λr_5=>some (r_3,(!r_5))
def dS (line_1:ByteArray) (p_2:(List Campaign)):Option (Bool×(List Campaign)) :=
  (o6 line_1).bind λr_3=>(bif (!r_3.2)then some true else some ((r_3.1.length:Int) != 8)).bind λv_7=>bif v_7 then some (false,p_2)else (neL r_3.1).bind λ_=>(Bn r_3.1 2 7).bind λ_=>(iJ (cutL r_3.1 ((2:Int).toNat) ((7:Int).toNat-(2:Int).toNat)) 15).bind λr_13=>(inR 7 r_3.1).bind λ_=>(r_3.1[(0+(7:Int).toNat)]?).bind λe_16=>(jk e_16).bind λr_18=>(inR 1 r_3.1).bind λ_=>(r_3.1[(0+(1:Int).toNat)]?).bind λe_21=>(bif (sEq e_21 (⟨#[45]⟩:ByteArray))then (inR 1 r_3.1).bind λ_=>(r_3.1[(0+(1:Int).toNat)]?).bind λe_27=>some (r_3.1.set (0+(1:Int).toNat) (⟨#[]⟩:ByteArray))else some r_3.1).bind λv_23=>(inR 0 v_23).bind λ_=>(v_23[(0+(0:Int).toNat)]?).bind λe_30=>(inR 1 v_23).bind λ_=>(v_23[(0+(1:Int).toNat)]?).bind λe_33=>(idx r_13.1 0).bind λy_35=>(idx r_13.1 1).bind λy_37=>(idx r_13.1 2).bind λy_39=>(idx r_13.1 3).bind λy_41=>(idx r_13.1 4).bind λy_43=>(qE p_2 ([(⟨e_30,e_33,(⟨y_35,y_37⟩:Window),r_18.1,y_39,y_41,y_43⟩:Campaign)]:List Campaign)).bind λa_45=>(bif r_13.2 then some r_18.2 else some false).bind λv_48=>some (v_48,a_45)
def cz (s_1:ByteArray) (substr_2:ByteArray):Option (Int) :=
  (bif ((substr_2.size:Int)==0)then some true else some (sEq substr_2 s_1)).bind λv_3=>bif v_3 then some 0 else bif ((substr_2.size:Int)==1)then (rD substr_2 0).bind λb_8=>(bJ s_1 (b_8.toNat:Int)).bind λr_10=>some r_10 else bif (decide ((substr_2.size:Int)>=(s_1.size:Int)))then some (-1)else none
def dB (s_1:ByteArray) (sep_2:ByteArray):Option (ByteArray×ByteArray×Bool) :=
  (cz s_1 sep_2).bind λr_3=>bif (decide (r_3>=0))then (jv s_1 0 r_3).bind λy_6=>(jv s_1 (w64 (r_3+(sep_2.size:Int))) s_1.size).bind λy_8=>some (y_6,y_8,true)else some (s_1,(⟨#[]⟩:ByteArray),false)
def strings_Cut (s_1:ByteArray) (sep_2:ByteArray):Option (ByteArray×ByteArray×Bool) :=
  (dB s_1 sep_2).bind λr_3=>some (r_3.1,r_3.2.1,r_3.2.2)
def bQ (s_9:(List Campaign)×ByteArray×Int):Option (Ctl ((List Campaign)×ByteArray×Int) (Int×Bool×(List Campaign))) :=
  bif (sNe s_9.2.1 (⟨#[]⟩:ByteArray))then (strings_Cut s_9.2.1 (⟨#[10]⟩:ByteArray)).bind λr_17=>(bif (!r_17.2.2)then some (s_9.1,true)else (dS r_17.1 s_9.1).bind λr_23=>some (r_23.2,(!r_23.1))).bind λv_19=>bif v_19.2 then some (.ret (s_9.2.2,false,v_19.1))else some (.go (v_19.1,r_17.2.1,(w64 (s_9.2.2+1))))else some (.brk (s_9.1,s_9.2.1,s_9.2.2))
noncomputable def jo (text_1:ByteArray) (take2_3:(List Campaign)):Option (Int×Bool×(List Campaign)) :=
  (pX (take2_3,text_1,0) (λs=>bQ s)).bind λo_14=>thenC o_14 (λs_9=>some (0,true,s_9.1)) (λr=>some r)
noncomputable def dQ (text_1:ByteArray):Option ((List Campaign)×Int×Int) :=
  bif (decide ((text_1.size:Int)>200000))then some (([]:(List Campaign)),0,2)else (jo text_1 ([]:List Campaign)).bind λr_5=>bif (!r_5.2.1)then some (([]:(List Campaign)),r_5.1,9)else (dD r_5.2.2).bind λr_9=>bif (r_9 != 0)then some (([]:(List Campaign)),0,r_9)else some (r_5.2.2,0,0)
def cO (a_1:Campaign) (b_2:Campaign):Option (Bool) :=
  (cZ a_1).bind λr_5=>(cZ b_2).bind λr_7=>some (sEq r_5 r_7)
def ax (s2_2:(List Campaign)) (k_5:Nat) (x_7:Campaign) (s_10:Unit):Option (Ctl (Unit) (Bool)) :=
  (idx s2_2 (k_5:Int)).bind λy_16=>(cO x_7 y_16).bind λr_19=>bif (!r_19)then some (.ret false)else some (.go ())
def aB (s1_1:(List Campaign)) (s2_2:(List Campaign)):Option (Bool) :=
  bif ((s1_1.length:Int) != (s2_2.length:Int))then some false else (forL s1_1 () (λk x s=>ax s2_2 k x s)).bind λo_13=>thenC o_13 (λs_10=>some true) (λr=>some r)
def kR (n_1:Int):Option (Bool) :=
  (bif (decide (n_1>=0))then some (decide (n_1<345686400000))else some false).bind λv_2=>some v_2
def lV (c_1:Campaign) (atv_2:Int):Option (Int) :=
  bif (decide (atv_2<c_1.Time.From))then some 0 else bif (decide (atv_2>=c_1.Time.To))then some c_1.Goal else (Fq .i64 (w64 (c_1.Goal*(w64 (atv_2-c_1.Time.From)))) (w64 (c_1.Time.To-c_1.Time.From))).bind λq_6=>some q_6
noncomputable def ko (c_1:Campaign) (atv_2:Int):Option (Int×Int) :=
  (aN ([c_1]:List Campaign)).bind λr_4=>bif (r_4 != 0)then some (0,r_4)else (kR atv_2).bind λr_7=>bif (!r_7)then some (0,1)else (lV c_1 atv_2).bind λr_10=>some (r_10,0)
noncomputable def jA  : Option (Bool) :=
  (ko (⟨(⟨#[97]⟩:ByteArray),(⟨#[]⟩:ByteArray),(⟨0,100⟩:Window),([]:List ByteArray),10,0,0⟩:Campaign) 50).bind λr_1=>(bif (r_1.2==0)then some (r_1.1==5)else some false).bind λv_3=>some v_3
noncomputable def gK (l_1:(List Int)):Option (Bool) :=
  (eD (⟨l_1,0⟩:Stream) 4).bind λr_3=>(dM r_3.2).bind λr_6=>(fC r_3.1).bind λr_9=>(dD r_3.1).bind λr_11=>(bif (r_11==0)then (dz r_3.1).bind λr_16=>some r_16 else some (⟨#[]⟩:ByteArray)).bind λv_13=>(ig r_6.1).bind λr_18=>(dQ r_6.1).bind λr_20=>(bif (r_9.2==r_11)then bif (sEq r_9.1 v_13)then (aB r_18.1 r_20.1).bind λr_26=>bif r_26 then bif (r_18.2.1==r_20.2.1)then bif (r_18.2.2==r_20.2.2)then (jA).bind λr_31=>some r_31 else some false else some false else some false else some false else some false).bind λv_22=>some v_22
end Go.Proofs.YtigdobmllbakiacGreatDoor.Law

