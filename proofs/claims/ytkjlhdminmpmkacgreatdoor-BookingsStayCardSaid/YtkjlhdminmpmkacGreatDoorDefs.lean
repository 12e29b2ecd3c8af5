/-
  The functions of the program, as plain functions over data (written by a program of ours).
-/
import Derived.Test.YtkjlhdminmpmkacGreatDoorEng5
open Go Go.Eng
namespace Go.Proofs.YtkjlhdminmpmkacGreatDoor.Law
set_option maxRecDepth 100000
set_option linter.unusedVariables false
set_option maxHeartbeats 1000000
structure Stream where
  L:(List Int)
  f_at:Int
def Stream.enc (s:Stream):List D:=[dl eI s.L,.int .i64 s.f_at]

structure Window where
  From:Int
  To:Int
def Window.enc (s:Window):List D:=[.int .i64 s.From,.int .i64 s.To]

structure Spot where
  Key:ByteArray
  Time:Window
  Room:Int
  Tags:(List ByteArray)
def Spot.enc (s:Spot):List D:=[.str s.Key,.int .i64 s.Time.From,.int .i64 s.Time.To,.int .i64 s.Room,dl eS s.Tags]
abbrev Spot.v (s:Spot):List V:=[(vS s.Key),(vI s.Time.From),(vI s.Time.To),(vI s.Room),(vL eS s.Tags)]

structure Campaign where
  Key:ByteArray
  Class:ByteArray
  Time:Window
  Tags:(List ByteArray)
  Goal:Int
  Most:Int
  Cents:Int
def Campaign.enc (s:Campaign):List D:=[.str s.Key,.str s.Class,.int .i64 s.Time.From,.int .i64 s.Time.To,dl eS s.Tags,.int .i64 s.Goal,.int .i64 s.Most,.int .i64 s.Cents]
abbrev Campaign.v (s:Campaign):List V:=[(vS s.Key),(vS s.Class),(vI s.Time.From),(vI s.Time.To),(vL eS s.Tags),(vI s.Goal),(vI s.Most),(vI s.Cents)]

structure Play where
  Player:ByteArray
  Item:ByteArray
  At:Int
  Long:Int
def Play.enc (s:Play):List D:=[.str s.Player,.str s.Item,.int .i64 s.At,.int .i64 s.Long]
abbrev Play.v (s:Play):List V:=[(vS s.Player),(vS s.Item),(vI s.At),(vI s.Long)]

structure Share where
  Campaign:ByteArray
  Spot:ByteArray
  Many:Int
def Share.enc (s:Share):List D:=[.str s.Campaign,.str s.Spot,.int .i64 s.Many]
abbrev Share.v (s:Share):List V:=[(vS s.Campaign),(vS s.Spot),(vI s.Many)]

structure Web where
  f_can:(List (List Int))
  f_camps:Int
def Web.enc (s:Web):List D:=[dl (eL eI) s.f_can,.int .i64 s.f_camps]

structure Pace where
  Campaign:ByteArray
  Due:Int
  Done:Int
def Pace.enc (s:Pace):List D:=[.str s.Campaign,.int .i64 s.Due,.int .i64 s.Done]
abbrev Pace.v (s:Pace):List V:=[(vS s.Campaign),(vI s.Due),(vI s.Done)]

structure Rect where
  X:Int
  Y:Int
  W:Int
  H:Int
def Rect.enc (s:Rect):List D:=[.int .i64 s.X,.int .i64 s.Y,.int .i64 s.W,.int .i64 s.H]
abbrev Rect.v (s:Rect):List V:=[(vI s.X),(vI s.Y),(vI s.W),(vI s.H)]

structure Run where
  f_from:Int
  f_to:Int
def Run.enc (s:Run):List D:=[.int .i64 s.f_from,.int .i64 s.f_to]

structure Entry where
  Key:ByteArray
  Item:ByteArray
  Version:Int
  First:Int
  Last:Int
  Every:Int
  Days:Int
  Except:(List Int)
  From:Int
  To:Int
  Prio:Int
  Tags:(List ByteArray)
  Gone:Bool
def Entry.enc (s:Entry):List D:=[.str s.Key,.str s.Item,.int .i64 s.Version,.int .i64 s.First,.int .i64 s.Last,.int .i64 s.Every,.int .i64 s.Days,dl eI s.Except,.int .i64 s.From,.int .i64 s.To,.int .i64 s.Prio,dl eS s.Tags,.bool s.Gone]
abbrev Entry.v (s:Entry):List V:=[(vS s.Key),(vS s.Item),(vI s.Version),(vI s.First),(vI s.Last),(vI s.Every),(vI s.Days),(vL eI s.Except),(vI s.From),(vI s.To),(vI s.Prio),(vL eS s.Tags),(vB s.Gone)]

structure Beat where
  Player:ByteArray
  At:Int
  Clock:Int
def Beat.enc (s:Beat):List D:=[.str s.Player,.int .i64 s.At,.int .i64 s.Clock]
abbrev Beat.v (s:Beat):List V:=[(vS s.Player),(vI s.At),(vI s.Clock)]

structure Beat_ where
  f_from:Int
  f_to:Int
def Beat_.enc (s:Beat_):List D:=[.int .i64 s.f_from,.int .i64 s.f_to]

structure Alert where
  Id:ByteArray
  Sender:ByteArray
  Kind:Int
  Refs:(List ByteArray)
  At:Int
  Until:Int
  Weight:Int
  Areas:(List Rect)
  Text:ByteArray
def Alert.enc (s:Alert):List D:=[.str s.Id,.str s.Sender,.int .i64 s.Kind,dl eS s.Refs,.int .i64 s.At,.int .i64 s.Until,.int .i64 s.Weight,dl Rect.enc s.Areas,.str s.Text]
abbrev Alert.v (s:Alert):List V:=[(vS s.Id),(vS s.Sender),(vI s.Kind),(vL eS s.Refs),(vI s.At),(vI s.Until),(vI s.Weight),(vL Rect.enc s.Areas),(vS s.Text)]

structure Post where
  Player:ByteArray
  X:Int
  Y:Int
def Post.enc (s:Post):List D:=[.str s.Player,.int .i64 s.X,.int .i64 s.Y]
abbrev Post.v (s:Post):List V:=[(vS s.Player),(vI s.X),(vI s.Y)]

def sV (x_1:Int) (n_2:Int):Option (Int) :=
  bif (decide (n_2<1))then some 0 else (Kh .i64 x_1 n_2).bind λq_4=>(bif (decide (q_4<0))then some (w64 (q_4+n_2))else some q_4).bind λv_6=>some v_6
def iA (s_1:Stream) (n_2:Int):Option (Int×Stream) :=
  bif ((s_1.L.length:Int)==0)then (sV (w64 ((w64 (s_1.f_at+1))*7919)) n_2).bind λr_4=>some (r_4,(⟨s_1.L,(w64 (s_1.f_at+1))⟩:Stream))else (Kh .i64 (w64 ((w64 (s_1.f_at+1))-1)) (s_1.L.length:Int)).bind λq_6=>(IR .i64 (w64 ((w64 (s_1.f_at+1))-1)) (s_1.L.length:Int)).bind λq_8=>(idx s_1.L q_6).bind λy_10=>(sV y_10 1073741824).bind λr_12=>(sV (w64 (r_12+(w64 (q_8*(w64 (7919+q_6)))))) n_2).bind λr_14=>some (r_14,(⟨s_1.L,(w64 (s_1.f_at+1))⟩:Stream))
def eX (s_1:Stream) (n_2:Int):Option (Bool×Stream) :=
  (iA s_1 n_2).bind λr_3=>some ((r_3.1==0),r_3.2)
def dI (s_1:Stream) (l_2:(List Int)):Option (Int×Stream) :=
  (iA s_1 (l_2.length:Int)).bind λr_3=>(idx l_2 r_3.1).bind λy_6=>some (y_6,r_3.2)
def iK (k_26:Nat) (x_28:ByteArray) (s_31:(List ByteArray)×(List Int)×Int):Option (Ctl ((List ByteArray)×(List Int)×Int) (Unit)) :=
  (eX (⟨s_31.2.1,s_31.2.2⟩:Stream) 2).bind λr_39=>(bif r_39.1 then (iZ s_31.1 ([x_28]:List ByteArray)).bind λa_46=>some a_46 else some s_31.1).bind λv_42=>some (.go (v_42,r_39.2.L,r_39.2.f_at))
def fV (k_2:Nat) (x_4:ByteArray) (s_7:(List Spot)×(List Int)×Int):Option (Ctl ((List Spot)×(List Int)×Int) (Unit)) :=
  (eX (⟨s_7.2.1,s_7.2.2⟩:Stream) 4).bind λr_15=>bif r_15.1 then some (.go (s_7.1,r_15.2.L,r_15.2.f_at))else (dI r_15.2 ([5,10,10]:List Int)).bind λr_19=>(dI r_19.2 ([0,1,2,3,5]:List Int)).bind λr_22=>(forL ([(⟨#[99,105,116,121]⟩:ByteArray),(⟨#[109,97,108,108]⟩:ByteArray)]:List ByteArray) (([]:List ByteArray),r_22.2.L,r_22.2.f_at) (λk x s=>iK k x s)).bind λo_37=>thenC o_37 (λs_31=>(iZ s_7.1 ([(⟨x_4,(⟨(w64 (10*(k_2:Int))),(w64 ((w64 (10*(k_2:Int)))+r_19.1))⟩:Window),r_22.1,s_31.1⟩:Spot)]:List Spot)).bind λa_49=>some (.go (a_49,s_31.2.1,s_31.2.2))) (λ_=>none)
def fU (s_1:Stream):Option ((List Spot)×Stream) :=
  (forL ([(⟨#[115,97]⟩:ByteArray),(⟨#[115,98]⟩:ByteArray),(⟨#[115,99]⟩:ByteArray),(⟨#[115,100]⟩:ByteArray),(⟨#[115,101]⟩:ByteArray)]:List ByteArray) (([]:List Spot),s_1.L,s_1.f_at) (λk x s=>fV k x s)).bind λo_13=>thenC o_13 (λs_7=>some (s_7.1,(⟨s_7.2.1,s_7.2.2⟩:Stream))) (λ_=>none)
def iw (s_1:Stream) (l_2:(List ByteArray)):Option (ByteArray×Stream) :=
  (iA s_1 (l_2.length:Int)).bind λr_3=>(idx l_2 r_3.1).bind λy_6=>some (y_6,r_3.2)
def gm (k_41:Nat) (x_43:ByteArray) (s_46:(List ByteArray)×(List Int)×Int):Option (Ctl ((List ByteArray)×(List Int)×Int) (Unit)) :=
  (eX (⟨s_46.2.1,s_46.2.2⟩:Stream) 4).bind λr_54=>(bif r_54.1 then (iZ s_46.1 ([x_43]:List ByteArray)).bind λa_61=>some a_61 else some s_46.1).bind λv_57=>some (.go (v_57,r_54.2.L,r_54.2.f_at))
def ek (k_5:Nat) (x_7:ByteArray) (s_10:(List Campaign)×(List Int)×Int):Option (Ctl ((List Campaign)×(List Int)×Int) (Unit)) :=
  (eX (⟨s_10.2.1,s_10.2.2⟩:Stream) 5).bind λr_18=>bif r_18.1 then some (.go (s_10.1,r_18.2.L,r_18.2.f_at))else (iw r_18.2 ([(⟨#[]⟩:ByteArray),(⟨#[]⟩:ByteArray),(⟨#[99,97,114,115]⟩:ByteArray),(⟨#[102,111,111,100]⟩:ByteArray)]:List ByteArray)).bind λr_22=>(dI r_22.2 ([0,0,10,20]:List Int)).bind λr_25=>(dI r_25.2 ([30,50,60,100]:List Int)).bind λr_28=>(dI r_28.2 ([0,1,2,3,4,6]:List Int)).bind λr_31=>(dI r_31.2 ([0,1,2,3,9]:List Int)).bind λr_34=>(dI r_34.2 ([0,500,1000,1500]:List Int)).bind λr_37=>(forL ([(⟨#[99,105,116,121]⟩:ByteArray),(⟨#[109,97,108,108]⟩:ByteArray)]:List ByteArray) (([]:List ByteArray),r_37.2.L,r_37.2.f_at) (λk x s=>gm k x s)).bind λo_52=>thenC o_52 (λs_46=>(iZ s_10.1 ([(⟨x_7,r_22.1,(⟨r_25.1,r_28.1⟩:Window),s_46.1,r_31.1,r_34.1,r_37.1⟩:Campaign)]:List Campaign)).bind λa_64=>some (.go (a_64,s_46.2.1,s_46.2.2))) (λ_=>none)
def dE (s_1:Stream) (most_2:Int):Option ((List Campaign)×Stream) :=
  (K4 ([(⟨#[99,97]⟩:ByteArray),(⟨#[99,98]⟩:ByteArray),(⟨#[99,99]⟩:ByteArray),(⟨#[99,100]⟩:ByteArray)]:List ByteArray) 0 most_2).bind λy_3=>(forL y_3 (([]:List Campaign),s_1.L,s_1.f_at) (λk x s=>ek k x s)).bind λo_16=>thenC o_16 (λs_10=>some (s_10.1,(⟨s_10.2.1,s_10.2.2⟩:Stream))) (λ_=>none)
def jK (s_1:Stream) (low_2:Int) (high_3:Int):Option (Int×Stream) :=
  bif (decide (high_3<low_2))then some (low_2,s_1)else (iA s_1 (w64 ((w64 (high_3-low_2))+1))).bind λr_5=>some ((w64 (low_2+r_5.1)),r_5.2)
def lQ (s_1:Stream) (low_2:Int) (high_3:Int):Option (Int×Stream) :=
  (eX s_1 12).bind λr_4=>bif r_4.1 then (dI r_4.2 ([(w64 (low_2-1)),(w64 (high_3+1)),low_2,high_3,(-1099511627776),1099511627776]:List Int)).bind λr_8=>some (r_8.1,r_8.2)else (jK r_4.2 low_2 high_3).bind λr_11=>some (r_11.1,r_11.2)
def iU (k_3:Nat) (x_5:Nat) (s_8:(List Play)×(List Int)×Int):Option (Ctl ((List Play)×(List Int)×Int) (Unit)) :=
  (iw (⟨s_8.2.1,s_8.2.2⟩:Stream) ([(⟨#[99,97]⟩:ByteArray),(⟨#[99,97]⟩:ByteArray),(⟨#[99,98]⟩:ByteArray),(⟨#[99,99]⟩:ByteArray),(⟨#[122,122]⟩:ByteArray)]:List ByteArray)).bind λr_16=>(jK r_16.2 0 70).bind λr_19=>(dI r_19.2 ([1,5]:List Int)).bind λr_22=>(eX r_22.2 80).bind λr_26=>(bif r_26.1 then (iw r_26.2 ([(⟨#[112]⟩:ByteArray),(⟨#[]⟩:ByteArray)]:List ByteArray)).bind λr_32=>(iw r_32.2 ([(⟨#[99,97]⟩:ByteArray),(⟨#[65]⟩:ByteArray)]:List ByteArray)).bind λr_35=>(lQ r_35.2 0 70).bind λr_38=>(lQ r_38.2 1 9).bind λr_41=>some (r_41.2.L,r_41.2.f_at,r_32.1,r_35.1,r_38.1,r_41.1)else some (r_26.2.L,r_26.2.f_at,(⟨#[112]⟩:ByteArray),r_16.1,r_19.1,r_22.1)).bind λv_29=>(iZ s_8.1 ([(⟨v_29.2.2.1,v_29.2.2.2.1,v_29.2.2.2.2.1,v_29.2.2.2.2.2⟩:Play)]:List Play)).bind λa_44=>some (.go (a_44,v_29.1,v_29.2.1))
def je (s_1:Stream) (many_2:Int):Option ((List Play)×Stream) :=
  (forL (List.range (many_2).toNat) (([]:List Play),s_1.L,s_1.f_at) (λk x s=>iU k x s)).bind λo_14=>thenC o_14 (λs_8=>some (s_8.1,(⟨s_8.2.1,s_8.2.2⟩:Stream))) (λ_=>none)
def jX (s_1:ByteArray) (s_7:Int):Option (Ctl (Int) (Bool)) :=
  bif (decide (s_7<(s_1.size:Int)))then (yY s_1 s_7).bind λb_13=>(bif (decide ((b_13.toNat:Int)>=97))then bif (decide ((b_13.toNat:Int)<=122))then some false else bif (decide (s_7>0))then bif (decide ((b_13.toNat:Int)>=48))then bif (decide ((b_13.toNat:Int)<=57))then some false else bif ((b_13.toNat:Int)==45)then some false else some (!((b_13.toNat:Int)==95))else bif ((b_13.toNat:Int)==45)then some false else some (!((b_13.toNat:Int)==95))else some true else bif (decide (s_7>0))then bif (decide ((b_13.toNat:Int)>=48))then bif (decide ((b_13.toNat:Int)<=57))then some false else bif ((b_13.toNat:Int)==45)then some false else some (!((b_13.toNat:Int)==95))else bif ((b_13.toNat:Int)==45)then some false else some (!((b_13.toNat:Int)==95))else some true).bind λv_15=>bif v_15 then some (.ret false)else some (.go (w64 (s_7+1)))else some (.brk s_7)
noncomputable def eG (s_1:ByteArray):Option (Bool) :=
  (kJ 0 (λs=>jX s_1 s)).bind λo_10=>thenC o_10 (λs_7=>(bif (sNe s_1 (⟨#[]⟩:ByteArray))then some (decide ((s_1.size:Int)<=40))else some false).bind λv_30=>some v_30) (λr=>some r)
def jq (wv_1:Window):Option (Bool) :=
  (bif (decide (wv_1.From>=0))then bif (decide (wv_1.From<wv_1.To))then some (decide (wv_1.To<=345686400000))else some false else some false).bind λv_3=>some v_3
def aQ (n_1:Int) (low_2:Int) (high_3:Int):Option (Bool) :=
  (bif (decide (n_1<low_2))then some true else some (decide (n_1>high_3))).bind λv_4=>some v_4
noncomputable def gQ (l_1:(List ByteArray)) (k_2:Nat) (x_4:ByteArray) (s_7:Unit):Option (Ctl (Unit) (Int)) :=
  (eG x_4).bind λr_12=>bif (!r_12)then some (.ret 5)else (bif (decide ((k_2:Int)>0))then (idx l_1 (w64 ((k_2:Int)-1))).bind λy_18=>some (sLe x_4 y_18)else some false).bind λv_15=>bif v_15 then some (.ret 7)else some (.go ())
noncomputable def iM (l_1:(List ByteArray)):Option (Int) :=
  (forL l_1 () (λk x s=>gQ l_1 k x s)).bind λo_10=>thenC o_10 (λs_7=>some 0) (λr=>some r)
noncomputable def fE (l_1:(List ByteArray)):Option (Int) :=
  bif (decide ((l_1.length:Int)>20))then some 2 else (iM l_1).bind λr_3=>some r_3
noncomputable def jC (l_1:(List Spot)) (k_3:Nat) (x_5:Spot) (s_8:Unit):Option (Ctl (Unit) (Int)) :=
  (eG x_5.Key).bind λr_14=>bif (!r_14)then some (.ret 5)else (bif (decide ((k_3:Int)>0))then (idx l_1 (w64 ((k_3:Int)-1))).bind λy_20=>some (sLe x_5.Key y_20.Key)else some false).bind λv_17=>bif v_17 then some (.ret 7)else ((jq x_5.Time).bind λr_25=>bif (!r_25)then some true else (aQ x_5.Room 0 1000000).bind λr_28=>some r_28).bind λv_23=>bif v_23 then some (.ret 1)else (fE x_5.Tags).bind λr_31=>bif (r_31 != 0)then some (.ret r_31)else some (.go ())
noncomputable def jl (l_1:(List Spot)):Option (Int) :=
  bif (decide ((l_1.length:Int)>60))then some 2 else (forL l_1 () (λk x s=>jC l_1 k x s)).bind λo_11=>thenC o_11 (λs_8=>some 0) (λr=>some r)
noncomputable def dN (l_1:(List Campaign)) (k_3:Nat) (x_5:Campaign) (s_8:Unit):Option (Ctl (Unit) (Int)) :=
  ((eG x_5.Key).bind λr_16=>bif (!r_16)then some true else bif (sNe x_5.Class (⟨#[]⟩:ByteArray))then (eG x_5.Class).bind λr_20=>some (!r_20)else some false).bind λv_14=>bif v_14 then some (.ret 5)else (bif (decide ((k_3:Int)>0))then (idx l_1 (w64 ((k_3:Int)-1))).bind λy_26=>some (sLe x_5.Key y_26.Key)else some false).bind λv_23=>bif v_23 then some (.ret 7)else ((jq x_5.Time).bind λr_31=>bif (!r_31)then some true else (aQ x_5.Goal 0 1000000).bind λr_34=>bif r_34 then some true else (aQ x_5.Most 0 1000000).bind λr_37=>bif r_37 then some true else (aQ x_5.Cents 0 1000000000).bind λr_40=>some r_40).bind λv_29=>bif v_29 then some (.ret 1)else (fE x_5.Tags).bind λr_43=>bif (r_43 != 0)then some (.ret r_43)else some (.go ())
noncomputable def bR (l_1:(List Campaign)):Option (Int) :=
  bif (decide ((l_1.length:Int)>30))then some 2 else (forL l_1 () (λk x s=>dN l_1 k x s)).bind λo_11=>thenC o_11 (λs_8=>some 0) (λr=>some r)
noncomputable def dD (spots_1:(List Spot)) (l_2:(List Campaign)):Option (Int) :=
  (jl spots_1).bind λr_3=>bif (r_3 != 0)then some r_3 else (bR l_2).bind λr_6=>some r_6
def gZ (wv_1:Web) (i_2:Int):Option (Int) :=
  some (w64 (2+i_2))
def cmp_isNaN_string (x_1:ByteArray):Option (Bool) :=
  some (sNe x_1 x_1)
def cmp_Less_string (x_1:ByteArray) (y_2:ByteArray):Option (Bool) :=
  ((cmp_isNaN_string x_1).bind λr_5=>bif r_5 then (cmp_isNaN_string y_2).bind λr_8=>bif (!r_8)then some true else some (sLt x_1 y_2)else some (sLt x_1 y_2)).bind λv_3=>some v_3
def slices_isNaN_string (x_1:ByteArray):Option (Bool) :=
  some (sNe x_1 x_1)
def bn (x_1:(List ByteArray)) (target_2:ByteArray) (s_8:Int×Int):Option (Ctl (Int×Int) (Unit)) :=
  bif (decide (s_8.1<s_8.2))then (Iu .u64 (IntKind.u64.wrap (w64 (s_8.1+s_8.2))) 1).bind λq_14=>(idx x_1 (w64 q_14)).bind λy_16=>(cmp_Less_string y_16 target_2).bind λr_18=>bif r_18 then some (.go ((w64 ((w64 q_14)+1)),s_8.2))else some (.go (s_8.1,(w64 q_14)))else some (.brk (s_8.1,s_8.2))
noncomputable def dz (x_1:(List ByteArray)) (target_2:ByteArray):Option (Int×Bool) :=
  (kJ (0,(x_1.length:Int)) (λs=>bn x_1 target_2 s)).bind λo_11=>thenC o_11 (λs_8=>(bif (decide (s_8.1<(x_1.length:Int)))then (idx x_1 s_8.1).bind λy_24=>bif (sEq y_24 target_2)then some true else (idx x_1 s_8.1).bind λy_27=>(slices_isNaN_string y_27).bind λr_29=>bif r_29 then (slices_isNaN_string target_2).bind λr_32=>some r_32 else some false else some false).bind λv_21=>some (s_8.1,v_21)) (λ_=>none)
noncomputable def iY (s_2:Spot) (k_9:Nat) (x_11:ByteArray) (s_14:Unit):Option (Ctl (Unit) (Bool)) :=
  (dz s_2.Tags x_11).bind λr_19=>bif (!r_19.2)then some (.ret false)else some (.go ())
noncomputable def lS (c_1:Campaign) (s_2:Spot):Option (Bool) :=
  (bif (decide (s_2.Time.From<c_1.Time.From))then some true else some (decide (s_2.Time.To>c_1.Time.To))).bind λv_5=>bif v_5 then some false else (forL c_1.Tags () (λk x s=>iY s_2 k x s)).bind λo_17=>thenC o_17 (λs_14=>some true) (λr=>some r)
def gW (wv_1:Web) (k_2:Int):Option (Int) :=
  some (w64 ((w64 (2+wv_1.f_camps))+k_2))
def jW (spots_1:(List Spot)) (l_2:(List Campaign)) (m_3:Nat) (k_9:Nat) (x_11:Nat) (s_14:(List (List Int))):Option (Ctl ((List (List Int))) (Unit)) :=
  (mkN (w64 ((w64 (2+(spots_1.length:Int)))+(l_2.length:Int))) 8).bind λm_21=>(inN (k_9:Int) m_3).bind λ_=>(neL (List.replicate m_21 (0:Int))).bind λ_=>(s_14[(0+((k_9:Int)).toNat)]?).bind λr_26=>some (.go (s_14.set (0+((k_9:Int)).toNat) (List.replicate m_21 (0:Int))))
noncomputable def iC (x_30:Campaign) (m_3:Nat) (l_2:(List Campaign)) (k_28:Nat) (k_51:Nat) (x_53:Spot) (s_56:(List (List Int))):Option (Ctl ((List (List Int))) (Unit)) :=
  (lS x_30 x_53).bind λr_62=>(bif r_62 then (neR s_56).bind λ_=>(zY s_56 m_3).bind λ_=>(gZ (⟨s_56,(l_2.length:Int)⟩:Web) (k_28:Int)).bind λr_67=>(inN r_67 m_3).bind λ_=>(s_56[(0+(r_67).toNat)]?).bind λr_72=>(neR s_56).bind λ_=>(zY s_56 m_3).bind λ_=>(gW (⟨s_56,(l_2.length:Int)⟩:Web) (k_51:Int)).bind λr_74=>(inR r_74 r_72).bind λ_=>(s_56[(0+(r_67).toNat)]?).bind λr_79=>(r_79[(0+(r_74).toNat)]?).bind λe_81=>some (s_56.set (0+(r_67).toNat) (r_79.set (0+(r_74).toNat) x_30.Most))else some s_56).bind λv_64=>some (.go v_64)
noncomputable def iE (m_3:Nat) (l_2:(List Campaign)) (spots_1:(List Spot)) (k_28:Nat) (x_30:Campaign) (s_33:(List (List Int))):Option (Ctl ((List (List Int))) (Unit)) :=
  (inN 0 m_3).bind λ_=>(s_33[(0+(0:Int).toNat)]?).bind λr_40=>(neR s_33).bind λ_=>(zY s_33 m_3).bind λ_=>(gZ (⟨s_33,(l_2.length:Int)⟩:Web) (k_28:Int)).bind λr_42=>(inR r_42 r_40).bind λ_=>(s_33[(0+(0:Int).toNat)]?).bind λr_47=>(r_47[(0+(r_42).toNat)]?).bind λe_49=>(forL spots_1 (s_33.set (0+(0:Int).toNat) (r_47.set (0+(r_42).toNat) x_30.Goal)) (λk x s=>iC x_30 m_3 l_2 k_28 k x s)).bind λo_59=>thenC o_59 (λs_56=>some (.go s_56)) (λ_=>none)
def jS (m_3:Nat) (l_2:(List Campaign)) (k_83:Nat) (x_85:Spot) (s_88:(List (List Int))):Option (Ctl ((List (List Int))) (Unit)) :=
  (neR s_88).bind λ_=>(zY s_88 m_3).bind λ_=>(gW (⟨s_88,(l_2.length:Int)⟩:Web) (k_83:Int)).bind λr_94=>(inN r_94 m_3).bind λ_=>(s_88[(0+(r_94).toNat)]?).bind λr_99=>(inR 1 r_99).bind λ_=>(s_88[(0+(r_94).toNat)]?).bind λr_102=>(r_102[(0+(1:Int).toNat)]?).bind λe_104=>some (.go (s_88.set (0+(r_94).toNat) (r_102.set (0+(1:Int).toNat) x_85.Room)))
noncomputable def ji (spots_1:(List Spot)) (l_2:(List Campaign)):Option (Web) :=
  (mkN (w64 ((w64 (2+(spots_1.length:Int)))+(l_2.length:Int))) 24).bind λm_3=>(nzI (w64 ((w64 (2+(spots_1.length:Int)))+(l_2.length:Int)))).bind λ_=>(forL (List.range (((m_3:Nat):Int)).toNat) (List.replicate m_3 ([]:List Int)) (λk x s=>jW spots_1 l_2 m_3 k x s)).bind λo_19=>thenC o_19 (λs_14=>(forL l_2 s_14 (λk x s=>iE m_3 l_2 spots_1 k x s)).bind λo_36=>thenC o_36 (λs_33=>(forL spots_1 s_33 (λk x s=>jS m_3 l_2 k x s)).bind λo_91=>thenC o_91 (λs_88=>(zY s_88 m_3).bind λ_=>some (⟨s_88,(l_2.length:Int)⟩:Web)) (λ_=>none)) (λ_=>none)) (λ_=>none)
def jk (k_7:Nat) (x_9:Nat) (s_12:(List Int)):Option (Ctl ((List Int)) (Unit)) :=
  (inR (k_7:Int) s_12).bind λ_=>(s_12[(0+((k_7:Int)).toNat)]?).bind λe_18=>some (.go (s_12.set (0+((k_7:Int)).toNat) (-1)))
def gX (r_47:(List Int)) (wv_1:Web) (e_44:Int) (k_49:Nat) (x_51:Nat) (s_54:(List Int)×(List Int)×Nat):Option (Ctl ((List Int)×(List Int)×Nat) (Unit)) :=
  (inR (k_49:Int) r_47).bind λ_=>(wv_1.f_can[(0+(e_44).toNat)]?).bind λr_62=>(r_62[(0+((k_49:Int)).toNat)]?).bind λe_64=>(bif (decide (e_64>0))then (inR (k_49:Int) s_54.1).bind λ_=>(s_54.1[(0+((k_49:Int)).toNat)]?).bind λe_70=>some (decide (e_70<0))else some false).bind λv_66=>(bif v_66 then (inN 0 (s_54.2.1.length-s_54.2.2)).bind λ_=>(s_54.2.1[(s_54.2.2+(0:Int).toNat)]?).bind λe_77=>(inR (k_49:Int) s_54.1).bind λ_=>(s_54.1[(0+((k_49:Int)).toNat)]?).bind λe_80=>(leN s_54.2.2 s_54.2.1.length).bind λ_=>(iZ (s_54.2.1.drop s_54.2.2) ([(k_49:Int)]:List Int)).bind λa_82=>some ((s_54.1.set (0+((k_49:Int)).toNat) e_77),a_82,0)else some (s_54.1,s_54.2.1,s_54.2.2)).bind λv_72=>some (.go (v_72.1,v_72.2.1,v_72.2.2))
def fM (tov_3:Int) (wv_1:Web) (s_29:(List Int)×(List Int)×Nat):Option (Ctl ((List Int)×(List Int)×Nat) (Unit)) :=
  (bif (decide ((((s_29.2.1.length-s_29.2.2):Nat):Int)>0))then (inR tov_3 s_29.1).bind λ_=>(s_29.1[(0+(tov_3).toNat)]?).bind λe_40=>some (decide (e_40<0))else some false).bind λv_36=>bif v_36 then (inN 0 (s_29.2.1.length-s_29.2.2)).bind λ_=>(s_29.2.1[(s_29.2.2+(0:Int).toNat)]?).bind λe_44=>(inN e_44 wv_1.f_can.length).bind λ_=>(wv_1.f_can[(0+(e_44).toNat)]?).bind λr_47=>(forL (List.range ((r_47.length:Int)).toNat) (s_29.1,s_29.2.1,s_29.2.2) (λk x s=>gX r_47 wv_1 e_44 k x s)).bind λo_59=>thenC o_59 (λs_54=>(ltN s_54.2.2 s_54.2.1.length).bind λ_=>some (.go (s_54.1,s_54.2.1,(s_54.2.2+1)))) (λ_=>none)else some (.brk (s_29.1,s_29.2.1,s_29.2.2))
noncomputable def lG (wv_1:Web) (fromv_2:Int) (tov_3:Int):Option ((List Int)×Bool) :=
  (mkN ((wv_1.f_can.length:Nat):Int) 8).bind λm_4=>(forL (List.range (((List.replicate m_4 (0:Int)).length:Int)).toNat) (List.replicate m_4 (0:Int)) (λk x s=>jk k x s)).bind λo_15=>thenC o_15 (λs_12=>(inR fromv_2 s_12).bind λ_=>(s_12[(0+(fromv_2).toNat)]?).bind λe_21=>(kJ ((s_12.set (0+(fromv_2).toNat) fromv_2),([fromv_2]:List Int),0) (λs=>fM tov_3 wv_1 s)).bind λo_34=>thenC o_34 (λs_29=>(inR tov_3 s_29.1).bind λ_=>(s_29.1[(0+(tov_3).toNat)]?).bind λe_88=>some (s_29.1,(decide (e_88>=0)))) (λ_=>none)) (λ_=>none)
def fA (fromv_2:Int) (r_16:(List Int)×Bool) (wv_1:Web) (s_10:(List (List Int))×Int) (s_26:Int×Int):Option (Ctl (Int×Int) (Unit)) :=
  bif (s_26.2 != fromv_2)then (idx r_16.1 s_26.2).bind λy_32=>(inN y_32 wv_1.f_can.length).bind λ_=>(s_10.1[(0+(y_32).toNat)]?).bind λr_35=>(inR s_26.2 r_35).bind λ_=>(s_10.1[(0+(y_32).toNat)]?).bind λr_38=>(r_38[(0+(s_26.2).toNat)]?).bind λe_40=>(idx r_16.1 s_26.2).bind λy_42=>some (.go ((zS s_26.1 e_40),y_42))else some (.brk (s_26.1,s_26.2))
def fD (fromv_2:Int) (r_16:(List Int)×Bool) (wv_1:Web) (s_26:Int×Int) (s_49:(List (List Int))×Int):Option (Ctl ((List (List Int))×Int) (Unit)) :=
  bif (s_49.2 != fromv_2)then (idx r_16.1 s_49.2).bind λy_55=>(inN y_55 wv_1.f_can.length).bind λ_=>(s_49.1[(0+(y_55).toNat)]?).bind λr_58=>(inR s_49.2 r_58).bind λ_=>(s_49.1[(0+(y_55).toNat)]?).bind λr_61=>(r_61[(0+(s_49.2).toNat)]?).bind λe_63=>(inR s_49.2 r_58).bind λ_=>(s_49.1[(0+(y_55).toNat)]?).bind λr_66=>(r_66[(0+(s_49.2).toNat)]?).bind λe_68=>(inN s_49.2 wv_1.f_can.length).bind λ_=>((s_49.1.set (0+(y_55).toNat) (r_66.set (0+(s_49.2).toNat) (w64 (e_63-s_26.1))))[(0+(s_49.2).toNat)]?).bind λr_71=>(idx r_16.1 s_49.2).bind λy_73=>(inR y_73 r_71).bind λ_=>((s_49.1.set (0+(y_55).toNat) (r_66.set (0+(s_49.2).toNat) (w64 (e_63-s_26.1))))[(0+(s_49.2).toNat)]?).bind λr_76=>(r_76[(0+(y_73).toNat)]?).bind λe_78=>(inR y_73 r_71).bind λ_=>((s_49.1.set (0+(y_55).toNat) (r_66.set (0+(s_49.2).toNat) (w64 (e_63-s_26.1))))[(0+(s_49.2).toNat)]?).bind λr_81=>(r_81[(0+(y_73).toNat)]?).bind λe_83=>(idx r_16.1 s_49.2).bind λy_85=>some (.go (((s_49.1.set (0+(y_55).toNat) (r_66.set (0+(s_49.2).toNat) (w64 (e_63-s_26.1)))).set (0+(s_49.2).toNat) (r_81.set (0+(y_73).toNat) (w64 (e_78+s_26.1)))),y_85))else some (.brk (s_49.1,s_49.2))
noncomputable def fC (most_4:Int) (wv_1:Web) (fromv_2:Int) (tov_3:Int) (s_10:(List (List Int))×Int):Option (Ctl ((List (List Int))×Int) (Unit)) :=
  bif (decide (s_10.2<most_4))then (neR s_10.1).bind λ_=>(zY s_10.1 wv_1.f_can.length).bind λ_=>(lG (⟨s_10.1,wv_1.f_camps⟩:Web) fromv_2 tov_3).bind λr_16=>bif (!r_16.2)then some (.brk (s_10.1,s_10.2))else (kJ ((w64 (most_4-s_10.2)),tov_3) (λs=>fA fromv_2 r_16 wv_1 s_10 s)).bind λo_29=>thenC o_29 (λs_26=>(kJ (s_10.1,tov_3) (λs=>fD fromv_2 r_16 wv_1 s_26 s)).bind λo_52=>thenC o_52 (λs_49=>some (.go (s_49.1,(w64 (s_10.2+s_26.1))))) (λ_=>none)) (λ_=>none)else some (.brk (s_10.1,s_10.2))
noncomputable def fQ (wv_1:Web) (fromv_2:Int) (tov_3:Int) (most_4:Int):Option (Int×Web) :=
  (kJ (wv_1.f_can,0) (λs=>fC most_4 wv_1 fromv_2 tov_3 s)).bind λo_13=>thenC o_13 (λs_10=>(nV s_10.1 wv_1.f_can).bind λ_=>some (s_10.2,(⟨s_10.1,wv_1.f_camps⟩:Web))) (λ_=>none)
def kC (k_2:Nat) (x_4:Campaign) (s_7:Int):Option (Ctl (Int) (Unit)) :=
  some (.go (w64 (s_7+x_4.Goal)))
def lU (l_1:(List Campaign)):Option (Int) :=
  (forL l_1 0 (λk x s=>kC k x s)).bind λo_10=>thenC o_10 (λs_7=>some s_7) (λ_=>none)
noncomputable def jH (x_22:Campaign) (r_6:Web) (k_20:Nat) (k_34:Nat) (x_36:Spot) (s_39:(List (List Int))×(List Share)×Int):Option (Ctl ((List (List Int))×(List Share)×Int) (Unit)) :=
  (lS x_22 x_36).bind λr_47=>bif (!r_47)then some (.go (s_39.1,s_39.2.1,s_39.2.2))else (neR s_39.1).bind λ_=>(zY s_39.1 r_6.f_can.length).bind λ_=>(gZ (⟨s_39.1,s_39.2.2⟩:Web) (k_20:Int)).bind λr_50=>(neR s_39.1).bind λ_=>(zY s_39.1 r_6.f_can.length).bind λ_=>(gW (⟨s_39.1,s_39.2.2⟩:Web) (k_34:Int)).bind λr_54=>(inN r_54 r_6.f_can.length).bind λ_=>(s_39.1[(0+(r_54).toNat)]?).bind λr_59=>(inR r_50 r_59).bind λ_=>(s_39.1[(0+(r_54).toNat)]?).bind λr_62=>(r_62[(0+(r_50).toNat)]?).bind λe_64=>(inN r_50 r_6.f_can.length).bind λ_=>(s_39.1[(0+(r_50).toNat)]?).bind λr_67=>(inR r_54 r_67).bind λ_=>(s_39.1[(0+(r_50).toNat)]?).bind λr_70=>(r_70[(0+(r_54).toNat)]?).bind λe_72=>(inN r_50 r_6.f_can.length).bind λ_=>(s_39.1[(0+(r_50).toNat)]?).bind λr_75=>(inN r_54 r_6.f_can.length).bind λ_=>(s_39.1[(0+(r_54).toNat)]?).bind λr_78=>(inR r_54 r_75).bind λ_=>(s_39.1[(0+(r_50).toNat)]?).bind λr_81=>(r_81[(0+(r_54).toNat)]?).bind λe_83=>(inR r_50 r_78).bind λ_=>((s_39.1.set (0+(r_50).toNat) (r_81.set (0+(r_54).toNat) 0))[(0+(r_54).toNat)]?).bind λr_86=>(r_86[(0+(r_50).toNat)]?).bind λe_88=>(neR ((s_39.1.set (0+(r_50).toNat) (r_81.set (0+(r_54).toNat) 0)).set (0+(r_54).toNat) (r_86.set (0+(r_50).toNat) 0))).bind λ_=>(zY ((s_39.1.set (0+(r_50).toNat) (r_81.set (0+(r_54).toNat) 0)).set (0+(r_54).toNat) (r_86.set (0+(r_50).toNat) 0)) r_6.f_can.length).bind λ_=>(fQ (⟨((s_39.1.set (0+(r_50).toNat) (r_81.set (0+(r_54).toNat) 0)).set (0+(r_54).toNat) (r_86.set (0+(r_50).toNat) 0)),s_39.2.2⟩:Web) r_54 r_50 e_72).bind λr_90=>(nV r_90.2.f_can ((s_39.1.set (0+(r_50).toNat) (r_81.set (0+(r_54).toNat) 0)).set (0+(r_54).toNat) (r_86.set (0+(r_50).toNat) 0))).bind λ_=>(bif (decide ((w64 (e_64+r_90.1))>0))then (iZ s_39.2.1 ([(⟨x_22.Key,x_36.Key,(w64 (e_64+r_90.1))⟩:Share)]:List Share)).bind λa_99=>some a_99 else some s_39.2.1).bind λv_95=>(inN r_50 r_6.f_can.length).bind λ_=>(r_90.2.f_can[(0+(r_50).toNat)]?).bind λr_103=>(inN r_54 r_6.f_can.length).bind λ_=>(r_90.2.f_can[(0+(r_54).toNat)]?).bind λr_106=>(inR r_54 r_103).bind λ_=>(r_90.2.f_can[(0+(r_50).toNat)]?).bind λr_109=>(r_109[(0+(r_54).toNat)]?).bind λe_111=>(inR r_50 r_106).bind λ_=>((r_90.2.f_can.set (0+(r_50).toNat) (r_109.set (0+(r_54).toNat) 0))[(0+(r_54).toNat)]?).bind λr_114=>(r_114[(0+(r_50).toNat)]?).bind λe_116=>some (.go (((r_90.2.f_can.set (0+(r_50).toNat) (r_109.set (0+(r_54).toNat) 0)).set (0+(r_54).toNat) (r_114.set (0+(r_50).toNat) 0)),v_95,r_90.2.f_camps))
noncomputable def jJ (spots_1:(List Spot)) (r_6:Web) (k_20:Nat) (x_22:Campaign) (s_25:(List (List Int))×(List Share)×Int):Option (Ctl ((List (List Int))×(List Share)×Int) (Unit)) :=
  (forL spots_1 (s_25.1,s_25.2.1,s_25.2.2) (λk x s=>jH x_22 r_6 k_20 k x s)).bind λo_44=>thenC o_44 (λs_39=>some (.go (s_39.1,s_39.2.1,s_39.2.2))) (λ_=>none)
noncomputable def jL (spots_1:(List Spot)) (l_2:(List Campaign)):Option ((List Share)×Int) :=
  (dD spots_1 l_2).bind λr_3=>bif (r_3 != 0)then some (([]:(List Share)),r_3)else (ji spots_1 l_2).bind λr_6=>(neR r_6.f_can).bind λ_=>(neR r_6.f_can).bind λ_=>(zY r_6.f_can r_6.f_can.length).bind λ_=>(fQ r_6 0 1 1800000000).bind λr_12=>(nV r_12.2.f_can r_6.f_can).bind λ_=>(lU l_2).bind λr_17=>bif (decide (r_12.1<r_17))then some (([]:(List Share)),12)else (forL l_2 (r_12.2.f_can,([]:List Share),r_12.2.f_camps) (λk x s=>jJ spots_1 r_6 k x s)).bind λo_31=>thenC o_31 (λs_25=>some (s_25.2.1,0)) (λ_=>none)
def gu (k_3:Nat) (x_5:Nat) (s_8:(List Share)):Option (Ctl ((List Share)) (Unit)) :=
  (inR (k_3:Int) s_8).bind λ_=>(s_8[(0+((k_3:Int)).toNat)]?).bind λe_14=>some (.go (s_8.set (0+((k_3:Int)).toNat) (⟨(⟨#[]⟩:ByteArray),(⟨#[]⟩:ByteArray),0⟩:Share)))
def iJ (l_1:(List Share)):Option ((List Share)) :=
  (forL (List.range ((l_1.length:Int)).toNat) l_1 (λk x s=>gu k x s)).bind λo_11=>thenC o_11 (λs_8=>some s_8) (λ_=>none)
noncomputable def ib (spots_1:(List Spot)) (l_2:(List Campaign)):Option (Int) :=
  (ji spots_1 l_2).bind λr_3=>(neR r_3.f_can).bind λ_=>(neR r_3.f_can).bind λ_=>(zY r_3.f_can r_3.f_can.length).bind λ_=>(fQ r_3 0 1 1800000000).bind λr_9=>(nV r_9.2.f_can r_3.f_can).bind λ_=>some r_9.1
def dH (s_1:(List Spot)):Option ((List Spot)) :=
  (iZ [] s_1).bind λa_4=>some a_4
noncomputable def kW (spots_1:(List Spot)) (l_2:(List Campaign)) (r_6:Int) (k_8:Nat) (x_10:Spot) (s_13:(List ByteArray)):Option (Ctl ((List ByteArray)) (Unit)) :=
  bif (x_10.Room==0)then some (.go s_13)else (dH spots_1).bind λr_23=>(inR (k_8:Int) r_23).bind λ_=>(r_23[(0+((k_8:Int)).toNat)]?).bind λe_28=>(inR (k_8:Int) r_23).bind λ_=>(r_23[(0+((k_8:Int)).toNat)]?).bind λe_31=>(ib (r_23.set (0+((k_8:Int)).toNat) (⟨e_31.Key,e_31.Time,(w64 (e_28.Room-1)),e_31.Tags⟩:Spot)) l_2).bind λr_33=>(bif (decide (r_33<r_6))then (iZ s_13 ([x_10.Key]:List ByteArray)).bind λa_39=>some a_39 else some s_13).bind λv_35=>some (.go v_35)
noncomputable def nU (spots_1:(List Spot)) (l_2:(List Campaign)):Option ((List ByteArray)×Int) :=
  (dD spots_1 l_2).bind λr_3=>bif (r_3 != 0)then some (([]:(List ByteArray)),r_3)else (ib spots_1 l_2).bind λr_6=>(forL spots_1 ([]:List ByteArray) (λk x s=>kW spots_1 l_2 r_6 k x s)).bind λo_19=>thenC o_19 (λs_13=>some (s_13,0)) (λ_=>none)
def iG (k_2:Nat) (x_4:Nat) (s_7:(List ByteArray)):Option (Ctl ((List ByteArray)) (Unit)) :=
  (inR (k_2:Int) s_7).bind λ_=>(s_7[(0+((k_2:Int)).toNat)]?).bind λe_13=>some (.go (s_7.set (0+((k_2:Int)).toNat) (⟨#[]⟩:ByteArray)))
def jQ (l_1:(List ByteArray)):Option ((List ByteArray)) :=
  (forL (List.range ((l_1.length:Int)).toNat) l_1 (λk x s=>iG k x s)).bind λo_10=>thenC o_10 (λs_7=>some s_7) (λ_=>none)
def mO (o_1:Campaign) (p_2:Campaign):Option (Bool) :=
  some (sEq o_1.Key p_2.Key)
def bB (f_2:Campaign->Option Bool) (k_3:Nat) (x_5:Campaign) (s_8:Unit):Option (Ctl (Unit) (Int)) :=
  (f_2 x_5).bind λr_13=>bif r_13 then some (.ret (k_3:Int))else some (.go ())
def di (s_1:(List Campaign)) (f_2:Campaign->Option Bool):Option (Int) :=
  (forL s_1 () (λk x s=>bB f_2 k x s)).bind λo_11=>thenC o_11 (λs_8=>some (-1)) (λr=>some r)
def bg (s_1:(List Campaign)) (f_2:Campaign->Option Bool):Option (Bool) :=
  (di s_1 f_2).bind λr_3=>some (decide (r_3>=0))
def cK (s_1:(List Campaign)):Option ((List Campaign)) :=
  (iZ [] s_1).bind λa_4=>some a_4
noncomputable def nH (spots_1:(List Spot)) (l_2:(List Campaign)) (c_3:Campaign):Option (Int×Int) :=
  (dD spots_1 l_2).bind λr_5=>bif (r_5 != 0)then some (0,r_5)else (bR ([c_3]:List Campaign)).bind λr_8=>bif (r_8 != 0)then some (0,r_8)else (bg l_2 (λx0=>mO x0 c_3)).bind λr_11=>bif r_11 then some (0,6)else (lU l_2).bind λr_15=>(ib spots_1 l_2).bind λr_17=>bif (decide (r_17<r_15))then some (0,12)else (cK l_2).bind λr_20=>(iZ r_20 ([(⟨c_3.Key,c_3.Class,c_3.Time,c_3.Tags,1000000,c_3.Most,c_3.Cents⟩:Campaign)]:List Campaign)).bind λa_23=>(ib spots_1 a_23).bind λr_26=>some ((w64 (r_26-r_15)),0)
def cO (n_1:Int):Option (Bool) :=
  (bif (decide (n_1>=0))then some (decide (n_1<345686400000))else some false).bind λv_2=>some v_2
noncomputable def ik (k_8:Nat) (x_10:Play) (s_13:Unit):Option (Ctl (Unit) (Int)) :=
  ((eG x_10.Player).bind λr_21=>bif (!r_21)then some true else (eG x_10.Item).bind λr_24=>some (!r_24)).bind λv_19=>bif v_19 then some (.ret 5)else ((cO x_10.At).bind λr_29=>bif (!r_29)then some true else (aQ x_10.Long 1 86400000).bind λr_32=>some r_32).bind λv_27=>bif v_27 then some (.ret 1)else some (.go ())
noncomputable def jP (l_1:(List Campaign)) (plays_2:(List Play)) (atv_3:Int):Option (Int) :=
  (bR l_1).bind λr_4=>bif (r_4 != 0)then some r_4 else bif (decide ((plays_2.length:Int)>3000))then some 2 else (forL plays_2 () (λk x s=>ik k x s)).bind λo_16=>thenC o_16 (λs_13=>(cO atv_3).bind λr_35=>bif (!r_35)then some 1 else some 0) (λr=>some r)
def mE (c_1:Campaign) (atv_2:Int):Option (Int) :=
  bif (decide (atv_2<c_1.Time.From))then some 0 else bif (decide (atv_2>=c_1.Time.To))then some c_1.Goal else (IR .i64 (w64 (c_1.Goal*(w64 (atv_2-c_1.Time.From)))) (w64 (c_1.Time.To-c_1.Time.From))).bind λq_6=>some q_6
def kL (x_6:Campaign) (atv_3:Int) (k_21:Nat) (x_23:Play) (s_26:Int):Option (Ctl (Int) (Unit)) :=
  (bif (sEq x_23.Item x_6.Key)then bif (decide (x_6.Time.From<=x_23.At))then bif (decide (x_23.At<x_6.Time.To))then some (decide (x_23.At<atv_3))else some false else some false else some false).bind λv_32=>(bif v_32 then some (w64 (s_26+1))else some s_26).bind λv_37=>some (.go v_37)
def nk (atv_3:Int) (plays_2:(List Play)) (k_4:Nat) (x_6:Campaign) (s_9:(List Pace)):Option (Ctl ((List Pace)) (Unit)) :=
  (mE x_6 atv_3).bind λr_18=>(forL plays_2 0 (λk x s=>kL x_6 atv_3 k x s)).bind λo_29=>thenC o_29 (λs_26=>(iZ s_9 ([(⟨x_6.Key,r_18,s_26⟩:Pace)]:List Pace)).bind λa_40=>some (.go a_40)) (λ_=>none)
def om (l_1:(List Campaign)) (plays_2:(List Play)) (atv_3:Int):Option ((List Pace)) :=
  (forL l_1 ([]:List Pace) (λk x s=>nk atv_3 plays_2 k x s)).bind λo_15=>thenC o_15 (λs_9=>some s_9) (λ_=>none)
noncomputable def og (l_1:(List Campaign)) (plays_2:(List Play)) (atv_3:Int):Option ((List Pace)×Int) :=
  (jP l_1 plays_2 atv_3).bind λr_4=>bif (r_4 != 0)then some (([]:(List Pace)),r_4)else (om l_1 plays_2 atv_3).bind λr_7=>some (r_7,0)
def gM (k_3:Nat) (x_5:Nat) (s_8:(List Pace)):Option (Ctl ((List Pace)) (Unit)) :=
  (inR (k_3:Int) s_8).bind λ_=>(s_8[(0+((k_3:Int)).toNat)]?).bind λe_14=>some (.go (s_8.set (0+((k_3:Int)).toNat) (⟨(⟨#[]⟩:ByteArray),0,0⟩:Pace)))
def iW (l_1:(List Pace)):Option ((List Pace)) :=
  (forL (List.range ((l_1.length:Int)).toNat) l_1 (λk x s=>gM k x s)).bind λo_11=>thenC o_11 (λs_8=>some s_8) (λ_=>none)
def dM (s2_2:(List ByteArray)) (k_4:Nat) (x_6:ByteArray) (s_9:Unit):Option (Ctl (Unit) (Bool)) :=
  (idx s2_2 (k_4:Int)).bind λy_14=>bif (sNe x_6 y_14)then some (.ret false)else some (.go ())
def eU (s1_1:(List ByteArray)) (s2_2:(List ByteArray)):Option (Bool) :=
  bif ((s1_1.length:Int) != (s2_2.length:Int))then some false else (forL s1_1 () (λk x s=>dM s2_2 k x s)).bind λo_12=>thenC o_12 (λs_9=>some true) (λr=>some r)
def iR (g_1:Spot) (h_2:Spot):Option (Bool) :=
  (bif (sEq g_1.Key h_2.Key)then bif ((g_1.Time.From==h_2.Time.From)&&((g_1.Time.To==h_2.Time.To)&&true))then bif (g_1.Room==h_2.Room)then (eU g_1.Tags h_2.Tags).bind λr_10=>some r_10 else some false else some false else some false).bind λv_5=>some v_5
def bG (s2_2:(List Spot)) (k_5:Nat) (x_7:Spot) (s_10:Unit):Option (Ctl (Unit) (Bool)) :=
  (idx s2_2 (k_5:Int)).bind λy_16=>(iR x_7 y_16).bind λr_19=>bif (!r_19)then some (.ret false)else some (.go ())
def bL (s1_1:(List Spot)) (s2_2:(List Spot)):Option (Bool) :=
  bif ((s1_1.length:Int) != (s2_2.length:Int))then some false else (forL s1_1 () (λk x s=>bG s2_2 k x s)).bind λo_13=>thenC o_13 (λs_10=>some true) (λr=>some r)
def strconv_Itoa (x0:Int):Option (ByteArray) :=
  M5 x0
def strings_Join (x0:(List ByteArray)) (x1:ByteArray):Option (ByteArray) :=
  M9 x0 x1
def mX (k_2:Nat) (x_4:Int) (s_7:(List ByteArray)):Option (Ctl ((List ByteArray)) (Unit)) :=
  (strconv_Itoa x_4).bind λr_15=>(iZ s_7 ([r_15]:List ByteArray)).bind λa_17=>some (.go a_17)
def qP (l_1:(List Int)):Option (ByteArray) :=
  (forL l_1 ([]:List ByteArray) (λk x s=>mX k x s)).bind λo_13=>thenC o_13 (λs_7=>(strings_Join s_7 (⟨#[32]⟩:ByteArray)).bind λr_20=>some r_20) (λ_=>none)
def tH (l_1:(List ByteArray)):Option (ByteArray) :=
  bif ((l_1.length:Int)==0)then some (⟨#[45]⟩:ByteArray)else (strings_Join l_1 (⟨#[44]⟩:ByteArray)).bind λr_3=>some r_3
def ja (c_1:Campaign):Option (ByteArray) :=
  (bif (sEq c_1.Class (⟨#[]⟩:ByteArray))then some (⟨#[45]⟩:ByteArray)else some c_1.Class).bind λv_3=>(qP ([c_1.Time.From,c_1.Time.To,c_1.Goal,c_1.Most,c_1.Cents]:List Int)).bind λr_6=>(tH c_1.Tags).bind λr_8=>(strings_Join ([c_1.Key,v_3,r_6,r_8]:List ByteArray) (⟨#[32]⟩:ByteArray)).bind λr_10=>some r_10
def kQ (a_1:Campaign) (b_2:Campaign):Option (Bool) :=
  (ja a_1).bind λr_5=>(ja b_2).bind λr_7=>some (sEq r_5 r_7)
def aZ (s2_2:(List Campaign)) (k_5:Nat) (x_7:Campaign) (s_10:Unit):Option (Ctl (Unit) (Bool)) :=
  (idx s2_2 (k_5:Int)).bind λy_16=>(kQ x_7 y_16).bind λr_19=>bif (!r_19)then some (.ret false)else some (.go ())
def bf (s1_1:(List Campaign)) (s2_2:(List Campaign)):Option (Bool) :=
  bif ((s1_1.length:Int) != (s2_2.length:Int))then some false else (forL s1_1 () (λk x s=>aZ s2_2 k x s)).bind λo_13=>thenC o_13 (λs_10=>some true) (λr=>some r)
def dY (s2_2:(List Play)) (k_4:Nat) (x_6:Play) (s_9:Unit):Option (Ctl (Unit) (Bool)) :=
  (idx s2_2 (k_4:Int)).bind λy_14=>bif (!((x_6.Player.toList==y_14.Player.toList)&&((x_6.Item.toList==y_14.Item.toList)&&((x_6.At==y_14.At)&&((x_6.Long==y_14.Long)&&true)))))then some (.ret false)else some (.go ())
def fe (s1_1:(List Play)) (s2_2:(List Play)):Option (Bool) :=
  bif ((s1_1.length:Int) != (s2_2.length:Int))then some false else (forL s1_1 () (λk x s=>dY s2_2 k x s)).bind λo_12=>thenC o_12 (λs_9=>some true) (λr=>some r)
def nA (r_1:Rect):Option (Int) :=
  ((aQ r_1.X (-100000) 100000).bind λr_5=>bif r_5 then some true else (aQ r_1.Y (-100000) 100000).bind λr_8=>some r_8).bind λv_3=>bif v_3 then some 1 else ((aQ r_1.W 1 (w64 (100000-r_1.X))).bind λr_13=>bif r_13 then some true else (aQ r_1.H 1 (w64 (100000-r_1.Y))).bind λr_16=>some r_16).bind λv_11=>bif v_11 then some 1 else some 0
def mU (k_3:Nat) (x_5:Rect) (s_8:Unit):Option (Ctl (Unit) (Int)) :=
  (nA x_5).bind λr_14=>bif (r_14 != 0)then some (.ret r_14)else some (.go ())
def l9 (l_1:(List Rect)):Option (Int) :=
  bif (decide ((l_1.length:Int)>2000))then some 2 else (forL l_1 () (λk x s=>mU k x s)).bind λo_11=>thenC o_11 (λs_8=>some 0) (λr=>some r)
def gH (n_1:Int):Option Bool :=
  bif (decide (n_1<0))then none else bif (decide ((w64 (n_1-(w64 (0-0))))>0))then (zN (w64 (n_1-(w64 (0-0)))) 32).bind λ_=>some true else some false
def fO (k_2:Nat) (x_4:(List Rect)) (s_7:Int):Option (Ctl (Int) (Unit)) :=
  (bif (decide ((w64 (s_7+(x_4.length:Int)))<0))then none else some ()).bind λv_12=>some (.go (w64 (s_7+(x_4.length:Int))))
def fP (k_18:Nat) (x_20:(List Rect)) (s_23:(List Rect)):Option (Ctl ((List Rect)) (Unit)) :=
  (iZ s_23 x_20).bind λa_30=>some (.go a_30)
def eP (slices_1:(List (List Rect))):Option ((List Rect)) :=
  (forL slices_1 0 (λk x s=>fO k x s)).bind λo_10=>thenC o_10 (λs_7=>(gH s_7).bind λb_15=>(forL slices_1 ([]:List Rect) (λk x s=>fP k x s)).bind λo_28=>thenC o_28 (λs_23=>some s_23) (λ_=>none)) (λ_=>none)
def iV (x:(List Int)):Option ((List Int)) :=
  M7 x
def fI (s_1:(List Int)) (s_8:Int) (s_28:(List Int)×Int×Int):Option (Ctl ((List Int)×Int×Int) (Unit)) :=
  bif (decide (s_28.2.2<(((((s_1.length:Int)).toNat-(s_8).toNat):Nat):Int)))then (inN s_28.2.2 (((s_1.length:Int)).toNat-(s_8).toNat)).bind λ_=>(s_28.1[(((s_8).toNat)+(s_28.2.2).toNat)]?).bind λe_35=>(inN (w64 (s_28.2.2-1)) (((s_1.length:Int)).toNat-(s_8).toNat)).bind λ_=>(s_28.1[(((s_8).toNat)+((w64 (s_28.2.2-1))).toNat)]?).bind λe_38=>(bif (e_35 != e_38)then (inN s_28.2.2 (((s_1.length:Int)).toNat-(s_8).toNat)).bind λ_=>(s_28.1[(((s_8).toNat)+(s_28.2.2).toNat)]?).bind λe_44=>(inR s_28.2.1 s_28.1).bind λ_=>(s_28.1[(0+(s_28.2.1).toNat)]?).bind λe_47=>some ((s_28.1.set (0+(s_28.2.1).toNat) e_44),(w64 (s_28.2.1+1)))else some (s_28.1,s_28.2.1)).bind λv_40=>some (.go (v_40.1,v_40.2,(w64 (s_28.2.2+1))))else some (.brk (s_28.1,s_28.2.1,s_28.2.2))
noncomputable def dS (s_1:(List Int)) (s_8:Int):Option (Ctl (Int) ((List Int))) :=
  bif (decide (s_8<(s_1.length:Int)))then (inR s_8 s_1).bind λ_=>(s_1[(0+(s_8).toNat)]?).bind λe_15=>(inR (w64 (s_8-1)) s_1).bind λ_=>(s_1[(0+((w64 (s_8-1))).toNat)]?).bind λe_18=>bif (e_15==e_18)then (neL s_1).bind λ_=>(Dq s_1 s_8 (s_1.length:Int)).bind λ_=>(kJ (s_1,s_8,1) (λs=>fI s_1 s_8 s)).bind λo_31=>thenC o_31 (λs_28=>(Dq s_28.1 s_28.2.1 (s_28.1.length:Int)).bind λ_=>(Dq (s_28.1.take ((s_28.2.1).toNat)++List.replicate (((s_28.1.length:Int)).toNat-(s_28.2.1).toNat) 0++s_28.1.drop (((s_28.2.1).toNat)+(((s_28.1.length:Int)).toNat-(s_28.2.1).toNat))) 0 s_28.2.1).bind λ_=>some (.ret (cutL (s_28.1.take ((s_28.2.1).toNat)++List.replicate (((s_28.1.length:Int)).toNat-(s_28.2.1).toNat) 0++s_28.1.drop (((s_28.2.1).toNat)+(((s_28.1.length:Int)).toNat-(s_28.2.1).toNat))) 0 ((s_28.2.1).toNat)))) (λ_=>none)else some (.go (w64 (s_8+1)))else some (.brk s_8)
noncomputable def fw (s_1:(List Int)):Option ((List Int)) :=
  bif (decide ((s_1.length:Int)<2))then some s_1 else (kJ 1 (λs=>dS s_1 s)).bind λo_11=>thenC o_11 (λs_8=>some s_1) (λr=>some r)
def uM (a_1:Run) (b_2:Run):Option (Int) :=
  some (w64 (a_1.f_from-b_2.f_from))
def qY (x_1:Int):Option (Int) :=
  (bif (decide (x_1>=4294967296))then (Iu .u64 x_1 32).bind λq_5=>some (q_5,32)else some (x_1,0)).bind λv_2=>(bif (decide (v_2.1>=65536))then (Iu .u64 v_2.1 16).bind λq_10=>some (q_10,(w64 (v_2.2+16)))else some (v_2.1,v_2.2)).bind λv_7=>(bif (decide (v_7.1>=256))then (Iu .u64 v_7.1 8).bind λq_15=>some (q_15,(w64 (v_7.2+8)))else some (v_7.1,v_7.2)).bind λv_12=>(yY (⟨#[0,1,2,2,3,3,3,3,4,4,4,4,4,4,4,4,5,5,5,5,5,5,5,5,5,5,5,5,5,5,5,5,6,6,6,6,6,6,6,6,6,6,6,6,6,6,6,6,6,6,6,6,6,6,6,6,6,6,6,6,6,6,6,6,7,7,7,7,7,7,7,7,7,7,7,7,7,7,7,7,7,7,7,7,7,7,7,7,7,7,7,7,7,7,7,7,7,7,7,7,7,7,7,7,7,7,7,7,7,7,7,7,7,7,7,7,7,7,7,7,7,7,7,7,7,7,7,7,8,8,8,8,8,8,8,8,8,8,8,8,8,8,8,8,8,8,8,8,8,8,8,8,8,8,8,8,8,8,8,8,8,8,8,8,8,8,8,8,8,8,8,8,8,8,8,8,8,8,8,8,8,8,8,8,8,8,8,8,8,8,8,8,8,8,8,8,8,8,8,8,8,8,8,8,8,8,8,8,8,8,8,8,8,8,8,8,8,8,8,8,8,8,8,8,8,8,8,8,8,8,8,8,8,8,8,8,8,8,8,8,8,8,8,8,8,8,8,8,8,8,8,8,8,8,8,8]⟩:ByteArray) (IntKind.u8.wrap v_12.1)).bind λb_17=>some (w64 (v_12.2+(w64 (b_17.toNat:Int))))
def qw (x_1:Int):Option (Int) :=
  (qY x_1).bind λr_2=>some r_2
def cZ (a_2:Int) (s_21:(List Run)×Int):Option (Ctl ((List Run)×Int) (Unit)) :=
  (bif (decide (s_21.2>a_2))then (inR s_21.2 s_21.1).bind λ_=>(s_21.1[(0+(s_21.2).toNat)]?).bind λe_30=>(inR (w64 (s_21.2-1)) s_21.1).bind λ_=>(s_21.1[(0+((w64 (s_21.2-1))).toNat)]?).bind λe_33=>(uM e_30 e_33).bind λr_35=>some (decide (r_35<0))else some false).bind λv_26=>bif v_26 then (inR (w64 (s_21.2-1)) s_21.1).bind λ_=>(s_21.1[(0+((w64 (s_21.2-1))).toNat)]?).bind λe_39=>(inR s_21.2 s_21.1).bind λ_=>(s_21.1[(0+(s_21.2).toNat)]?).bind λe_42=>(inR s_21.2 s_21.1).bind λ_=>(s_21.1[(0+(s_21.2).toNat)]?).bind λe_45=>(inR (w64 (s_21.2-1)) (s_21.1.set (0+(s_21.2).toNat) e_39)).bind λ_=>((s_21.1.set (0+(s_21.2).toNat) e_39)[(0+((w64 (s_21.2-1))).toNat)]?).bind λe_48=>some (.go (((s_21.1.set (0+(s_21.2).toNat) e_39).set (0+((w64 (s_21.2-1))).toNat) e_42),(w64 (s_21.2-1))))else some (.brk (s_21.1,s_21.2))
noncomputable def bO (b_3:Int) (a_2:Int) (s_10:(List Run)×Int):Option (Ctl ((List Run)×Int) (Unit)) :=
  bif (decide (s_10.2<b_3))then (kJ (s_10.1,s_10.2) (λs=>cZ a_2 s)).bind λo_24=>thenC o_24 (λs_21=>some (.go (s_21.1,(w64 (s_10.2+1))))) (λ_=>none)else some (.brk (s_10.1,s_10.2))
noncomputable def bU (data_1:(List Run)) (a_2:Int) (b_3:Int):Option ((List Run)) :=
  (kJ (data_1,(w64 (a_2+1))) (λs=>bO b_3 a_2 s)).bind λo_13=>thenC o_13 (λs_10=>some s_10.1) (λ_=>none)
noncomputable def cB (b_3:Int) (a_2:Int) (data_1:(List Run)) (limit_4:Int) (s_11:Unit):Option (Ctl (Unit) ((List Run))) :=
  bif (decide ((w64 (b_3-a_2))<=12))then (bU data_1 a_2 b_3).bind λr_17=>(nV r_17 data_1).bind λ_=>some (.ret r_17)else bif (limit_4==0)then none else none
noncomputable def dx (data_1:(List Run)) (a_2:Int) (b_3:Int) (limit_4:Int):Option ((List Run)) :=
  (kJ () (λs=>cB b_3 a_2 data_1 limit_4 s)).bind λo_14=>thenC o_14 (λs_11=>some data_1) (λr=>some r)
noncomputable def bX (x_1:(List Run)):Option ((List Run)) :=
  (qw (IntKind.u64.wrap (x_1.length:Int))).bind λr_3=>(dx x_1 0 (x_1.length:Int) r_3).bind λr_5=>(nV r_5 x_1).bind λ_=>some r_5
def pY (y_2:Int) (k_3:Nat) (x_5:Rect) (s_8:(List Run)):Option (Ctl ((List Run)) (Unit)) :=
  (bif (decide (x_5.Y<=y_2))then some (decide (y_2<(w64 (x_5.Y+x_5.H))))else some false).bind λv_17=>(bif v_17 then (iZ s_8 ([(⟨x_5.X,(w64 (x_5.X+x_5.W))⟩:Run)]:List Run)).bind λa_24=>some a_24 else some s_8).bind λv_20=>some (.go v_20)
def pW (k_30:Nat) (x_32:Run) (s_35:(List Run)):Option (Ctl ((List Run)) (Unit)) :=
  (bif (decide ((w64 ((s_35.length:Int)-1))>=0))then (inR (w64 ((s_35.length:Int)-1)) s_35).bind λ_=>(s_35[(0+((w64 ((s_35.length:Int)-1))).toNat)]?).bind λe_48=>some (decide (x_32.f_from<=e_48.f_to))else some false).bind λv_44=>(bif v_44 then (inR (w64 ((s_35.length:Int)-1)) s_35).bind λ_=>(s_35[(0+((w64 ((s_35.length:Int)-1))).toNat)]?).bind λe_55=>(inR (w64 ((s_35.length:Int)-1)) s_35).bind λ_=>(s_35[(0+((w64 ((s_35.length:Int)-1))).toNat)]?).bind λe_58=>some (s_35.set (0+((w64 ((s_35.length:Int)-1))).toNat) (⟨e_58.f_from,(vE e_55.f_to x_32.f_to)⟩:Run))else (iZ s_35 ([x_32]:List Run)).bind λa_60=>some a_60).bind λv_50=>some (.go v_50)
noncomputable def oU (l_1:(List Rect)) (y_2:Int):Option ((List Run)) :=
  (forL l_1 ([]:List Run) (λk x s=>pY y_2 k x s)).bind λo_14=>thenC o_14 (λs_8=>(bX s_8).bind λr_27=>(nV r_27 s_8).bind λ_=>(forL r_27 ([]:List Run) (λk x s=>pW k x s)).bind λo_41=>thenC o_41 (λs_35=>some s_35) (λ_=>none)) (λ_=>none)
def pX (m_2:(List Run)) (x_5:Run) (s_22:Int):Option (Ctl (Int) (Unit)) :=
  (bif (decide (s_22<(m_2.length:Int)))then (idx m_2 s_22).bind λy_30=>some (decide (y_30.f_to<=x_5.f_from))else some false).bind λv_27=>bif v_27 then some (.go (w64 (s_22+1)))else some (.brk s_22)
def pR (m_2:(List Run)) (x_5:Run) (s_38:(List Run)×Int×Int):Option (Ctl ((List Run)×Int×Int) (Unit)) :=
  (bif (decide (s_38.2.1<(m_2.length:Int)))then (idx m_2 s_38.2.1).bind λy_48=>some (decide (y_48.f_from<x_5.f_to))else some false).bind λv_45=>bif v_45 then (idx m_2 s_38.2.1).bind λy_51=>(bif (decide (y_51.f_from>s_38.2.2))then (idx m_2 s_38.2.1).bind λy_57=>(iZ s_38.1 ([(⟨s_38.2.2,y_57.f_from⟩:Run)]:List Run)).bind λa_59=>some a_59 else some s_38.1).bind λv_53=>(idx m_2 s_38.2.1).bind λy_62=>some (.go (v_53,(w64 (s_38.2.1+1)),(vE s_38.2.2 y_62.f_to)))else some (.brk (s_38.1,s_38.2.1,s_38.2.2))
noncomputable def mW (m_2:(List Run)) (k_3:Nat) (x_5:Run) (s_8:(List Run)×Int):Option (Ctl ((List Run)×Int) (Unit)) :=
  (kJ s_8.2 (λs=>pX m_2 x_5 s)).bind λo_25=>thenC o_25 (λs_22=>(kJ (s_8.1,s_22,x_5.f_from) (λs=>pR m_2 x_5 s)).bind λo_43=>thenC o_43 (λs_38=>(bif (decide (s_38.2.2<x_5.f_to))then (iZ s_38.1 ([(⟨s_38.2.2,x_5.f_to⟩:Run)]:List Run)).bind λa_68=>some a_68 else some s_38.1).bind λv_64=>some (.go (v_64,s_22))) (λ_=>none)) (λ_=>none)
noncomputable def qH (l_1:(List Run)) (m_2:(List Run)):Option ((List Run)) :=
  (forL l_1 (([]:List Run),0) (λk x s=>mW m_2 k x s)).bind λo_14=>thenC o_14 (λs_8=>some s_8.1) (λ_=>none)
def fq (s2_2:(List Run)) (k_4:Nat) (x_6:Run) (s_9:Unit):Option (Ctl (Unit) (Bool)) :=
  (idx s2_2 (k_4:Int)).bind λy_14=>bif (!((x_6.f_from==y_14.f_from)&&((x_6.f_to==y_14.f_to)&&true)))then some (.ret false)else some (.go ())
def dQ (s1_1:(List Run)) (s2_2:(List Run)):Option (Bool) :=
  bif ((s1_1.length:Int) != (s2_2.length:Int))then some false else (forL s1_1 () (λk x s=>fq s2_2 k x s)).bind λo_12=>thenC o_12 (λs_9=>some true) (λr=>some r)
def nJ (k_5:Nat) (x_7:Rect) (s_10:(List Int)):Option (Ctl ((List Int)) (Unit)) :=
  (iZ s_10 ([x_7.Y,(w64 (x_7.Y+x_7.H))]:List Int)).bind λa_19=>some (.go a_19)
def nI (s_32:(List Rect)×(List Run)×Int) (x_29:Int) (k_54:Nat) (x_56:Run) (s_59:(List Rect)):Option (Ctl ((List Rect)) (Unit)) :=
  (iZ s_59 ([(⟨x_56.f_from,s_32.2.2,(w64 (x_56.f_to-x_56.f_from)),(w64 (x_29-s_32.2.2))⟩:Rect)]:List Rect)).bind λa_67=>some (.go a_67)
noncomputable def kR (r_25:(List Int)) (l_1:(List Rect)) (m_2:(List Rect)) (k_27:Nat) (x_29:Int) (s_32:(List Rect)×(List Run)×Int):Option (Ctl ((List Rect)×(List Run)×Int) (Unit)) :=
  (bif (decide ((w64 ((k_27:Int)+1))<(r_25.length:Int)))then (oU l_1 x_29).bind λr_45=>(oU m_2 x_29).bind λr_47=>(qH r_45 r_47).bind λr_49=>some r_49 else some ([]:List Run)).bind λv_42=>(dQ s_32.2.1 v_42).bind λr_51=>bif r_51 then some (.go (s_32.1,s_32.2.1,s_32.2.2))else (forL s_32.2.1 s_32.1 (λk x s=>nI s_32 x_29 k x s)).bind λo_64=>thenC o_64 (λs_59=>some (.go (s_59,v_42,x_29))) (λ_=>none)
noncomputable def ol (l_1:(List Rect)) (m_2:(List Rect)):Option ((List Rect)) :=
  (eP ([l_1,m_2]:List (List Rect))).bind λr_3=>(forL r_3 ([]:List Int) (λk x s=>nJ k x s)).bind λo_16=>thenC o_16 (λs_10=>(iV s_10).bind λr_22=>(nV r_22 s_10).bind λ_=>(fw r_22).bind λr_25=>(forL r_25 (([]:List Rect),([]:List Run),0) (λk x s=>kR r_25 l_1 m_2 k x s)).bind λo_38=>thenC o_38 (λs_32=>some s_32.1) (λ_=>none)) (λ_=>none)
def uj (k_2:Nat) (x_4:Rect) (s_7:Int):Option (Ctl (Int) (Unit)) :=
  some (.go (w64 (s_7+(w64 (x_4.W*x_4.H)))))
def uG (l_1:(List Rect)):Option (Int) :=
  (forL l_1 0 (λk x s=>uj k x s)).bind λo_10=>thenC o_10 (λs_7=>some s_7) (λ_=>none)
noncomputable def qR (l_1:(List Rect)):Option (Int×Int) :=
  (l9 l_1).bind λr_2=>bif (r_2 != 0)then some (0,r_2)else (ol l_1 ([]:List Rect)).bind λr_5=>(uG r_5).bind λr_7=>some (r_7,0)
def BZ (n_1:Int):Option (Bool) :=
  (bif (decide (n_1>=0))then some (decide (n_1<=4000))else some false).bind λv_2=>some v_2
def kH (l_1:(List Int)) (k_3:Nat) (x_5:Int) (s_8:Unit):Option (Ctl (Unit) (Int)) :=
  (BZ x_5).bind λr_13=>bif (!r_13)then some (.ret 1)else (bif (decide ((k_3:Int)>0))then (idx l_1 (w64 ((k_3:Int)-1))).bind λy_19=>some (decide (x_5<=y_19))else some false).bind λv_16=>bif v_16 then some (.ret 7)else some (.go ())
def jU (l_1:(List Int)):Option (Int) :=
  bif (decide ((l_1.length:Int)>100))then some 2 else (forL l_1 () (λk x s=>kH l_1 k x s)).bind λo_11=>thenC o_11 (λs_8=>some 0) (λr=>some r)
noncomputable def jo (l_1:(List ByteArray)):Option (Int) :=
  bif (decide ((l_1.length:Int)>20))then some 2 else (iM l_1).bind λr_3=>some r_3
noncomputable def iT (e_1:Entry):Option (Int) :=
  ((eG e_1.Key).bind λr_5=>bif (!r_5)then some true else (eG e_1.Item).bind λr_8=>some (!r_8)).bind λv_3=>bif v_3 then some 5 else ((aQ e_1.Version 0 1000000).bind λr_13=>bif r_13 then some true else (aQ e_1.First 0 e_1.Last).bind λr_16=>bif r_16 then some true else bif (decide (e_1.Last>4000))then some true else (aQ e_1.Every 1 400).bind λr_20=>bif r_20 then some true else (aQ e_1.Days 1 127).bind λr_23=>some r_23).bind λv_11=>bif v_11 then some 1 else (jU e_1.Except).bind λr_26=>bif (r_26 != 0)then some r_26 else ((aQ e_1.From 0 1439).bind λr_31=>bif r_31 then some true else (aQ e_1.To 0 1439).bind λr_34=>bif r_34 then some true else (aQ e_1.Prio 0 9).bind λr_37=>some r_37).bind λv_29=>bif v_29 then some 1 else (jo e_1.Tags).bind λr_40=>some r_40
noncomputable def fH (l_1:(List Entry)) (k_3:Nat) (x_5:Entry) (s_8:Unit):Option (Ctl (Unit) (Int)) :=
  (iT x_5).bind λr_14=>bif (r_14 != 0)then some (.ret r_14)else (bif (decide ((k_3:Int)>0))then (idx l_1 (w64 ((k_3:Int)-1))).bind λy_20=>some (sLe x_5.Key y_20.Key)else some false).bind λv_17=>bif v_17 then some (.ret 7)else some (.go ())
noncomputable def gN (l_1:(List Entry)):Option (Int) :=
  bif (decide ((l_1.length:Int)>200))then some 2 else (forL l_1 () (λk x s=>fH l_1 k x s)).bind λo_11=>thenC o_11 (λs_8=>some 0) (λr=>some r)
def jV (wv_1:Window):Option (Int) :=
  ((aQ wv_1.From 0 wv_1.To).bind λr_5=>bif r_5 then some true else some (decide (wv_1.To>345686400000))).bind λv_3=>bif v_3 then some 1 else bif (decide ((w64 (wv_1.To-wv_1.From))>34560000000))then some 2 else some 0
def cmp_isNaN_int (x_1:Int):Option (Bool) :=
  some (x_1 != x_1)
def cmp_Less_int (x_1:Int) (y_2:Int):Option (Bool) :=
  ((cmp_isNaN_int x_1).bind λr_5=>bif r_5 then (cmp_isNaN_int y_2).bind λr_8=>bif (!r_8)then some true else some (decide (x_1<y_2))else some (decide (x_1<y_2))).bind λv_3=>some v_3
def jf (x_1:Int):Option (Bool) :=
  some (x_1 != x_1)
def fo (x_1:(List Int)) (target_2:Int) (s_8:Int×Int):Option (Ctl (Int×Int) (Unit)) :=
  bif (decide (s_8.1<s_8.2))then (Iu .u64 (IntKind.u64.wrap (w64 (s_8.1+s_8.2))) 1).bind λq_14=>(idx x_1 (w64 q_14)).bind λy_16=>(cmp_Less_int y_16 target_2).bind λr_18=>bif r_18 then some (.go ((w64 ((w64 q_14)+1)),s_8.2))else some (.go (s_8.1,(w64 q_14)))else some (.brk (s_8.1,s_8.2))
noncomputable def eu (x_1:(List Int)) (target_2:Int):Option (Int×Bool) :=
  (kJ (0,(x_1.length:Int)) (λs=>fo x_1 target_2 s)).bind λo_11=>thenC o_11 (λs_8=>(bif (decide (s_8.1<(x_1.length:Int)))then (idx x_1 s_8.1).bind λy_24=>bif (y_24==target_2)then some true else (idx x_1 s_8.1).bind λy_27=>(jf y_27).bind λr_29=>bif r_29 then (jf target_2).bind λr_32=>some r_32 else some false else some false).bind λv_21=>some (s_8.1,v_21)) (λ_=>none)
noncomputable def mg (e_1:Entry) (d_2:Int):Option (Bool) :=
  ((aQ d_2 e_1.First e_1.Last).bind λr_6=>bif r_6 then some true else (Kh .i64 (w64 (d_2-e_1.First)) e_1.Every).bind λq_9=>bif (q_9 != 0)then some true else (shlO .i64 1 (d_2.tmod 7)).bind λq_12=>some ((Qt .i64 e_1.Days q_12)==0)).bind λv_4=>bif v_4 then some false else (eu e_1.Except d_2).bind λr_15=>some (!r_15.2)
def ou (e_1:Entry) (zone_2:Int) (d_3:Int):Option (Window) :=
  (bif (decide ((w64 (e_1.To-e_1.From))<=0))then some (w64 ((w64 (e_1.To-e_1.From))+1440))else some (w64 (e_1.To-e_1.From))).bind λv_6=>some (⟨(w64 ((w64 ((w64 ((w64 (d_3*1440))+e_1.From))-zone_2))*60000)),(w64 ((w64 ((w64 ((w64 ((w64 (d_3*1440))+e_1.From))-zone_2))*60000))+(w64 (v_6*60000))))⟩:Window)
noncomputable def jR (wv_3:Window) (zone_2:Int) (e_1:Entry) (s_15:(List Window)×Int):Option (Ctl ((List Window)×Int) (Unit)) :=
  bif (decide (s_15.2<=(zS (w64 ((w64 ((w64 (wv_3.To+(w64 (zone_2*60000)))).tdiv 86400000))+1)) e_1.Last)))then (mg e_1 s_15.2).bind λr_24=>bif (!r_24)then some (.go (s_15.1,(w64 (s_15.2+1))))else (ou e_1 zone_2 s_15.2).bind λr_27=>(bif (decide (r_27.From<wv_3.To))then some (decide (r_27.To>wv_3.From))else some false).bind λv_30=>(bif v_30 then (iZ s_15.1 ([r_27]:List Window)).bind λa_37=>some a_37 else some s_15.1).bind λv_33=>some (.go (v_33,(w64 (s_15.2+1))))else some (.brk (s_15.1,s_15.2))
noncomputable def mI (e_1:Entry) (zone_2:Int) (wv_3:Window):Option ((List Window)) :=
  (bif e_1.Gone then some true else some (decide (wv_3.From>=wv_3.To))).bind λv_6=>bif v_6 then some ([]:(List Window))else (kJ (([]:List Window),(vE (w64 ((w64 ((w64 (wv_3.From+(w64 (zone_2*60000)))).tdiv 86400000))-2)) e_1.First)) (λs=>jR wv_3 zone_2 e_1 s)).bind λo_21=>thenC o_21 (λs_15=>some s_15.1) (λ_=>none)
def w9 (t_1:Window) (wv_2:Window):Option (Window) :=
  some (⟨(vE t_1.From wv_2.From),(zS t_1.To wv_2.To)⟩:Window)
def ma (wv_3:Window) (k_19:Nat) (x_21:Nat) (s_24:(List Window)):Option (Ctl ((List Window)) (Unit)) :=
  (inR (k_19:Int) s_24).bind λ_=>(s_24[(0+((k_19:Int)).toNat)]?).bind λe_30=>(w9 e_30 wv_3).bind λr_33=>(inR (k_19:Int) s_24).bind λ_=>(s_24[(0+((k_19:Int)).toNat)]?).bind λe_36=>some (.go (s_24.set (0+((k_19:Int)).toNat) r_33))
noncomputable def mD (e_1:Entry) (zone_2:Int) (wv_3:Window):Option ((List Window)×Int) :=
  (gN ([e_1]:List Entry)).bind λr_6=>bif (r_6 != 0)then some (([]:(List Window)),r_6)else (aQ zone_2 (-1440) 1440).bind λr_9=>bif r_9 then some (([]:(List Window)),1)else (jV wv_3).bind λr_12=>bif (r_12 != 0)then some (([]:(List Window)),r_12)else (mI e_1 zone_2 wv_3).bind λr_15=>(forL (List.range ((r_15.length:Int)).toNat) r_15 (λk x s=>ma wv_3 k x s)).bind λo_27=>thenC o_27 (λs_24=>some (s_24,0)) (λ_=>none)
noncomputable def qK (c_1:Campaign) (atv_2:Int):Option (Int×Int) :=
  (bR ([c_1]:List Campaign)).bind λr_4=>bif (r_4 != 0)then some (0,r_4)else (cO atv_2).bind λr_7=>bif (!r_7)then some (0,1)else (mE c_1 atv_2).bind λr_10=>some (r_10,0)
def gY (a_1:ByteArray) (b_2:ByteArray):Option (Int) :=
  some (Pd a_1 b_2)
def strings_Compare (a_1:ByteArray) (b_2:ByteArray):Option (Int) :=
  (gY a_1 b_2).bind λr_3=>some r_3
def cmp_Compare_int (x_1:Int) (y_2:Int):Option (Int) :=
  (cmp_isNaN_int x_1).bind λr_3=>(cmp_isNaN_int y_2).bind λr_5=>bif r_3 then bif r_5 then some 0 else some (-1)else bif r_5 then some 1 else bif (decide (x_1<y_2))then some (-1)else bif (decide (x_1>y_2))then some 1 else some 0
def uQ (k_2:Nat) (x_4:Int) (s_7:Unit):Option (Ctl (Unit) (Int)) :=
  bif (x_4 != 0)then some (.ret x_4)else some (.go ())
def wD (vals_1:(List Int)):Option (Int) :=
  (forL vals_1 () (λk x s=>uQ k x s)).bind λo_10=>thenC o_10 (λs_7=>some 0) (λr=>some r)
def lg (a_1:Beat) (b_2:Beat):Option (Int) :=
  (strings_Compare a_1.Player b_2.Player).bind λr_5=>(cmp_Compare_int a_1.At b_2.At).bind λr_7=>(wD ([r_5,r_7]:List Int)).bind λr_9=>some r_9
noncomputable def iO (l_1:(List Beat)) (k_3:Nat) (x_5:Beat) (s_8:Unit):Option (Ctl (Unit) (Int)) :=
  (eG x_5.Player).bind λr_14=>bif (!r_14)then some (.ret 5)else ((cO x_5.At).bind λr_19=>bif (!r_19)then some true else (aQ x_5.Clock 0 345686399999).bind λr_22=>some r_22).bind λv_17=>bif v_17 then some (.ret 1)else (bif (decide ((k_3:Int)>0))then (idx l_1 (w64 ((k_3:Int)-1))).bind λy_28=>(lg y_28 x_5).bind λr_30=>some (decide (r_30>=0))else some false).bind λv_25=>bif v_25 then some (.ret 7)else (bif (decide ((k_3:Int)>0))then (idx l_1 (w64 ((k_3:Int)-1))).bind λy_36=>bif (sEq x_5.Player y_36.Player)then (idx l_1 (w64 ((k_3:Int)-1))).bind λy_39=>some (decide (x_5.Clock<=y_39.Clock))else some false else some false).bind λv_33=>bif v_33 then some (.ret 16)else some (.go ())
noncomputable def kw (l_1:(List Beat)):Option (Int) :=
  bif (decide ((l_1.length:Int)>500))then some 2 else (forL l_1 () (λk x s=>iO l_1 k x s)).bind λo_11=>thenC o_11 (λs_8=>some 0) (λr=>some r)
def qd (player_2:ByteArray) (back_3:Bool) (k_4:Nat) (x_6:Beat) (s_9:(List Beat_)):Option (Ctl ((List Beat_)) (Unit)) :=
  (bif (sNe x_6.Player player_2)then some s_9 else bif back_3 then (iZ s_9 ([(⟨x_6.At,x_6.Clock⟩:Beat_)]:List Beat_)).bind λa_23=>some a_23 else (iZ s_9 ([(⟨x_6.Clock,x_6.At⟩:Beat_)]:List Beat_)).bind λa_26=>some a_26).bind λv_18=>some (.go v_18)
def qo (l_1:(List Beat)) (player_2:ByteArray) (back_3:Bool):Option ((List Beat_)) :=
  (forL l_1 ([]:List Beat_) (λk x s=>qd player_2 back_3 k x s)).bind λo_15=>thenC o_15 (λs_9=>some s_9) (λ_=>none)
def oq (l_1:(List Beat_)) (n_2:Int) (s_9:Int):Option (Ctl (Int) (Unit)) :=
  (bif (decide (s_9<(l_1.length:Int)))then (idx l_1 s_9).bind λy_17=>some (decide (y_17.f_from<=n_2))else some false).bind λv_14=>bif v_14 then some (.go (w64 (s_9+1)))else some (.brk s_9)
noncomputable def pq (l_1:(List Beat_)) (n_2:Int):Option (Int×Int) :=
  bif ((l_1.length:Int)==0)then some (0,8)else (kJ 0 (λs=>oq l_1 n_2 s)).bind λo_12=>thenC o_12 (λs_9=>bif (s_9==0)then (idx l_1 0).bind λy_21=>(idx l_1 0).bind λy_23=>(cO (w64 (y_21.f_to-(w64 (y_23.f_from-n_2))))).bind λr_25=>bif (!r_25)then some (0,11)else some ((w64 (y_21.f_to-(w64 (y_23.f_from-n_2)))),0)else bif (s_9==(l_1.length:Int))then (idx l_1 (w64 (s_9-1))).bind λy_29=>(idx l_1 (w64 (s_9-1))).bind λy_31=>(cO (w64 ((w64 (y_29.f_to+n_2))-y_31.f_from))).bind λr_33=>bif (!r_33)then some (0,11)else some ((w64 ((w64 (y_29.f_to+n_2))-y_31.f_from)),0)else (idx l_1 (w64 (s_9-1))).bind λy_36=>(idx l_1 s_9).bind λy_38=>(bif (decide ((w64 (y_38.f_from-y_36.f_from))>2592000000))then some true else some (decide ((w64 (y_38.f_to-y_36.f_to))>2592000000))).bind λv_42=>bif v_42 then some (0,2)else (IR .i64 (w64 ((w64 (n_2-y_36.f_from))*(w64 (y_38.f_to-y_36.f_to)))) (w64 (y_38.f_from-y_36.f_from))).bind λq_46=>(cO (w64 (y_36.f_to+q_46))).bind λr_48=>bif (!r_48)then some (0,11)else some ((w64 (y_36.f_to+q_46)),0)) (λ_=>none)
noncomputable def qL (l_1:(List Beat)) (player_2:ByteArray) (n_3:Int) (back_4:Bool):Option (Int×Int) :=
  (kw l_1).bind λr_5=>bif (r_5 != 0)then some (0,r_5)else (eG player_2).bind λr_8=>bif (!r_8)then some (0,5)else (cO n_3).bind λr_11=>bif (!r_11)then some (0,1)else (qo l_1 player_2 back_4).bind λr_14=>(pq r_14 n_3).bind λr_16=>some (r_16.1,r_16.2)
noncomputable def qC (l_1:(List Beat)) (player_2:ByteArray) (clock_3:Int):Option (Int×Int) :=
  (qL l_1 player_2 clock_3 false).bind λr_4=>some (r_4.1,r_4.2)
noncomputable def jm (a_1:Alert) (k_4:Nat) (x_6:ByteArray) (s_9:Unit):Option (Ctl (Unit) (Int)) :=
  (eG x_6).bind λr_14=>bif (!r_14)then some (.ret 5)else (bif (decide ((k_4:Int)>0))then (idx a_1.Refs (w64 ((k_4:Int)-1))).bind λy_20=>some (sLe x_6 y_20)else some false).bind λv_17=>bif v_17 then some (.ret 7)else bif (sEq x_6 a_1.Id)then some (.ret 14)else some (.go ())
noncomputable def lI (a_1:Alert):Option (Int) :=
  bif (decide ((a_1.Refs.length:Int)>20))then some 2 else (forL a_1.Refs () (λk x s=>jm a_1 k x s)).bind λo_12=>thenC o_12 (λs_9=>bif (!((a_1.Kind==1)==((a_1.Refs.length:Int)==0)))then some 3 else some 0) (λr=>some r)
def jZ (x0:ByteArray):Option (Bool) :=
  LM x0
def ig (c_2:Int) (s_8:ByteArray):Option (Ctl (ByteArray) (Unit)) :=
  (bif (decide ((s_8.size:Int)>0))then (yY s_8 (w64 ((s_8.size:Int)-1))).bind λb_16=>some ((b_16.toNat:Int)==c_2)else some false).bind λv_13=>bif v_13 then (Ki s_8 0 (w64 ((s_8.size:Int)-1))).bind λy_19=>some (.go y_19)else some (.brk s_8)
noncomputable def strings_trimRightByte (s_1:ByteArray) (c_2:Int):Option (ByteArray) :=
  (kJ s_1 (λs=>ig c_2 s)).bind λo_11=>thenC o_11 (λs_8=>some s_8) (λ_=>none)
def iB (c_2:Int) (s_8:ByteArray):Option (Ctl (ByteArray) (Unit)) :=
  (bif (decide ((s_8.size:Int)>0))then (yY s_8 0).bind λb_16=>some ((b_16.toNat:Int)==c_2)else some false).bind λv_13=>bif v_13 then (Ki s_8 1 s_8.size).bind λy_19=>some (.go y_19)else some (.brk s_8)
noncomputable def strings_trimLeftByte (s_1:ByteArray) (c_2:Int):Option (ByteArray) :=
  (kJ s_1 (λs=>iB c_2 s)).bind λo_11=>thenC o_11 (λs_8=>some s_8) (λ_=>none)
noncomputable def pV (s_1:ByteArray) (cutset_2:ByteArray):Option (ByteArray) :=
  (bif (sEq s_1 (⟨#[]⟩:ByteArray))then some true else some (sEq cutset_2 (⟨#[]⟩:ByteArray))).bind λv_3=>bif v_3 then some s_1 else (bif ((cutset_2.size:Int)==1)then (yY cutset_2 0).bind λb_10=>some (decide ((b_10.toNat:Int)<128))else some false).bind λv_7=>bif v_7 then (yY cutset_2 0).bind λb_13=>(strings_trimRightByte s_1 (b_13.toNat:Int)).bind λr_15=>(yY cutset_2 0).bind λb_17=>(strings_trimLeftByte r_15 (b_17.toNat:Int)).bind λr_19=>some r_19 else none
def strings_Contains (x0:ByteArray) (x1:ByteArray):Option (Bool) :=
  BI x0 x1
def pg (s_1:ByteArray) (s_7:Int):Option (Ctl (Int) (Bool)) :=
  bif (decide (s_7<(s_1.size:Int)))then ((yY s_1 s_7).bind λb_15=>bif (decide ((b_15.toNat:Int)<32))then some true else (yY s_1 s_7).bind λb_18=>some ((b_18.toNat:Int)==127)).bind λv_13=>bif v_13 then some (.ret false)else some (.go (w64 (s_7+1)))else some (.brk s_7)
noncomputable def oW (s_1:ByteArray):Option (Bool) :=
  (kJ 0 (λs=>pg s_1 s)).bind λo_10=>thenC o_10 (λs_7=>((jZ s_1).bind λr_23=>bif r_23 then (pV s_1 (⟨#[32]⟩:ByteArray)).bind λr_26=>bif (sEq r_26 s_1)then (strings_Contains s_1 (⟨#[32,32]⟩:ByteArray)).bind λr_29=>some (!r_29)else some false else some false).bind λv_21=>some v_21) (λr=>some r)
def ku (k_29:Nat) (x_31:Rect) (s_34:Unit):Option (Ctl (Unit) (Int)) :=
  (nA x_31).bind λr_40=>bif (r_40 != 0)then some (.ret r_40)else some (.go ())
noncomputable def kU (a_1:Alert):Option (Int) :=
  ((eG a_1.Id).bind λr_5=>bif (!r_5)then some true else (eG a_1.Sender).bind λr_8=>some (!r_8)).bind λv_3=>bif v_3 then some 5 else (aQ a_1.Kind 1 3).bind λr_11=>bif r_11 then some 4 else (lI a_1).bind λr_14=>bif (r_14 != 0)then some r_14 else ((cO a_1.At).bind λr_19=>bif (!r_19)then some true else (aQ a_1.Until (w64 (a_1.At+1)) (w64 (a_1.At+2592000000))).bind λr_22=>bif r_22 then some true else (aQ a_1.Weight 1 9).bind λr_25=>some r_25).bind λv_17=>bif v_17 then some 1 else bif (decide ((a_1.Areas.length:Int)>20))then some 2 else (forL a_1.Areas () (λk x s=>ku k x s)).bind λo_37=>thenC o_37 (λs_34=>bif (!((a_1.Kind==3)==((a_1.Areas.length:Int)==0)))then some 3 else bif (decide ((a_1.Text.size:Int)>500))then some 2 else ((oW a_1.Text).bind λr_47=>bif (!r_47)then some true else bif (sEq a_1.Text (⟨#[]⟩:ByteArray))then some (!(a_1.Kind==3))else some false).bind λv_45=>bif v_45 then some 3 else some 0) (λr=>some r)
def qB (a_1:Alert) (b_2:Alert):Option (Int) :=
  (cmp_Compare_int a_1.At b_2.At).bind λr_5=>(strings_Compare a_1.Id b_2.Id).bind λr_7=>(wD ([r_5,r_7]:List Int)).bind λr_9=>some r_9
noncomputable def iq (l_1:(List Alert)) (k_3:Nat) (x_5:Alert) (s_8:Unit):Option (Ctl (Unit) (Int)) :=
  (kU x_5).bind λr_14=>bif (r_14 != 0)then some (.ret r_14)else (bif (decide ((k_3:Int)>0))then (idx l_1 (w64 ((k_3:Int)-1))).bind λy_20=>(qB y_20 x_5).bind λr_22=>some (decide (r_22>=0))else some false).bind λv_17=>bif v_17 then some (.ret 7)else some (.go ())
def jO (k_26:Nat) (x_28:Alert) (s_31:(List (ByteArray×Bool))):Option (Ctl ((List (ByteArray×Bool))) (Int)) :=
  bif ((Mf eqS s_31 x_28.Id).getD false)then some (.ret 6)else some (.go (Pe eqS s_31 x_28.Id true))
noncomputable def jT (l_1:(List Alert)):Option (Int) :=
  bif (decide ((l_1.length:Int)>300))then some 2 else (forL l_1 () (λk x s=>iq l_1 k x s)).bind λo_11=>thenC o_11 (λs_8=>(forL l_1 ([]:List (ByteArray×Bool)) (λk x s=>jO k x s)).bind λo_34=>thenC o_34 (λs_31=>some 0) (λr=>some r)) (λr=>some r)
noncomputable def iP (l_1:(List Post)) (k_3:Nat) (x_5:Post) (s_8:Unit):Option (Ctl (Unit) (Int)) :=
  (eG x_5.Player).bind λr_14=>bif (!r_14)then some (.ret 5)else ((aQ x_5.X (-100000) 100000).bind λr_19=>bif r_19 then some true else (aQ x_5.Y (-100000) 100000).bind λr_22=>some r_22).bind λv_17=>bif v_17 then some (.ret 1)else (bif (decide ((k_3:Int)>0))then (idx l_1 (w64 ((k_3:Int)-1))).bind λy_28=>some (sLe x_5.Player y_28.Player)else some false).bind λv_25=>bif v_25 then some (.ret 7)else some (.go ())
noncomputable def kM (l_1:(List Post)):Option (Int) :=
  bif (decide ((l_1.length:Int)>500))then some 2 else (forL l_1 () (λk x s=>iP l_1 k x s)).bind λo_11=>thenC o_11 (λs_8=>some 0) (λr=>some r)
noncomputable def lL (l_1:(List Alert)) (posts_2:(List Post)):Option (Int) :=
  (jT l_1).bind λr_3=>bif (r_3 != 0)then some r_3 else (kM posts_2).bind λr_6=>some r_6
def q8 (r_1:Rect) (p_2:Post):Option (Bool) :=
  (bif (decide (r_1.X<=p_2.X))then bif (decide (p_2.X<(w64 (r_1.X+r_1.W))))then bif (decide (r_1.Y<=p_2.Y))then some (decide (p_2.Y<(w64 (r_1.Y+r_1.H))))else some false else some false else some false).bind λv_4=>some v_4
def fu (f_2:Rect->Option Bool) (k_3:Nat) (x_5:Rect) (s_8:Unit):Option (Ctl (Unit) (Int)) :=
  (f_2 x_5).bind λr_13=>bif r_13 then some (.ret (k_3:Int))else some (.go ())
def fK (s_1:(List Rect)) (f_2:Rect->Option Bool):Option (Int) :=
  (forL s_1 () (λk x s=>fu f_2 k x s)).bind λo_11=>thenC o_11 (λs_8=>some (-1)) (λr=>some r)
def eZ (s_1:(List Rect)) (f_2:Rect->Option Bool):Option (Bool) :=
  (fK s_1 f_2).bind λr_3=>some (decide (r_3>=0))
def qp (a_1:Alert) (p_2:Post):Option (Bool) :=
  (eZ a_1.Areas (λx0=>q8 x0 p_2)).bind λr_5=>some r_5
noncomputable def nX (a_1:Alert) (p_2:Post):Option (Bool×Int) :=
  (lL ([a_1]:List Alert) ([p_2]:List Post)).bind λr_5=>bif (r_5 != 0)then some (false,r_5)else (qp a_1 p_2).bind λr_8=>some (r_8,0)
def wY (k_2:Nat) (x_4:Int) (s_7:Unit):Option (Ctl (Unit) (Int)) :=
  bif (x_4 != 0)then some (.ret x_4)else some (.go ())
def yR (l_1:(List Int)):Option (Int) :=
  (forL l_1 () (λk x s=>wY k x s)).bind λo_10=>thenC o_10 (λs_7=>some 0) (λr=>some r)
noncomputable def qf  : Option (Bool) :=
  (qR ([(⟨0,0,2,2⟩:Rect),(⟨1,1,2,2⟩:Rect)]:List Rect)).bind λr_1=>(mD (⟨(⟨#[97]⟩:ByteArray),(⟨#[98]⟩:ByteArray),0,0,0,1,127,([]:List Int),1,2,0,([]:List ByteArray),false⟩:Entry) 0 (⟨0,86400000⟩:Window)).bind λr_3=>(qK (⟨(⟨#[97]⟩:ByteArray),(⟨#[]⟩:ByteArray),(⟨0,100⟩:Window),([]:List ByteArray),10,0,0⟩:Campaign) 50).bind λr_5=>(qC ([(⟨(⟨#[112]⟩:ByteArray),0,100⟩:Beat),(⟨(⟨#[112]⟩:ByteArray),1000,1300⟩:Beat)]:List Beat) (⟨#[112]⟩:ByteArray) 700).bind λr_7=>(nX (⟨(⟨#[97]⟩:ByteArray),(⟨#[115]⟩:ByteArray),1,([]:List ByteArray),0,5,1,([(⟨0,0,2,2⟩:Rect)]:List Rect),(⟨#[120]⟩:ByteArray)⟩:Alert) (⟨(⟨#[112]⟩:ByteArray),1,1⟩:Post)).bind λr_10=>((yR ([r_1.2,r_3.2,r_5.2,r_7.2,r_10.2]:List Int)).bind λr_14=>bif (r_14==0)then bif (r_1.1==7)then bif ((r_3.1.length:Int)==1)then bif (r_5.1==5)then bif (r_7.1==500)then some r_10.1 else some false else some false else some false else some false else some false).bind λv_12=>some v_12
noncomputable def l6 (l_1:(List Int)):Option (Bool) :=
  (fU (⟨l_1,0⟩:Stream)).bind λr_4=>(dE r_4.2 4).bind λr_7=>(fU (⟨l_1,0⟩:Stream)).bind λr_10=>(dE r_10.2 4).bind λr_13=>(je r_7.2 6).bind λr_16=>(je r_13.2 6).bind λr_19=>(jL r_4.1 r_7.1).bind λr_22=>(iJ r_22.1).bind λr_26=>(nV r_26 r_22.1).bind λ_=>(nU r_4.1 r_7.1).bind λr_29=>(jQ r_29.1).bind λr_33=>(nV r_33 r_29.1).bind λ_=>(nH r_4.1 r_7.1 (⟨(⟨#[122,122]⟩:ByteArray),(⟨#[]⟩:ByteArray),(⟨0,100⟩:Window),([]:List ByteArray),0,3,0⟩:Campaign)).bind λr_36=>(og r_7.1 r_16.1 30).bind λr_38=>(iW r_38.1).bind λr_42=>(nV r_42 r_38.1).bind λ_=>(bL r_4.1 r_10.1).bind λr_45=>(bif r_45 then (bf r_7.1 r_13.1).bind λr_50=>bif r_50 then (fe r_16.1 r_19.1).bind λr_53=>bif r_53 then (qf).bind λr_56=>some r_56 else some false else some false else some false).bind λv_47=>some v_47
end Go.Proofs.YtkjlhdminmpmkacGreatDoor.Law

