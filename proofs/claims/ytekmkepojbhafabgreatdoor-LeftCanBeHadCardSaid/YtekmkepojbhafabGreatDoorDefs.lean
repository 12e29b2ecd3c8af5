/-
  The functions of the program, as plain functions over data (written by a program of ours).
-/
import Derived.Test.YtekmkepojbhafabGreatDoorEng5
open Go Go.Eng
namespace Go.Proofs.YtekmkepojbhafabGreatDoor.Law
set_option maxRecDepth 100000
set_option linter.unusedVariables false
set_option maxHeartbeats 1000000
structure Stream where
  L:(List Int)
  f_at:Int
def Stream.enc (s:Stream):List D:=[dl eI s.L,.int .i64 s.f_at]

structure Window where
  From:Int
  To:Int
def Window.enc (s:Window):List D:=[.int .i64 s.From,.int .i64 s.To]

structure Spot where
  Key:ByteArray
  Time:Window
  Room:Int
  Tags:(List ByteArray)
def Spot.enc (s:Spot):List D:=[.str s.Key,.int .i64 s.Time.From,.int .i64 s.Time.To,.int .i64 s.Room,dl eS s.Tags]
abbrev Spot.v (s:Spot):List V:=[(vS s.Key),(vI s.Time.From),(vI s.Time.To),(vI s.Room),(vL eS s.Tags)]

structure Campaign where
  Key:ByteArray
  Class:ByteArray
  Time:Window
  Tags:(List ByteArray)
  Goal:Int
  Most:Int
  Cents:Int
def Campaign.enc (s:Campaign):List D:=[.str s.Key,.str s.Class,.int .i64 s.Time.From,.int .i64 s.Time.To,dl eS s.Tags,.int .i64 s.Goal,.int .i64 s.Most,.int .i64 s.Cents]
abbrev Campaign.v (s:Campaign):List V:=[(vS s.Key),(vS s.Class),(vI s.Time.From),(vI s.Time.To),(vL eS s.Tags),(vI s.Goal),(vI s.Most),(vI s.Cents)]

structure Web where
  f_can:(List (List Int))
  f_camps:Int
def Web.enc (s:Web):List D:=[dl (eL eI) s.f_can,.int .i64 s.f_camps]

structure Rect where
  X:Int
  Y:Int
  W:Int
  H:Int
def Rect.enc (s:Rect):List D:=[.int .i64 s.X,.int .i64 s.Y,.int .i64 s.W,.int .i64 s.H]
abbrev Rect.v (s:Rect):List V:=[(vI s.X),(vI s.Y),(vI s.W),(vI s.H)]

structure Run where
  f_from:Int
  f_to:Int
def Run.enc (s:Run):List D:=[.int .i64 s.f_from,.int .i64 s.f_to]

structure Entry where
  Key:ByteArray
  Item:ByteArray
  Version:Int
  First:Int
  Last:Int
  Every:Int
  Days:Int
  Except:(List Int)
  From:Int
  To:Int
  Prio:Int
  Tags:(List ByteArray)
  Gone:Bool
def Entry.enc (s:Entry):List D:=[.str s.Key,.str s.Item,.int .i64 s.Version,.int .i64 s.First,.int .i64 s.Last,.int .i64 s.Every,.int .i64 s.Days,dl eI s.Except,.int .i64 s.From,.int .i64 s.To,.int .i64 s.Prio,dl eS s.Tags,.bool s.Gone]
abbrev Entry.v (s:Entry):List V:=[(vS s.Key),(vS s.Item),(vI s.Version),(vI s.First),(vI s.Last),(vI s.Every),(vI s.Days),(vL eI s.Except),(vI s.From),(vI s.To),(vI s.Prio),(vL eS s.Tags),(vB s.Gone)]

structure Beat where
  Player:ByteArray
  At:Int
  Clock:Int
def Beat.enc (s:Beat):List D:=[.str s.Player,.int .i64 s.At,.int .i64 s.Clock]
abbrev Beat.v (s:Beat):List V:=[(vS s.Player),(vI s.At),(vI s.Clock)]

structure Beat_ where
  f_from:Int
  f_to:Int
def Beat_.enc (s:Beat_):List D:=[.int .i64 s.f_from,.int .i64 s.f_to]

structure Alert where
  Id:ByteArray
  Sender:ByteArray
  Kind:Int
  Refs:(List ByteArray)
  At:Int
  Until:Int
  Weight:Int
  Areas:(List Rect)
  Text:ByteArray
def Alert.enc (s:Alert):List D:=[.str s.Id,.str s.Sender,.int .i64 s.Kind,dl eS s.Refs,.int .i64 s.At,.int .i64 s.Until,.int .i64 s.Weight,dl Rect.enc s.Areas,.str s.Text]
abbrev Alert.v (s:Alert):List V:=[(vS s.Id),(vS s.Sender),(vI s.Kind),(vL eS s.Refs),(vI s.At),(vI s.Until),(vI s.Weight),(vL Rect.enc s.Areas),(vS s.Text)]

structure Post where
  Player:ByteArray
  X:Int
  Y:Int
def Post.enc (s:Post):List D:=[.str s.Player,.int .i64 s.X,.int .i64 s.Y]
abbrev Post.v (s:Post):List V:=[(vS s.Player),(vI s.X),(vI s.Y)]

def rJ (x_1:Int) (n_2:Int):Option (Int) :=
  bif (decide (n_2<1))then some 0 else (IP .i64 x_1 n_2).bind λq_4=>(bif (decide (q_4<0))then some (w64 (q_4+n_2))else some q_4).bind λv_6=>some v_6
def iQ (s_1:Stream) (n_2:Int):Option (Int×Stream) :=
  bif ((s_1.L.length:Int)==0)then (rJ (w64 ((w64 (s_1.f_at+1))*7919)) n_2).bind λr_4=>some (r_4,(⟨s_1.L,(w64 (s_1.f_at+1))⟩:Stream))else (IP .i64 (w64 ((w64 (s_1.f_at+1))-1)) (s_1.L.length:Int)).bind λq_6=>(J2 .i64 (w64 ((w64 (s_1.f_at+1))-1)) (s_1.L.length:Int)).bind λq_8=>(idx s_1.L q_6).bind λy_10=>(rJ y_10 1073741824).bind λr_12=>(rJ (w64 (r_12+(w64 (q_8*(w64 (7919+q_6)))))) n_2).bind λr_14=>some (r_14,(⟨s_1.L,(w64 (s_1.f_at+1))⟩:Stream))
def fM (s_1:Stream) (n_2:Int):Option (Bool×Stream) :=
  (iQ s_1 n_2).bind λr_3=>some ((r_3.1==0),r_3.2)
def dN (s_1:Stream) (l_2:(List Int)):Option (Int×Stream) :=
  (iQ s_1 (l_2.length:Int)).bind λr_3=>(idx l_2 r_3.1).bind λy_6=>some (y_6,r_3.2)
def gM (k_26:Nat) (x_28:ByteArray) (s_31:(List ByteArray)×(List Int)×Int):Option (Ctl ((List ByteArray)×(List Int)×Int) (Unit)) :=
  (fM (⟨s_31.2.1,s_31.2.2⟩:Stream) 2).bind λr_39=>(bif r_39.1 then (jZ s_31.1 ([x_28]:List ByteArray)).bind λa_46=>some a_46 else some s_31.1).bind λv_42=>some (.go (v_42,r_39.2.L,r_39.2.f_at))
def fF (k_2:Nat) (x_4:ByteArray) (s_7:(List Spot)×(List Int)×Int):Option (Ctl ((List Spot)×(List Int)×Int) (Unit)) :=
  (fM (⟨s_7.2.1,s_7.2.2⟩:Stream) 4).bind λr_15=>bif r_15.1 then some (.go (s_7.1,r_15.2.L,r_15.2.f_at))else (dN r_15.2 ([5,10,10]:List Int)).bind λr_19=>(dN r_19.2 ([0,1,2,3,5]:List Int)).bind λr_22=>(forL ([(⟨#[99,105,116,121]⟩:ByteArray),(⟨#[109,97,108,108]⟩:ByteArray)]:List ByteArray) (([]:List ByteArray),r_22.2.L,r_22.2.f_at) (λk x s=>gM k x s)).bind λo_37=>thenC o_37 (λs_31=>(jZ s_7.1 ([(⟨x_4,(⟨(w64 (10*(k_2:Int))),(w64 ((w64 (10*(k_2:Int)))+r_19.1))⟩:Window),r_22.1,s_31.1⟩:Spot)]:List Spot)).bind λa_49=>some (.go (a_49,s_31.2.1,s_31.2.2))) (λ_=>none)
def gH (s_1:Stream):Option ((List Spot)×Stream) :=
  (forL ([(⟨#[115,97]⟩:ByteArray),(⟨#[115,98]⟩:ByteArray),(⟨#[115,99]⟩:ByteArray),(⟨#[115,100]⟩:ByteArray),(⟨#[115,101]⟩:ByteArray)]:List ByteArray) (([]:List Spot),s_1.L,s_1.f_at) (λk x s=>fF k x s)).bind λo_13=>thenC o_13 (λs_7=>some (s_7.1,(⟨s_7.2.1,s_7.2.2⟩:Stream))) (λ_=>none)
def lv (s_1:Stream) (l_2:(List ByteArray)):Option (ByteArray×Stream) :=
  (iQ s_1 (l_2.length:Int)).bind λr_3=>(idx l_2 r_3.1).bind λy_6=>some (y_6,r_3.2)
def fI (k_41:Nat) (x_43:ByteArray) (s_46:(List ByteArray)×(List Int)×Int):Option (Ctl ((List ByteArray)×(List Int)×Int) (Unit)) :=
  (fM (⟨s_46.2.1,s_46.2.2⟩:Stream) 4).bind λr_54=>(bif r_54.1 then (jZ s_46.1 ([x_43]:List ByteArray)).bind λa_61=>some a_61 else some s_46.1).bind λv_57=>some (.go (v_57,r_54.2.L,r_54.2.f_at))
def dS (k_5:Nat) (x_7:ByteArray) (s_10:(List Campaign)×(List Int)×Int):Option (Ctl ((List Campaign)×(List Int)×Int) (Unit)) :=
  (fM (⟨s_10.2.1,s_10.2.2⟩:Stream) 5).bind λr_18=>bif r_18.1 then some (.go (s_10.1,r_18.2.L,r_18.2.f_at))else (lv r_18.2 ([(⟨#[]⟩:ByteArray),(⟨#[]⟩:ByteArray),(⟨#[99,97,114,115]⟩:ByteArray),(⟨#[102,111,111,100]⟩:ByteArray)]:List ByteArray)).bind λr_22=>(dN r_22.2 ([0,0,10,20]:List Int)).bind λr_25=>(dN r_25.2 ([30,50,60,100]:List Int)).bind λr_28=>(dN r_28.2 ([0,1,2,3,4,6]:List Int)).bind λr_31=>(dN r_31.2 ([0,1,2,3,9]:List Int)).bind λr_34=>(dN r_34.2 ([0,500,1000,1500]:List Int)).bind λr_37=>(forL ([(⟨#[99,105,116,121]⟩:ByteArray),(⟨#[109,97,108,108]⟩:ByteArray)]:List ByteArray) (([]:List ByteArray),r_37.2.L,r_37.2.f_at) (λk x s=>fI k x s)).bind λo_52=>thenC o_52 (λs_46=>(jZ s_10.1 ([(⟨x_7,r_22.1,(⟨r_25.1,r_28.1⟩:Window),s_46.1,r_31.1,r_34.1,r_37.1⟩:Campaign)]:List Campaign)).bind λa_64=>some (.go (a_64,s_46.2.1,s_46.2.2))) (λ_=>none)
def dP (s_1:Stream) (most_2:Int):Option ((List Campaign)×Stream) :=
  (JB ([(⟨#[99,97]⟩:ByteArray),(⟨#[99,98]⟩:ByteArray),(⟨#[99,99]⟩:ByteArray),(⟨#[99,100]⟩:ByteArray)]:List ByteArray) 0 most_2).bind λy_3=>(forL y_3 (([]:List Campaign),s_1.L,s_1.f_at) (λk x s=>dS k x s)).bind λo_16=>thenC o_16 (λs_10=>some (s_10.1,(⟨s_10.2.1,s_10.2.2⟩:Stream))) (λ_=>none)
def jm (s_1:ByteArray) (s_7:Int):Option (Ctl (Int) (Bool)) :=
  bif (decide (s_7<(s_1.size:Int)))then (oo s_1 s_7).bind λb_13=>(bif (decide ((b_13.toNat:Int)>=97))then bif (decide ((b_13.toNat:Int)<=122))then some false else bif (decide (s_7>0))then bif (decide ((b_13.toNat:Int)>=48))then bif (decide ((b_13.toNat:Int)<=57))then some false else bif ((b_13.toNat:Int)==45)then some false else some (!((b_13.toNat:Int)==95))else bif ((b_13.toNat:Int)==45)then some false else some (!((b_13.toNat:Int)==95))else some true else bif (decide (s_7>0))then bif (decide ((b_13.toNat:Int)>=48))then bif (decide ((b_13.toNat:Int)<=57))then some false else bif ((b_13.toNat:Int)==45)then some false else some (!((b_13.toNat:Int)==95))else bif ((b_13.toNat:Int)==45)then some false else some (!((b_13.toNat:Int)==95))else some true).bind λv_15=>bif v_15 then some (.ret false)else some (.go (w64 (s_7+1)))else some (.brk s_7)
noncomputable def fe (s_1:ByteArray):Option (Bool) :=
  (jy 0 (λs=>jm s_1 s)).bind λo_10=>thenC o_10 (λs_7=>(bif (sNe s_1 (⟨#[]⟩:ByteArray))then some (decide ((s_1.size:Int)<=40))else some false).bind λv_30=>some v_30) (λr=>some r)
def iT (wv_1:Window):Option (Bool) :=
  (bif (decide (wv_1.From>=0))then bif (decide (wv_1.From<wv_1.To))then some (decide (wv_1.To<=345686400000))else some false else some false).bind λv_3=>some v_3
def aQ (n_1:Int) (low_2:Int) (high_3:Int):Option (Bool) :=
  (bif (decide (n_1<low_2))then some true else some (decide (n_1>high_3))).bind λv_4=>some v_4
noncomputable def gp (l_1:(List ByteArray)) (k_2:Nat) (x_4:ByteArray) (s_7:Unit):Option (Ctl (Unit) (Int)) :=
  (fe x_4).bind λr_12=>bif (!r_12)then some (.ret 5)else (bif (decide ((k_2:Int)>0))then (idx l_1 (w64 ((k_2:Int)-1))).bind λy_18=>some (sLe x_4 y_18)else some false).bind λv_15=>bif v_15 then some (.ret 7)else some (.go ())
noncomputable def gU (l_1:(List ByteArray)):Option (Int) :=
  (forL l_1 () (λk x s=>gp l_1 k x s)).bind λo_10=>thenC o_10 (λs_7=>some 0) (λr=>some r)
noncomputable def eX (l_1:(List ByteArray)):Option (Int) :=
  bif (decide ((l_1.length:Int)>20))then some 2 else (gU l_1).bind λr_3=>some r_3
noncomputable def iY (l_1:(List Spot)) (k_3:Nat) (x_5:Spot) (s_8:Unit):Option (Ctl (Unit) (Int)) :=
  (fe x_5.Key).bind λr_14=>bif (!r_14)then some (.ret 5)else (bif (decide ((k_3:Int)>0))then (idx l_1 (w64 ((k_3:Int)-1))).bind λy_20=>some (sLe x_5.Key y_20.Key)else some false).bind λv_17=>bif v_17 then some (.ret 7)else ((iT x_5.Time).bind λr_25=>bif (!r_25)then some true else (aQ x_5.Room 0 1000000).bind λr_28=>some r_28).bind λv_23=>bif v_23 then some (.ret 1)else (eX x_5.Tags).bind λr_31=>bif (r_31 != 0)then some (.ret r_31)else some (.go ())
noncomputable def iU (l_1:(List Spot)):Option (Int) :=
  bif (decide ((l_1.length:Int)>60))then some 2 else (forL l_1 () (λk x s=>iY l_1 k x s)).bind λo_11=>thenC o_11 (λs_8=>some 0) (λr=>some r)
noncomputable def dF (l_1:(List Campaign)) (k_3:Nat) (x_5:Campaign) (s_8:Unit):Option (Ctl (Unit) (Int)) :=
  ((fe x_5.Key).bind λr_16=>bif (!r_16)then some true else bif (sNe x_5.Class (⟨#[]⟩:ByteArray))then (fe x_5.Class).bind λr_20=>some (!r_20)else some false).bind λv_14=>bif v_14 then some (.ret 5)else (bif (decide ((k_3:Int)>0))then (idx l_1 (w64 ((k_3:Int)-1))).bind λy_26=>some (sLe x_5.Key y_26.Key)else some false).bind λv_23=>bif v_23 then some (.ret 7)else ((iT x_5.Time).bind λr_31=>bif (!r_31)then some true else (aQ x_5.Goal 0 1000000).bind λr_34=>bif r_34 then some true else (aQ x_5.Most 0 1000000).bind λr_37=>bif r_37 then some true else (aQ x_5.Cents 0 1000000000).bind λr_40=>some r_40).bind λv_29=>bif v_29 then some (.ret 1)else (eX x_5.Tags).bind λr_43=>bif (r_43 != 0)then some (.ret r_43)else some (.go ())
noncomputable def bU (l_1:(List Campaign)):Option (Int) :=
  bif (decide ((l_1.length:Int)>30))then some 2 else (forL l_1 () (λk x s=>dF l_1 k x s)).bind λo_11=>thenC o_11 (λs_8=>some 0) (λr=>some r)
noncomputable def dw (spots_1:(List Spot)) (l_2:(List Campaign)):Option (Int) :=
  (iU spots_1).bind λr_3=>bif (r_3 != 0)then some r_3 else (bU l_2).bind λr_6=>some r_6
def lu (o_1:Campaign) (p_2:Campaign):Option (Bool) :=
  some (sEq o_1.Key p_2.Key)
def bn (f_2:Campaign->Option Bool) (k_3:Nat) (x_5:Campaign) (s_8:Unit):Option (Ctl (Unit) (Int)) :=
  (f_2 x_5).bind λr_13=>bif r_13 then some (.ret (k_3:Int))else some (.go ())
def cB (s_1:(List Campaign)) (f_2:Campaign->Option Bool):Option (Int) :=
  (forL s_1 () (λk x s=>bn f_2 k x s)).bind λo_11=>thenC o_11 (λs_8=>some (-1)) (λr=>some r)
def aV (s_1:(List Campaign)) (f_2:Campaign->Option Bool):Option (Bool) :=
  (cB s_1 f_2).bind λr_3=>some (decide (r_3>=0))
def jK (k_2:Nat) (x_4:Campaign) (s_7:Int):Option (Ctl (Int) (Unit)) :=
  some (.go (w64 (s_7+x_4.Goal)))
def kM (l_1:(List Campaign)):Option (Int) :=
  (forL l_1 0 (λk x s=>jK k x s)).bind λo_10=>thenC o_10 (λs_7=>some s_7) (λ_=>none)
def iB (wv_1:Web) (i_2:Int):Option (Int) :=
  some (w64 (2+i_2))
def cmp_isNaN_string (x_1:ByteArray):Option (Bool) :=
  some (sNe x_1 x_1)
def cmp_Less_string (x_1:ByteArray) (y_2:ByteArray):Option (Bool) :=
  ((cmp_isNaN_string x_1).bind λr_5=>bif r_5 then (cmp_isNaN_string y_2).bind λr_8=>bif (!r_8)then some true else some (sLt x_1 y_2)else some (sLt x_1 y_2)).bind λv_3=>some v_3
def slices_isNaN_string (x_1:ByteArray):Option (Bool) :=
  some (sNe x_1 x_1)
def aW (x_1:(List ByteArray)) (target_2:ByteArray) (s_8:Int×Int):Option (Ctl (Int×Int) (Unit)) :=
  bif (decide (s_8.1<s_8.2))then (FN .u64 (IntKind.u64.wrap (w64 (s_8.1+s_8.2))) 1).bind λq_14=>(idx x_1 (w64 q_14)).bind λy_16=>(cmp_Less_string y_16 target_2).bind λr_18=>bif r_18 then some (.go ((w64 ((w64 q_14)+1)),s_8.2))else some (.go (s_8.1,(w64 q_14)))else some (.brk (s_8.1,s_8.2))
noncomputable def dx (x_1:(List ByteArray)) (target_2:ByteArray):Option (Int×Bool) :=
  (jy (0,(x_1.length:Int)) (λs=>aW x_1 target_2 s)).bind λo_11=>thenC o_11 (λs_8=>(bif (decide (s_8.1<(x_1.length:Int)))then (idx x_1 s_8.1).bind λy_24=>bif (sEq y_24 target_2)then some true else (idx x_1 s_8.1).bind λy_27=>(slices_isNaN_string y_27).bind λr_29=>bif r_29 then (slices_isNaN_string target_2).bind λr_32=>some r_32 else some false else some false).bind λv_21=>some (s_8.1,v_21)) (λ_=>none)
noncomputable def iI (s_2:Spot) (k_9:Nat) (x_11:ByteArray) (s_14:Unit):Option (Ctl (Unit) (Bool)) :=
  (dx s_2.Tags x_11).bind λr_19=>bif (!r_19.2)then some (.ret false)else some (.go ())
noncomputable def kN (c_1:Campaign) (s_2:Spot):Option (Bool) :=
  (bif (decide (s_2.Time.From<c_1.Time.From))then some true else some (decide (s_2.Time.To>c_1.Time.To))).bind λv_5=>bif v_5 then some false else (forL c_1.Tags () (λk x s=>iI s_2 k x s)).bind λo_17=>thenC o_17 (λs_14=>some true) (λr=>some r)
def iA (wv_1:Web) (k_2:Int):Option (Int) :=
  some (w64 ((w64 (2+wv_1.f_camps))+k_2))
def jd (spots_1:(List Spot)) (l_2:(List Campaign)) (m_3:Nat) (k_9:Nat) (x_11:Nat) (s_14:(List (List Int))):Option (Ctl ((List (List Int))) (Unit)) :=
  (mkN (w64 ((w64 (2+(spots_1.length:Int)))+(l_2.length:Int))) 8).bind λm_21=>(inN (k_9:Int) m_3).bind λ_=>(neL (List.replicate m_21 (0:Int))).bind λ_=>(s_14[(0+((k_9:Int)).toNat)]?).bind λr_26=>some (.go (s_14.set (0+((k_9:Int)).toNat) (List.replicate m_21 (0:Int))))
noncomputable def gJ (x_30:Campaign) (m_3:Nat) (l_2:(List Campaign)) (k_28:Nat) (k_51:Nat) (x_53:Spot) (s_56:(List (List Int))):Option (Ctl ((List (List Int))) (Unit)) :=
  (kN x_30 x_53).bind λr_62=>(bif r_62 then (neR s_56).bind λ_=>(Dl s_56 m_3).bind λ_=>(iB (⟨s_56,(l_2.length:Int)⟩:Web) (k_28:Int)).bind λr_67=>(inN r_67 m_3).bind λ_=>(s_56[(0+(r_67).toNat)]?).bind λr_72=>(neR s_56).bind λ_=>(Dl s_56 m_3).bind λ_=>(iA (⟨s_56,(l_2.length:Int)⟩:Web) (k_51:Int)).bind λr_74=>(inR r_74 r_72).bind λ_=>(s_56[(0+(r_67).toNat)]?).bind λr_79=>(r_79[(0+(r_74).toNat)]?).bind λe_81=>some (s_56.set (0+(r_67).toNat) (r_79.set (0+(r_74).toNat) x_30.Most))else some s_56).bind λv_64=>some (.go v_64)
noncomputable def gP (m_3:Nat) (l_2:(List Campaign)) (spots_1:(List Spot)) (k_28:Nat) (x_30:Campaign) (s_33:(List (List Int))):Option (Ctl ((List (List Int))) (Unit)) :=
  (inN 0 m_3).bind λ_=>(s_33[(0+(0:Int).toNat)]?).bind λr_40=>(neR s_33).bind λ_=>(Dl s_33 m_3).bind λ_=>(iB (⟨s_33,(l_2.length:Int)⟩:Web) (k_28:Int)).bind λr_42=>(inR r_42 r_40).bind λ_=>(s_33[(0+(0:Int).toNat)]?).bind λr_47=>(r_47[(0+(r_42).toNat)]?).bind λe_49=>(forL spots_1 (s_33.set (0+(0:Int).toNat) (r_47.set (0+(r_42).toNat) x_30.Goal)) (λk x s=>gJ x_30 m_3 l_2 k_28 k x s)).bind λo_59=>thenC o_59 (λs_56=>some (.go s_56)) (λ_=>none)
def jw (m_3:Nat) (l_2:(List Campaign)) (k_83:Nat) (x_85:Spot) (s_88:(List (List Int))):Option (Ctl ((List (List Int))) (Unit)) :=
  (neR s_88).bind λ_=>(Dl s_88 m_3).bind λ_=>(iA (⟨s_88,(l_2.length:Int)⟩:Web) (k_83:Int)).bind λr_94=>(inN r_94 m_3).bind λ_=>(s_88[(0+(r_94).toNat)]?).bind λr_99=>(inR 1 r_99).bind λ_=>(s_88[(0+(r_94).toNat)]?).bind λr_102=>(r_102[(0+(1:Int).toNat)]?).bind λe_104=>some (.go (s_88.set (0+(r_94).toNat) (r_102.set (0+(1:Int).toNat) x_85.Room)))
noncomputable def jR (spots_1:(List Spot)) (l_2:(List Campaign)):Option (Web) :=
  (mkN (w64 ((w64 (2+(spots_1.length:Int)))+(l_2.length:Int))) 24).bind λm_3=>(nzI (w64 ((w64 (2+(spots_1.length:Int)))+(l_2.length:Int)))).bind λ_=>(forL (List.range (((m_3:Nat):Int)).toNat) (List.replicate m_3 ([]:List Int)) (λk x s=>jd spots_1 l_2 m_3 k x s)).bind λo_19=>thenC o_19 (λs_14=>(forL l_2 s_14 (λk x s=>gP m_3 l_2 spots_1 k x s)).bind λo_36=>thenC o_36 (λs_33=>(forL spots_1 s_33 (λk x s=>jw m_3 l_2 k x s)).bind λo_91=>thenC o_91 (λs_88=>(Dl s_88 m_3).bind λ_=>some (⟨s_88,(l_2.length:Int)⟩:Web)) (λ_=>none)) (λ_=>none)) (λ_=>none)
def iW (k_7:Nat) (x_9:Nat) (s_12:(List Int)):Option (Ctl ((List Int)) (Unit)) :=
  (inR (k_7:Int) s_12).bind λ_=>(s_12[(0+((k_7:Int)).toNat)]?).bind λe_18=>some (.go (s_12.set (0+((k_7:Int)).toNat) (-1)))
def gm (r_47:(List Int)) (wv_1:Web) (e_44:Int) (k_49:Nat) (x_51:Nat) (s_54:(List Int)×(List Int)×Nat):Option (Ctl ((List Int)×(List Int)×Nat) (Unit)) :=
  (inR (k_49:Int) r_47).bind λ_=>(wv_1.f_can[(0+(e_44).toNat)]?).bind λr_62=>(r_62[(0+((k_49:Int)).toNat)]?).bind λe_64=>(bif (decide (e_64>0))then (inR (k_49:Int) s_54.1).bind λ_=>(s_54.1[(0+((k_49:Int)).toNat)]?).bind λe_70=>some (decide (e_70<0))else some false).bind λv_66=>(bif v_66 then (inN 0 (s_54.2.1.length-s_54.2.2)).bind λ_=>(s_54.2.1[(s_54.2.2+(0:Int).toNat)]?).bind λe_77=>(inR (k_49:Int) s_54.1).bind λ_=>(s_54.1[(0+((k_49:Int)).toNat)]?).bind λe_80=>(leN s_54.2.2 s_54.2.1.length).bind λ_=>(jZ (s_54.2.1.drop s_54.2.2) ([(k_49:Int)]:List Int)).bind λa_82=>some ((s_54.1.set (0+((k_49:Int)).toNat) e_77),a_82,0)else some (s_54.1,s_54.2.1,s_54.2.2)).bind λv_72=>some (.go (v_72.1,v_72.2.1,v_72.2.2))
def fE (tov_3:Int) (wv_1:Web) (s_29:(List Int)×(List Int)×Nat):Option (Ctl ((List Int)×(List Int)×Nat) (Unit)) :=
  (bif (decide ((((s_29.2.1.length-s_29.2.2):Nat):Int)>0))then (inR tov_3 s_29.1).bind λ_=>(s_29.1[(0+(tov_3).toNat)]?).bind λe_40=>some (decide (e_40<0))else some false).bind λv_36=>bif v_36 then (inN 0 (s_29.2.1.length-s_29.2.2)).bind λ_=>(s_29.2.1[(s_29.2.2+(0:Int).toNat)]?).bind λe_44=>(inN e_44 wv_1.f_can.length).bind λ_=>(wv_1.f_can[(0+(e_44).toNat)]?).bind λr_47=>(forL (List.range ((r_47.length:Int)).toNat) (s_29.1,s_29.2.1,s_29.2.2) (λk x s=>gm r_47 wv_1 e_44 k x s)).bind λo_59=>thenC o_59 (λs_54=>(ltN s_54.2.2 s_54.2.1.length).bind λ_=>some (.go (s_54.1,s_54.2.1,(s_54.2.2+1)))) (λ_=>none)else some (.brk (s_29.1,s_29.2.1,s_29.2.2))
noncomputable def kK (wv_1:Web) (fromv_2:Int) (tov_3:Int):Option ((List Int)×Bool) :=
  (mkN ((wv_1.f_can.length:Nat):Int) 8).bind λm_4=>(forL (List.range (((List.replicate m_4 (0:Int)).length:Int)).toNat) (List.replicate m_4 (0:Int)) (λk x s=>iW k x s)).bind λo_15=>thenC o_15 (λs_12=>(inR fromv_2 s_12).bind λ_=>(s_12[(0+(fromv_2).toNat)]?).bind λe_21=>(jy ((s_12.set (0+(fromv_2).toNat) fromv_2),([fromv_2]:List Int),0) (λs=>fE tov_3 wv_1 s)).bind λo_34=>thenC o_34 (λs_29=>(inR tov_3 s_29.1).bind λ_=>(s_29.1[(0+(tov_3).toNat)]?).bind λe_88=>some (s_29.1,(decide (e_88>=0)))) (λ_=>none)) (λ_=>none)
def eQ (fromv_2:Int) (r_16:(List Int)×Bool) (wv_1:Web) (s_10:(List (List Int))×Int) (s_26:Int×Int):Option (Ctl (Int×Int) (Unit)) :=
  bif (s_26.2 != fromv_2)then (idx r_16.1 s_26.2).bind λy_32=>(inN y_32 wv_1.f_can.length).bind λ_=>(s_10.1[(0+(y_32).toNat)]?).bind λr_35=>(inR s_26.2 r_35).bind λ_=>(s_10.1[(0+(y_32).toNat)]?).bind λr_38=>(r_38[(0+(s_26.2).toNat)]?).bind λe_40=>(idx r_16.1 s_26.2).bind λy_42=>some (.go ((sN s_26.1 e_40),y_42))else some (.brk (s_26.1,s_26.2))
def eP (fromv_2:Int) (r_16:(List Int)×Bool) (wv_1:Web) (s_26:Int×Int) (s_49:(List (List Int))×Int):Option (Ctl ((List (List Int))×Int) (Unit)) :=
  bif (s_49.2 != fromv_2)then (idx r_16.1 s_49.2).bind λy_55=>(inN y_55 wv_1.f_can.length).bind λ_=>(s_49.1[(0+(y_55).toNat)]?).bind λr_58=>(inR s_49.2 r_58).bind λ_=>(s_49.1[(0+(y_55).toNat)]?).bind λr_61=>(r_61[(0+(s_49.2).toNat)]?).bind λe_63=>(inR s_49.2 r_58).bind λ_=>(s_49.1[(0+(y_55).toNat)]?).bind λr_66=>(r_66[(0+(s_49.2).toNat)]?).bind λe_68=>(inN s_49.2 wv_1.f_can.length).bind λ_=>((s_49.1.set (0+(y_55).toNat) (r_66.set (0+(s_49.2).toNat) (w64 (e_63-s_26.1))))[(0+(s_49.2).toNat)]?).bind λr_71=>(idx r_16.1 s_49.2).bind λy_73=>(inR y_73 r_71).bind λ_=>((s_49.1.set (0+(y_55).toNat) (r_66.set (0+(s_49.2).toNat) (w64 (e_63-s_26.1))))[(0+(s_49.2).toNat)]?).bind λr_76=>(r_76[(0+(y_73).toNat)]?).bind λe_78=>(inR y_73 r_71).bind λ_=>((s_49.1.set (0+(y_55).toNat) (r_66.set (0+(s_49.2).toNat) (w64 (e_63-s_26.1))))[(0+(s_49.2).toNat)]?).bind λr_81=>(r_81[(0+(y_73).toNat)]?).bind λe_83=>(idx r_16.1 s_49.2).bind λy_85=>some (.go (((s_49.1.set (0+(y_55).toNat) (r_66.set (0+(s_49.2).toNat) (w64 (e_63-s_26.1)))).set (0+(s_49.2).toNat) (r_81.set (0+(y_73).toNat) (w64 (e_78+s_26.1)))),y_85))else some (.brk (s_49.1,s_49.2))
noncomputable def eO (most_4:Int) (wv_1:Web) (fromv_2:Int) (tov_3:Int) (s_10:(List (List Int))×Int):Option (Ctl ((List (List Int))×Int) (Unit)) :=
  bif (decide (s_10.2<most_4))then (neR s_10.1).bind λ_=>(Dl s_10.1 wv_1.f_can.length).bind λ_=>(kK (⟨s_10.1,wv_1.f_camps⟩:Web) fromv_2 tov_3).bind λr_16=>bif (!r_16.2)then some (.brk (s_10.1,s_10.2))else (jy ((w64 (most_4-s_10.2)),tov_3) (λs=>eQ fromv_2 r_16 wv_1 s_10 s)).bind λo_29=>thenC o_29 (λs_26=>(jy (s_10.1,tov_3) (λs=>eP fromv_2 r_16 wv_1 s_26 s)).bind λo_52=>thenC o_52 (λs_49=>some (.go (s_49.1,(w64 (s_10.2+s_26.1))))) (λ_=>none)) (λ_=>none)else some (.brk (s_10.1,s_10.2))
noncomputable def iC (wv_1:Web) (fromv_2:Int) (tov_3:Int) (most_4:Int):Option (Int×Web) :=
  (jy (wv_1.f_can,0) (λs=>eO most_4 wv_1 fromv_2 tov_3 s)).bind λo_13=>thenC o_13 (λs_10=>(q8 s_10.1 wv_1.f_can).bind λ_=>some (s_10.2,(⟨s_10.1,wv_1.f_camps⟩:Web))) (λ_=>none)
noncomputable def jf (spots_1:(List Spot)) (l_2:(List Campaign)):Option (Int) :=
  (jR spots_1 l_2).bind λr_3=>(neR r_3.f_can).bind λ_=>(neR r_3.f_can).bind λ_=>(Dl r_3.f_can r_3.f_can.length).bind λ_=>(iC r_3 0 1 1800000000).bind λr_9=>(q8 r_9.2.f_can r_3.f_can).bind λ_=>some r_9.1
def bA (s_1:(List Campaign)):Option ((List Campaign)) :=
  (jZ [] s_1).bind λa_4=>some a_4
noncomputable def kg (spots_1:(List Spot)) (l_2:(List Campaign)) (c_3:Campaign):Option (Int×Int) :=
  (dw spots_1 l_2).bind λr_5=>bif (r_5 != 0)then some (0,r_5)else (bU ([c_3]:List Campaign)).bind λr_8=>bif (r_8 != 0)then some (0,r_8)else (aV l_2 (λx0=>lu x0 c_3)).bind λr_11=>bif r_11 then some (0,6)else (kM l_2).bind λr_15=>(jf spots_1 l_2).bind λr_17=>bif (decide (r_17<r_15))then some (0,12)else (bA l_2).bind λr_20=>(jZ r_20 ([(⟨c_3.Key,c_3.Class,c_3.Time,c_3.Tags,1000000,c_3.Most,c_3.Cents⟩:Campaign)]:List Campaign)).bind λa_23=>(jf spots_1 a_23).bind λr_26=>some ((w64 (r_26-r_15)),0)
noncomputable def kJ (c_2:Campaign) (k_7:Nat) (x_9:Spot) (s_12:Int):Option (Ctl (Int) (Unit)) :=
  (kN c_2 x_9).bind λr_18=>(bif r_18 then some (w64 (s_12+(sN x_9.Room c_2.Most)))else some s_12).bind λv_20=>some (.go v_20)
noncomputable def nN (spots_1:(List Spot)) (c_2:Campaign):Option (Int×Int) :=
  (dw spots_1 ([c_2]:List Campaign)).bind λr_4=>bif (r_4 != 0)then some (0,r_4)else (forL spots_1 0 (λk x s=>kJ c_2 k x s)).bind λo_15=>thenC o_15 (λs_12=>some (s_12,0)) (λ_=>none)
noncomputable def jg (spots_1:(List Spot)) (l_2:(List Campaign)):Option (Bool×Int) :=
  (dw spots_1 l_2).bind λr_3=>bif (r_3 != 0)then some (false,r_3)else (jf spots_1 l_2).bind λr_6=>(kM l_2).bind λr_8=>some ((r_6==r_8),0)
def lN (r_1:Rect):Option (Int) :=
  ((aQ r_1.X (-100000) 100000).bind λr_5=>bif r_5 then some true else (aQ r_1.Y (-100000) 100000).bind λr_8=>some r_8).bind λv_3=>bif v_3 then some 1 else ((aQ r_1.W 1 (w64 (100000-r_1.X))).bind λr_13=>bif r_13 then some true else (aQ r_1.H 1 (w64 (100000-r_1.Y))).bind λr_16=>some r_16).bind λv_11=>bif v_11 then some 1 else some 0
def ll (k_3:Nat) (x_5:Rect) (s_8:Unit):Option (Ctl (Unit) (Int)) :=
  (lN x_5).bind λr_14=>bif (r_14 != 0)then some (.ret r_14)else some (.go ())
def kS (l_1:(List Rect)):Option (Int) :=
  bif (decide ((l_1.length:Int)>2000))then some 2 else (forL l_1 () (λk x s=>ll k x s)).bind λo_11=>thenC o_11 (λs_8=>some 0) (λr=>some r)
def fQ (n_1:Int):Option Bool :=
  bif (decide (n_1<0))then none else bif (decide ((w64 (n_1-(w64 (0-0))))>0))then (zN (w64 (n_1-(w64 (0-0)))) 32).bind λ_=>some true else some false
def fB (k_2:Nat) (x_4:(List Rect)) (s_7:Int):Option (Ctl (Int) (Unit)) :=
  (bif (decide ((w64 (s_7+(x_4.length:Int)))<0))then none else some ()).bind λv_12=>some (.go (w64 (s_7+(x_4.length:Int))))
def fC (k_18:Nat) (x_20:(List Rect)) (s_23:(List Rect)):Option (Ctl ((List Rect)) (Unit)) :=
  (jZ s_23 x_20).bind λa_30=>some (.go a_30)
def dZ (slices_1:(List (List Rect))):Option ((List Rect)) :=
  (forL slices_1 0 (λk x s=>fB k x s)).bind λo_10=>thenC o_10 (λs_7=>(fQ s_7).bind λb_15=>(forL slices_1 ([]:List Rect) (λk x s=>fC k x s)).bind λo_28=>thenC o_28 (λs_23=>some s_23) (λ_=>none)) (λ_=>none)
def iw (x:(List Int)):Option ((List Int)) :=
  KR x
def fA (s_1:(List Int)) (s_8:Int) (s_28:(List Int)×Int×Int):Option (Ctl ((List Int)×Int×Int) (Unit)) :=
  bif (decide (s_28.2.2<(((((s_1.length:Int)).toNat-(s_8).toNat):Nat):Int)))then (inN s_28.2.2 (((s_1.length:Int)).toNat-(s_8).toNat)).bind λ_=>(s_28.1[(((s_8).toNat)+(s_28.2.2).toNat)]?).bind λe_35=>(inN (w64 (s_28.2.2-1)) (((s_1.length:Int)).toNat-(s_8).toNat)).bind λ_=>(s_28.1[(((s_8).toNat)+((w64 (s_28.2.2-1))).toNat)]?).bind λe_38=>(bif (e_35 != e_38)then (inN s_28.2.2 (((s_1.length:Int)).toNat-(s_8).toNat)).bind λ_=>(s_28.1[(((s_8).toNat)+(s_28.2.2).toNat)]?).bind λe_44=>(inR s_28.2.1 s_28.1).bind λ_=>(s_28.1[(0+(s_28.2.1).toNat)]?).bind λe_47=>some ((s_28.1.set (0+(s_28.2.1).toNat) e_44),(w64 (s_28.2.1+1)))else some (s_28.1,s_28.2.1)).bind λv_40=>some (.go (v_40.1,v_40.2,(w64 (s_28.2.2+1))))else some (.brk (s_28.1,s_28.2.1,s_28.2.2))
noncomputable def dM (s_1:(List Int)) (s_8:Int):Option (Ctl (Int) ((List Int))) :=
  bif (decide (s_8<(s_1.length:Int)))then (inR s_8 s_1).bind λ_=>(s_1[(0+(s_8).toNat)]?).bind λe_15=>(inR (w64 (s_8-1)) s_1).bind λ_=>(s_1[(0+((w64 (s_8-1))).toNat)]?).bind λe_18=>bif (e_15==e_18)then (neL s_1).bind λ_=>(Bu s_1 s_8 (s_1.length:Int)).bind λ_=>(jy (s_1,s_8,1) (λs=>fA s_1 s_8 s)).bind λo_31=>thenC o_31 (λs_28=>(Bu s_28.1 s_28.2.1 (s_28.1.length:Int)).bind λ_=>(Bu (s_28.1.take ((s_28.2.1).toNat)++List.replicate (((s_28.1.length:Int)).toNat-(s_28.2.1).toNat) 0++s_28.1.drop (((s_28.2.1).toNat)+(((s_28.1.length:Int)).toNat-(s_28.2.1).toNat))) 0 s_28.2.1).bind λ_=>some (.ret (cutL (s_28.1.take ((s_28.2.1).toNat)++List.replicate (((s_28.1.length:Int)).toNat-(s_28.2.1).toNat) 0++s_28.1.drop (((s_28.2.1).toNat)+(((s_28.1.length:Int)).toNat-(s_28.2.1).toNat))) 0 ((s_28.2.1).toNat)))) (λ_=>none)else some (.go (w64 (s_8+1)))else some (.brk s_8)
noncomputable def eH (s_1:(List Int)):Option ((List Int)) :=
  bif (decide ((s_1.length:Int)<2))then some s_1 else (jy 1 (λs=>dM s_1 s)).bind λo_11=>thenC o_11 (λs_8=>some s_1) (λr=>some r)
def sQ (a_1:Run) (b_2:Run):Option (Int) :=
  some (w64 (a_1.f_from-b_2.f_from))
def p9 (x_1:Int):Option (Int) :=
  (bif (decide (x_1>=4294967296))then (FN .u64 x_1 32).bind λq_5=>some (q_5,32)else some (x_1,0)).bind λv_2=>(bif (decide (v_2.1>=65536))then (FN .u64 v_2.1 16).bind λq_10=>some (q_10,(w64 (v_2.2+16)))else some (v_2.1,v_2.2)).bind λv_7=>(bif (decide (v_7.1>=256))then (FN .u64 v_7.1 8).bind λq_15=>some (q_15,(w64 (v_7.2+8)))else some (v_7.1,v_7.2)).bind λv_12=>(oo (⟨#[0,1,2,2,3,3,3,3,4,4,4,4,4,4,4,4,5,5,5,5,5,5,5,5,5,5,5,5,5,5,5,5,6,6,6,6,6,6,6,6,6,6,6,6,6,6,6,6,6,6,6,6,6,6,6,6,6,6,6,6,6,6,6,6,7,7,7,7,7,7,7,7,7,7,7,7,7,7,7,7,7,7,7,7,7,7,7,7,7,7,7,7,7,7,7,7,7,7,7,7,7,7,7,7,7,7,7,7,7,7,7,7,7,7,7,7,7,7,7,7,7,7,7,7,7,7,7,7,8,8,8,8,8,8,8,8,8,8,8,8,8,8,8,8,8,8,8,8,8,8,8,8,8,8,8,8,8,8,8,8,8,8,8,8,8,8,8,8,8,8,8,8,8,8,8,8,8,8,8,8,8,8,8,8,8,8,8,8,8,8,8,8,8,8,8,8,8,8,8,8,8,8,8,8,8,8,8,8,8,8,8,8,8,8,8,8,8,8,8,8,8,8,8,8,8,8,8,8,8,8,8,8,8,8,8,8,8,8,8,8,8,8,8,8,8,8,8,8,8,8,8,8,8,8,8,8]⟩:ByteArray) (IntKind.u8.wrap v_12.1)).bind λb_17=>some (w64 (v_12.2+(w64 (b_17.toNat:Int))))
def oW (x_1:Int):Option (Int) :=
  (p9 x_1).bind λr_2=>some r_2
def bZ (a_2:Int) (s_21:(List Run)×Int):Option (Ctl ((List Run)×Int) (Unit)) :=
  (bif (decide (s_21.2>a_2))then (inR s_21.2 s_21.1).bind λ_=>(s_21.1[(0+(s_21.2).toNat)]?).bind λe_30=>(inR (w64 (s_21.2-1)) s_21.1).bind λ_=>(s_21.1[(0+((w64 (s_21.2-1))).toNat)]?).bind λe_33=>(sQ e_30 e_33).bind λr_35=>some (decide (r_35<0))else some false).bind λv_26=>bif v_26 then (inR (w64 (s_21.2-1)) s_21.1).bind λ_=>(s_21.1[(0+((w64 (s_21.2-1))).toNat)]?).bind λe_39=>(inR s_21.2 s_21.1).bind λ_=>(s_21.1[(0+(s_21.2).toNat)]?).bind λe_42=>(inR s_21.2 s_21.1).bind λ_=>(s_21.1[(0+(s_21.2).toNat)]?).bind λe_45=>(inR (w64 (s_21.2-1)) (s_21.1.set (0+(s_21.2).toNat) e_39)).bind λ_=>((s_21.1.set (0+(s_21.2).toNat) e_39)[(0+((w64 (s_21.2-1))).toNat)]?).bind λe_48=>some (.go (((s_21.1.set (0+(s_21.2).toNat) e_39).set (0+((w64 (s_21.2-1))).toNat) e_42),(w64 (s_21.2-1))))else some (.brk (s_21.1,s_21.2))
noncomputable def bG (b_3:Int) (a_2:Int) (s_10:(List Run)×Int):Option (Ctl ((List Run)×Int) (Unit)) :=
  bif (decide (s_10.2<b_3))then (jy (s_10.1,s_10.2) (λs=>bZ a_2 s)).bind λo_24=>thenC o_24 (λs_21=>some (.go (s_21.1,(w64 (s_10.2+1))))) (λ_=>none)else some (.brk (s_10.1,s_10.2))
noncomputable def bO (data_1:(List Run)) (a_2:Int) (b_3:Int):Option ((List Run)) :=
  (jy (data_1,(w64 (a_2+1))) (λs=>bG b_3 a_2 s)).bind λo_13=>thenC o_13 (λs_10=>some s_10.1) (λ_=>none)
noncomputable def bX (b_3:Int) (a_2:Int) (data_1:(List Run)) (limit_4:Int) (s_11:Unit):Option (Ctl (Unit) ((List Run))) :=
  bif (decide ((w64 (b_3-a_2))<=12))then (bO data_1 a_2 b_3).bind λr_17=>(q8 r_17 data_1).bind λ_=>some (.ret r_17)else bif (limit_4==0)then none else none
noncomputable def dh (data_1:(List Run)) (a_2:Int) (b_3:Int) (limit_4:Int):Option ((List Run)) :=
  (jy () (λs=>bX b_3 a_2 data_1 limit_4 s)).bind λo_14=>thenC o_14 (λs_11=>some data_1) (λr=>some r)
noncomputable def bP (x_1:(List Run)):Option ((List Run)) :=
  (oW (IntKind.u64.wrap (x_1.length:Int))).bind λr_3=>(dh x_1 0 (x_1.length:Int) r_3).bind λr_5=>(q8 r_5 x_1).bind λ_=>some r_5
def nV (y_2:Int) (k_3:Nat) (x_5:Rect) (s_8:(List Run)):Option (Ctl ((List Run)) (Unit)) :=
  (bif (decide (x_5.Y<=y_2))then some (decide (y_2<(w64 (x_5.Y+x_5.H))))else some false).bind λv_17=>(bif v_17 then (jZ s_8 ([(⟨x_5.X,(w64 (x_5.X+x_5.W))⟩:Run)]:List Run)).bind λa_24=>some a_24 else some s_8).bind λv_20=>some (.go v_20)
def nG (k_30:Nat) (x_32:Run) (s_35:(List Run)):Option (Ctl ((List Run)) (Unit)) :=
  (bif (decide ((w64 ((s_35.length:Int)-1))>=0))then (inR (w64 ((s_35.length:Int)-1)) s_35).bind λ_=>(s_35[(0+((w64 ((s_35.length:Int)-1))).toNat)]?).bind λe_48=>some (decide (x_32.f_from<=e_48.f_to))else some false).bind λv_44=>(bif v_44 then (inR (w64 ((s_35.length:Int)-1)) s_35).bind λ_=>(s_35[(0+((w64 ((s_35.length:Int)-1))).toNat)]?).bind λe_55=>(inR (w64 ((s_35.length:Int)-1)) s_35).bind λ_=>(s_35[(0+((w64 ((s_35.length:Int)-1))).toNat)]?).bind λe_58=>some (s_35.set (0+((w64 ((s_35.length:Int)-1))).toNat) (⟨e_58.f_from,(uy e_55.f_to x_32.f_to)⟩:Run))else (jZ s_35 ([x_32]:List Run)).bind λa_60=>some a_60).bind λv_50=>some (.go v_50)
noncomputable def nA (l_1:(List Rect)) (y_2:Int):Option ((List Run)) :=
  (forL l_1 ([]:List Run) (λk x s=>nV y_2 k x s)).bind λo_14=>thenC o_14 (λs_8=>(bP s_8).bind λr_27=>(q8 r_27 s_8).bind λ_=>(forL r_27 ([]:List Run) (λk x s=>nG k x s)).bind λo_41=>thenC o_41 (λs_35=>some s_35) (λ_=>none)) (λ_=>none)
def nT (m_2:(List Run)) (x_5:Run) (s_22:Int):Option (Ctl (Int) (Unit)) :=
  (bif (decide (s_22<(m_2.length:Int)))then (idx m_2 s_22).bind λy_30=>some (decide (y_30.f_to<=x_5.f_from))else some false).bind λv_27=>bif v_27 then some (.go (w64 (s_22+1)))else some (.brk s_22)
def nX (m_2:(List Run)) (x_5:Run) (s_38:(List Run)×Int×Int):Option (Ctl ((List Run)×Int×Int) (Unit)) :=
  (bif (decide (s_38.2.1<(m_2.length:Int)))then (idx m_2 s_38.2.1).bind λy_48=>some (decide (y_48.f_from<x_5.f_to))else some false).bind λv_45=>bif v_45 then (idx m_2 s_38.2.1).bind λy_51=>(bif (decide (y_51.f_from>s_38.2.2))then (idx m_2 s_38.2.1).bind λy_57=>(jZ s_38.1 ([(⟨s_38.2.2,y_57.f_from⟩:Run)]:List Run)).bind λa_59=>some a_59 else some s_38.1).bind λv_53=>(idx m_2 s_38.2.1).bind λy_62=>some (.go (v_53,(w64 (s_38.2.1+1)),(uy s_38.2.2 y_62.f_to)))else some (.brk (s_38.1,s_38.2.1,s_38.2.2))
noncomputable def lc (m_2:(List Run)) (k_3:Nat) (x_5:Run) (s_8:(List Run)×Int):Option (Ctl ((List Run)×Int) (Unit)) :=
  (jy s_8.2 (λs=>nT m_2 x_5 s)).bind λo_25=>thenC o_25 (λs_22=>(jy (s_8.1,s_22,x_5.f_from) (λs=>nX m_2 x_5 s)).bind λo_43=>thenC o_43 (λs_38=>(bif (decide (s_38.2.2<x_5.f_to))then (jZ s_38.1 ([(⟨s_38.2.2,x_5.f_to⟩:Run)]:List Run)).bind λa_68=>some a_68 else some s_38.1).bind λv_64=>some (.go (v_64,s_22))) (λ_=>none)) (λ_=>none)
noncomputable def pJ (l_1:(List Run)) (m_2:(List Run)):Option ((List Run)) :=
  (forL l_1 (([]:List Run),0) (λk x s=>lc m_2 k x s)).bind λo_14=>thenC o_14 (λs_8=>some s_8.1) (λ_=>none)
def eG (s2_2:(List Run)) (k_4:Nat) (x_6:Run) (s_9:Unit):Option (Ctl (Unit) (Bool)) :=
  (idx s2_2 (k_4:Int)).bind λy_14=>bif (!((x_6.f_from==y_14.f_from)&&((x_6.f_to==y_14.f_to)&&true)))then some (.ret false)else some (.go ())
def dH (s1_1:(List Run)) (s2_2:(List Run)):Option (Bool) :=
  bif ((s1_1.length:Int) != (s2_2.length:Int))then some false else (forL s1_1 () (λk x s=>eG s2_2 k x s)).bind λo_12=>thenC o_12 (λs_9=>some true) (λr=>some r)
def lX (k_5:Nat) (x_7:Rect) (s_10:(List Int)):Option (Ctl ((List Int)) (Unit)) :=
  (jZ s_10 ([x_7.Y,(w64 (x_7.Y+x_7.H))]:List Int)).bind λa_19=>some (.go a_19)
def lW (s_32:(List Rect)×(List Run)×Int) (x_29:Int) (k_54:Nat) (x_56:Run) (s_59:(List Rect)):Option (Ctl ((List Rect)) (Unit)) :=
  (jZ s_59 ([(⟨x_56.f_from,s_32.2.2,(w64 (x_56.f_to-x_56.f_from)),(w64 (x_29-s_32.2.2))⟩:Rect)]:List Rect)).bind λa_67=>some (.go a_67)
noncomputable def jJ (r_25:(List Int)) (l_1:(List Rect)) (m_2:(List Rect)) (k_27:Nat) (x_29:Int) (s_32:(List Rect)×(List Run)×Int):Option (Ctl ((List Rect)×(List Run)×Int) (Unit)) :=
  (bif (decide ((w64 ((k_27:Int)+1))<(r_25.length:Int)))then (nA l_1 x_29).bind λr_45=>(nA m_2 x_29).bind λr_47=>(pJ r_45 r_47).bind λr_49=>some r_49 else some ([]:List Run)).bind λv_42=>(dH s_32.2.1 v_42).bind λr_51=>bif r_51 then some (.go (s_32.1,s_32.2.1,s_32.2.2))else (forL s_32.2.1 s_32.1 (λk x s=>lW s_32 x_29 k x s)).bind λo_64=>thenC o_64 (λs_59=>some (.go (s_59,v_42,x_29))) (λ_=>none)
noncomputable def mo (l_1:(List Rect)) (m_2:(List Rect)):Option ((List Rect)) :=
  (dZ ([l_1,m_2]:List (List Rect))).bind λr_3=>(forL r_3 ([]:List Int) (λk x s=>lX k x s)).bind λo_16=>thenC o_16 (λs_10=>(iw s_10).bind λr_22=>(q8 r_22 s_10).bind λ_=>(eH r_22).bind λr_25=>(forL r_25 (([]:List Rect),([]:List Run),0) (λk x s=>jJ r_25 l_1 m_2 k x s)).bind λo_38=>thenC o_38 (λs_32=>some s_32.1) (λ_=>none)) (λ_=>none)
def ry (k_2:Nat) (x_4:Rect) (s_7:Int):Option (Ctl (Int) (Unit)) :=
  some (.go (w64 (s_7+(w64 (x_4.W*x_4.H)))))
def sD (l_1:(List Rect)):Option (Int) :=
  (forL l_1 0 (λk x s=>ry k x s)).bind λo_10=>thenC o_10 (λs_7=>some s_7) (λ_=>none)
noncomputable def o6 (l_1:(List Rect)):Option (Int×Int) :=
  (kS l_1).bind λr_2=>bif (r_2 != 0)then some (0,r_2)else (mo l_1 ([]:List Rect)).bind λr_5=>(sD r_5).bind λr_7=>some (r_7,0)
def zV (n_1:Int):Option (Bool) :=
  (bif (decide (n_1>=0))then some (decide (n_1<=4000))else some false).bind λv_2=>some v_2
def jT (l_1:(List Int)) (k_3:Nat) (x_5:Int) (s_8:Unit):Option (Ctl (Unit) (Int)) :=
  (zV x_5).bind λr_13=>bif (!r_13)then some (.ret 1)else (bif (decide ((k_3:Int)>0))then (idx l_1 (w64 ((k_3:Int)-1))).bind λy_19=>some (decide (x_5<=y_19))else some false).bind λv_16=>bif v_16 then some (.ret 7)else some (.go ())
def jA (l_1:(List Int)):Option (Int) :=
  bif (decide ((l_1.length:Int)>100))then some 2 else (forL l_1 () (λk x s=>jT l_1 k x s)).bind λo_11=>thenC o_11 (λs_8=>some 0) (λr=>some r)
noncomputable def iV (l_1:(List ByteArray)):Option (Int) :=
  bif (decide ((l_1.length:Int)>20))then some 2 else (gU l_1).bind λr_3=>some r_3
noncomputable def ic (e_1:Entry):Option (Int) :=
  ((fe e_1.Key).bind λr_5=>bif (!r_5)then some true else (fe e_1.Item).bind λr_8=>some (!r_8)).bind λv_3=>bif v_3 then some 5 else ((aQ e_1.Version 0 1000000).bind λr_13=>bif r_13 then some true else (aQ e_1.First 0 e_1.Last).bind λr_16=>bif r_16 then some true else bif (decide (e_1.Last>4000))then some true else (aQ e_1.Every 1 400).bind λr_20=>bif r_20 then some true else (aQ e_1.Days 1 127).bind λr_23=>some r_23).bind λv_11=>bif v_11 then some 1 else (jA e_1.Except).bind λr_26=>bif (r_26 != 0)then some r_26 else ((aQ e_1.From 0 1439).bind λr_31=>bif r_31 then some true else (aQ e_1.To 0 1439).bind λr_34=>bif r_34 then some true else (aQ e_1.Prio 0 9).bind λr_37=>some r_37).bind λv_29=>bif v_29 then some 1 else (iV e_1.Tags).bind λr_40=>some r_40
noncomputable def fu (l_1:(List Entry)) (k_3:Nat) (x_5:Entry) (s_8:Unit):Option (Ctl (Unit) (Int)) :=
  (ic x_5).bind λr_14=>bif (r_14 != 0)then some (.ret r_14)else (bif (decide ((k_3:Int)>0))then (idx l_1 (w64 ((k_3:Int)-1))).bind λy_20=>some (sLe x_5.Key y_20.Key)else some false).bind λv_17=>bif v_17 then some (.ret 7)else some (.go ())
noncomputable def fV (l_1:(List Entry)):Option (Int) :=
  bif (decide ((l_1.length:Int)>200))then some 2 else (forL l_1 () (λk x s=>fu l_1 k x s)).bind λo_11=>thenC o_11 (λs_8=>some 0) (λr=>some r)
def jh (wv_1:Window):Option (Int) :=
  ((aQ wv_1.From 0 wv_1.To).bind λr_5=>bif r_5 then some true else some (decide (wv_1.To>345686400000))).bind λv_3=>bif v_3 then some 1 else bif (decide ((w64 (wv_1.To-wv_1.From))>34560000000))then some 2 else some 0
def cmp_isNaN_int (x_1:Int):Option (Bool) :=
  some (x_1 != x_1)
def cmp_Less_int (x_1:Int) (y_2:Int):Option (Bool) :=
  ((cmp_isNaN_int x_1).bind λr_5=>bif r_5 then (cmp_isNaN_int y_2).bind λr_8=>bif (!r_8)then some true else some (decide (x_1<y_2))else some (decide (x_1<y_2))).bind λv_3=>some v_3
def iG (x_1:Int):Option (Bool) :=
  some (x_1 != x_1)
def eD (x_1:(List Int)) (target_2:Int) (s_8:Int×Int):Option (Ctl (Int×Int) (Unit)) :=
  bif (decide (s_8.1<s_8.2))then (FN .u64 (IntKind.u64.wrap (w64 (s_8.1+s_8.2))) 1).bind λq_14=>(idx x_1 (w64 q_14)).bind λy_16=>(cmp_Less_int y_16 target_2).bind λr_18=>bif r_18 then some (.go ((w64 ((w64 q_14)+1)),s_8.2))else some (.go (s_8.1,(w64 q_14)))else some (.brk (s_8.1,s_8.2))
noncomputable def dU (x_1:(List Int)) (target_2:Int):Option (Int×Bool) :=
  (jy (0,(x_1.length:Int)) (λs=>eD x_1 target_2 s)).bind λo_11=>thenC o_11 (λs_8=>(bif (decide (s_8.1<(x_1.length:Int)))then (idx x_1 s_8.1).bind λy_24=>bif (y_24==target_2)then some true else (idx x_1 s_8.1).bind λy_27=>(iG y_27).bind λr_29=>bif r_29 then (iG target_2).bind λr_32=>some r_32 else some false else some false).bind λv_21=>some (s_8.1,v_21)) (λ_=>none)
noncomputable def lh (e_1:Entry) (d_2:Int):Option (Bool) :=
  ((aQ d_2 e_1.First e_1.Last).bind λr_6=>bif r_6 then some true else (IP .i64 (w64 (d_2-e_1.First)) e_1.Every).bind λq_9=>bif (q_9 != 0)then some true else (D7 .i64 1 (d_2.tmod 7)).bind λq_12=>some ((vv .i64 e_1.Days q_12)==0)).bind λv_4=>bif v_4 then some false else (dU e_1.Except d_2).bind λr_15=>some (!r_15.2)
def mI (e_1:Entry) (zone_2:Int) (d_3:Int):Option (Window) :=
  (bif (decide ((w64 (e_1.To-e_1.From))<=0))then some (w64 ((w64 (e_1.To-e_1.From))+1440))else some (w64 (e_1.To-e_1.From))).bind λv_6=>some (⟨(w64 ((w64 ((w64 ((w64 (d_3*1440))+e_1.From))-zone_2))*60000)),(w64 ((w64 ((w64 ((w64 ((w64 (d_3*1440))+e_1.From))-zone_2))*60000))+(w64 (v_6*60000))))⟩:Window)
noncomputable def jq (wv_3:Window) (zone_2:Int) (e_1:Entry) (s_15:(List Window)×Int):Option (Ctl ((List Window)×Int) (Unit)) :=
  bif (decide (s_15.2<=(sN (w64 ((w64 ((w64 (wv_3.To+(w64 (zone_2*60000)))).tdiv 86400000))+1)) e_1.Last)))then (lh e_1 s_15.2).bind λr_24=>bif (!r_24)then some (.go (s_15.1,(w64 (s_15.2+1))))else (mI e_1 zone_2 s_15.2).bind λr_27=>(bif (decide (r_27.From<wv_3.To))then some (decide (r_27.To>wv_3.From))else some false).bind λv_30=>(bif v_30 then (jZ s_15.1 ([r_27]:List Window)).bind λa_37=>some a_37 else some s_15.1).bind λv_33=>some (.go (v_33,(w64 (s_15.2+1))))else some (.brk (s_15.1,s_15.2))
noncomputable def lI (e_1:Entry) (zone_2:Int) (wv_3:Window):Option ((List Window)) :=
  (bif e_1.Gone then some true else some (decide (wv_3.From>=wv_3.To))).bind λv_6=>bif v_6 then some ([]:(List Window))else (jy (([]:List Window),(uy (w64 ((w64 ((w64 (wv_3.From+(w64 (zone_2*60000)))).tdiv 86400000))-2)) e_1.First)) (λs=>jq wv_3 zone_2 e_1 s)).bind λo_21=>thenC o_21 (λs_15=>some s_15.1) (λ_=>none)
def vg (t_1:Window) (wv_2:Window):Option (Window) :=
  some (⟨(uy t_1.From wv_2.From),(sN t_1.To wv_2.To)⟩:Window)
def kX (wv_3:Window) (k_19:Nat) (x_21:Nat) (s_24:(List Window)):Option (Ctl ((List Window)) (Unit)) :=
  (inR (k_19:Int) s_24).bind λ_=>(s_24[(0+((k_19:Int)).toNat)]?).bind λe_30=>(vg e_30 wv_3).bind λr_33=>(inR (k_19:Int) s_24).bind λ_=>(s_24[(0+((k_19:Int)).toNat)]?).bind λe_36=>some (.go (s_24.set (0+((k_19:Int)).toNat) r_33))
noncomputable def lK (e_1:Entry) (zone_2:Int) (wv_3:Window):Option ((List Window)×Int) :=
  (fV ([e_1]:List Entry)).bind λr_6=>bif (r_6 != 0)then some (([]:(List Window)),r_6)else (aQ zone_2 (-1440) 1440).bind λr_9=>bif r_9 then some (([]:(List Window)),1)else (jh wv_3).bind λr_12=>bif (r_12 != 0)then some (([]:(List Window)),r_12)else (lI e_1 zone_2 wv_3).bind λr_15=>(forL (List.range ((r_15.length:Int)).toNat) r_15 (λk x s=>kX wv_3 k x s)).bind λo_27=>thenC o_27 (λs_24=>some (s_24,0)) (λ_=>none)
def dC (n_1:Int):Option (Bool) :=
  (bif (decide (n_1>=0))then some (decide (n_1<345686400000))else some false).bind λv_2=>some v_2
def rX (c_1:Campaign) (atv_2:Int):Option (Int) :=
  bif (decide (atv_2<c_1.Time.From))then some 0 else bif (decide (atv_2>=c_1.Time.To))then some c_1.Goal else (J2 .i64 (w64 (c_1.Goal*(w64 (atv_2-c_1.Time.From)))) (w64 (c_1.Time.To-c_1.Time.From))).bind λq_6=>some q_6
noncomputable def oZ (c_1:Campaign) (atv_2:Int):Option (Int×Int) :=
  (bU ([c_1]:List Campaign)).bind λr_4=>bif (r_4 != 0)then some (0,r_4)else (dC atv_2).bind λr_7=>bif (!r_7)then some (0,1)else (rX c_1 atv_2).bind λr_10=>some (r_10,0)
def fZ (a_1:ByteArray) (b_2:ByteArray):Option (Int) :=
  some (NH a_1 b_2)
def strings_Compare (a_1:ByteArray) (b_2:ByteArray):Option (Int) :=
  (fZ a_1 b_2).bind λr_3=>some r_3
def cmp_Compare_int (x_1:Int) (y_2:Int):Option (Int) :=
  (cmp_isNaN_int x_1).bind λr_3=>(cmp_isNaN_int y_2).bind λr_5=>bif r_3 then bif r_5 then some 0 else some (-1)else bif r_5 then some 1 else bif (decide (x_1<y_2))then some (-1)else bif (decide (x_1>y_2))then some 1 else some 0
def tq (k_2:Nat) (x_4:Int) (s_7:Unit):Option (Ctl (Unit) (Int)) :=
  bif (x_4 != 0)then some (.ret x_4)else some (.go ())
def vk (vals_1:(List Int)):Option (Int) :=
  (forL vals_1 () (λk x s=>tq k x s)).bind λo_10=>thenC o_10 (λs_7=>some 0) (λr=>some r)
def ku (a_1:Beat) (b_2:Beat):Option (Int) :=
  (strings_Compare a_1.Player b_2.Player).bind λr_5=>(cmp_Compare_int a_1.At b_2.At).bind λr_7=>(vk ([r_5,r_7]:List Int)).bind λr_9=>some r_9
noncomputable def ig (l_1:(List Beat)) (k_3:Nat) (x_5:Beat) (s_8:Unit):Option (Ctl (Unit) (Int)) :=
  (fe x_5.Player).bind λr_14=>bif (!r_14)then some (.ret 5)else ((dC x_5.At).bind λr_19=>bif (!r_19)then some true else (aQ x_5.Clock 0 345686399999).bind λr_22=>some r_22).bind λv_17=>bif v_17 then some (.ret 1)else (bif (decide ((k_3:Int)>0))then (idx l_1 (w64 ((k_3:Int)-1))).bind λy_28=>(ku y_28 x_5).bind λr_30=>some (decide (r_30>=0))else some false).bind λv_25=>bif v_25 then some (.ret 7)else (bif (decide ((k_3:Int)>0))then (idx l_1 (w64 ((k_3:Int)-1))).bind λy_36=>bif (sEq x_5.Player y_36.Player)then (idx l_1 (w64 ((k_3:Int)-1))).bind λy_39=>some (decide (x_5.Clock<=y_39.Clock))else some false else some false).bind λv_33=>bif v_33 then some (.ret 16)else some (.go ())
noncomputable def jM (l_1:(List Beat)):Option (Int) :=
  bif (decide ((l_1.length:Int)>500))then some 2 else (forL l_1 () (λk x s=>ig l_1 k x s)).bind λo_11=>thenC o_11 (λs_8=>some 0) (λr=>some r)
def ol (player_2:ByteArray) (back_3:Bool) (k_4:Nat) (x_6:Beat) (s_9:(List Beat_)):Option (Ctl ((List Beat_)) (Unit)) :=
  (bif (sNe x_6.Player player_2)then some s_9 else bif back_3 then (jZ s_9 ([(⟨x_6.At,x_6.Clock⟩:Beat_)]:List Beat_)).bind λa_23=>some a_23 else (jZ s_9 ([(⟨x_6.Clock,x_6.At⟩:Beat_)]:List Beat_)).bind λa_26=>some a_26).bind λv_18=>some (.go v_18)
def oL (l_1:(List Beat)) (player_2:ByteArray) (back_3:Bool):Option ((List Beat_)) :=
  (forL l_1 ([]:List Beat_) (λk x s=>ol player_2 back_3 k x s)).bind λo_15=>thenC o_15 (λs_9=>some s_9) (λ_=>none)
def mG (l_1:(List Beat_)) (n_2:Int) (s_9:Int):Option (Ctl (Int) (Unit)) :=
  (bif (decide (s_9<(l_1.length:Int)))then (idx l_1 s_9).bind λy_17=>some (decide (y_17.f_from<=n_2))else some false).bind λv_14=>bif v_14 then some (.go (w64 (s_9+1)))else some (.brk s_9)
noncomputable def nP (l_1:(List Beat_)) (n_2:Int):Option (Int×Int) :=
  bif ((l_1.length:Int)==0)then some (0,8)else (jy 0 (λs=>mG l_1 n_2 s)).bind λo_12=>thenC o_12 (λs_9=>bif (s_9==0)then (idx l_1 0).bind λy_21=>(idx l_1 0).bind λy_23=>(dC (w64 (y_21.f_to-(w64 (y_23.f_from-n_2))))).bind λr_25=>bif (!r_25)then some (0,11)else some ((w64 (y_21.f_to-(w64 (y_23.f_from-n_2)))),0)else bif (s_9==(l_1.length:Int))then (idx l_1 (w64 (s_9-1))).bind λy_29=>(idx l_1 (w64 (s_9-1))).bind λy_31=>(dC (w64 ((w64 (y_29.f_to+n_2))-y_31.f_from))).bind λr_33=>bif (!r_33)then some (0,11)else some ((w64 ((w64 (y_29.f_to+n_2))-y_31.f_from)),0)else (idx l_1 (w64 (s_9-1))).bind λy_36=>(idx l_1 s_9).bind λy_38=>(bif (decide ((w64 (y_38.f_from-y_36.f_from))>2592000000))then some true else some (decide ((w64 (y_38.f_to-y_36.f_to))>2592000000))).bind λv_42=>bif v_42 then some (0,2)else (J2 .i64 (w64 ((w64 (n_2-y_36.f_from))*(w64 (y_38.f_to-y_36.f_to)))) (w64 (y_38.f_from-y_36.f_from))).bind λq_46=>(dC (w64 (y_36.f_to+q_46))).bind λr_48=>bif (!r_48)then some (0,11)else some ((w64 (y_36.f_to+q_46)),0)) (λ_=>none)
noncomputable def pz (l_1:(List Beat)) (player_2:ByteArray) (n_3:Int) (back_4:Bool):Option (Int×Int) :=
  (jM l_1).bind λr_5=>bif (r_5 != 0)then some (0,r_5)else (fe player_2).bind λr_8=>bif (!r_8)then some (0,5)else (dC n_3).bind λr_11=>bif (!r_11)then some (0,1)else (oL l_1 player_2 back_4).bind λr_14=>(nP r_14 n_3).bind λr_16=>some (r_16.1,r_16.2)
noncomputable def pu (l_1:(List Beat)) (player_2:ByteArray) (clock_3:Int):Option (Int×Int) :=
  (pz l_1 player_2 clock_3 false).bind λr_4=>some (r_4.1,r_4.2)
noncomputable def iR (a_1:Alert) (k_4:Nat) (x_6:ByteArray) (s_9:Unit):Option (Ctl (Unit) (Int)) :=
  (fe x_6).bind λr_14=>bif (!r_14)then some (.ret 5)else (bif (decide ((k_4:Int)>0))then (idx a_1.Refs (w64 ((k_4:Int)-1))).bind λy_20=>some (sLe x_6 y_20)else some false).bind λv_17=>bif v_17 then some (.ret 7)else bif (sEq x_6 a_1.Id)then some (.ret 14)else some (.go ())
noncomputable def kI (a_1:Alert):Option (Int) :=
  bif (decide ((a_1.Refs.length:Int)>20))then some 2 else (forL a_1.Refs () (λk x s=>iR a_1 k x s)).bind λo_12=>thenC o_12 (λs_9=>bif (!((a_1.Kind==1)==((a_1.Refs.length:Int)==0)))then some 3 else some 0) (λr=>some r)
def bB (s_1:ByteArray):Option (Int) :=
  (oo s_1 0).bind λb_2=>(oo s_1 1).bind λb_4=>(D7 .u64 (IntKind.u64.wrap (b_4.toNat:Int)) 8).bind λq_6=>(oo s_1 2).bind λb_8=>(D7 .u64 (IntKind.u64.wrap (b_8.toNat:Int)) 16).bind λq_10=>(oo s_1 3).bind λb_12=>(D7 .u64 (IntKind.u64.wrap (b_12.toNat:Int)) 24).bind λq_14=>(oo s_1 4).bind λb_16=>(D7 .u64 (IntKind.u64.wrap (b_16.toNat:Int)) 32).bind λq_18=>(oo s_1 5).bind λb_20=>(D7 .u64 (IntKind.u64.wrap (b_20.toNat:Int)) 40).bind λq_22=>(oo s_1 6).bind λb_24=>(D7 .u64 (IntKind.u64.wrap (b_24.toNat:Int)) 48).bind λq_26=>(oo s_1 7).bind λb_28=>(D7 .u64 (IntKind.u64.wrap (b_28.toNat:Int)) 56).bind λq_30=>some (orI .u64 (orI .u64 (orI .u64 (orI .u64 (orI .u64 (orI .u64 (orI .u64 (IntKind.u64.wrap (b_2.toNat:Int)) q_6) q_10) q_14) q_18) q_22) q_26) q_30)
def fJ (s_45:ByteArray):Option (Ctl (ByteArray) (Unit)) :=
  (bif (decide ((s_45.size:Int)>32))then (bB s_45).bind λr_53=>(uA s_45 8 s_45.size).bind λy_55=>(bB y_55).bind λr_57=>(uA s_45 16 s_45.size).bind λy_59=>(bB y_59).bind λr_61=>(uA s_45 24 s_45.size).bind λy_63=>(bB y_63).bind λr_65=>some ((vv .u64 (orI .u64 (orI .u64 r_53 r_57) (orI .u64 r_61 r_65)) 9259542123273814144)==0)else some false).bind λv_50=>bif v_50 then (uA s_45 32 s_45.size).bind λy_68=>some (.go y_68)else some (.brk s_45)
noncomputable def dW (s_7:ByteArray):Option (Ctl (ByteArray) (Unit)) :=
  bif (decide ((s_7.size:Int)>0))then (oo s_7 0).bind λb_13=>bif (decide ((b_13.toNat:Int)<128))then (uA s_7 1 s_7.size).bind λy_16=>(bif (decide ((y_16.size:Int)>8))then (bB y_16).bind λr_21=>some ((vv .u64 r_21 9259542123273814144)==0)else some false).bind λv_18=>(bif v_18 then (uA y_16 8 y_16.size).bind λy_26=>(bif (decide ((y_26.size:Int)>16))then (bB y_26).bind λr_31=>(uA y_26 8 y_26.size).bind λy_33=>(bB y_33).bind λr_35=>some ((vv .u64 (orI .u64 r_31 r_35) 9259542123273814144)==0)else some false).bind λv_28=>bif v_28 then (uA y_26 16 y_26.size).bind λy_38=>(jy y_38 (λs=>fJ s)).bind λo_48=>thenC o_48 (λs_45=>some s_45) (λ_=>none)else some y_26 else some y_16).bind λv_23=>some (.go v_23)else none else some (.brk s_7)
noncomputable def fq (s_1:ByteArray):Option (Bool) :=
  (jy s_1 (λs=>dW s)).bind λo_10=>thenC o_10 (λs_7=>some true) (λ_=>none)
def gy (c_2:Int) (s_8:ByteArray):Option (Ctl (ByteArray) (Unit)) :=
  (bif (decide ((s_8.size:Int)>0))then (oo s_8 (w64 ((s_8.size:Int)-1))).bind λb_16=>some ((b_16.toNat:Int)==c_2)else some false).bind λv_13=>bif v_13 then (uA s_8 0 (w64 ((s_8.size:Int)-1))).bind λy_19=>some (.go y_19)else some (.brk s_8)
noncomputable def strings_trimRightByte (s_1:ByteArray) (c_2:Int):Option (ByteArray) :=
  (jy s_1 (λs=>gy c_2 s)).bind λo_11=>thenC o_11 (λs_8=>some s_8) (λ_=>none)
def gN (c_2:Int) (s_8:ByteArray):Option (Ctl (ByteArray) (Unit)) :=
  (bif (decide ((s_8.size:Int)>0))then (oo s_8 0).bind λb_16=>some ((b_16.toNat:Int)==c_2)else some false).bind λv_13=>bif v_13 then (uA s_8 1 s_8.size).bind λy_19=>some (.go y_19)else some (.brk s_8)
noncomputable def strings_trimLeftByte (s_1:ByteArray) (c_2:Int):Option (ByteArray) :=
  (jy s_1 (λs=>gN c_2 s)).bind λo_11=>thenC o_11 (λs_8=>some s_8) (λ_=>none)
noncomputable def nH (s_1:ByteArray) (cutset_2:ByteArray):Option (ByteArray) :=
  (bif (sEq s_1 (⟨#[]⟩:ByteArray))then some true else some (sEq cutset_2 (⟨#[]⟩:ByteArray))).bind λv_3=>bif v_3 then some s_1 else (bif ((cutset_2.size:Int)==1)then (oo cutset_2 0).bind λb_10=>some (decide ((b_10.toNat:Int)<128))else some false).bind λv_7=>bif v_7 then (oo cutset_2 0).bind λb_13=>(strings_trimRightByte s_1 (b_13.toNat:Int)).bind λr_15=>(oo cutset_2 0).bind λb_17=>(strings_trimLeftByte r_15 (b_17.toNat:Int)).bind λr_19=>some r_19 else none
def gu (s_1:ByteArray) (c_2:Int):Option (Int) :=
  some (ixB s_1 c_2)
def iP (s_1:ByteArray) (substr_2:ByteArray):Option (Int) :=
  (bif ((substr_2.size:Int)==0)then some true else some (sEq substr_2 s_1)).bind λv_3=>bif v_3 then some 0 else bif ((substr_2.size:Int)==1)then (oo substr_2 0).bind λb_8=>(gu s_1 (b_8.toNat:Int)).bind λr_10=>some r_10 else bif (decide ((substr_2.size:Int)>=(s_1.size:Int)))then some (-1)else none
def strings_Index (s_1:ByteArray) (substr_2:ByteArray):Option (Int) :=
  (iP s_1 substr_2).bind λr_3=>some r_3
def strings_Contains (s_1:ByteArray) (substr_2:ByteArray):Option (Bool) :=
  (strings_Index s_1 substr_2).bind λr_3=>some (decide (r_3>=0))
def nK (s_1:ByteArray) (s_7:Int):Option (Ctl (Int) (Bool)) :=
  bif (decide (s_7<(s_1.size:Int)))then ((oo s_1 s_7).bind λb_15=>bif (decide ((b_15.toNat:Int)<32))then some true else (oo s_1 s_7).bind λb_18=>some ((b_18.toNat:Int)==127)).bind λv_13=>bif v_13 then some (.ret false)else some (.go (w64 (s_7+1)))else some (.brk s_7)
noncomputable def o9 (s_1:ByteArray):Option (Bool) :=
  (jy 0 (λs=>nK s_1 s)).bind λo_10=>thenC o_10 (λs_7=>((fq s_1).bind λr_23=>bif r_23 then (nH s_1 (⟨#[32]⟩:ByteArray)).bind λr_26=>bif (sEq r_26 s_1)then (strings_Contains s_1 (⟨#[32,32]⟩:ByteArray)).bind λr_29=>some (!r_29)else some false else some false).bind λv_21=>some v_21) (λr=>some r)
def jE (k_29:Nat) (x_31:Rect) (s_34:Unit):Option (Ctl (Unit) (Int)) :=
  (lN x_31).bind λr_40=>bif (r_40 != 0)then some (.ret r_40)else some (.go ())
noncomputable def jI (a_1:Alert):Option (Int) :=
  ((fe a_1.Id).bind λr_5=>bif (!r_5)then some true else (fe a_1.Sender).bind λr_8=>some (!r_8)).bind λv_3=>bif v_3 then some 5 else (aQ a_1.Kind 1 3).bind λr_11=>bif r_11 then some 4 else (kI a_1).bind λr_14=>bif (r_14 != 0)then some r_14 else ((dC a_1.At).bind λr_19=>bif (!r_19)then some true else (aQ a_1.Until (w64 (a_1.At+1)) (w64 (a_1.At+2592000000))).bind λr_22=>bif r_22 then some true else (aQ a_1.Weight 1 9).bind λr_25=>some r_25).bind λv_17=>bif v_17 then some 1 else bif (decide ((a_1.Areas.length:Int)>20))then some 2 else (forL a_1.Areas () (λk x s=>jE k x s)).bind λo_37=>thenC o_37 (λs_34=>bif (!((a_1.Kind==3)==((a_1.Areas.length:Int)==0)))then some 3 else bif (decide ((a_1.Text.size:Int)>500))then some 2 else ((o9 a_1.Text).bind λr_47=>bif (!r_47)then some true else bif (sEq a_1.Text (⟨#[]⟩:ByteArray))then some (!(a_1.Kind==3))else some false).bind λv_45=>bif v_45 then some 3 else some 0) (λr=>some r)
def oP (a_1:Alert) (b_2:Alert):Option (Int) :=
  (cmp_Compare_int a_1.At b_2.At).bind λr_5=>(strings_Compare a_1.Id b_2.Id).bind λr_7=>(vk ([r_5,r_7]:List Int)).bind λr_9=>some r_9
noncomputable def gD (l_1:(List Alert)) (k_3:Nat) (x_5:Alert) (s_8:Unit):Option (Ctl (Unit) (Int)) :=
  (jI x_5).bind λr_14=>bif (r_14 != 0)then some (.ret r_14)else (bif (decide ((k_3:Int)>0))then (idx l_1 (w64 ((k_3:Int)-1))).bind λy_20=>(oP y_20 x_5).bind λr_22=>some (decide (r_22>=0))else some false).bind λv_17=>bif v_17 then some (.ret 7)else some (.go ())
def jB (k_26:Nat) (x_28:Alert) (s_31:(List (ByteArray×Bool))):Option (Ctl ((List (ByteArray×Bool))) (Int)) :=
  bif ((JW eqS s_31 x_28.Id).getD false)then some (.ret 6)else some (.go (Ng eqS s_31 x_28.Id true))
noncomputable def ji (l_1:(List Alert)):Option (Int) :=
  bif (decide ((l_1.length:Int)>300))then some 2 else (forL l_1 () (λk x s=>gD l_1 k x s)).bind λo_11=>thenC o_11 (λs_8=>(forL l_1 ([]:List (ByteArray×Bool)) (λk x s=>jB k x s)).bind λo_34=>thenC o_34 (λs_31=>some 0) (λr=>some r)) (λr=>some r)
noncomputable def ib (l_1:(List Post)) (k_3:Nat) (x_5:Post) (s_8:Unit):Option (Ctl (Unit) (Int)) :=
  (fe x_5.Player).bind λr_14=>bif (!r_14)then some (.ret 5)else ((aQ x_5.X (-100000) 100000).bind λr_19=>bif r_19 then some true else (aQ x_5.Y (-100000) 100000).bind λr_22=>some r_22).bind λv_17=>bif v_17 then some (.ret 1)else (bif (decide ((k_3:Int)>0))then (idx l_1 (w64 ((k_3:Int)-1))).bind λy_28=>some (sLe x_5.Player y_28.Player)else some false).bind λv_25=>bif v_25 then some (.ret 7)else some (.go ())
noncomputable def jH (l_1:(List Post)):Option (Int) :=
  bif (decide ((l_1.length:Int)>500))then some 2 else (forL l_1 () (λk x s=>ib l_1 k x s)).bind λo_11=>thenC o_11 (λs_8=>some 0) (λr=>some r)
noncomputable def kG (l_1:(List Alert)) (posts_2:(List Post)):Option (Int) :=
  (ji l_1).bind λr_3=>bif (r_3 != 0)then some r_3 else (jH posts_2).bind λr_6=>some r_6
def pR (r_1:Rect) (p_2:Post):Option (Bool) :=
  (bif (decide (r_1.X<=p_2.X))then bif (decide (p_2.X<(w64 (r_1.X+r_1.W))))then bif (decide (r_1.Y<=p_2.Y))then some (decide (p_2.Y<(w64 (r_1.Y+r_1.H))))else some false else some false else some false).bind λv_4=>some v_4
def eF (f_2:Rect->Option Bool) (k_3:Nat) (x_5:Rect) (s_8:Unit):Option (Ctl (Unit) (Int)) :=
  (f_2 x_5).bind λr_13=>bif r_13 then some (.ret (k_3:Int))else some (.go ())
def fD (s_1:(List Rect)) (f_2:Rect->Option Bool):Option (Int) :=
  (forL s_1 () (λk x s=>eF f_2 k x s)).bind λo_11=>thenC o_11 (λs_8=>some (-1)) (λr=>some r)
def eB (s_1:(List Rect)) (f_2:Rect->Option Bool):Option (Bool) :=
  (fD s_1 f_2).bind λr_3=>some (decide (r_3>=0))
def oN (a_1:Alert) (p_2:Post):Option (Bool) :=
  (eB a_1.Areas (λx0=>pR x0 p_2)).bind λr_5=>some r_5
noncomputable def mq (a_1:Alert) (p_2:Post):Option (Bool×Int) :=
  (kG ([a_1]:List Alert) ([p_2]:List Post)).bind λr_5=>bif (r_5 != 0)then some (false,r_5)else (oN a_1 p_2).bind λr_8=>some (r_8,0)
def qI (k_2:Nat) (x_4:Int) (s_7:Unit):Option (Ctl (Unit) (Int)) :=
  bif (x_4 != 0)then some (.ret x_4)else some (.go ())
def oG (l_1:(List Int)):Option (Int) :=
  (forL l_1 () (λk x s=>qI k x s)).bind λo_10=>thenC o_10 (λs_7=>some 0) (λr=>some r)
noncomputable def mW  : Option (Bool) :=
  (o6 ([(⟨0,0,2,2⟩:Rect),(⟨1,1,2,2⟩:Rect)]:List Rect)).bind λr_1=>(lK (⟨(⟨#[97]⟩:ByteArray),(⟨#[98]⟩:ByteArray),0,0,0,1,127,([]:List Int),1,2,0,([]:List ByteArray),false⟩:Entry) 0 (⟨0,86400000⟩:Window)).bind λr_3=>(oZ (⟨(⟨#[97]⟩:ByteArray),(⟨#[]⟩:ByteArray),(⟨0,100⟩:Window),([]:List ByteArray),10,0,0⟩:Campaign) 50).bind λr_5=>(pu ([(⟨(⟨#[112]⟩:ByteArray),0,100⟩:Beat),(⟨(⟨#[112]⟩:ByteArray),1000,1300⟩:Beat)]:List Beat) (⟨#[112]⟩:ByteArray) 700).bind λr_7=>(mq (⟨(⟨#[97]⟩:ByteArray),(⟨#[115]⟩:ByteArray),1,([]:List ByteArray),0,5,1,([(⟨0,0,2,2⟩:Rect)]:List Rect),(⟨#[120]⟩:ByteArray)⟩:Alert) (⟨(⟨#[112]⟩:ByteArray),1,1⟩:Post)).bind λr_10=>((oG ([r_1.2,r_3.2,r_5.2,r_7.2,r_10.2]:List Int)).bind λr_14=>bif (r_14==0)then bif (r_1.1==7)then bif ((r_3.1.length:Int)==1)then bif (r_5.1==5)then bif (r_7.1==500)then some r_10.1 else some false else some false else some false else some false else some false).bind λv_12=>some v_12
noncomputable def jo (l_1:(List Int)):Option (Bool) :=
  (gH (⟨l_1,0⟩:Stream)).bind λr_3=>(dP r_3.2 3).bind λr_6=>(dN r_6.2 ([1,2,9]:List Int)).bind λr_9=>(kg r_3.1 r_6.1 (⟨(⟨#[122,122]⟩:ByteArray),(⟨#[]⟩:ByteArray),(⟨0,100⟩:Window),([]:List ByteArray),0,r_9.1,0⟩:Campaign)).bind λr_13=>(nN r_3.1 (⟨(⟨#[122,122]⟩:ByteArray),(⟨#[]⟩:ByteArray),(⟨0,100⟩:Window),([]:List ByteArray),0,r_9.1,0⟩:Campaign)).bind λr_15=>bif (r_13.2 != 0)then (jg r_3.1 r_6.1).bind λr_18=>(bif (r_13.2==12)then bif (r_18.2==0)then bif (!r_18.1)then (mW).bind λr_25=>some r_25 else some false else some false else some false).bind λv_20=>some v_20 else (bA r_6.1).bind λr_27=>(jZ r_27 ([(⟨(⟨#[122,122]⟩:ByteArray),(⟨#[]⟩:ByteArray),(⟨0,100⟩:Window),([]:List ByteArray),r_13.1,r_9.1,0⟩:Campaign)]:List Campaign)).bind λa_30=>(jg r_3.1 a_30).bind λr_33=>(bA r_6.1).bind λr_35=>(jZ r_35 ([(⟨(⟨#[122,122]⟩:ByteArray),(⟨#[]⟩:ByteArray),(⟨0,100⟩:Window),([]:List ByteArray),(w64 (r_13.1+1)),r_9.1,0⟩:Campaign)]:List Campaign)).bind λa_38=>(jg r_3.1 a_38).bind λr_41=>((oG ([r_15.2,r_33.2,r_41.2]:List Int)).bind λr_47=>bif (r_47==0)then bif (decide (r_13.1<=r_15.1))then bif r_33.1 then bif (!r_41.1)then (mW).bind λr_53=>some r_53 else some false else some false else some false else some false).bind λv_43=>some v_43
end Go.Proofs.YtekmkepojbhafabGreatDoor.Law

