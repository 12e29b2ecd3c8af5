/-
  The functions of the program, as plain functions over data (written by a program of ours).
-/
import Derived.Test.YtekmkepojbhafacGreatDoorEng5
open Go Go.Eng
namespace Go.Proofs.YtekmkepojbhafacGreatDoor.Law
set_option maxRecDepth 100000
set_option linter.unusedVariables false
set_option maxHeartbeats 1000000
structure Stream where
  L:(List Int)
  f_at:Int
def Stream.enc (s:Stream):List D:=[dl eI s.L,.int .i64 s.f_at]

structure Window where
  From:Int
  To:Int
def Window.enc (s:Window):List D:=[.int .i64 s.From,.int .i64 s.To]

structure Spot where
  Key:ByteArray
  Time:Window
  Room:Int
  Tags:(List ByteArray)
def Spot.enc (s:Spot):List D:=[.str s.Key,.int .i64 s.Time.From,.int .i64 s.Time.To,.int .i64 s.Room,dl eS s.Tags]
abbrev Spot.v (s:Spot):List V:=[(vS s.Key),(vI s.Time.From),(vI s.Time.To),(vI s.Room),(vL eS s.Tags)]

structure Campaign where
  Key:ByteArray
  Class:ByteArray
  Time:Window
  Tags:(List ByteArray)
  Goal:Int
  Most:Int
  Cents:Int
def Campaign.enc (s:Campaign):List D:=[.str s.Key,.str s.Class,.int .i64 s.Time.From,.int .i64 s.Time.To,dl eS s.Tags,.int .i64 s.Goal,.int .i64 s.Most,.int .i64 s.Cents]
abbrev Campaign.v (s:Campaign):List V:=[(vS s.Key),(vS s.Class),(vI s.Time.From),(vI s.Time.To),(vL eS s.Tags),(vI s.Goal),(vI s.Most),(vI s.Cents)]

structure Web where
  f_can:(List (List Int))
  f_camps:Int
def Web.enc (s:Web):List D:=[dl (eL eI) s.f_can,.int .i64 s.f_camps]

structure Share where
  Campaign:ByteArray
  Spot:ByteArray
  Many:Int
def Share.enc (s:Share):List D:=[.str s.Campaign,.str s.Spot,.int .i64 s.Many]
abbrev Share.v (s:Share):List V:=[(vS s.Campaign),(vS s.Spot),(vI s.Many)]

structure Rect where
  X:Int
  Y:Int
  W:Int
  H:Int
def Rect.enc (s:Rect):List D:=[.int .i64 s.X,.int .i64 s.Y,.int .i64 s.W,.int .i64 s.H]
abbrev Rect.v (s:Rect):List V:=[(vI s.X),(vI s.Y),(vI s.W),(vI s.H)]

structure Run where
  f_from:Int
  f_to:Int
def Run.enc (s:Run):List D:=[.int .i64 s.f_from,.int .i64 s.f_to]

structure Entry where
  Key:ByteArray
  Item:ByteArray
  Version:Int
  First:Int
  Last:Int
  Every:Int
  Days:Int
  Except:(List Int)
  From:Int
  To:Int
  Prio:Int
  Tags:(List ByteArray)
  Gone:Bool
def Entry.enc (s:Entry):List D:=[.str s.Key,.str s.Item,.int .i64 s.Version,.int .i64 s.First,.int .i64 s.Last,.int .i64 s.Every,.int .i64 s.Days,dl eI s.Except,.int .i64 s.From,.int .i64 s.To,.int .i64 s.Prio,dl eS s.Tags,.bool s.Gone]
abbrev Entry.v (s:Entry):List V:=[(vS s.Key),(vS s.Item),(vI s.Version),(vI s.First),(vI s.Last),(vI s.Every),(vI s.Days),(vL eI s.Except),(vI s.From),(vI s.To),(vI s.Prio),(vL eS s.Tags),(vB s.Gone)]

structure Beat where
  Player:ByteArray
  At:Int
  Clock:Int
def Beat.enc (s:Beat):List D:=[.str s.Player,.int .i64 s.At,.int .i64 s.Clock]
abbrev Beat.v (s:Beat):List V:=[(vS s.Player),(vI s.At),(vI s.Clock)]

structure Beat_ where
  f_from:Int
  f_to:Int
def Beat_.enc (s:Beat_):List D:=[.int .i64 s.f_from,.int .i64 s.f_to]

structure Alert where
  Id:ByteArray
  Sender:ByteArray
  Kind:Int
  Refs:(List ByteArray)
  At:Int
  Until:Int
  Weight:Int
  Areas:(List Rect)
  Text:ByteArray
def Alert.enc (s:Alert):List D:=[.str s.Id,.str s.Sender,.int .i64 s.Kind,dl eS s.Refs,.int .i64 s.At,.int .i64 s.Until,.int .i64 s.Weight,dl Rect.enc s.Areas,.str s.Text]
abbrev Alert.v (s:Alert):List V:=[(vS s.Id),(vS s.Sender),(vI s.Kind),(vL eS s.Refs),(vI s.At),(vI s.Until),(vI s.Weight),(vL Rect.enc s.Areas),(vS s.Text)]

structure Post where
  Player:ByteArray
  X:Int
  Y:Int
def Post.enc (s:Post):List D:=[.str s.Player,.int .i64 s.X,.int .i64 s.Y]
abbrev Post.v (s:Post):List V:=[(vS s.Player),(vI s.X),(vI s.Y)]

def r9 (x_1:Int) (n_2:Int):Option (Int) :=
  bif (decide (n_2<1))then some 0 else (JF .i64 x_1 n_2).bind λq_4=>(bif (decide (q_4<0))then some (w64 (q_4+n_2))else some q_4).bind λv_6=>some v_6
def jg (s_1:Stream) (n_2:Int):Option (Int×Stream) :=
  bif ((s_1.L.length:Int)==0)then (r9 (w64 ((w64 (s_1.f_at+1))*7919)) n_2).bind λr_4=>some (r_4,(⟨s_1.L,(w64 (s_1.f_at+1))⟩:Stream))else (JF .i64 (w64 ((w64 (s_1.f_at+1))-1)) (s_1.L.length:Int)).bind λq_6=>(Ld .i64 (w64 ((w64 (s_1.f_at+1))-1)) (s_1.L.length:Int)).bind λq_8=>(idx s_1.L q_6).bind λy_10=>(r9 y_10 1073741824).bind λr_12=>(r9 (w64 (r_12+(w64 (q_8*(w64 (7919+q_6)))))) n_2).bind λr_14=>some (r_14,(⟨s_1.L,(w64 (s_1.f_at+1))⟩:Stream))
def fV (s_1:Stream) (n_2:Int):Option (Bool×Stream) :=
  (jg s_1 n_2).bind λr_3=>some ((r_3.1==0),r_3.2)
def eD (s_1:Stream) (l_2:(List Int)):Option (Int×Stream) :=
  (jg s_1 (l_2.length:Int)).bind λr_3=>(idx l_2 r_3.1).bind λy_6=>some (y_6,r_3.2)
def iC (k_26:Nat) (x_28:ByteArray) (s_31:(List ByteArray)×(List Int)×Int):Option (Ctl ((List ByteArray)×(List Int)×Int) (Unit)) :=
  (fV (⟨s_31.2.1,s_31.2.2⟩:Stream) 2).bind λr_39=>(bif r_39.1 then (nk s_31.1 ([x_28]:List ByteArray)).bind λa_46=>some a_46 else some s_31.1).bind λv_42=>some (.go (v_42,r_39.2.L,r_39.2.f_at))
def fK (k_2:Nat) (x_4:ByteArray) (s_7:(List Spot)×(List Int)×Int):Option (Ctl ((List Spot)×(List Int)×Int) (Unit)) :=
  (fV (⟨s_7.2.1,s_7.2.2⟩:Stream) 4).bind λr_15=>bif r_15.1 then some (.go (s_7.1,r_15.2.L,r_15.2.f_at))else (eD r_15.2 ([5,10,10]:List Int)).bind λr_19=>(eD r_19.2 ([0,1,2,3,5]:List Int)).bind λr_22=>(forL ([(⟨#[99,105,116,121]⟩:ByteArray),(⟨#[109,97,108,108]⟩:ByteArray)]:List ByteArray) (([]:List ByteArray),r_22.2.L,r_22.2.f_at) (λk x s=>iC k x s)).bind λo_37=>thenC o_37 (λs_31=>(nk s_7.1 ([(⟨x_4,(⟨(w64 (10*(k_2:Int))),(w64 ((w64 (10*(k_2:Int)))+r_19.1))⟩:Window),r_22.1,s_31.1⟩:Spot)]:List Spot)).bind λa_49=>some (.go (a_49,s_31.2.1,s_31.2.2))) (λ_=>none)
def ib (s_1:Stream):Option ((List Spot)×Stream) :=
  (forL ([(⟨#[115,97]⟩:ByteArray),(⟨#[115,98]⟩:ByteArray),(⟨#[115,99]⟩:ByteArray),(⟨#[115,100]⟩:ByteArray),(⟨#[115,101]⟩:ByteArray)]:List ByteArray) (([]:List Spot),s_1.L,s_1.f_at) (λk x s=>fK k x s)).bind λo_13=>thenC o_13 (λs_7=>some (s_7.1,(⟨s_7.2.1,s_7.2.2⟩:Stream))) (λ_=>none)
def lW (s_1:Stream) (l_2:(List ByteArray)):Option (ByteArray×Stream) :=
  (jg s_1 (l_2.length:Int)).bind λr_3=>(idx l_2 r_3.1).bind λy_6=>some (y_6,r_3.2)
def fO (k_41:Nat) (x_43:ByteArray) (s_46:(List ByteArray)×(List Int)×Int):Option (Ctl ((List ByteArray)×(List Int)×Int) (Unit)) :=
  (fV (⟨s_46.2.1,s_46.2.2⟩:Stream) 4).bind λr_54=>(bif r_54.1 then (nk s_46.1 ([x_43]:List ByteArray)).bind λa_61=>some a_61 else some s_46.1).bind λv_57=>some (.go (v_57,r_54.2.L,r_54.2.f_at))
def dX (k_5:Nat) (x_7:ByteArray) (s_10:(List Campaign)×(List Int)×Int):Option (Ctl ((List Campaign)×(List Int)×Int) (Unit)) :=
  (fV (⟨s_10.2.1,s_10.2.2⟩:Stream) 5).bind λr_18=>bif r_18.1 then some (.go (s_10.1,r_18.2.L,r_18.2.f_at))else (lW r_18.2 ([(⟨#[]⟩:ByteArray),(⟨#[]⟩:ByteArray),(⟨#[99,97,114,115]⟩:ByteArray),(⟨#[102,111,111,100]⟩:ByteArray)]:List ByteArray)).bind λr_22=>(eD r_22.2 ([0,0,10,20]:List Int)).bind λr_25=>(eD r_25.2 ([30,50,60,100]:List Int)).bind λr_28=>(eD r_28.2 ([0,1,2,3,4,6]:List Int)).bind λr_31=>(eD r_31.2 ([0,1,2,3,9]:List Int)).bind λr_34=>(eD r_34.2 ([0,500,1000,1500]:List Int)).bind λr_37=>(forL ([(⟨#[99,105,116,121]⟩:ByteArray),(⟨#[109,97,108,108]⟩:ByteArray)]:List ByteArray) (([]:List ByteArray),r_37.2.L,r_37.2.f_at) (λk x s=>fO k x s)).bind λo_52=>thenC o_52 (λs_46=>(nk s_10.1 ([(⟨x_7,r_22.1,(⟨r_25.1,r_28.1⟩:Window),s_46.1,r_31.1,r_34.1,r_37.1⟩:Campaign)]:List Campaign)).bind λa_64=>some (.go (a_64,s_46.2.1,s_46.2.2))) (λ_=>none)
def dQ (s_1:Stream) (most_2:Int):Option ((List Campaign)×Stream) :=
  (La ([(⟨#[99,97]⟩:ByteArray),(⟨#[99,98]⟩:ByteArray),(⟨#[99,99]⟩:ByteArray),(⟨#[99,100]⟩:ByteArray)]:List ByteArray) 0 most_2).bind λy_3=>(forL y_3 (([]:List Campaign),s_1.L,s_1.f_at) (λk x s=>dX k x s)).bind λo_16=>thenC o_16 (λs_10=>some (s_10.1,(⟨s_10.2.1,s_10.2.2⟩:Stream))) (λ_=>none)
def jO (s_1:ByteArray) (s_7:Int):Option (Ctl (Int) (Bool)) :=
  bif (decide (s_7<(s_1.size:Int)))then (pM s_1 s_7).bind λb_13=>(bif (decide ((b_13.toNat:Int)>=97))then bif (decide ((b_13.toNat:Int)<=122))then some false else bif (decide (s_7>0))then bif (decide ((b_13.toNat:Int)>=48))then bif (decide ((b_13.toNat:Int)<=57))then some false else bif ((b_13.toNat:Int)==45)then some false else some (!((b_13.toNat:Int)==95))else bif ((b_13.toNat:Int)==45)then some false else some (!((b_13.toNat:Int)==95))else some true else bif (decide (s_7>0))then bif (decide ((b_13.toNat:Int)>=48))then bif (decide ((b_13.toNat:Int)<=57))then some false else bif ((b_13.toNat:Int)==45)then some false else some (!((b_13.toNat:Int)==95))else bif ((b_13.toNat:Int)==45)then some false else some (!((b_13.toNat:Int)==95))else some true).bind λv_15=>bif v_15 then some (.ret false)else some (.go (w64 (s_7+1)))else some (.brk s_7)
noncomputable def fu (s_1:ByteArray):Option (Bool) :=
  (iJ 0 (λs=>jO s_1 s)).bind λo_10=>thenC o_10 (λs_7=>(bif (sNe s_1 (⟨#[]⟩:ByteArray))then some (decide ((s_1.size:Int)<=40))else some false).bind λv_30=>some v_30) (λr=>some r)
def jb (wv_1:Window):Option (Bool) :=
  (bif (decide (wv_1.From>=0))then bif (decide (wv_1.From<wv_1.To))then some (decide (wv_1.To<=345686400000))else some false else some false).bind λv_3=>some v_3
def aR (n_1:Int) (low_2:Int) (high_3:Int):Option (Bool) :=
  (bif (decide (n_1<low_2))then some true else some (decide (n_1>high_3))).bind λv_4=>some v_4
noncomputable def gP (l_1:(List ByteArray)) (k_2:Nat) (x_4:ByteArray) (s_7:Unit):Option (Ctl (Unit) (Int)) :=
  (fu x_4).bind λr_12=>bif (!r_12)then some (.ret 5)else (bif (decide ((k_2:Int)>0))then (idx l_1 (w64 ((k_2:Int)-1))).bind λy_18=>some (sLe x_4 y_18)else some false).bind λv_15=>bif v_15 then some (.ret 7)else some (.go ())
noncomputable def iG (l_1:(List ByteArray)):Option (Int) :=
  (forL l_1 () (λk x s=>gP l_1 k x s)).bind λo_10=>thenC o_10 (λs_7=>some 0) (λr=>some r)
noncomputable def fq (l_1:(List ByteArray)):Option (Int) :=
  bif (decide ((l_1.length:Int)>20))then some 2 else (iG l_1).bind λr_3=>some r_3
noncomputable def jo (l_1:(List Spot)) (k_3:Nat) (x_5:Spot) (s_8:Unit):Option (Ctl (Unit) (Int)) :=
  (fu x_5.Key).bind λr_14=>bif (!r_14)then some (.ret 5)else (bif (decide ((k_3:Int)>0))then (idx l_1 (w64 ((k_3:Int)-1))).bind λy_20=>some (sLe x_5.Key y_20.Key)else some false).bind λv_17=>bif v_17 then some (.ret 7)else ((jb x_5.Time).bind λr_25=>bif (!r_25)then some true else (aR x_5.Room 0 1000000).bind λr_28=>some r_28).bind λv_23=>bif v_23 then some (.ret 1)else (fq x_5.Tags).bind λr_31=>bif (r_31 != 0)then some (.ret r_31)else some (.go ())
noncomputable def jd (l_1:(List Spot)):Option (Int) :=
  bif (decide ((l_1.length:Int)>60))then some 2 else (forL l_1 () (λk x s=>jo l_1 k x s)).bind λo_11=>thenC o_11 (λs_8=>some 0) (λr=>some r)
noncomputable def dJ (l_1:(List Campaign)) (k_3:Nat) (x_5:Campaign) (s_8:Unit):Option (Ctl (Unit) (Int)) :=
  ((fu x_5.Key).bind λr_16=>bif (!r_16)then some true else bif (sNe x_5.Class (⟨#[]⟩:ByteArray))then (fu x_5.Class).bind λr_20=>some (!r_20)else some false).bind λv_14=>bif v_14 then some (.ret 5)else (bif (decide ((k_3:Int)>0))then (idx l_1 (w64 ((k_3:Int)-1))).bind λy_26=>some (sLe x_5.Key y_26.Key)else some false).bind λv_23=>bif v_23 then some (.ret 7)else ((jb x_5.Time).bind λr_31=>bif (!r_31)then some true else (aR x_5.Goal 0 1000000).bind λr_34=>bif r_34 then some true else (aR x_5.Most 0 1000000).bind λr_37=>bif r_37 then some true else (aR x_5.Cents 0 1000000000).bind λr_40=>some r_40).bind λv_29=>bif v_29 then some (.ret 1)else (fq x_5.Tags).bind λr_43=>bif (r_43 != 0)then some (.ret r_43)else some (.go ())
noncomputable def dE (l_1:(List Campaign)):Option (Int) :=
  bif (decide ((l_1.length:Int)>30))then some 2 else (forL l_1 () (λk x s=>dJ l_1 k x s)).bind λo_11=>thenC o_11 (λs_8=>some 0) (λr=>some r)
noncomputable def dz (spots_1:(List Spot)) (l_2:(List Campaign)):Option (Int) :=
  (jd spots_1).bind λr_3=>bif (r_3 != 0)then some r_3 else (dE l_2).bind λr_6=>some r_6
def gM (wv_1:Web) (i_2:Int):Option (Int) :=
  some (w64 (2+i_2))
def cmp_isNaN_string (x_1:ByteArray):Option (Bool) :=
  some (sNe x_1 x_1)
def cmp_Less_string (x_1:ByteArray) (y_2:ByteArray):Option (Bool) :=
  ((cmp_isNaN_string x_1).bind λr_5=>bif r_5 then (cmp_isNaN_string y_2).bind λr_8=>bif (!r_8)then some true else some (sLt x_1 y_2)else some (sLt x_1 y_2)).bind λv_3=>some v_3
def slices_isNaN_string (x_1:ByteArray):Option (Bool) :=
  some (sNe x_1 x_1)
def aZ (x_1:(List ByteArray)) (target_2:ByteArray) (s_8:Int×Int):Option (Ctl (Int×Int) (Unit)) :=
  bif (decide (s_8.1<s_8.2))then (CL .u64 (IntKind.u64.wrap (w64 (s_8.1+s_8.2))) 1).bind λq_14=>(idx x_1 (w64 q_14)).bind λy_16=>(cmp_Less_string y_16 target_2).bind λr_18=>bif r_18 then some (.go ((w64 ((w64 q_14)+1)),s_8.2))else some (.go (s_8.1,(w64 q_14)))else some (.brk (s_8.1,s_8.2))
noncomputable def dC (x_1:(List ByteArray)) (target_2:ByteArray):Option (Int×Bool) :=
  (iJ (0,(x_1.length:Int)) (λs=>aZ x_1 target_2 s)).bind λo_11=>thenC o_11 (λs_8=>(bif (decide (s_8.1<(x_1.length:Int)))then (idx x_1 s_8.1).bind λy_24=>bif (sEq y_24 target_2)then some true else (idx x_1 s_8.1).bind λy_27=>(slices_isNaN_string y_27).bind λr_29=>bif r_29 then (slices_isNaN_string target_2).bind λr_32=>some r_32 else some false else some false).bind λv_21=>some (s_8.1,v_21)) (λ_=>none)
noncomputable def iU (s_2:Spot) (k_9:Nat) (x_11:ByteArray) (s_14:Unit):Option (Ctl (Unit) (Bool)) :=
  (dC s_2.Tags x_11).bind λr_19=>bif (!r_19.2)then some (.ret false)else some (.go ())
noncomputable def jS (c_1:Campaign) (s_2:Spot):Option (Bool) :=
  (bif (decide (s_2.Time.From<c_1.Time.From))then some true else some (decide (s_2.Time.To>c_1.Time.To))).bind λv_5=>bif v_5 then some false else (forL c_1.Tags () (λk x s=>iU s_2 k x s)).bind λo_17=>thenC o_17 (λs_14=>some true) (λr=>some r)
def gG (wv_1:Web) (k_2:Int):Option (Int) :=
  some (w64 ((w64 (2+wv_1.f_camps))+k_2))
def jF (spots_1:(List Spot)) (l_2:(List Campaign)) (m_3:Nat) (k_9:Nat) (x_11:Nat) (s_14:(List (List Int))):Option (Ctl ((List (List Int))) (Unit)) :=
  (mkN (w64 ((w64 (2+(spots_1.length:Int)))+(l_2.length:Int))) 8).bind λm_21=>(inN (k_9:Int) m_3).bind λ_=>(neL (List.replicate m_21 (0:Int))).bind λ_=>(s_14[(0+((k_9:Int)).toNat)]?).bind λr_26=>some (.go (s_14.set (0+((k_9:Int)).toNat) (List.replicate m_21 (0:Int))))
noncomputable def iA (x_30:Campaign) (m_3:Nat) (l_2:(List Campaign)) (k_28:Nat) (k_51:Nat) (x_53:Spot) (s_56:(List (List Int))):Option (Ctl ((List (List Int))) (Unit)) :=
  (jS x_30 x_53).bind λr_62=>(bif r_62 then (neR s_56).bind λ_=>(zL s_56 m_3).bind λ_=>(gM (⟨s_56,(l_2.length:Int)⟩:Web) (k_28:Int)).bind λr_67=>(inN r_67 m_3).bind λ_=>(s_56[(0+(r_67).toNat)]?).bind λr_72=>(neR s_56).bind λ_=>(zL s_56 m_3).bind λ_=>(gG (⟨s_56,(l_2.length:Int)⟩:Web) (k_51:Int)).bind λr_74=>(inR r_74 r_72).bind λ_=>(s_56[(0+(r_67).toNat)]?).bind λr_79=>(r_79[(0+(r_74).toNat)]?).bind λe_81=>some (s_56.set (0+(r_67).toNat) (r_79.set (0+(r_74).toNat) x_30.Most))else some s_56).bind λv_64=>some (.go v_64)
noncomputable def iB (m_3:Nat) (l_2:(List Campaign)) (spots_1:(List Spot)) (k_28:Nat) (x_30:Campaign) (s_33:(List (List Int))):Option (Ctl ((List (List Int))) (Unit)) :=
  (inN 0 m_3).bind λ_=>(s_33[(0+(0:Int).toNat)]?).bind λr_40=>(neR s_33).bind λ_=>(zL s_33 m_3).bind λ_=>(gM (⟨s_33,(l_2.length:Int)⟩:Web) (k_28:Int)).bind λr_42=>(inR r_42 r_40).bind λ_=>(s_33[(0+(0:Int).toNat)]?).bind λr_47=>(r_47[(0+(r_42).toNat)]?).bind λe_49=>(forL spots_1 (s_33.set (0+(0:Int).toNat) (r_47.set (0+(r_42).toNat) x_30.Goal)) (λk x s=>iA x_30 m_3 l_2 k_28 k x s)).bind λo_59=>thenC o_59 (λs_56=>some (.go s_56)) (λ_=>none)
def jG (m_3:Nat) (l_2:(List Campaign)) (k_83:Nat) (x_85:Spot) (s_88:(List (List Int))):Option (Ctl ((List (List Int))) (Unit)) :=
  (neR s_88).bind λ_=>(zL s_88 m_3).bind λ_=>(gG (⟨s_88,(l_2.length:Int)⟩:Web) (k_83:Int)).bind λr_94=>(inN r_94 m_3).bind λ_=>(s_88[(0+(r_94).toNat)]?).bind λr_99=>(inR 1 r_99).bind λ_=>(s_88[(0+(r_94).toNat)]?).bind λr_102=>(r_102[(0+(1:Int).toNat)]?).bind λe_104=>some (.go (s_88.set (0+(r_94).toNat) (r_102.set (0+(1:Int).toNat) x_85.Room)))
noncomputable def jc (spots_1:(List Spot)) (l_2:(List Campaign)):Option (Web) :=
  (mkN (w64 ((w64 (2+(spots_1.length:Int)))+(l_2.length:Int))) 24).bind λm_3=>(nzI (w64 ((w64 (2+(spots_1.length:Int)))+(l_2.length:Int)))).bind λ_=>(forL (List.range (((m_3:Nat):Int)).toNat) (List.replicate m_3 ([]:List Int)) (λk x s=>jF spots_1 l_2 m_3 k x s)).bind λo_19=>thenC o_19 (λs_14=>(forL l_2 s_14 (λk x s=>iB m_3 l_2 spots_1 k x s)).bind λo_36=>thenC o_36 (λs_33=>(forL spots_1 s_33 (λk x s=>jG m_3 l_2 k x s)).bind λo_91=>thenC o_91 (λs_88=>(zL s_88 m_3).bind λ_=>some (⟨s_88,(l_2.length:Int)⟩:Web)) (λ_=>none)) (λ_=>none)) (λ_=>none)
def jl (k_7:Nat) (x_9:Nat) (s_12:(List Int)):Option (Ctl ((List Int)) (Unit)) :=
  (inR (k_7:Int) s_12).bind λ_=>(s_12[(0+((k_7:Int)).toNat)]?).bind λe_18=>some (.go (s_12.set (0+((k_7:Int)).toNat) (-1)))
def gH (r_47:(List Int)) (wv_1:Web) (e_44:Int) (k_49:Nat) (x_51:Nat) (s_54:(List Int)×(List Int)×Nat):Option (Ctl ((List Int)×(List Int)×Nat) (Unit)) :=
  (inR (k_49:Int) r_47).bind λ_=>(wv_1.f_can[(0+(e_44).toNat)]?).bind λr_62=>(r_62[(0+((k_49:Int)).toNat)]?).bind λe_64=>(bif (decide (e_64>0))then (inR (k_49:Int) s_54.1).bind λ_=>(s_54.1[(0+((k_49:Int)).toNat)]?).bind λe_70=>some (decide (e_70<0))else some false).bind λv_66=>(bif v_66 then (inN 0 (s_54.2.1.length-s_54.2.2)).bind λ_=>(s_54.2.1[(s_54.2.2+(0:Int).toNat)]?).bind λe_77=>(inR (k_49:Int) s_54.1).bind λ_=>(s_54.1[(0+((k_49:Int)).toNat)]?).bind λe_80=>(leN s_54.2.2 s_54.2.1.length).bind λ_=>(nk (s_54.2.1.drop s_54.2.2) ([(k_49:Int)]:List Int)).bind λa_82=>some ((s_54.1.set (0+((k_49:Int)).toNat) e_77),a_82,0)else some (s_54.1,s_54.2.1,s_54.2.2)).bind λv_72=>some (.go (v_72.1,v_72.2.1,v_72.2.2))
def fF (tov_3:Int) (wv_1:Web) (s_29:(List Int)×(List Int)×Nat):Option (Ctl ((List Int)×(List Int)×Nat) (Unit)) :=
  (bif (decide ((((s_29.2.1.length-s_29.2.2):Nat):Int)>0))then (inR tov_3 s_29.1).bind λ_=>(s_29.1[(0+(tov_3).toNat)]?).bind λe_40=>some (decide (e_40<0))else some false).bind λv_36=>bif v_36 then (inN 0 (s_29.2.1.length-s_29.2.2)).bind λ_=>(s_29.2.1[(s_29.2.2+(0:Int).toNat)]?).bind λe_44=>(inN e_44 wv_1.f_can.length).bind λ_=>(wv_1.f_can[(0+(e_44).toNat)]?).bind λr_47=>(forL (List.range ((r_47.length:Int)).toNat) (s_29.1,s_29.2.1,s_29.2.2) (λk x s=>gH r_47 wv_1 e_44 k x s)).bind λo_59=>thenC o_59 (λs_54=>(ltN s_54.2.2 s_54.2.1.length).bind λ_=>some (.go (s_54.1,s_54.2.1,(s_54.2.2+1)))) (λ_=>none)else some (.brk (s_29.1,s_29.2.1,s_29.2.2))
noncomputable def lm (wv_1:Web) (fromv_2:Int) (tov_3:Int):Option ((List Int)×Bool) :=
  (mkN ((wv_1.f_can.length:Nat):Int) 8).bind λm_4=>(forL (List.range (((List.replicate m_4 (0:Int)).length:Int)).toNat) (List.replicate m_4 (0:Int)) (λk x s=>jl k x s)).bind λo_15=>thenC o_15 (λs_12=>(inR fromv_2 s_12).bind λ_=>(s_12[(0+(fromv_2).toNat)]?).bind λe_21=>(iJ ((s_12.set (0+(fromv_2).toNat) fromv_2),([fromv_2]:List Int),0) (λs=>fF tov_3 wv_1 s)).bind λo_34=>thenC o_34 (λs_29=>(inR tov_3 s_29.1).bind λ_=>(s_29.1[(0+(tov_3).toNat)]?).bind λe_88=>some (s_29.1,(decide (e_88>=0)))) (λ_=>none)) (λ_=>none)
def eZ (fromv_2:Int) (r_16:(List Int)×Bool) (wv_1:Web) (s_10:(List (List Int))×Int) (s_26:Int×Int):Option (Ctl (Int×Int) (Unit)) :=
  bif (s_26.2 != fromv_2)then (idx r_16.1 s_26.2).bind λy_32=>(inN y_32 wv_1.f_can.length).bind λ_=>(s_10.1[(0+(y_32).toNat)]?).bind λr_35=>(inR s_26.2 r_35).bind λ_=>(s_10.1[(0+(y_32).toNat)]?).bind λr_38=>(r_38[(0+(s_26.2).toNat)]?).bind λe_40=>(idx r_16.1 s_26.2).bind λy_42=>some (.go ((zn s_26.1 e_40),y_42))else some (.brk (s_26.1,s_26.2))
def fe (fromv_2:Int) (r_16:(List Int)×Bool) (wv_1:Web) (s_26:Int×Int) (s_49:(List (List Int))×Int):Option (Ctl ((List (List Int))×Int) (Unit)) :=
  bif (s_49.2 != fromv_2)then (idx r_16.1 s_49.2).bind λy_55=>(inN y_55 wv_1.f_can.length).bind λ_=>(s_49.1[(0+(y_55).toNat)]?).bind λr_58=>(inR s_49.2 r_58).bind λ_=>(s_49.1[(0+(y_55).toNat)]?).bind λr_61=>(r_61[(0+(s_49.2).toNat)]?).bind λe_63=>(inR s_49.2 r_58).bind λ_=>(s_49.1[(0+(y_55).toNat)]?).bind λr_66=>(r_66[(0+(s_49.2).toNat)]?).bind λe_68=>(inN s_49.2 wv_1.f_can.length).bind λ_=>((s_49.1.set (0+(y_55).toNat) (r_66.set (0+(s_49.2).toNat) (w64 (e_63-s_26.1))))[(0+(s_49.2).toNat)]?).bind λr_71=>(idx r_16.1 s_49.2).bind λy_73=>(inR y_73 r_71).bind λ_=>((s_49.1.set (0+(y_55).toNat) (r_66.set (0+(s_49.2).toNat) (w64 (e_63-s_26.1))))[(0+(s_49.2).toNat)]?).bind λr_76=>(r_76[(0+(y_73).toNat)]?).bind λe_78=>(inR y_73 r_71).bind λ_=>((s_49.1.set (0+(y_55).toNat) (r_66.set (0+(s_49.2).toNat) (w64 (e_63-s_26.1))))[(0+(s_49.2).toNat)]?).bind λr_81=>(r_81[(0+(y_73).toNat)]?).bind λe_83=>(idx r_16.1 s_49.2).bind λy_85=>some (.go (((s_49.1.set (0+(y_55).toNat) (r_66.set (0+(s_49.2).toNat) (w64 (e_63-s_26.1)))).set (0+(s_49.2).toNat) (r_81.set (0+(y_73).toNat) (w64 (e_78+s_26.1)))),y_85))else some (.brk (s_49.1,s_49.2))
noncomputable def fo (most_4:Int) (wv_1:Web) (fromv_2:Int) (tov_3:Int) (s_10:(List (List Int))×Int):Option (Ctl ((List (List Int))×Int) (Unit)) :=
  bif (decide (s_10.2<most_4))then (neR s_10.1).bind λ_=>(zL s_10.1 wv_1.f_can.length).bind λ_=>(lm (⟨s_10.1,wv_1.f_camps⟩:Web) fromv_2 tov_3).bind λr_16=>bif (!r_16.2)then some (.brk (s_10.1,s_10.2))else (iJ ((w64 (most_4-s_10.2)),tov_3) (λs=>eZ fromv_2 r_16 wv_1 s_10 s)).bind λo_29=>thenC o_29 (λs_26=>(iJ (s_10.1,tov_3) (λs=>fe fromv_2 r_16 wv_1 s_26 s)).bind λo_52=>thenC o_52 (λs_49=>some (.go (s_49.1,(w64 (s_10.2+s_26.1))))) (λ_=>none)) (λ_=>none)else some (.brk (s_10.1,s_10.2))
noncomputable def fJ (wv_1:Web) (fromv_2:Int) (tov_3:Int) (most_4:Int):Option (Int×Web) :=
  (iJ (wv_1.f_can,0) (λs=>fo most_4 wv_1 fromv_2 tov_3 s)).bind λo_13=>thenC o_13 (λs_10=>(qK s_10.1 wv_1.f_can).bind λ_=>some (s_10.2,(⟨s_10.1,wv_1.f_camps⟩:Web))) (λ_=>none)
noncomputable def jL (spots_1:(List Spot)) (l_2:(List Campaign)):Option (Int) :=
  (jc spots_1 l_2).bind λr_3=>(neR r_3.f_can).bind λ_=>(neR r_3.f_can).bind λ_=>(zL r_3.f_can r_3.f_can.length).bind λ_=>(fJ r_3 0 1 1800000000).bind λr_9=>(qK r_9.2.f_can r_3.f_can).bind λ_=>some r_9.1
noncomputable def o6 (spots_1:(List Spot)) (l_2:(List Campaign)):Option (Int×Int) :=
  (dz spots_1 l_2).bind λr_3=>bif (r_3 != 0)then some (0,r_3)else (jL spots_1 l_2).bind λr_6=>some (r_6,0)
def kH (k_2:Nat) (x_4:Campaign) (s_7:Int):Option (Ctl (Int) (Unit)) :=
  some (.go (w64 (s_7+x_4.Goal)))
def lC (l_1:(List Campaign)):Option (Int) :=
  (forL l_1 0 (λk x s=>kH k x s)).bind λo_10=>thenC o_10 (λs_7=>some s_7) (λ_=>none)
noncomputable def qp (spots_1:(List Spot)) (l_2:(List Campaign)):Option (Bool×Int) :=
  (dz spots_1 l_2).bind λr_3=>bif (r_3 != 0)then some (false,r_3)else (jL spots_1 l_2).bind λr_6=>(lC l_2).bind λr_8=>some ((r_6==r_8),0)
noncomputable def jC (x_22:Campaign) (r_6:Web) (k_20:Nat) (k_34:Nat) (x_36:Spot) (s_39:(List (List Int))×(List Share)×Int):Option (Ctl ((List (List Int))×(List Share)×Int) (Unit)) :=
  (jS x_22 x_36).bind λr_47=>bif (!r_47)then some (.go (s_39.1,s_39.2.1,s_39.2.2))else (neR s_39.1).bind λ_=>(zL s_39.1 r_6.f_can.length).bind λ_=>(gM (⟨s_39.1,s_39.2.2⟩:Web) (k_20:Int)).bind λr_50=>(neR s_39.1).bind λ_=>(zL s_39.1 r_6.f_can.length).bind λ_=>(gG (⟨s_39.1,s_39.2.2⟩:Web) (k_34:Int)).bind λr_54=>(inN r_54 r_6.f_can.length).bind λ_=>(s_39.1[(0+(r_54).toNat)]?).bind λr_59=>(inR r_50 r_59).bind λ_=>(s_39.1[(0+(r_54).toNat)]?).bind λr_62=>(r_62[(0+(r_50).toNat)]?).bind λe_64=>(inN r_50 r_6.f_can.length).bind λ_=>(s_39.1[(0+(r_50).toNat)]?).bind λr_67=>(inR r_54 r_67).bind λ_=>(s_39.1[(0+(r_50).toNat)]?).bind λr_70=>(r_70[(0+(r_54).toNat)]?).bind λe_72=>(inN r_50 r_6.f_can.length).bind λ_=>(s_39.1[(0+(r_50).toNat)]?).bind λr_75=>(inN r_54 r_6.f_can.length).bind λ_=>(s_39.1[(0+(r_54).toNat)]?).bind λr_78=>(inR r_54 r_75).bind λ_=>(s_39.1[(0+(r_50).toNat)]?).bind λr_81=>(r_81[(0+(r_54).toNat)]?).bind λe_83=>(inR r_50 r_78).bind λ_=>((s_39.1.set (0+(r_50).toNat) (r_81.set (0+(r_54).toNat) 0))[(0+(r_54).toNat)]?).bind λr_86=>(r_86[(0+(r_50).toNat)]?).bind λe_88=>(neR ((s_39.1.set (0+(r_50).toNat) (r_81.set (0+(r_54).toNat) 0)).set (0+(r_54).toNat) (r_86.set (0+(r_50).toNat) 0))).bind λ_=>(zL ((s_39.1.set (0+(r_50).toNat) (r_81.set (0+(r_54).toNat) 0)).set (0+(r_54).toNat) (r_86.set (0+(r_50).toNat) 0)) r_6.f_can.length).bind λ_=>(fJ (⟨((s_39.1.set (0+(r_50).toNat) (r_81.set (0+(r_54).toNat) 0)).set (0+(r_54).toNat) (r_86.set (0+(r_50).toNat) 0)),s_39.2.2⟩:Web) r_54 r_50 e_72).bind λr_90=>(qK r_90.2.f_can ((s_39.1.set (0+(r_50).toNat) (r_81.set (0+(r_54).toNat) 0)).set (0+(r_54).toNat) (r_86.set (0+(r_50).toNat) 0))).bind λ_=>(bif (decide ((w64 (e_64+r_90.1))>0))then (nk s_39.2.1 ([(⟨x_22.Key,x_36.Key,(w64 (e_64+r_90.1))⟩:Share)]:List Share)).bind λa_99=>some a_99 else some s_39.2.1).bind λv_95=>(inN r_50 r_6.f_can.length).bind λ_=>(r_90.2.f_can[(0+(r_50).toNat)]?).bind λr_103=>(inN r_54 r_6.f_can.length).bind λ_=>(r_90.2.f_can[(0+(r_54).toNat)]?).bind λr_106=>(inR r_54 r_103).bind λ_=>(r_90.2.f_can[(0+(r_50).toNat)]?).bind λr_109=>(r_109[(0+(r_54).toNat)]?).bind λe_111=>(inR r_50 r_106).bind λ_=>((r_90.2.f_can.set (0+(r_50).toNat) (r_109.set (0+(r_54).toNat) 0))[(0+(r_54).toNat)]?).bind λr_114=>(r_114[(0+(r_50).toNat)]?).bind λe_116=>some (.go (((r_90.2.f_can.set (0+(r_50).toNat) (r_109.set (0+(r_54).toNat) 0)).set (0+(r_54).toNat) (r_114.set (0+(r_50).toNat) 0)),v_95,r_90.2.f_camps))
noncomputable def jB (spots_1:(List Spot)) (r_6:Web) (k_20:Nat) (x_22:Campaign) (s_25:(List (List Int))×(List Share)×Int):Option (Ctl ((List (List Int))×(List Share)×Int) (Unit)) :=
  (forL spots_1 (s_25.1,s_25.2.1,s_25.2.2) (λk x s=>jC x_22 r_6 k_20 k x s)).bind λo_44=>thenC o_44 (λs_39=>some (.go (s_39.1,s_39.2.1,s_39.2.2))) (λ_=>none)
noncomputable def kS (spots_1:(List Spot)) (l_2:(List Campaign)):Option ((List Share)×Int) :=
  (dz spots_1 l_2).bind λr_3=>bif (r_3 != 0)then some (([]:(List Share)),r_3)else (jc spots_1 l_2).bind λr_6=>(neR r_6.f_can).bind λ_=>(neR r_6.f_can).bind λ_=>(zL r_6.f_can r_6.f_can.length).bind λ_=>(fJ r_6 0 1 1800000000).bind λr_12=>(qK r_12.2.f_can r_6.f_can).bind λ_=>(lC l_2).bind λr_17=>bif (decide (r_12.1<r_17))then some (([]:(List Share)),12)else (forL l_2 (r_12.2.f_can,([]:List Share),r_12.2.f_camps) (λk x s=>jB spots_1 r_6 k x s)).bind λo_31=>thenC o_31 (λs_25=>some (s_25.2.1,0)) (λ_=>none)
def mR (r_1:Rect):Option (Int) :=
  ((aR r_1.X (-100000) 100000).bind λr_5=>bif r_5 then some true else (aR r_1.Y (-100000) 100000).bind λr_8=>some r_8).bind λv_3=>bif v_3 then some 1 else ((aR r_1.W 1 (w64 (100000-r_1.X))).bind λr_13=>bif r_13 then some true else (aR r_1.H 1 (w64 (100000-r_1.Y))).bind λr_16=>some r_16).bind λv_11=>bif v_11 then some 1 else some 0
def l5 (k_3:Nat) (x_5:Rect) (s_8:Unit):Option (Ctl (Unit) (Int)) :=
  (mR x_5).bind λr_14=>bif (r_14 != 0)then some (.ret r_14)else some (.go ())
def lJ (l_1:(List Rect)):Option (Int) :=
  bif (decide ((l_1.length:Int)>2000))then some 2 else (forL l_1 () (λk x s=>l5 k x s)).bind λo_11=>thenC o_11 (λs_8=>some 0) (λr=>some r)
def gu (n_1:Int):Option Bool :=
  bif (decide (n_1<0))then none else bif (decide ((w64 (n_1-(w64 (0-0))))>0))then (zN (w64 (n_1-(w64 (0-0)))) 32).bind λ_=>some true else some false
def fG (k_2:Nat) (x_4:(List Rect)) (s_7:Int):Option (Ctl (Int) (Unit)) :=
  (bif (decide ((w64 (s_7+(x_4.length:Int)))<0))then none else some ()).bind λv_12=>some (.go (w64 (s_7+(x_4.length:Int))))
def fI (k_18:Nat) (x_20:(List Rect)) (s_23:(List Rect)):Option (Ctl ((List Rect)) (Unit)) :=
  (nk s_23 x_20).bind λa_30=>some (.go a_30)
def d9 (slices_1:(List (List Rect))):Option ((List Rect)) :=
  (forL slices_1 0 (λk x s=>fG k x s)).bind λo_10=>thenC o_10 (λs_7=>(gu s_7).bind λb_15=>(forL slices_1 ([]:List Rect) (λk x s=>fI k x s)).bind λo_28=>thenC o_28 (λs_23=>some s_23) (λ_=>none)) (λ_=>none)
def iR (x:(List Int)):Option ((List Int)) :=
  L6 x
def fC (s_1:(List Int)) (s_8:Int) (s_28:(List Int)×Int×Int):Option (Ctl ((List Int)×Int×Int) (Unit)) :=
  bif (decide (s_28.2.2<(((((s_1.length:Int)).toNat-(s_8).toNat):Nat):Int)))then (inN s_28.2.2 (((s_1.length:Int)).toNat-(s_8).toNat)).bind λ_=>(s_28.1[(((s_8).toNat)+(s_28.2.2).toNat)]?).bind λe_35=>(inN (w64 (s_28.2.2-1)) (((s_1.length:Int)).toNat-(s_8).toNat)).bind λ_=>(s_28.1[(((s_8).toNat)+((w64 (s_28.2.2-1))).toNat)]?).bind λe_38=>(bif (e_35 != e_38)then (inN s_28.2.2 (((s_1.length:Int)).toNat-(s_8).toNat)).bind λ_=>(s_28.1[(((s_8).toNat)+(s_28.2.2).toNat)]?).bind λe_44=>(inR s_28.2.1 s_28.1).bind λ_=>(s_28.1[(0+(s_28.2.1).toNat)]?).bind λe_47=>some ((s_28.1.set (0+(s_28.2.1).toNat) e_44),(w64 (s_28.2.1+1)))else some (s_28.1,s_28.2.1)).bind λv_40=>some (.go (v_40.1,v_40.2,(w64 (s_28.2.2+1))))else some (.brk (s_28.1,s_28.2.1,s_28.2.2))
noncomputable def dN (s_1:(List Int)) (s_8:Int):Option (Ctl (Int) ((List Int))) :=
  bif (decide (s_8<(s_1.length:Int)))then (inR s_8 s_1).bind λ_=>(s_1[(0+(s_8).toNat)]?).bind λe_15=>(inR (w64 (s_8-1)) s_1).bind λ_=>(s_1[(0+((w64 (s_8-1))).toNat)]?).bind λe_18=>bif (e_15==e_18)then (neL s_1).bind λ_=>(CG s_1 s_8 (s_1.length:Int)).bind λ_=>(iJ (s_1,s_8,1) (λs=>fC s_1 s_8 s)).bind λo_31=>thenC o_31 (λs_28=>(CG s_28.1 s_28.2.1 (s_28.1.length:Int)).bind λ_=>(CG (s_28.1.take ((s_28.2.1).toNat)++List.replicate (((s_28.1.length:Int)).toNat-(s_28.2.1).toNat) 0++s_28.1.drop (((s_28.2.1).toNat)+(((s_28.1.length:Int)).toNat-(s_28.2.1).toNat))) 0 s_28.2.1).bind λ_=>some (.ret (cutL (s_28.1.take ((s_28.2.1).toNat)++List.replicate (((s_28.1.length:Int)).toNat-(s_28.2.1).toNat) 0++s_28.1.drop (((s_28.2.1).toNat)+(((s_28.1.length:Int)).toNat-(s_28.2.1).toNat))) 0 ((s_28.2.1).toNat)))) (λ_=>none)else some (.go (w64 (s_8+1)))else some (.brk s_8)
noncomputable def eX (s_1:(List Int)):Option ((List Int)) :=
  bif (decide ((s_1.length:Int)<2))then some s_1 else (iJ 1 (λs=>dN s_1 s)).bind λo_11=>thenC o_11 (λs_8=>some s_1) (λr=>some r)
def ul (a_1:Run) (b_2:Run):Option (Int) :=
  some (w64 (a_1.f_from-b_2.f_from))
def qN (x_1:Int):Option (Int) :=
  (bif (decide (x_1>=4294967296))then (CL .u64 x_1 32).bind λq_5=>some (q_5,32)else some (x_1,0)).bind λv_2=>(bif (decide (v_2.1>=65536))then (CL .u64 v_2.1 16).bind λq_10=>some (q_10,(w64 (v_2.2+16)))else some (v_2.1,v_2.2)).bind λv_7=>(bif (decide (v_7.1>=256))then (CL .u64 v_7.1 8).bind λq_15=>some (q_15,(w64 (v_7.2+8)))else some (v_7.1,v_7.2)).bind λv_12=>(pM (⟨#[0,1,2,2,3,3,3,3,4,4,4,4,4,4,4,4,5,5,5,5,5,5,5,5,5,5,5,5,5,5,5,5,6,6,6,6,6,6,6,6,6,6,6,6,6,6,6,6,6,6,6,6,6,6,6,6,6,6,6,6,6,6,6,6,7,7,7,7,7,7,7,7,7,7,7,7,7,7,7,7,7,7,7,7,7,7,7,7,7,7,7,7,7,7,7,7,7,7,7,7,7,7,7,7,7,7,7,7,7,7,7,7,7,7,7,7,7,7,7,7,7,7,7,7,7,7,7,7,8,8,8,8,8,8,8,8,8,8,8,8,8,8,8,8,8,8,8,8,8,8,8,8,8,8,8,8,8,8,8,8,8,8,8,8,8,8,8,8,8,8,8,8,8,8,8,8,8,8,8,8,8,8,8,8,8,8,8,8,8,8,8,8,8,8,8,8,8,8,8,8,8,8,8,8,8,8,8,8,8,8,8,8,8,8,8,8,8,8,8,8,8,8,8,8,8,8,8,8,8,8,8,8,8,8,8,8,8,8,8,8,8,8,8,8,8,8,8,8,8,8,8,8,8,8,8,8]⟩:ByteArray) (IntKind.u8.wrap v_12.1)).bind λb_17=>some (w64 (v_12.2+(w64 (b_17.toNat:Int))))
def qc (x_1:Int):Option (Int) :=
  (qN x_1).bind λr_2=>some r_2
def cK (a_2:Int) (s_21:(List Run)×Int):Option (Ctl ((List Run)×Int) (Unit)) :=
  (bif (decide (s_21.2>a_2))then (inR s_21.2 s_21.1).bind λ_=>(s_21.1[(0+(s_21.2).toNat)]?).bind λe_30=>(inR (w64 (s_21.2-1)) s_21.1).bind λ_=>(s_21.1[(0+((w64 (s_21.2-1))).toNat)]?).bind λe_33=>(ul e_30 e_33).bind λr_35=>some (decide (r_35<0))else some false).bind λv_26=>bif v_26 then (inR (w64 (s_21.2-1)) s_21.1).bind λ_=>(s_21.1[(0+((w64 (s_21.2-1))).toNat)]?).bind λe_39=>(inR s_21.2 s_21.1).bind λ_=>(s_21.1[(0+(s_21.2).toNat)]?).bind λe_42=>(inR s_21.2 s_21.1).bind λ_=>(s_21.1[(0+(s_21.2).toNat)]?).bind λe_45=>(inR (w64 (s_21.2-1)) (s_21.1.set (0+(s_21.2).toNat) e_39)).bind λ_=>((s_21.1.set (0+(s_21.2).toNat) e_39)[(0+((w64 (s_21.2-1))).toNat)]?).bind λe_48=>some (.go (((s_21.1.set (0+(s_21.2).toNat) e_39).set (0+((w64 (s_21.2-1))).toNat) e_42),(w64 (s_21.2-1))))else some (.brk (s_21.1,s_21.2))
noncomputable def bJ (b_3:Int) (a_2:Int) (s_10:(List Run)×Int):Option (Ctl ((List Run)×Int) (Unit)) :=
  bif (decide (s_10.2<b_3))then (iJ (s_10.1,s_10.2) (λs=>cK a_2 s)).bind λo_24=>thenC o_24 (λs_21=>some (.go (s_21.1,(w64 (s_10.2+1))))) (λ_=>none)else some (.brk (s_10.1,s_10.2))
noncomputable def bT (data_1:(List Run)) (a_2:Int) (b_3:Int):Option ((List Run)) :=
  (iJ (data_1,(w64 (a_2+1))) (λs=>bJ b_3 a_2 s)).bind λo_13=>thenC o_13 (λs_10=>some s_10.1) (λ_=>none)
noncomputable def cB (b_3:Int) (a_2:Int) (data_1:(List Run)) (limit_4:Int) (s_11:Unit):Option (Ctl (Unit) ((List Run))) :=
  bif (decide ((w64 (b_3-a_2))<=12))then (bT data_1 a_2 b_3).bind λr_17=>(qK r_17 data_1).bind λ_=>some (.ret r_17)else bif (limit_4==0)then none else none
noncomputable def di (data_1:(List Run)) (a_2:Int) (b_3:Int) (limit_4:Int):Option ((List Run)) :=
  (iJ () (λs=>cB b_3 a_2 data_1 limit_4 s)).bind λo_14=>thenC o_14 (λs_11=>some data_1) (λr=>some r)
noncomputable def bZ (x_1:(List Run)):Option ((List Run)) :=
  (qc (IntKind.u64.wrap (x_1.length:Int))).bind λr_3=>(di x_1 0 (x_1.length:Int) r_3).bind λr_5=>(qK r_5 x_1).bind λ_=>some r_5
def oQ (y_2:Int) (k_3:Nat) (x_5:Rect) (s_8:(List Run)):Option (Ctl ((List Run)) (Unit)) :=
  (bif (decide (x_5.Y<=y_2))then some (decide (y_2<(w64 (x_5.Y+x_5.H))))else some false).bind λv_17=>(bif v_17 then (nk s_8 ([(⟨x_5.X,(w64 (x_5.X+x_5.W))⟩:Run)]:List Run)).bind λa_24=>some a_24 else some s_8).bind λv_20=>some (.go v_20)
def o5 (k_30:Nat) (x_32:Run) (s_35:(List Run)):Option (Ctl ((List Run)) (Unit)) :=
  (bif (decide ((w64 ((s_35.length:Int)-1))>=0))then (inR (w64 ((s_35.length:Int)-1)) s_35).bind λ_=>(s_35[(0+((w64 ((s_35.length:Int)-1))).toNat)]?).bind λe_48=>some (decide (x_32.f_from<=e_48.f_to))else some false).bind λv_44=>(bif v_44 then (inR (w64 ((s_35.length:Int)-1)) s_35).bind λ_=>(s_35[(0+((w64 ((s_35.length:Int)-1))).toNat)]?).bind λe_55=>(inR (w64 ((s_35.length:Int)-1)) s_35).bind λ_=>(s_35[(0+((w64 ((s_35.length:Int)-1))).toNat)]?).bind λe_58=>some (s_35.set (0+((w64 ((s_35.length:Int)-1))).toNat) (⟨e_58.f_from,(uW e_55.f_to x_32.f_to)⟩:Run))else (nk s_35 ([x_32]:List Run)).bind λa_60=>some a_60).bind λv_50=>some (.go v_50)
noncomputable def ou (l_1:(List Rect)) (y_2:Int):Option ((List Run)) :=
  (forL l_1 ([]:List Run) (λk x s=>oQ y_2 k x s)).bind λo_14=>thenC o_14 (λs_8=>(bZ s_8).bind λr_27=>(qK r_27 s_8).bind λ_=>(forL r_27 ([]:List Run) (λk x s=>o5 k x s)).bind λo_41=>thenC o_41 (λs_35=>some s_35) (λ_=>none)) (λ_=>none)
def oL (m_2:(List Run)) (x_5:Run) (s_22:Int):Option (Ctl (Int) (Unit)) :=
  (bif (decide (s_22<(m_2.length:Int)))then (idx m_2 s_22).bind λy_30=>some (decide (y_30.f_to<=x_5.f_from))else some false).bind λv_27=>bif v_27 then some (.go (w64 (s_22+1)))else some (.brk s_22)
def oZ (m_2:(List Run)) (x_5:Run) (s_38:(List Run)×Int×Int):Option (Ctl ((List Run)×Int×Int) (Unit)) :=
  (bif (decide (s_38.2.1<(m_2.length:Int)))then (idx m_2 s_38.2.1).bind λy_48=>some (decide (y_48.f_from<x_5.f_to))else some false).bind λv_45=>bif v_45 then (idx m_2 s_38.2.1).bind λy_51=>(bif (decide (y_51.f_from>s_38.2.2))then (idx m_2 s_38.2.1).bind λy_57=>(nk s_38.1 ([(⟨s_38.2.2,y_57.f_from⟩:Run)]:List Run)).bind λa_59=>some a_59 else some s_38.1).bind λv_53=>(idx m_2 s_38.2.1).bind λy_62=>some (.go (v_53,(w64 (s_38.2.1+1)),(uW s_38.2.2 y_62.f_to)))else some (.brk (s_38.1,s_38.2.1,s_38.2.2))
noncomputable def mD (m_2:(List Run)) (k_3:Nat) (x_5:Run) (s_8:(List Run)×Int):Option (Ctl ((List Run)×Int) (Unit)) :=
  (iJ s_8.2 (λs=>oL m_2 x_5 s)).bind λo_25=>thenC o_25 (λs_22=>(iJ (s_8.1,s_22,x_5.f_from) (λs=>oZ m_2 x_5 s)).bind λo_43=>thenC o_43 (λs_38=>(bif (decide (s_38.2.2<x_5.f_to))then (nk s_38.1 ([(⟨s_38.2.2,x_5.f_to⟩:Run)]:List Run)).bind λa_68=>some a_68 else some s_38.1).bind λv_64=>some (.go (v_64,s_22))) (λ_=>none)) (λ_=>none)
noncomputable def qC (l_1:(List Run)) (m_2:(List Run)):Option ((List Run)) :=
  (forL l_1 (([]:List Run),0) (λk x s=>mD m_2 k x s)).bind λo_14=>thenC o_14 (λs_8=>some s_8.1) (λ_=>none)
def eH (s2_2:(List Run)) (k_4:Nat) (x_6:Run) (s_9:Unit):Option (Ctl (Unit) (Bool)) :=
  (idx s2_2 (k_4:Int)).bind λy_14=>bif (!((x_6.f_from==y_14.f_from)&&((x_6.f_to==y_14.f_to)&&true)))then some (.ret false)else some (.go ())
def dK (s1_1:(List Run)) (s2_2:(List Run)):Option (Bool) :=
  bif ((s1_1.length:Int) != (s2_2.length:Int))then some false else (forL s1_1 () (λk x s=>eH s2_2 k x s)).bind λo_12=>thenC o_12 (λs_9=>some true) (λr=>some r)
def mU (k_5:Nat) (x_7:Rect) (s_10:(List Int)):Option (Ctl ((List Int)) (Unit)) :=
  (nk s_10 ([x_7.Y,(w64 (x_7.Y+x_7.H))]:List Int)).bind λa_19=>some (.go a_19)
def mK (s_32:(List Rect)×(List Run)×Int) (x_29:Int) (k_54:Nat) (x_56:Run) (s_59:(List Rect)):Option (Ctl ((List Rect)) (Unit)) :=
  (nk s_59 ([(⟨x_56.f_from,s_32.2.2,(w64 (x_56.f_to-x_56.f_from)),(w64 (x_29-s_32.2.2))⟩:Rect)]:List Rect)).bind λa_67=>some (.go a_67)
noncomputable def jZ (r_25:(List Int)) (l_1:(List Rect)) (m_2:(List Rect)) (k_27:Nat) (x_29:Int) (s_32:(List Rect)×(List Run)×Int):Option (Ctl ((List Rect)×(List Run)×Int) (Unit)) :=
  (bif (decide ((w64 ((k_27:Int)+1))<(r_25.length:Int)))then (ou l_1 x_29).bind λr_45=>(ou m_2 x_29).bind λr_47=>(qC r_45 r_47).bind λr_49=>some r_49 else some ([]:List Run)).bind λv_42=>(dK s_32.2.1 v_42).bind λr_51=>bif r_51 then some (.go (s_32.1,s_32.2.1,s_32.2.2))else (forL s_32.2.1 s_32.1 (λk x s=>mK s_32 x_29 k x s)).bind λo_64=>thenC o_64 (λs_59=>some (.go (s_59,v_42,x_29))) (λ_=>none)
noncomputable def nI (l_1:(List Rect)) (m_2:(List Rect)):Option ((List Rect)) :=
  (d9 ([l_1,m_2]:List (List Rect))).bind λr_3=>(forL r_3 ([]:List Int) (λk x s=>mU k x s)).bind λo_16=>thenC o_16 (λs_10=>(iR s_10).bind λr_22=>(qK r_22 s_10).bind λ_=>(eX r_22).bind λr_25=>(forL r_25 (([]:List Rect),([]:List Run),0) (λk x s=>jZ r_25 l_1 m_2 k x s)).bind λo_38=>thenC o_38 (λs_32=>some s_32.1) (λ_=>none)) (λ_=>none)
def sO (k_2:Nat) (x_4:Rect) (s_7:Int):Option (Ctl (Int) (Unit)) :=
  some (.go (w64 (s_7+(w64 (x_4.W*x_4.H)))))
def tF (l_1:(List Rect)):Option (Int) :=
  (forL l_1 0 (λk x s=>sO k x s)).bind λo_10=>thenC o_10 (λs_7=>some s_7) (λ_=>none)
noncomputable def qI (l_1:(List Rect)):Option (Int×Int) :=
  (lJ l_1).bind λr_2=>bif (r_2 != 0)then some (0,r_2)else (nI l_1 ([]:List Rect)).bind λr_5=>(tF r_5).bind λr_7=>some (r_7,0)
def BL (n_1:Int):Option (Bool) :=
  (bif (decide (n_1>=0))then some (decide (n_1<=4000))else some false).bind λv_2=>some v_2
def ko (l_1:(List Int)) (k_3:Nat) (x_5:Int) (s_8:Unit):Option (Ctl (Unit) (Int)) :=
  (BL x_5).bind λr_13=>bif (!r_13)then some (.ret 1)else (bif (decide ((k_3:Int)>0))then (idx l_1 (w64 ((k_3:Int)-1))).bind λy_19=>some (decide (x_5<=y_19))else some false).bind λv_16=>bif v_16 then some (.ret 7)else some (.go ())
def jD (l_1:(List Int)):Option (Int) :=
  bif (decide ((l_1.length:Int)>100))then some 2 else (forL l_1 () (λk x s=>ko l_1 k x s)).bind λo_11=>thenC o_11 (λs_8=>some 0) (λr=>some r)
noncomputable def je (l_1:(List ByteArray)):Option (Int) :=
  bif (decide ((l_1.length:Int)>20))then some 2 else (iG l_1).bind λr_3=>some r_3
noncomputable def iQ (e_1:Entry):Option (Int) :=
  ((fu e_1.Key).bind λr_5=>bif (!r_5)then some true else (fu e_1.Item).bind λr_8=>some (!r_8)).bind λv_3=>bif v_3 then some 5 else ((aR e_1.Version 0 1000000).bind λr_13=>bif r_13 then some true else (aR e_1.First 0 e_1.Last).bind λr_16=>bif r_16 then some true else bif (decide (e_1.Last>4000))then some true else (aR e_1.Every 1 400).bind λr_20=>bif r_20 then some true else (aR e_1.Days 1 127).bind λr_23=>some r_23).bind λv_11=>bif v_11 then some 1 else (jD e_1.Except).bind λr_26=>bif (r_26 != 0)then some r_26 else ((aR e_1.From 0 1439).bind λr_31=>bif r_31 then some true else (aR e_1.To 0 1439).bind λr_34=>bif r_34 then some true else (aR e_1.Prio 0 9).bind λr_37=>some r_37).bind λv_29=>bif v_29 then some 1 else (je e_1.Tags).bind λr_40=>some r_40
noncomputable def fA (l_1:(List Entry)) (k_3:Nat) (x_5:Entry) (s_8:Unit):Option (Ctl (Unit) (Int)) :=
  (iQ x_5).bind λr_14=>bif (r_14 != 0)then some (.ret r_14)else (bif (decide ((k_3:Int)>0))then (idx l_1 (w64 ((k_3:Int)-1))).bind λy_20=>some (sLe x_5.Key y_20.Key)else some false).bind λv_17=>bif v_17 then some (.ret 7)else some (.go ())
noncomputable def gz (l_1:(List Entry)):Option (Int) :=
  bif (decide ((l_1.length:Int)>200))then some 2 else (forL l_1 () (λk x s=>fA l_1 k x s)).bind λo_11=>thenC o_11 (λs_8=>some 0) (λr=>some r)
def jE (wv_1:Window):Option (Int) :=
  ((aR wv_1.From 0 wv_1.To).bind λr_5=>bif r_5 then some true else some (decide (wv_1.To>345686400000))).bind λv_3=>bif v_3 then some 1 else bif (decide ((w64 (wv_1.To-wv_1.From))>34560000000))then some 2 else some 0
def cmp_isNaN_int (x_1:Int):Option (Bool) :=
  some (x_1 != x_1)
def cmp_Less_int (x_1:Int) (y_2:Int):Option (Bool) :=
  ((cmp_isNaN_int x_1).bind λr_5=>bif r_5 then (cmp_isNaN_int y_2).bind λr_8=>bif (!r_8)then some true else some (decide (x_1<y_2))else some (decide (x_1<y_2))).bind λv_3=>some v_3
def iT (x_1:Int):Option (Bool) :=
  some (x_1 != x_1)
def eG (x_1:(List Int)) (target_2:Int) (s_8:Int×Int):Option (Ctl (Int×Int) (Unit)) :=
  bif (decide (s_8.1<s_8.2))then (CL .u64 (IntKind.u64.wrap (w64 (s_8.1+s_8.2))) 1).bind λq_14=>(idx x_1 (w64 q_14)).bind λy_16=>(cmp_Less_int y_16 target_2).bind λr_18=>bif r_18 then some (.go ((w64 ((w64 q_14)+1)),s_8.2))else some (.go (s_8.1,(w64 q_14)))else some (.brk (s_8.1,s_8.2))
noncomputable def dU (x_1:(List Int)) (target_2:Int):Option (Int×Bool) :=
  (iJ (0,(x_1.length:Int)) (λs=>eG x_1 target_2 s)).bind λo_11=>thenC o_11 (λs_8=>(bif (decide (s_8.1<(x_1.length:Int)))then (idx x_1 s_8.1).bind λy_24=>bif (y_24==target_2)then some true else (idx x_1 s_8.1).bind λy_27=>(iT y_27).bind λr_29=>bif r_29 then (iT target_2).bind λr_32=>some r_32 else some false else some false).bind λv_21=>some (s_8.1,v_21)) (λ_=>none)
noncomputable def mh (e_1:Entry) (d_2:Int):Option (Bool) :=
  ((aR d_2 e_1.First e_1.Last).bind λr_6=>bif r_6 then some true else (JF .i64 (w64 (d_2-e_1.First)) e_1.Every).bind λq_9=>bif (q_9 != 0)then some true else (Dz .i64 1 (d_2.tmod 7)).bind λq_12=>some ((wy .i64 e_1.Days q_12)==0)).bind λv_4=>bif v_4 then some false else (dU e_1.Except d_2).bind λr_15=>some (!r_15.2)
def nK (e_1:Entry) (zone_2:Int) (d_3:Int):Option (Window) :=
  (bif (decide ((w64 (e_1.To-e_1.From))<=0))then some (w64 ((w64 (e_1.To-e_1.From))+1440))else some (w64 (e_1.To-e_1.From))).bind λv_6=>some (⟨(w64 ((w64 ((w64 ((w64 (d_3*1440))+e_1.From))-zone_2))*60000)),(w64 ((w64 ((w64 ((w64 ((w64 (d_3*1440))+e_1.From))-zone_2))*60000))+(w64 (v_6*60000))))⟩:Window)
noncomputable def jQ (wv_3:Window) (zone_2:Int) (e_1:Entry) (s_15:(List Window)×Int):Option (Ctl ((List Window)×Int) (Unit)) :=
  bif (decide (s_15.2<=(zn (w64 ((w64 ((w64 (wv_3.To+(w64 (zone_2*60000)))).tdiv 86400000))+1)) e_1.Last)))then (mh e_1 s_15.2).bind λr_24=>bif (!r_24)then some (.go (s_15.1,(w64 (s_15.2+1))))else (nK e_1 zone_2 s_15.2).bind λr_27=>(bif (decide (r_27.From<wv_3.To))then some (decide (r_27.To>wv_3.From))else some false).bind λv_30=>(bif v_30 then (nk s_15.1 ([r_27]:List Window)).bind λa_37=>some a_37 else some s_15.1).bind λv_33=>some (.go (v_33,(w64 (s_15.2+1))))else some (.brk (s_15.1,s_15.2))
noncomputable def mq (e_1:Entry) (zone_2:Int) (wv_3:Window):Option ((List Window)) :=
  (bif e_1.Gone then some true else some (decide (wv_3.From>=wv_3.To))).bind λv_6=>bif v_6 then some ([]:(List Window))else (iJ (([]:List Window),(uW (w64 ((w64 ((w64 (wv_3.From+(w64 (zone_2*60000)))).tdiv 86400000))-2)) e_1.First)) (λs=>jQ wv_3 zone_2 e_1 s)).bind λo_21=>thenC o_21 (λs_15=>some s_15.1) (λ_=>none)
def vH (t_1:Window) (wv_2:Window):Option (Window) :=
  some (⟨(uW t_1.From wv_2.From),(zn t_1.To wv_2.To)⟩:Window)
def lS (wv_3:Window) (k_19:Nat) (x_21:Nat) (s_24:(List Window)):Option (Ctl ((List Window)) (Unit)) :=
  (inR (k_19:Int) s_24).bind λ_=>(s_24[(0+((k_19:Int)).toNat)]?).bind λe_30=>(vH e_30 wv_3).bind λr_33=>(inR (k_19:Int) s_24).bind λ_=>(s_24[(0+((k_19:Int)).toNat)]?).bind λe_36=>some (.go (s_24.set (0+((k_19:Int)).toNat) r_33))
noncomputable def lV (e_1:Entry) (zone_2:Int) (wv_3:Window):Option ((List Window)×Int) :=
  (gz ([e_1]:List Entry)).bind λr_6=>bif (r_6 != 0)then some (([]:(List Window)),r_6)else (aR zone_2 (-1440) 1440).bind λr_9=>bif r_9 then some (([]:(List Window)),1)else (jE wv_3).bind λr_12=>bif (r_12 != 0)then some (([]:(List Window)),r_12)else (mq e_1 zone_2 wv_3).bind λr_15=>(forL (List.range ((r_15.length:Int)).toNat) r_15 (λk x s=>lS wv_3 k x s)).bind λo_27=>thenC o_27 (λs_24=>some (s_24,0)) (λ_=>none)
def dH (n_1:Int):Option (Bool) :=
  (bif (decide (n_1>=0))then some (decide (n_1<345686400000))else some false).bind λv_2=>some v_2
def tO (c_1:Campaign) (atv_2:Int):Option (Int) :=
  bif (decide (atv_2<c_1.Time.From))then some 0 else bif (decide (atv_2>=c_1.Time.To))then some c_1.Goal else (Ld .i64 (w64 (c_1.Goal*(w64 (atv_2-c_1.Time.From)))) (w64 (c_1.Time.To-c_1.Time.From))).bind λq_6=>some q_6
noncomputable def qE (c_1:Campaign) (atv_2:Int):Option (Int×Int) :=
  (dE ([c_1]:List Campaign)).bind λr_4=>bif (r_4 != 0)then some (0,r_4)else (dH atv_2).bind λr_7=>bif (!r_7)then some (0,1)else (tO c_1 atv_2).bind λr_10=>some (r_10,0)
def gJ (a_1:ByteArray) (b_2:ByteArray):Option (Int) :=
  some (CW a_1 b_2)
def strings_Compare (a_1:ByteArray) (b_2:ByteArray):Option (Int) :=
  (gJ a_1 b_2).bind λr_3=>some r_3
def cmp_Compare_int (x_1:Int) (y_2:Int):Option (Int) :=
  (cmp_isNaN_int x_1).bind λr_3=>(cmp_isNaN_int y_2).bind λr_5=>bif r_3 then bif r_5 then some 0 else some (-1)else bif r_5 then some 1 else bif (decide (x_1<y_2))then some (-1)else bif (decide (x_1>y_2))then some 1 else some 0
def ug (k_2:Nat) (x_4:Int) (s_7:Unit):Option (Ctl (Unit) (Int)) :=
  bif (x_4 != 0)then some (.ret x_4)else some (.go ())
def wJ (vals_1:(List Int)):Option (Int) :=
  (forL vals_1 () (λk x s=>ug k x s)).bind λo_10=>thenC o_10 (λs_7=>some 0) (λr=>some r)
def kY (a_1:Beat) (b_2:Beat):Option (Int) :=
  (strings_Compare a_1.Player b_2.Player).bind λr_5=>(cmp_Compare_int a_1.At b_2.At).bind λr_7=>(wJ ([r_5,r_7]:List Int)).bind λr_9=>some r_9
noncomputable def iK (l_1:(List Beat)) (k_3:Nat) (x_5:Beat) (s_8:Unit):Option (Ctl (Unit) (Int)) :=
  (fu x_5.Player).bind λr_14=>bif (!r_14)then some (.ret 5)else ((dH x_5.At).bind λr_19=>bif (!r_19)then some true else (aR x_5.Clock 0 345686399999).bind λr_22=>some r_22).bind λv_17=>bif v_17 then some (.ret 1)else (bif (decide ((k_3:Int)>0))then (idx l_1 (w64 ((k_3:Int)-1))).bind λy_28=>(kY y_28 x_5).bind λr_30=>some (decide (r_30>=0))else some false).bind λv_25=>bif v_25 then some (.ret 7)else (bif (decide ((k_3:Int)>0))then (idx l_1 (w64 ((k_3:Int)-1))).bind λy_36=>bif (sEq x_5.Player y_36.Player)then (idx l_1 (w64 ((k_3:Int)-1))).bind λy_39=>some (decide (x_5.Clock<=y_39.Clock))else some false else some false).bind λv_33=>bif v_33 then some (.ret 16)else some (.go ())
noncomputable def ku (l_1:(List Beat)):Option (Int) :=
  bif (decide ((l_1.length:Int)>500))then some 2 else (forL l_1 () (λk x s=>iK l_1 k x s)).bind λo_11=>thenC o_11 (λs_8=>some 0) (λr=>some r)
def pR (player_2:ByteArray) (back_3:Bool) (k_4:Nat) (x_6:Beat) (s_9:(List Beat_)):Option (Ctl ((List Beat_)) (Unit)) :=
  (bif (sNe x_6.Player player_2)then some s_9 else bif back_3 then (nk s_9 ([(⟨x_6.At,x_6.Clock⟩:Beat_)]:List Beat_)).bind λa_23=>some a_23 else (nk s_9 ([(⟨x_6.Clock,x_6.At⟩:Beat_)]:List Beat_)).bind λa_26=>some a_26).bind λv_18=>some (.go v_18)
def qa (l_1:(List Beat)) (player_2:ByteArray) (back_3:Bool):Option ((List Beat_)) :=
  (forL l_1 ([]:List Beat_) (λk x s=>pR player_2 back_3 k x s)).bind λo_15=>thenC o_15 (λs_9=>some s_9) (λ_=>none)
def nL (l_1:(List Beat_)) (n_2:Int) (s_9:Int):Option (Ctl (Int) (Unit)) :=
  (bif (decide (s_9<(l_1.length:Int)))then (idx l_1 s_9).bind λy_17=>some (decide (y_17.f_from<=n_2))else some false).bind λv_14=>bif v_14 then some (.go (w64 (s_9+1)))else some (.brk s_9)
noncomputable def o9 (l_1:(List Beat_)) (n_2:Int):Option (Int×Int) :=
  bif ((l_1.length:Int)==0)then some (0,8)else (iJ 0 (λs=>nL l_1 n_2 s)).bind λo_12=>thenC o_12 (λs_9=>bif (s_9==0)then (idx l_1 0).bind λy_21=>(idx l_1 0).bind λy_23=>(dH (w64 (y_21.f_to-(w64 (y_23.f_from-n_2))))).bind λr_25=>bif (!r_25)then some (0,11)else some ((w64 (y_21.f_to-(w64 (y_23.f_from-n_2)))),0)else bif (s_9==(l_1.length:Int))then (idx l_1 (w64 (s_9-1))).bind λy_29=>(idx l_1 (w64 (s_9-1))).bind λy_31=>(dH (w64 ((w64 (y_29.f_to+n_2))-y_31.f_from))).bind λr_33=>bif (!r_33)then some (0,11)else some ((w64 ((w64 (y_29.f_to+n_2))-y_31.f_from)),0)else (idx l_1 (w64 (s_9-1))).bind λy_36=>(idx l_1 s_9).bind λy_38=>(bif (decide ((w64 (y_38.f_from-y_36.f_from))>2592000000))then some true else some (decide ((w64 (y_38.f_to-y_36.f_to))>2592000000))).bind λv_42=>bif v_42 then some (0,2)else (Ld .i64 (w64 ((w64 (n_2-y_36.f_from))*(w64 (y_38.f_to-y_36.f_to)))) (w64 (y_38.f_from-y_36.f_from))).bind λq_46=>(dH (w64 (y_36.f_to+q_46))).bind λr_48=>bif (!r_48)then some (0,11)else some ((w64 (y_36.f_to+q_46)),0)) (λ_=>none)
noncomputable def qm (l_1:(List Beat)) (player_2:ByteArray) (n_3:Int) (back_4:Bool):Option (Int×Int) :=
  (ku l_1).bind λr_5=>bif (r_5 != 0)then some (0,r_5)else (fu player_2).bind λr_8=>bif (!r_8)then some (0,5)else (dH n_3).bind λr_11=>bif (!r_11)then some (0,1)else (qa l_1 player_2 back_4).bind λr_14=>(o9 r_14 n_3).bind λr_16=>some (r_16.1,r_16.2)
noncomputable def qz (l_1:(List Beat)) (player_2:ByteArray) (clock_3:Int):Option (Int×Int) :=
  (qm l_1 player_2 clock_3 false).bind λr_4=>some (r_4.1,r_4.2)
noncomputable def ji (a_1:Alert) (k_4:Nat) (x_6:ByteArray) (s_9:Unit):Option (Ctl (Unit) (Int)) :=
  (fu x_6).bind λr_14=>bif (!r_14)then some (.ret 5)else (bif (decide ((k_4:Int)>0))then (idx a_1.Refs (w64 ((k_4:Int)-1))).bind λy_20=>some (sLe x_6 y_20)else some false).bind λv_17=>bif v_17 then some (.ret 7)else bif (sEq x_6 a_1.Id)then some (.ret 14)else some (.go ())
noncomputable def ll (a_1:Alert):Option (Int) :=
  bif (decide ((a_1.Refs.length:Int)>20))then some 2 else (forL a_1.Refs () (λk x s=>ji a_1 k x s)).bind λo_12=>thenC o_12 (λs_9=>bif (!((a_1.Kind==1)==((a_1.Refs.length:Int)==0)))then some 3 else some 0) (λr=>some r)
def bD (s_1:ByteArray):Option (Int) :=
  (pM s_1 0).bind λb_2=>(pM s_1 1).bind λb_4=>(Dz .u64 (IntKind.u64.wrap (b_4.toNat:Int)) 8).bind λq_6=>(pM s_1 2).bind λb_8=>(Dz .u64 (IntKind.u64.wrap (b_8.toNat:Int)) 16).bind λq_10=>(pM s_1 3).bind λb_12=>(Dz .u64 (IntKind.u64.wrap (b_12.toNat:Int)) 24).bind λq_14=>(pM s_1 4).bind λb_16=>(Dz .u64 (IntKind.u64.wrap (b_16.toNat:Int)) 32).bind λq_18=>(pM s_1 5).bind λb_20=>(Dz .u64 (IntKind.u64.wrap (b_20.toNat:Int)) 40).bind λq_22=>(pM s_1 6).bind λb_24=>(Dz .u64 (IntKind.u64.wrap (b_24.toNat:Int)) 48).bind λq_26=>(pM s_1 7).bind λb_28=>(Dz .u64 (IntKind.u64.wrap (b_28.toNat:Int)) 56).bind λq_30=>some (orI .u64 (orI .u64 (orI .u64 (orI .u64 (orI .u64 (orI .u64 (orI .u64 (IntKind.u64.wrap (b_2.toNat:Int)) q_6) q_10) q_14) q_18) q_22) q_26) q_30)
def fQ (s_45:ByteArray):Option (Ctl (ByteArray) (Unit)) :=
  (bif (decide ((s_45.size:Int)>32))then (bD s_45).bind λr_53=>(vo s_45 8 s_45.size).bind λy_55=>(bD y_55).bind λr_57=>(vo s_45 16 s_45.size).bind λy_59=>(bD y_59).bind λr_61=>(vo s_45 24 s_45.size).bind λy_63=>(bD y_63).bind λr_65=>some ((wy .u64 (orI .u64 (orI .u64 r_53 r_57) (orI .u64 r_61 r_65)) 9259542123273814144)==0)else some false).bind λv_50=>bif v_50 then (vo s_45 32 s_45.size).bind λy_68=>some (.go y_68)else some (.brk s_45)
noncomputable def dW (s_7:ByteArray):Option (Ctl (ByteArray) (Unit)) :=
  bif (decide ((s_7.size:Int)>0))then (pM s_7 0).bind λb_13=>bif (decide ((b_13.toNat:Int)<128))then (vo s_7 1 s_7.size).bind λy_16=>(bif (decide ((y_16.size:Int)>8))then (bD y_16).bind λr_21=>some ((wy .u64 r_21 9259542123273814144)==0)else some false).bind λv_18=>(bif v_18 then (vo y_16 8 y_16.size).bind λy_26=>(bif (decide ((y_26.size:Int)>16))then (bD y_26).bind λr_31=>(vo y_26 8 y_26.size).bind λy_33=>(bD y_33).bind λr_35=>some ((wy .u64 (orI .u64 r_31 r_35) 9259542123273814144)==0)else some false).bind λv_28=>bif v_28 then (vo y_26 16 y_26.size).bind λy_38=>(iJ y_38 (λs=>fQ s)).bind λo_48=>thenC o_48 (λs_45=>some s_45) (λ_=>none)else some y_26 else some y_16).bind λv_23=>some (.go v_23)else none else some (.brk s_7)
noncomputable def fB (s_1:ByteArray):Option (Bool) :=
  (iJ s_1 (λs=>dW s)).bind λo_10=>thenC o_10 (λs_7=>some true) (λ_=>none)
def gW (c_2:Int) (s_8:ByteArray):Option (Ctl (ByteArray) (Unit)) :=
  (bif (decide ((s_8.size:Int)>0))then (pM s_8 (w64 ((s_8.size:Int)-1))).bind λb_16=>some ((b_16.toNat:Int)==c_2)else some false).bind λv_13=>bif v_13 then (vo s_8 0 (w64 ((s_8.size:Int)-1))).bind λy_19=>some (.go y_19)else some (.brk s_8)
noncomputable def strings_trimRightByte (s_1:ByteArray) (c_2:Int):Option (ByteArray) :=
  (iJ s_1 (λs=>gW c_2 s)).bind λo_11=>thenC o_11 (λs_8=>some s_8) (λ_=>none)
def ik (c_2:Int) (s_8:ByteArray):Option (Ctl (ByteArray) (Unit)) :=
  (bif (decide ((s_8.size:Int)>0))then (pM s_8 0).bind λb_16=>some ((b_16.toNat:Int)==c_2)else some false).bind λv_13=>bif v_13 then (vo s_8 1 s_8.size).bind λy_19=>some (.go y_19)else some (.brk s_8)
noncomputable def strings_trimLeftByte (s_1:ByteArray) (c_2:Int):Option (ByteArray) :=
  (iJ s_1 (λs=>ik c_2 s)).bind λo_11=>thenC o_11 (λs_8=>some s_8) (λ_=>none)
noncomputable def oJ (s_1:ByteArray) (cutset_2:ByteArray):Option (ByteArray) :=
  (bif (sEq s_1 (⟨#[]⟩:ByteArray))then some true else some (sEq cutset_2 (⟨#[]⟩:ByteArray))).bind λv_3=>bif v_3 then some s_1 else (bif ((cutset_2.size:Int)==1)then (pM cutset_2 0).bind λb_10=>some (decide ((b_10.toNat:Int)<128))else some false).bind λv_7=>bif v_7 then (pM cutset_2 0).bind λb_13=>(strings_trimRightByte s_1 (b_13.toNat:Int)).bind λr_15=>(pM cutset_2 0).bind λb_17=>(strings_trimLeftByte r_15 (b_17.toNat:Int)).bind λr_19=>some r_19 else none
def gL (s_1:ByteArray) (c_2:Int):Option (Int) :=
  some (ixB s_1 c_2)
def iZ (s_1:ByteArray) (substr_2:ByteArray):Option (Int) :=
  (bif ((substr_2.size:Int)==0)then some true else some (sEq substr_2 s_1)).bind λv_3=>bif v_3 then some 0 else bif ((substr_2.size:Int)==1)then (pM substr_2 0).bind λb_8=>(gL s_1 (b_8.toNat:Int)).bind λr_10=>some r_10 else bif (decide ((substr_2.size:Int)>=(s_1.size:Int)))then some (-1)else none
def strings_Index (s_1:ByteArray) (substr_2:ByteArray):Option (Int) :=
  (iZ s_1 substr_2).bind λr_3=>some r_3
def strings_Contains (s_1:ByteArray) (substr_2:ByteArray):Option (Bool) :=
  (strings_Index s_1 substr_2).bind λr_3=>some (decide (r_3>=0))
def oM (s_1:ByteArray) (s_7:Int):Option (Ctl (Int) (Bool)) :=
  bif (decide (s_7<(s_1.size:Int)))then ((pM s_1 s_7).bind λb_15=>bif (decide ((b_15.toNat:Int)<32))then some true else (pM s_1 s_7).bind λb_18=>some ((b_18.toNat:Int)==127)).bind λv_13=>bif v_13 then some (.ret false)else some (.go (w64 (s_7+1)))else some (.brk s_7)
noncomputable def qA (s_1:ByteArray):Option (Bool) :=
  (iJ 0 (λs=>oM s_1 s)).bind λo_10=>thenC o_10 (λs_7=>((fB s_1).bind λr_23=>bif r_23 then (oJ s_1 (⟨#[32]⟩:ByteArray)).bind λr_26=>bif (sEq r_26 s_1)then (strings_Contains s_1 (⟨#[32,32]⟩:ByteArray)).bind λr_29=>some (!r_29)else some false else some false).bind λv_21=>some v_21) (λr=>some r)
def jV (k_29:Nat) (x_31:Rect) (s_34:Unit):Option (Ctl (Unit) (Int)) :=
  (mR x_31).bind λr_40=>bif (r_40 != 0)then some (.ret r_40)else some (.go ())
noncomputable def j6 (a_1:Alert):Option (Int) :=
  ((fu a_1.Id).bind λr_5=>bif (!r_5)then some true else (fu a_1.Sender).bind λr_8=>some (!r_8)).bind λv_3=>bif v_3 then some 5 else (aR a_1.Kind 1 3).bind λr_11=>bif r_11 then some 4 else (ll a_1).bind λr_14=>bif (r_14 != 0)then some r_14 else ((dH a_1.At).bind λr_19=>bif (!r_19)then some true else (aR a_1.Until (w64 (a_1.At+1)) (w64 (a_1.At+2592000000))).bind λr_22=>bif r_22 then some true else (aR a_1.Weight 1 9).bind λr_25=>some r_25).bind λv_17=>bif v_17 then some 1 else bif (decide ((a_1.Areas.length:Int)>20))then some 2 else (forL a_1.Areas () (λk x s=>jV k x s)).bind λo_37=>thenC o_37 (λs_34=>bif (!((a_1.Kind==3)==((a_1.Areas.length:Int)==0)))then some 3 else bif (decide ((a_1.Text.size:Int)>500))then some 2 else ((qA a_1.Text).bind λr_47=>bif (!r_47)then some true else bif (sEq a_1.Text (⟨#[]⟩:ByteArray))then some (!(a_1.Kind==3))else some false).bind λv_45=>bif v_45 then some 3 else some 0) (λr=>some r)
def p9 (a_1:Alert) (b_2:Alert):Option (Int) :=
  (cmp_Compare_int a_1.At b_2.At).bind λr_5=>(strings_Compare a_1.Id b_2.Id).bind λr_7=>(wJ ([r_5,r_7]:List Int)).bind λr_9=>some r_9
noncomputable def gY (l_1:(List Alert)) (k_3:Nat) (x_5:Alert) (s_8:Unit):Option (Ctl (Unit) (Int)) :=
  (j6 x_5).bind λr_14=>bif (r_14 != 0)then some (.ret r_14)else (bif (decide ((k_3:Int)>0))then (idx l_1 (w64 ((k_3:Int)-1))).bind λy_20=>(p9 y_20 x_5).bind λr_22=>some (decide (r_22>=0))else some false).bind λv_17=>bif v_17 then some (.ret 7)else some (.go ())
def jJ (k_26:Nat) (x_28:Alert) (s_31:(List (ByteArray×Bool))):Option (Ctl ((List (ByteArray×Bool))) (Int)) :=
  bif ((iM eqS s_31 x_28.Id).getD false)then some (.ret 6)else some (.go (vz eqS s_31 x_28.Id true))
noncomputable def jH (l_1:(List Alert)):Option (Int) :=
  bif (decide ((l_1.length:Int)>300))then some 2 else (forL l_1 () (λk x s=>gY l_1 k x s)).bind λo_11=>thenC o_11 (λs_8=>(forL l_1 ([]:List (ByteArray×Bool)) (λk x s=>jJ k x s)).bind λo_34=>thenC o_34 (λs_31=>some 0) (λr=>some r)) (λr=>some r)
noncomputable def iO (l_1:(List Post)) (k_3:Nat) (x_5:Post) (s_8:Unit):Option (Ctl (Unit) (Int)) :=
  (fu x_5.Player).bind λr_14=>bif (!r_14)then some (.ret 5)else ((aR x_5.X (-100000) 100000).bind λr_19=>bif r_19 then some true else (aR x_5.Y (-100000) 100000).bind λr_22=>some r_22).bind λv_17=>bif v_17 then some (.ret 1)else (bif (decide ((k_3:Int)>0))then (idx l_1 (w64 ((k_3:Int)-1))).bind λy_28=>some (sLe x_5.Player y_28.Player)else some false).bind λv_25=>bif v_25 then some (.ret 7)else some (.go ())
noncomputable def jX (l_1:(List Post)):Option (Int) :=
  bif (decide ((l_1.length:Int)>500))then some 2 else (forL l_1 () (λk x s=>iO l_1 k x s)).bind λo_11=>thenC o_11 (λs_8=>some 0) (λr=>some r)
noncomputable def lu (l_1:(List Alert)) (posts_2:(List Post)):Option (Int) :=
  (jH l_1).bind λr_3=>bif (r_3 != 0)then some r_3 else (jX posts_2).bind λr_6=>some r_6
def rf (r_1:Rect) (p_2:Post):Option (Bool) :=
  (bif (decide (r_1.X<=p_2.X))then bif (decide (p_2.X<(w64 (r_1.X+r_1.W))))then bif (decide (r_1.Y<=p_2.Y))then some (decide (p_2.Y<(w64 (r_1.Y+r_1.H))))else some false else some false else some false).bind λv_4=>some v_4
def eO (f_2:Rect->Option Bool) (k_3:Nat) (x_5:Rect) (s_8:Unit):Option (Ctl (Unit) (Int)) :=
  (f_2 x_5).bind λr_13=>bif r_13 then some (.ret (k_3:Int))else some (.go ())
def fH (s_1:(List Rect)) (f_2:Rect->Option Bool):Option (Int) :=
  (forL s_1 () (λk x s=>eO f_2 k x s)).bind λo_11=>thenC o_11 (λs_8=>some (-1)) (λr=>some r)
def eQ (s_1:(List Rect)) (f_2:Rect->Option Bool):Option (Bool) :=
  (fH s_1 f_2).bind λr_3=>some (decide (r_3>=0))
def pY (a_1:Alert) (p_2:Post):Option (Bool) :=
  (eQ a_1.Areas (λx0=>rf x0 p_2)).bind λr_5=>some r_5
noncomputable def nE (a_1:Alert) (p_2:Post):Option (Bool×Int) :=
  (lu ([a_1]:List Alert) ([p_2]:List Post)).bind λr_5=>bif (r_5 != 0)then some (false,r_5)else (pY a_1 p_2).bind λr_8=>some (r_8,0)
def wP (k_2:Nat) (x_4:Int) (s_7:Unit):Option (Ctl (Unit) (Int)) :=
  bif (x_4 != 0)then some (.ret x_4)else some (.go ())
def yn (l_1:(List Int)):Option (Int) :=
  (forL l_1 () (λk x s=>wP k x s)).bind λo_10=>thenC o_10 (λs_7=>some 0) (λr=>some r)
noncomputable def ol  : Option (Bool) :=
  (qI ([(⟨0,0,2,2⟩:Rect),(⟨1,1,2,2⟩:Rect)]:List Rect)).bind λr_1=>(lV (⟨(⟨#[97]⟩:ByteArray),(⟨#[98]⟩:ByteArray),0,0,0,1,127,([]:List Int),1,2,0,([]:List ByteArray),false⟩:Entry) 0 (⟨0,86400000⟩:Window)).bind λr_3=>(qE (⟨(⟨#[97]⟩:ByteArray),(⟨#[]⟩:ByteArray),(⟨0,100⟩:Window),([]:List ByteArray),10,0,0⟩:Campaign) 50).bind λr_5=>(qz ([(⟨(⟨#[112]⟩:ByteArray),0,100⟩:Beat),(⟨(⟨#[112]⟩:ByteArray),1000,1300⟩:Beat)]:List Beat) (⟨#[112]⟩:ByteArray) 700).bind λr_7=>(nE (⟨(⟨#[97]⟩:ByteArray),(⟨#[115]⟩:ByteArray),1,([]:List ByteArray),0,5,1,([(⟨0,0,2,2⟩:Rect)]:List Rect),(⟨#[120]⟩:ByteArray)⟩:Alert) (⟨(⟨#[112]⟩:ByteArray),1,1⟩:Post)).bind λr_10=>((yn ([r_1.2,r_3.2,r_5.2,r_7.2,r_10.2]:List Int)).bind λr_14=>bif (r_14==0)then bif (r_1.1==7)then bif ((r_3.1.length:Int)==1)then bif (r_5.1==5)then bif (r_7.1==500)then some r_10.1 else some false else some false else some false else some false else some false).bind λv_12=>some v_12
def kE (c_1:Campaign) (k_2:ByteArray):Option (Int) :=
  (strings_Compare c_1.Key k_2).bind λr_4=>some r_4
def bW (x_1:(List Campaign)) (cmp_3:Campaign->ByteArray->Option Int) (target_2:ByteArray) (s_9:Int×Int):Option (Ctl (Int×Int) (Unit)) :=
  bif (decide (s_9.1<s_9.2))then (CL .u64 (IntKind.u64.wrap (w64 (s_9.1+s_9.2))) 1).bind λq_15=>(idx x_1 (w64 q_15)).bind λy_17=>(cmp_3 y_17 target_2).bind λr_19=>bif (decide (r_19<0))then some (.go ((w64 ((w64 q_15)+1)),s_9.2))else some (.go (s_9.1,(w64 q_15)))else some (.brk (s_9.1,s_9.2))
noncomputable def bG (x_1:(List Campaign)) (target_2:ByteArray) (cmp_3:Campaign->ByteArray->Option Int):Option (Int×Bool) :=
  (iJ (0,(x_1.length:Int)) (λs=>bW x_1 cmp_3 target_2 s)).bind λo_12=>thenC o_12 (λs_9=>(bif (decide (s_9.1<(x_1.length:Int)))then (idx x_1 s_9.1).bind λy_25=>(cmp_3 y_25 target_2).bind λr_27=>some (r_27==0)else some false).bind λv_22=>some (s_9.1,v_22)) (λ_=>none)
noncomputable def mg (l_1:(List Campaign)) (key_2:ByteArray):Option (Int×Bool) :=
  (bG l_1 key_2 (λx0 x1=>kE x0 x1)).bind λr_3=>some (r_3.1,r_3.2)
def j3 (s_1:Spot) (k_2:ByteArray):Option (Int) :=
  (strings_Compare s_1.Key k_2).bind λr_4=>some r_4
def dx (x_1:(List Spot)) (cmp_3:Spot->ByteArray->Option Int) (target_2:ByteArray) (s_9:Int×Int):Option (Ctl (Int×Int) (Unit)) :=
  bif (decide (s_9.1<s_9.2))then (CL .u64 (IntKind.u64.wrap (w64 (s_9.1+s_9.2))) 1).bind λq_15=>(idx x_1 (w64 q_15)).bind λy_17=>(cmp_3 y_17 target_2).bind λr_19=>bif (decide (r_19<0))then some (.go ((w64 ((w64 q_15)+1)),s_9.2))else some (.go (s_9.1,(w64 q_15)))else some (.brk (s_9.1,s_9.2))
noncomputable def bU (x_1:(List Spot)) (target_2:ByteArray) (cmp_3:Spot->ByteArray->Option Int):Option (Int×Bool) :=
  (iJ (0,(x_1.length:Int)) (λs=>dx x_1 cmp_3 target_2 s)).bind λo_12=>thenC o_12 (λs_9=>(bif (decide (s_9.1<(x_1.length:Int)))then (idx x_1 s_9.1).bind λy_25=>(cmp_3 y_25 target_2).bind λr_27=>some (r_27==0)else some false).bind λv_22=>some (s_9.1,v_22)) (λ_=>none)
noncomputable def mr (l_1:(List Spot)) (key_2:ByteArray):Option (Int×Bool) :=
  (bU l_1 key_2 (λx0 x1=>j3 x0 x1)).bind λr_3=>some (r_3.1,r_3.2)
noncomputable def jh (spots_1:(List Spot)) (l_2:(List Campaign)) (s_3:(List Share)) (i_4:Int):Option (Int) :=
  (idx s_3 i_4).bind λy_5=>(mg l_2 y_5.Campaign).bind λr_8=>(mr spots_1 y_5.Spot).bind λr_10=>(bif (!r_8.2)then some true else some (!r_10.2)).bind λv_12=>bif v_12 then some 8 else (idx l_2 r_8.1).bind λy_16=>(idx spots_1 r_10.1).bind λy_18=>(jS y_16 y_18).bind λr_20=>bif (!r_20)then some 16 else (idx l_2 r_8.1).bind λy_23=>(aR y_5.Many 1 y_23.Most).bind λr_25=>bif r_25 then some 1 else (bif (decide (i_4>0))then (idx s_3 (w64 (i_4-1))).bind λy_31=>bif (sLt y_5.Campaign y_31.Campaign)then some true else (idx s_3 (w64 (i_4-1))).bind λy_34=>bif (sEq y_5.Campaign y_34.Campaign)then (idx s_3 (w64 (i_4-1))).bind λy_37=>some (sLe y_5.Spot y_37.Spot)else some false else some false).bind λv_28=>bif v_28 then some 7 else some 0
def jr (x_1:Spot) (p_2:(List (ByteArray×Int))):Option (Bool) :=
  some (decide (((iM eqS p_2 x_1.Key).getD 0)>x_1.Room))
def bP (f_2:Spot->Option Bool) (k_3:Nat) (x_5:Spot) (s_8:Unit):Option (Ctl (Unit) (Int)) :=
  (f_2 x_5).bind λr_13=>bif r_13 then some (.ret (k_3:Int))else some (.go ())
def dL (s_1:(List Spot)) (f_2:Spot->Option Bool):Option (Int) :=
  (forL s_1 () (λk x s=>bP f_2 k x s)).bind λo_11=>thenC o_11 (λs_8=>some (-1)) (λr=>some r)
def bO (s_1:(List Spot)) (f_2:Spot->Option Bool):Option (Bool) :=
  (dL s_1 f_2).bind λr_3=>some (decide (r_3>=0))
def jv (c_1:Campaign) (p_2:(List (ByteArray×Int))):Option (Bool) :=
  some (decide (((iM eqS p_2 c_1.Key).getD 0)>c_1.Goal))
def bu (f_2:Campaign->Option Bool) (k_3:Nat) (x_5:Campaign) (s_8:Unit):Option (Ctl (Unit) (Int)) :=
  (f_2 x_5).bind λr_13=>bif r_13 then some (.ret (k_3:Int))else some (.go ())
def dh (s_1:(List Campaign)) (f_2:Campaign->Option Bool):Option (Int) :=
  (forL s_1 () (λk x s=>bu f_2 k x s)).bind λo_11=>thenC o_11 (λs_8=>some (-1)) (λr=>some r)
def bz (s_1:(List Campaign)) (f_2:Campaign->Option Bool):Option (Bool) :=
  (dh s_1 f_2).bind λr_3=>some (decide (r_3>=0))
noncomputable def eF (spots_1:(List Spot)) (l_2:(List Campaign)) (s_3:(List Share)) (k_12:Nat) (x_14:Share) (s_17:(List (ByteArray×Int))×(List (ByteArray×Int))):Option (Ctl ((List (ByteArray×Int))×(List (ByteArray×Int))) (Int)) :=
  (jh spots_1 l_2 s_3 (k_12:Int)).bind λr_23=>bif (r_23 != 0)then some (.ret r_23)else some (.go ((vz eqS s_17.1 x_14.Spot (w64 (((iM eqS s_17.1 x_14.Spot).getD 0)+x_14.Many))),(vz eqS s_17.2 x_14.Campaign (w64 (((iM eqS s_17.2 x_14.Campaign).getD 0)+x_14.Many)))))
noncomputable def iL (spots_1:(List Spot)) (l_2:(List Campaign)) (s_3:(List Share)):Option (Int) :=
  (dz spots_1 l_2).bind λr_4=>bif (r_4 != 0)then some r_4 else bif (decide ((s_3.length:Int)>1800))then some 2 else (forL s_3 (([]:List (ByteArray×Int)),([]:List (ByteArray×Int))) (λk x s=>eF spots_1 l_2 s_3 k x s)).bind λo_20=>thenC o_20 (λs_17=>((bO spots_1 (λx0=>jr x0 s_17.1)).bind λr_28=>bif r_28 then some true else (bz l_2 (λx0=>jv x0 s_17.2)).bind λr_32=>some r_32).bind λv_26=>bif v_26 then some 12 else some 0) (λr=>some r)
def iq (k_15:Nat) (x_17:Campaign) (s_20:Int):Option (Ctl (Int) (Unit)) :=
  some (.go (w64 (s_20+x_17.Goal)))
def fT (k_26:Nat) (x_28:Share) (s_31:Int):Option (Ctl (Int) (Unit)) :=
  some (.go (w64 (s_31+x_28.Many)))
noncomputable def oK (l_1:(List Int)):Option (Bool) :=
  (ib (⟨l_1,0⟩:Stream)).bind λr_3=>(dQ r_3.2 4).bind λr_6=>(o6 r_3.1 r_6.1).bind λr_9=>(qp r_3.1 r_6.1).bind λr_11=>(kS r_3.1 r_6.1).bind λr_13=>(forL r_6.1 0 (λk x s=>iq k x s)).bind λo_23=>thenC o_23 (λs_20=>(forL r_13.1 0 (λk x s=>fT k x s)).bind λo_34=>thenC o_34 (λs_31=>(bif (r_9.2 != 0)then some true else bif (r_11.2 != 0)then some true else bif (decide (r_9.1>s_20))then some true else some (!(r_11.1==(r_9.1==s_20)))).bind λv_37=>bif v_37 then some false else bif (!r_11.1)then (bif (r_13.2==12)then bif ((r_13.1.length:Int)==0)then (ol).bind λr_48=>some r_48 else some false else some false).bind λv_44=>some v_44 else (bif (r_13.2==0)then bif (s_31==s_20)then (iL r_3.1 r_6.1 r_13.1).bind λr_54=>bif (r_54==0)then (ol).bind λr_57=>some r_57 else some false else some false else some false).bind λv_50=>some v_50) (λ_=>none)) (λ_=>none)
end Go.Proofs.YtekmkepojbhafacGreatDoor.Law

