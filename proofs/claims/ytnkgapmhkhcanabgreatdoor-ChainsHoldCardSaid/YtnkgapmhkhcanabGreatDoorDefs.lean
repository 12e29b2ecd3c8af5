/-
  The functions of the program, as plain functions over data (written by a program of ours).
-/
import Derived.Test.YtnkgapmhkhcanabGreatDoorEng5
open Go Go.Eng
namespace Go.Proofs.YtnkgapmhkhcanabGreatDoor.Law
set_option maxRecDepth 100000
set_option linter.unusedVariables false
set_option maxHeartbeats 1000000
structure Stream where
  L:(List Int)
  f_at:Int
def Stream.enc (s:Stream):List D:=[dl eI s.L,.int .i64 s.f_at]

structure Log_ where
  Player:ByteArray
  Item:ByteArray
  No:Int
  Clock:Int
  Long:Int
  Sum:ByteArray
def Log_.enc (s:Log_):List D:=[.str s.Player,.str s.Item,.int .i64 s.No,.int .i64 s.Clock,.int .i64 s.Long,.str s.Sum]
abbrev Log_.v (s:Log_):List V:=[(vS s.Player),(vS s.Item),(vI s.No),(vI s.Clock),(vI s.Long),(vS s.Sum)]

structure Rect where
  X:Int
  Y:Int
  W:Int
  H:Int
def Rect.enc (s:Rect):List D:=[.int .i64 s.X,.int .i64 s.Y,.int .i64 s.W,.int .i64 s.H]
abbrev Rect.v (s:Rect):List V:=[(vI s.X),(vI s.Y),(vI s.W),(vI s.H)]

structure Run where
  f_from:Int
  f_to:Int
def Run.enc (s:Run):List D:=[.int .i64 s.f_from,.int .i64 s.f_to]

structure Entry where
  Key:ByteArray
  Item:ByteArray
  Version:Int
  First:Int
  Last:Int
  Every:Int
  Days:Int
  Except:(List Int)
  From:Int
  To:Int
  Prio:Int
  Tags:(List ByteArray)
  Gone:Bool
def Entry.enc (s:Entry):List D:=[.str s.Key,.str s.Item,.int .i64 s.Version,.int .i64 s.First,.int .i64 s.Last,.int .i64 s.Every,.int .i64 s.Days,dl eI s.Except,.int .i64 s.From,.int .i64 s.To,.int .i64 s.Prio,dl eS s.Tags,.bool s.Gone]
abbrev Entry.v (s:Entry):List V:=[(vS s.Key),(vS s.Item),(vI s.Version),(vI s.First),(vI s.Last),(vI s.Every),(vI s.Days),(vL eI s.Except),(vI s.From),(vI s.To),(vI s.Prio),(vL eS s.Tags),(vB s.Gone)]

structure Window where
  From:Int
  To:Int
def Window.enc (s:Window):List D:=[.int .i64 s.From,.int .i64 s.To]

structure Campaign where
  Key:ByteArray
  Class:ByteArray
  Time:Window
  Tags:(List ByteArray)
  Goal:Int
  Most:Int
  Cents:Int
def Campaign.enc (s:Campaign):List D:=[.str s.Key,.str s.Class,.int .i64 s.Time.From,.int .i64 s.Time.To,dl eS s.Tags,.int .i64 s.Goal,.int .i64 s.Most,.int .i64 s.Cents]
abbrev Campaign.v (s:Campaign):List V:=[(vS s.Key),(vS s.Class),(vI s.Time.From),(vI s.Time.To),(vL eS s.Tags),(vI s.Goal),(vI s.Most),(vI s.Cents)]

structure Beat where
  Player:ByteArray
  At:Int
  Clock:Int
def Beat.enc (s:Beat):List D:=[.str s.Player,.int .i64 s.At,.int .i64 s.Clock]
abbrev Beat.v (s:Beat):List V:=[(vS s.Player),(vI s.At),(vI s.Clock)]

structure Beat_ where
  f_from:Int
  f_to:Int
def Beat_.enc (s:Beat_):List D:=[.int .i64 s.f_from,.int .i64 s.f_to]

structure Alert where
  Id:ByteArray
  Sender:ByteArray
  Kind:Int
  Refs:(List ByteArray)
  At:Int
  Until:Int
  Weight:Int
  Areas:(List Rect)
  Text:ByteArray
def Alert.enc (s:Alert):List D:=[.str s.Id,.str s.Sender,.int .i64 s.Kind,dl eS s.Refs,.int .i64 s.At,.int .i64 s.Until,.int .i64 s.Weight,dl Rect.enc s.Areas,.str s.Text]
abbrev Alert.v (s:Alert):List V:=[(vS s.Id),(vS s.Sender),(vI s.Kind),(vL eS s.Refs),(vI s.At),(vI s.Until),(vI s.Weight),(vL Rect.enc s.Areas),(vS s.Text)]

structure Post where
  Player:ByteArray
  X:Int
  Y:Int
def Post.enc (s:Post):List D:=[.str s.Player,.int .i64 s.X,.int .i64 s.Y]
abbrev Post.v (s:Post):List V:=[(vS s.Player),(vI s.X),(vI s.Y)]

def rz (x_1:Int) (n_2:Int):Option (Int) :=
  bif (decide (n_2<1))then some 0 else (GM .i64 x_1 n_2).bind λq_4=>(bif (decide (q_4<0))then some (w64 (q_4+n_2))else some q_4).bind λv_6=>some v_6
def iB (s_1:Stream) (n_2:Int):Option (Int×Stream) :=
  bif ((s_1.L.length:Int)==0)then (rz (w64 ((w64 (s_1.f_at+1))*7919)) n_2).bind λr_4=>some (r_4,(⟨s_1.L,(w64 (s_1.f_at+1))⟩:Stream))else (GM .i64 (w64 ((w64 (s_1.f_at+1))-1)) (s_1.L.length:Int)).bind λq_6=>(Gy .i64 (w64 ((w64 (s_1.f_at+1))-1)) (s_1.L.length:Int)).bind λq_8=>(idx s_1.L q_6).bind λy_10=>(rz y_10 1073741824).bind λr_12=>(rz (w64 (r_12+(w64 (q_8*(w64 (7919+q_6)))))) n_2).bind λr_14=>some (r_14,(⟨s_1.L,(w64 (s_1.f_at+1))⟩:Stream))
def iT (s_1:Stream) (low_2:Int) (high_3:Int):Option (Int×Stream) :=
  bif (decide (high_3<low_2))then some (low_2,s_1)else (iB s_1 (w64 ((w64 (high_3-low_2))+1))).bind λr_5=>some ((w64 (low_2+r_5.1)),r_5.2)
def kN (s_1:Stream) (l_2:(List ByteArray)):Option (ByteArray×Stream) :=
  (iB s_1 (l_2.length:Int)).bind λr_3=>(idx l_2 r_3.1).bind λy_6=>some (y_6,r_3.2)
def lq (x0:ByteArray) (x1:ByteArray):Option (ByteArray) :=
  Fj x0 x1
def lI (s_1:ByteArray):Option (Bool) :=
  (bif ((s_1.size:Int)==16)then (lq s_1 (⟨#[48,49,50,51,52,53,54,55,56,57,97,98,99,100,101,102]⟩:ByteArray)).bind λr_5=>some (sEq r_5 (⟨#[]⟩:ByteArray))else some false).bind λv_2=>some v_2
def jV (last_1:ByteArray):Option (Int) :=
  (bif (sNe last_1 (⟨#[]⟩:ByteArray))then (lI last_1).bind λr_5=>some (!r_5)else some false).bind λv_2=>bif v_2 then some 3 else some 0
def bJ (s_1:(List Log_)):Option ((List Log_)) :=
  (mg [] s_1).bind λa_4=>some a_4
def je (s_1:ByteArray) (s_7:Int):Option (Ctl (Int) (Bool)) :=
  bif (decide (s_7<(s_1.size:Int)))then (rW s_1 s_7).bind λb_13=>(bif (decide ((b_13.toNat:Int)>=97))then bif (decide ((b_13.toNat:Int)<=122))then some false else bif (decide (s_7>0))then bif (decide ((b_13.toNat:Int)>=48))then bif (decide ((b_13.toNat:Int)<=57))then some false else bif ((b_13.toNat:Int)==45)then some false else some (!((b_13.toNat:Int)==95))else bif ((b_13.toNat:Int)==45)then some false else some (!((b_13.toNat:Int)==95))else some true else bif (decide (s_7>0))then bif (decide ((b_13.toNat:Int)>=48))then bif (decide ((b_13.toNat:Int)<=57))then some false else bif ((b_13.toNat:Int)==45)then some false else some (!((b_13.toNat:Int)==95))else bif ((b_13.toNat:Int)==45)then some false else some (!((b_13.toNat:Int)==95))else some true).bind λv_15=>bif v_15 then some (.ret false)else some (.go (w64 (s_7+1)))else some (.brk s_7)
noncomputable def dY (s_1:ByteArray):Option (Bool) :=
  (fI 0 (λs=>je s_1 s)).bind λo_10=>thenC o_10 (λs_7=>(bif (sNe s_1 (⟨#[]⟩:ByteArray))then some (decide ((s_1.size:Int)<=40))else some false).bind λv_30=>some v_30) (λr=>some r)
def aP (n_1:Int) (low_2:Int) (high_3:Int):Option (Bool) :=
  (bif (decide (n_1<low_2))then some true else some (decide (n_1>high_3))).bind λv_4=>some v_4
noncomputable def jA (l_1:Log_):Option (Int) :=
  ((dY l_1.Player).bind λr_5=>bif (!r_5)then some true else (dY l_1.Item).bind λr_8=>some (!r_8)).bind λv_3=>bif v_3 then some 5 else ((aP l_1.No 1 1000000).bind λr_13=>bif r_13 then some true else (aP l_1.Clock 0 345686399999).bind λr_16=>bif r_16 then some true else (aP l_1.Long 1 86400000).bind λr_19=>some r_19).bind λv_11=>bif v_11 then some 1 else some 0
def strconv_Itoa (x0:Int):Option (ByteArray) :=
  KX x0
def ow (l_1:Log_):Option (ByteArray) :=
  (uN l_1.Player (⟨#[32]⟩:ByteArray)).bind λs_3=>(uN s_3 l_1.Item).bind λs_5=>(uN s_5 (⟨#[32]⟩:ByteArray)).bind λs_7=>(strconv_Itoa l_1.No).bind λr_9=>(uN s_7 r_9).bind λs_11=>(uN s_11 (⟨#[32]⟩:ByteArray)).bind λs_13=>(strconv_Itoa l_1.Clock).bind λr_15=>(uN s_13 r_15).bind λs_17=>(uN s_17 (⟨#[32]⟩:ByteArray)).bind λs_19=>(strconv_Itoa l_1.Long).bind λr_21=>(uN s_19 r_21).bind λs_23=>some s_23
def eY (x_1:Int):Option (Bool) :=
  some ((Aj .i64 x_1 (w64 (x_1-1)))==0)
def jq (x0:Int):Option (Int) :=
  tzF x0
def bC (base_3:Int) (r_22:Int) (s_29:(List Int)×Int×Int):Option (Ctl ((List Int)×Int×Int) (Unit)) :=
  bif (decide (s_29.2.1>=(IntKind.u64.wrap base_3)))then (rW (⟨#[48,49,50,51,52,53,54,55,56,57,97,98,99,100,101,102,103,104,105,106,107,108,109,110,111,112,113,114,115,116,117,118,119,120,121,122]⟩:ByteArray) (Aj .u64 s_29.2.1 (IntKind.u64.wrap ((IntKind.u64.wrap base_3)-1)))).bind λb_35=>(inN (w64 (s_29.2.2-1)) 65).bind λ_=>(s_29.1[((w64 (s_29.2.2-1))).toNat]?).bind λe_38=>(Gi .u64 s_29.2.1 (IntKind.u64.wrap r_22)).bind λq_40=>some (.go ((s_29.1.set ((w64 (s_29.2.2-1))).toNat (b_35.toNat:Int)),q_40,(w64 (s_29.2.2-1))))else some (.brk (s_29.1,s_29.2.1,s_29.2.2))
def gm (base_3:Int) (s_53:(List Int)×Int×Int):Option (Ctl ((List Int)×Int×Int) (Unit)) :=
  bif (decide (s_53.2.1>=(IntKind.u64.wrap base_3)))then (Gy .u64 s_53.2.1 (IntKind.u64.wrap base_3)).bind λq_59=>(rW (⟨#[48,49,50,51,52,53,54,55,56,57,97,98,99,100,101,102,103,104,105,106,107,108,109,110,111,112,113,114,115,116,117,118,119,120,121,122]⟩:ByteArray) (IntKind.u64.wrap (s_53.2.1-(IntKind.u64.wrap (q_59*(IntKind.u64.wrap base_3)))))).bind λb_61=>(inN (w64 (s_53.2.2-1)) 65).bind λ_=>(s_53.1[((w64 (s_53.2.2-1))).toNat]?).bind λe_64=>some (.go ((s_53.1.set ((w64 (s_53.2.2-1))).toNat (b_61.toNat:Int)),q_59,(w64 (s_53.2.2-1))))else some (.brk (s_53.1,s_53.2.1,s_53.2.2))
noncomputable def dM (dst_1:(List Int)) (u_2:Int) (base_3:Int) (neg_4:Bool) (append_5:Bool):Option ((List Int)×ByteArray) :=
  (bif (decide (base_3<2))then some true else bif (base_3==10)then some true else some (decide (base_3>36))).bind λv_6=>(bif v_6 then none else some ()).bind λv_10=>(bif neg_4 then some (IntKind.u64.wrap (0-u_2))else some u_2).bind λv_14=>(eY base_3).bind λr_17=>(bif r_17 then (jq (IntKind.u64.wrap base_3)).bind λr_22=>(fI ((List.replicate 65 (0:Int)),v_14,65) (λs=>bC base_3 r_22 s)).bind λo_32=>thenC o_32 (λs_29=>(rW (⟨#[48,49,50,51,52,53,54,55,56,57,97,98,99,100,101,102,103,104,105,106,107,108,109,110,111,112,113,114,115,116,117,118,119,120,121,122]⟩:ByteArray) s_29.2.1).bind λb_42=>(inN (w64 (s_29.2.2-1)) 65).bind λ_=>(s_29.1[((w64 (s_29.2.2-1))).toNat]?).bind λe_45=>some ((s_29.1.set ((w64 (s_29.2.2-1))).toNat (b_42.toNat:Int)),(w64 (s_29.2.2-1)))) (λ_=>none)else (fI ((List.replicate 65 (0:Int)),v_14,65) (λs=>gm base_3 s)).bind λo_56=>thenC o_56 (λs_53=>(rW (⟨#[48,49,50,51,52,53,54,55,56,57,97,98,99,100,101,102,103,104,105,106,107,108,109,110,111,112,113,114,115,116,117,118,119,120,121,122]⟩:ByteArray) s_53.2.1).bind λb_66=>(inN (w64 (s_53.2.2-1)) 65).bind λ_=>(s_53.1[((w64 (s_53.2.2-1))).toNat]?).bind λe_69=>some ((s_53.1.set ((w64 (s_53.2.2-1))).toNat (b_66.toNat:Int)),(w64 (s_53.2.2-1)))) (λ_=>none)).bind λv_19=>(bif neg_4 then (inN (w64 (v_19.2-1)) 65).bind λ_=>(v_19.1[((w64 (v_19.2-1))).toNat]?).bind λe_76=>some ((v_19.1.set ((w64 (v_19.2-1))).toNat 45),(w64 (v_19.2-1)))else some (v_19.1,v_19.2)).bind λv_72=>bif append_5 then (G6 v_72.1 65).bind λ_=>(nu v_72.1 v_72.2 (v_72.1.length:Int)).bind λ_=>none else (G6 v_72.1 65).bind λ_=>(nu v_72.1 v_72.2 (v_72.1.length:Int)).bind λ_=>some (([]:(List Int)),(Go.strOfNums (yJ v_72.1 ((v_72.2).toNat) (((v_72.1.length:Int)).toNat-(v_72.2).toNat))))
noncomputable def fH (i_1:Int) (base_2:Int):Option (ByteArray) :=
  bif (base_2==10)then bif (decide (i_1<100))then none else none else (dM ([]:List Int) i_1 base_2 false false).bind λr_6=>some r_6.2
noncomputable def iM (i_1:Int) (base_2:Int):Option (ByteArray) :=
  (fH i_1 base_2).bind λr_3=>some r_3
def strings_Repeat (x0:ByteArray) (x1:Int):Option (ByteArray) :=
  Ca x0 x1
def l9 (s_1:ByteArray) (k_2:Nat) (x_4:Nat) (s_7:Int):Option (Ctl (Int) (Unit)) :=
  (rW s_1 (k_2:Int)).bind λb_12=>some (.go (IntKind.u64.wrap ((FX .u64 s_7 (IntKind.u64.wrap (b_12.toNat:Int)))*1099511628211)))
noncomputable def oC (s_1:ByteArray):Option (ByteArray) :=
  (forL (List.range ((s_1.size:Int)).toNat) 14695981039346656037 (λk x s=>l9 s_1 k x s)).bind λo_10=>thenC o_10 (λs_7=>(iM s_7 16).bind λr_14=>(strings_Repeat (⟨#[48]⟩:ByteArray) (w64 (16-(r_14.size:Int)))).bind λr_16=>(uN r_16 r_14).bind λs_18=>some s_18) (λ_=>none)
noncomputable def oq (last_1:ByteArray) (l_2:Log_):Option (ByteArray) :=
  (uN last_1 (⟨#[32]⟩:ByteArray)).bind λs_4=>(ow l_2).bind λr_6=>(uN s_4 r_6).bind λs_8=>(oC s_8).bind λr_10=>some r_10
noncomputable def jw (l_2:(List Log_)) (k_11:Nat) (x_13:Log_) (s_16:(List Log_)×ByteArray):Option (Ctl ((List Log_)×ByteArray) ((List Log_)×Int)) :=
  (jA x_13).bind λr_22=>bif (r_22 != 0)then some (.ret (([]:(List Log_)),r_22))else (bif (decide ((k_11:Int)>0))then (idx l_2 0).bind λy_28=>some (sNe x_13.Player y_28.Player)else some false).bind λv_25=>bif v_25 then some (.ret (([]:(List Log_)),13))else (bif (decide ((k_11:Int)>0))then (idx l_2 (w64 ((k_11:Int)-1))).bind λy_34=>some (x_13.No != (w64 (y_34.No+1)))else some false).bind λv_31=>bif v_31 then some (.ret (([]:(List Log_)),16))else (oq s_16.2 x_13).bind λr_37=>(inR (k_11:Int) s_16.1).bind λ_=>(s_16.1[(0+((k_11:Int)).toNat)]?).bind λe_40=>some (.go ((s_16.1.set (0+((k_11:Int)).toNat) (⟨e_40.Player,e_40.Item,e_40.No,e_40.Clock,e_40.Long,r_37⟩:Log_)),r_37))
noncomputable def pF (last_1:ByteArray) (l_2:(List Log_)):Option ((List Log_)×Int) :=
  (jV last_1).bind λr_3=>bif (r_3 != 0)then some (([]:(List Log_)),r_3)else bif (decide ((l_2.length:Int)>2000))then some (([]:(List Log_)),2)else (bJ l_2).bind λr_7=>(forL l_2 (r_7,last_1) (λk x s=>jw l_2 k x s)).bind λo_19=>thenC o_19 (λs_16=>some (s_16.1,0)) (λr=>some r)
def gp (a_1:ByteArray) (b_2:ByteArray):Option (Int) :=
  some (BG a_1 b_2)
def strings_Compare (a_1:ByteArray) (b_2:ByteArray):Option (Int) :=
  (gp a_1 b_2).bind λr_3=>some r_3
def cmp_isNaN_int (x_1:Int):Option (Bool) :=
  some (x_1 != x_1)
def cmp_Compare_int (x_1:Int) (y_2:Int):Option (Int) :=
  (cmp_isNaN_int x_1).bind λr_3=>(cmp_isNaN_int y_2).bind λr_5=>bif r_3 then bif r_5 then some 0 else some (-1)else bif r_5 then some 1 else bif (decide (x_1<y_2))then some (-1)else bif (decide (x_1>y_2))then some 1 else some 0
def pg (k_2:Nat) (x_4:Int) (s_7:Unit):Option (Ctl (Unit) (Int)) :=
  bif (x_4 != 0)then some (.ret x_4)else some (.go ())
def mM (vals_1:(List Int)):Option (Int) :=
  (forL vals_1 () (λk x s=>pg k x s)).bind λo_10=>thenC o_10 (λs_7=>some 0) (λr=>some r)
def eZ (a_1:Log_) (b_2:Log_):Option (Int) :=
  (strings_Compare a_1.Player b_2.Player).bind λr_5=>(cmp_Compare_int a_1.No b_2.No).bind λr_7=>(mM ([r_5,r_7]:List Int)).bind λr_9=>some r_9
noncomputable def jR (l_1:(List Log_)) (k_3:Nat) (x_5:Log_) (s_8:Unit):Option (Ctl (Unit) (Int)) :=
  (jA x_5).bind λr_14=>bif (r_14 != 0)then some (.ret r_14)else (lI x_5.Sum).bind λr_17=>bif (!r_17)then some (.ret 3)else (bif (decide ((k_3:Int)>0))then (idx l_1 (w64 ((k_3:Int)-1))).bind λy_23=>(eZ y_23 x_5).bind λr_25=>some (decide (r_25>=0))else some false).bind λv_20=>bif v_20 then some (.ret 7)else some (.go ())
noncomputable def bW (l_1:(List Log_)):Option (Int) :=
  bif (decide ((l_1.length:Int)>2000))then some 2 else (forL l_1 () (λk x s=>jR l_1 k x s)).bind λo_11=>thenC o_11 (λs_8=>some 0) (λr=>some r)
noncomputable def iU (l_1:(List Log_)) (k_5:Nat) (x_7:Log_) (s_10:(List Int)):Option (Ctl ((List Int)) (Unit)) :=
  (bif (decide ((k_5:Int)>0))then (idx l_1 (w64 ((k_5:Int)-1))).bind λy_22=>bif (sEq y_22.Player x_7.Player)then (idx l_1 (w64 ((k_5:Int)-1))).bind λy_25=>some (y_25.No==(w64 (x_7.No-1)))else some false else some false).bind λv_19=>bif v_19 then (idx l_1 (w64 ((k_5:Int)-1))).bind λy_28=>(oq y_28.Sum x_7).bind λr_30=>(bif (sNe r_30 x_7.Sum)then (mg s_10 ([(k_5:Int)]:List Int)).bind λa_36=>some a_36 else some s_10).bind λv_32=>some (.go v_32)else bif (x_7.No != 1)then some (.go s_10)else (oq (⟨#[]⟩:ByteArray) x_7).bind λr_40=>(bif (sNe r_40 x_7.Sum)then (mg s_10 ([(k_5:Int)]:List Int)).bind λa_46=>some a_46 else some s_10).bind λv_42=>some (.go v_42)
noncomputable def jS (l_1:(List Log_)):Option ((List Int)×Int) :=
  (bW l_1).bind λr_2=>bif (r_2 != 0)then some (([]:(List Int)),r_2)else (forL l_1 ([]:List Int) (λk x s=>iU l_1 k x s)).bind λo_16=>thenC o_16 (λs_10=>some (s_10,0)) (λ_=>none)
def ik (l_1:(List Log_)) (k_5:Nat) (x_7:Log_) (s_10:(List Log_)):Option (Ctl ((List Log_)) (Unit)) :=
  (bif (decide ((k_5:Int)>0))then (idx l_1 (w64 ((k_5:Int)-1))).bind λy_22=>some (sEq y_22.Player x_7.Player)else some false).bind λv_19=>(bif v_19 then (idx l_1 (w64 ((k_5:Int)-1))).bind λy_27=>some (w64 (y_27.No+1))else some 1).bind λv_24=>(bif (decide (x_7.No>v_24))then (mg s_10 ([(⟨x_7.Player,(⟨#[]⟩:ByteArray),v_24,0,(w64 (x_7.No-v_24)),(⟨#[]⟩:ByteArray)⟩:Log_)]:List Log_)).bind λa_33=>some a_33 else some s_10).bind λv_29=>some (.go v_29)
noncomputable def ma (l_1:(List Log_)):Option ((List Log_)×Int) :=
  (bW l_1).bind λr_2=>bif (r_2 != 0)then some (([]:(List Log_)),r_2)else (forL l_1 ([]:List Log_) (λk x s=>ik l_1 k x s)).bind λo_16=>thenC o_16 (λs_10=>some (s_10,0)) (λ_=>none)
def qG (k_2:Nat) (x_4:Int) (s_7:Unit):Option (Ctl (Unit) (Int)) :=
  bif (x_4 != 0)then some (.ret x_4)else some (.go ())
def mY (l_1:(List Int)):Option (Int) :=
  (forL l_1 () (λk x s=>qG k x s)).bind λo_10=>thenC o_10 (λs_7=>some 0) (λr=>some r)
def dC (n_1:Int):Option Bool :=
  bif (decide (n_1<0))then none else bif (decide ((w64 (n_1-(w64 (0-0))))>0))then (zN (w64 (n_1-(w64 (0-0)))) 72).bind λ_=>some true else some false
def bu (k_2:Nat) (x_4:(List Log_)) (s_7:Int):Option (Ctl (Int) (Unit)) :=
  (bif (decide ((w64 (s_7+(x_4.length:Int)))<0))then none else some ()).bind λv_12=>some (.go (w64 (s_7+(x_4.length:Int))))
def bv (k_18:Nat) (x_20:(List Log_)) (s_23:(List Log_)):Option (Ctl ((List Log_)) (Unit)) :=
  (mg s_23 x_20).bind λa_30=>some (.go a_30)
def dG (a_2:Int) (s_21:(List Log_)×Int):Option (Ctl ((List Log_)×Int) (Unit)) :=
  (bif (decide (s_21.2>a_2))then (inR s_21.2 s_21.1).bind λ_=>(s_21.1[(0+(s_21.2).toNat)]?).bind λe_30=>(inR (w64 (s_21.2-1)) s_21.1).bind λ_=>(s_21.1[(0+((w64 (s_21.2-1))).toNat)]?).bind λe_33=>(eZ e_30 e_33).bind λr_35=>some (decide (r_35<0))else some false).bind λv_26=>bif v_26 then (inR (w64 (s_21.2-1)) s_21.1).bind λ_=>(s_21.1[(0+((w64 (s_21.2-1))).toNat)]?).bind λe_39=>(inR s_21.2 s_21.1).bind λ_=>(s_21.1[(0+(s_21.2).toNat)]?).bind λe_42=>(inR s_21.2 s_21.1).bind λ_=>(s_21.1[(0+(s_21.2).toNat)]?).bind λe_45=>(inR (w64 (s_21.2-1)) (s_21.1.set (0+(s_21.2).toNat) e_39)).bind λ_=>((s_21.1.set (0+(s_21.2).toNat) e_39)[(0+((w64 (s_21.2-1))).toNat)]?).bind λe_48=>some (.go (((s_21.1.set (0+(s_21.2).toNat) e_39).set (0+((w64 (s_21.2-1))).toNat) e_42),(w64 (s_21.2-1))))else some (.brk (s_21.1,s_21.2))
noncomputable def dF (b_3:Int) (a_2:Int) (s_10:(List Log_)×Int):Option (Ctl ((List Log_)×Int) (Unit)) :=
  bif (decide (s_10.2<b_3))then (fI (s_10.1,s_10.2) (λs=>dG a_2 s)).bind λo_24=>thenC o_24 (λs_21=>some (.go (s_21.1,(w64 (s_10.2+1))))) (λ_=>none)else some (.brk (s_10.1,s_10.2))
noncomputable def di (data_1:(List Log_)) (a_2:Int) (b_3:Int):Option ((List Log_)) :=
  (fI (data_1,(w64 (a_2+1))) (λs=>dF b_3 a_2 s)).bind λo_13=>thenC o_13 (λs_10=>some s_10.1) (λ_=>none)
noncomputable def fE (n_2:Int) (s_9:(List Log_)×Int×Int):Option (Ctl ((List Log_)×Int×Int) (Unit)) :=
  bif (decide (s_9.2.2<=n_2))then (di s_9.1 s_9.2.1 s_9.2.2).bind λr_15=>(lV r_15 s_9.1).bind λ_=>some (.go (r_15,s_9.2.2,(w64 (s_9.2.2+20))))else some (.brk (s_9.1,s_9.2.1,s_9.2.2))
def fC (s_26:Int) (n_2:Int) (s_37:Unit):Option (Ctl (Unit) (Unit)) :=
  bif (decide ((w64 (2*s_26))<=n_2))then none else some (.brk ())
noncomputable def fF (n_2:Int) (s_26:Int):Option (Ctl (Int) (Unit)) :=
  bif (decide (s_26<n_2))then (fI () (λs=>fC s_26 n_2 s)).bind λo_40=>thenC o_40 (λs_37=>(bif (decide ((w64 (0+s_26))<n_2))then none else some ()).bind λv_43=>some (.go (w64 (s_26*2)))) (λ_=>none)else some (.brk s_26)
noncomputable def dP (data_1:(List Log_)) (n_2:Int):Option ((List Log_)) :=
  (fI (data_1,0,20) (λs=>fE n_2 s)).bind λo_12=>thenC o_12 (λs_9=>(di s_9.1 s_9.2.1 n_2).bind λr_18=>(lV r_18 s_9.1).bind λ_=>(fI 20 (λs=>fF n_2 s)).bind λo_29=>thenC o_29 (λs_26=>some r_18) (λ_=>none)) (λ_=>none)
noncomputable def bN (x_1:(List Log_)):Option ((List Log_)) :=
  (dP x_1 (x_1.length:Int)).bind λr_3=>(lV r_3 x_1).bind λ_=>some r_3
def dx (slices_1:(List (List Log_))):Option ((List Log_)) :=
  (forL slices_1 0 (λk x s=>bu k x s)).bind λo_10=>thenC o_10 (λs_7=>(dC s_7).bind λb_15=>(forL slices_1 ([]:List Log_) (λk x s=>bv k x s)).bind λo_28=>thenC o_28 (λs_23=>(kE b_15 s_23).bind λ_=>some s_23) (λ_=>none)) (λ_=>none)
def eP (s_1:(List Log_)) (s_8:Int) (s_28:(List Log_)×Int×Int):Option (Ctl ((List Log_)×Int×Int) (Unit)) :=
  bif (decide (s_28.2.2<(((((s_1.length:Int)).toNat-(s_8).toNat):Nat):Int)))then (inN s_28.2.2 (((s_1.length:Int)).toNat-(s_8).toNat)).bind λ_=>(s_28.1[(((s_8).toNat)+(s_28.2.2).toNat)]?).bind λe_35=>(inN (w64 (s_28.2.2-1)) (((s_1.length:Int)).toNat-(s_8).toNat)).bind λ_=>(s_28.1[(((s_8).toNat)+((w64 (s_28.2.2-1))).toNat)]?).bind λe_38=>(bif (!((e_35.Player.toList==e_38.Player.toList)&&((e_35.Item.toList==e_38.Item.toList)&&((e_35.No==e_38.No)&&((e_35.Clock==e_38.Clock)&&((e_35.Long==e_38.Long)&&((e_35.Sum.toList==e_38.Sum.toList)&&true)))))))then (inN s_28.2.2 (((s_1.length:Int)).toNat-(s_8).toNat)).bind λ_=>(s_28.1[(((s_8).toNat)+(s_28.2.2).toNat)]?).bind λe_44=>(inR s_28.2.1 s_28.1).bind λ_=>(s_28.1[(0+(s_28.2.1).toNat)]?).bind λe_47=>some ((s_28.1.set (0+(s_28.2.1).toNat) e_44),(w64 (s_28.2.1+1)))else some (s_28.1,s_28.2.1)).bind λv_40=>some (.go (v_40.1,v_40.2,(w64 (s_28.2.2+1))))else some (.brk (s_28.1,s_28.2.1,s_28.2.2))
noncomputable def eQ (s_1:(List Log_)) (s_8:Int):Option (Ctl (Int) ((List Log_))) :=
  bif (decide (s_8<(s_1.length:Int)))then (inR s_8 s_1).bind λ_=>(s_1[(0+(s_8).toNat)]?).bind λe_15=>(inR (w64 (s_8-1)) s_1).bind λ_=>(s_1[(0+((w64 (s_8-1))).toNat)]?).bind λe_18=>bif ((e_15.Player.toList==e_18.Player.toList)&&((e_15.Item.toList==e_18.Item.toList)&&((e_15.No==e_18.No)&&((e_15.Clock==e_18.Clock)&&((e_15.Long==e_18.Long)&&((e_15.Sum.toList==e_18.Sum.toList)&&true))))))then (neL s_1).bind λ_=>(nu s_1 s_8 (s_1.length:Int)).bind λ_=>(fI (s_1,s_8,1) (λs=>eP s_1 s_8 s)).bind λo_31=>thenC o_31 (λs_28=>(nu s_28.1 s_28.2.1 (s_28.1.length:Int)).bind λ_=>(nu (s_28.1.take ((s_28.2.1).toNat)++List.replicate (((s_28.1.length:Int)).toNat-(s_28.2.1).toNat) (⟨(⟨#[]⟩:ByteArray),(⟨#[]⟩:ByteArray),0,0,0,(⟨#[]⟩:ByteArray)⟩:Log_)++s_28.1.drop (((s_28.2.1).toNat)+(((s_28.1.length:Int)).toNat-(s_28.2.1).toNat))) 0 s_28.2.1).bind λ_=>some (.ret (yJ (s_28.1.take ((s_28.2.1).toNat)++List.replicate (((s_28.1.length:Int)).toNat-(s_28.2.1).toNat) (⟨(⟨#[]⟩:ByteArray),(⟨#[]⟩:ByteArray),0,0,0,(⟨#[]⟩:ByteArray)⟩:Log_)++s_28.1.drop (((s_28.2.1).toNat)+(((s_28.1.length:Int)).toNat-(s_28.2.1).toNat))) 0 ((s_28.2.1).toNat)))) (λ_=>none)else some (.go (w64 (s_8+1)))else some (.brk s_8)
noncomputable def cZ (s_1:(List Log_)):Option ((List Log_)) :=
  bif (decide ((s_1.length:Int)<2))then some s_1 else (fI 1 (λs=>eQ s_1 s)).bind λo_11=>thenC o_11 (λs_8=>some s_1) (λr=>some r)
noncomputable def gK (a_1:(List Log_)) (b_2:(List Log_)) (k_3:Nat) (x_5:Nat) (s_8:Unit):Option (Ctl (Unit) ((List Log_)×Int)) :=
  (idx ([a_1,b_2]:List (List Log_)) (k_3:Int)).bind λy_13=>(bW y_13).bind λr_15=>bif (r_15 != 0)then some (.ret (([]:(List Log_)),r_15))else some (.go ())
def iP (r_25:(List Log_)) (s_32:Int):Option (Ctl (Int) ((List Log_)×Int)) :=
  bif (decide (s_32<(r_25.length:Int)))then (idx r_25 (w64 (s_32-1))).bind λy_38=>(idx r_25 s_32).bind λy_40=>(eZ y_38 y_40).bind λr_42=>bif (r_42==0)then some (.ret (([]:(List Log_)),13))else some (.go (w64 (s_32+1)))else some (.brk s_32)
noncomputable def jN (a_1:(List Log_)) (b_2:(List Log_)):Option ((List Log_)×Int) :=
  (forL (List.range (2:Int).toNat) () (λk x s=>gK a_1 b_2 k x s)).bind λo_11=>thenC o_11 (λs_8=>(dx ([a_1,b_2]:List (List Log_))).bind λr_18=>(bN r_18).bind λr_22=>(lV r_22 r_18).bind λ_=>(cZ r_22).bind λr_25=>(fI 1 (λs=>iP r_25 s)).bind λo_35=>thenC o_35 (λs_32=>bif (decide ((r_25.length:Int)>2000))then some (([]:(List Log_)),2)else some (r_25,0)) (λr=>some r)) (λr=>some r)
def j5 (k_7:Nat) (x_9:Log_) (s_12:(List Int)):Option (Ctl ((List Int)) (Unit)) :=
  (ow x_9).bind λr_20=>(uN r_20 (⟨#[32]⟩:ByteArray)).bind λs_22=>(uN s_22 x_9.Sum).bind λs_24=>(uN s_24 (⟨#[10]⟩:ByteArray)).bind λs_26=>(Oz s_12 s_26).bind λa_28=>some (.go a_28)
noncomputable def rF (l_1:(List Log_)):Option (ByteArray×Int) :=
  (bW l_1).bind λr_2=>bif (r_2 != 0)then some ((⟨#[]⟩:ByteArray),r_2)else (forL l_1 ([]:List Int) (λk x s=>j5 k x s)).bind λo_17=>thenC o_17 (λs_12=>bif (decide ((s_12.length:Int)>200000))then some ((⟨#[]⟩:ByteArray),2)else (zR s_12).bind λs_32=>some (s_32,0)) (λ_=>none)
def strings_Split (x0:ByteArray) (x1:ByteArray):Option ((List ByteArray)) :=
  CG x0 x1
def uq (s_1:ByteArray):Option ((List ByteArray)×Bool) :=
  (strings_Split s_1 (⟨#[10]⟩:ByteArray)).bind λr_2=>(idx r_2 (w64 ((r_2.length:Int)-1))).bind λy_4=>bif (sEq y_4 (⟨#[]⟩:ByteArray))then (wQ r_2 0 (w64 ((r_2.length:Int)-1))).bind λy_7=>some (y_7,true)else some (r_2,false)
def cO (v_2:ByteArray) (k_3:Nat) (x_5:ByteArray) (s_8:Unit):Option (Ctl (Unit) (Int)) :=
  bif (sEq v_2 x_5)then some (.ret (k_3:Int))else some (.go ())
def dW (s_1:(List ByteArray)) (v_2:ByteArray):Option (Int) :=
  (forL s_1 () (λk x s=>cO v_2 k x s)).bind λo_11=>thenC o_11 (λs_8=>some (-1)) (λr=>some r)
def fe (s_1:(List ByteArray)) (v_2:ByteArray):Option (Bool) :=
  (dW s_1 v_2).bind λr_3=>some (decide (r_3>=0))
def tC (s_1:ByteArray):Option ((List ByteArray)×Bool) :=
  (strings_Split s_1 (⟨#[32]⟩:ByteArray)).bind λr_2=>(fe r_2 (⟨#[]⟩:ByteArray)).bind λr_4=>some (r_2,(!r_4))
def ek (s_1:ByteArray) (prefixv_2:ByteArray):Option (Bool) :=
  (bif (decide ((s_1.size:Int)>=(prefixv_2.size:Int)))then (DC s_1 0 (prefixv_2.size:Int)).bind λy_6=>some (sEq y_6 prefixv_2)else some false).bind λv_3=>some v_3
def dR (s_1:ByteArray) (prefixv_2:ByteArray):Option (ByteArray) :=
  (ek s_1 prefixv_2).bind λr_3=>bif r_3 then (DC s_1 (prefixv_2.size:Int) s_1.size).bind λy_6=>some y_6 else some s_1
def strings_TrimPrefix (s_1:ByteArray) (prefixv_2:ByteArray):Option (ByteArray) :=
  (dR s_1 prefixv_2).bind λr_3=>some r_3
def strconv_Atoi (x0:ByteArray):Option (Int) :=
  Ht x0
def jl (r_3:ByteArray) (s_18:Int):Option (Ctl (Int) (Int×Bool)) :=
  bif (decide (s_18<(r_3.size:Int)))then ((rW r_3 s_18).bind λb_26=>bif (decide ((b_26.toNat:Int)<48))then some true else (rW r_3 s_18).bind λb_29=>some (decide ((b_29.toNat:Int)>57))).bind λv_24=>bif v_24 then some (.ret (0,false))else some (.go (w64 (s_18+1)))else some (.brk s_18)
noncomputable def jk (s_1:ByteArray) (most_2:Int):Option (Int×Bool) :=
  (strings_TrimPrefix s_1 (⟨#[45]⟩:ByteArray)).bind λr_3=>(bif (sEq r_3 (⟨#[]⟩:ByteArray))then some true else bif (decide ((r_3.size:Int)>most_2))then some true else (rW r_3 0).bind λb_9=>bif ((b_9.toNat:Int)==48)then some (sNe s_1 (⟨#[48]⟩:ByteArray))else some false).bind λv_5=>bif v_5 then some (0,false)else (fI 0 (λs=>jl r_3 s)).bind λo_21=>thenC o_21 (λs_18=>(strconv_Atoi s_1).bind λr_32=>some (r_32,true)) (λr=>some r)
noncomputable def lW (s_1:ByteArray):Option (Log_×Bool) :=
  (tC s_1).bind λr_3=>(bif (!r_3.2)then some true else some ((r_3.1.length:Int) != 6)).bind λv_5=>bif v_5 then some ((⟨(⟨#[]⟩:ByteArray),(⟨#[]⟩:ByteArray),0,0,0,(⟨#[]⟩:ByteArray)⟩:Log_),false)else (idx r_3.1 2).bind λy_9=>(jk y_9 15).bind λr_11=>(idx r_3.1 3).bind λy_13=>(jk y_13 15).bind λr_15=>(idx r_3.1 4).bind λy_17=>(jk y_17 15).bind λr_19=>((idx r_3.1 0).bind λy_23=>(idx r_3.1 1).bind λy_25=>(idx r_3.1 5).bind λy_27=>bif r_11.2 then bif r_15.2 then some (r_19.2,y_23,y_25,y_27)else some (false,y_23,y_25,y_27)else some (false,y_23,y_25,y_27)).bind λv_21=>some ((⟨v_21.2.1,v_21.2.2.1,r_11.1,r_15.1,r_19.1,v_21.2.2.2⟩:Log_),v_21.1)
noncomputable def j3 (r_3:(List ByteArray)×Bool) (k_5:Nat) (x_7:ByteArray) (s_10:(List Log_)):Option (Ctl ((List Log_)) ((List Log_)×Int×Int)) :=
  (lW x_7).bind λr_18=>(bif (!r_18.2)then some true else bif (!r_3.2)then some ((k_5:Int)==(w64 ((r_3.1.length:Int)-1)))else some false).bind λv_21=>bif v_21 then some (.ret (([]:(List Log_)),(k_5:Int),9))else (mg s_10 ([r_18.1]:List Log_)).bind λa_26=>some (.go a_26)
noncomputable def rf (text_1:ByteArray):Option ((List Log_)×Int×Int) :=
  bif (decide ((text_1.size:Int)>200000))then some (([]:(List Log_)),0,2)else (uq text_1).bind λr_3=>(forL r_3.1 ([]:List Log_) (λk x s=>j3 r_3 k x s)).bind λo_16=>thenC o_16 (λs_10=>(bW s_10).bind λr_29=>bif (r_29 != 0)then some (([]:(List Log_)),0,r_29)else some (s_10,0,0)) (λr=>some r)
def fG (s2_2:(List Int)) (k_4:Nat) (x_6:Int) (s_9:Unit):Option (Ctl (Unit) (Bool)) :=
  (idx s2_2 (k_4:Int)).bind λy_14=>bif (x_6 != y_14)then some (.ret false)else some (.go ())
def gJ (s1_1:(List Int)) (s2_2:(List Int)):Option (Bool) :=
  bif ((s1_1.length:Int) != (s2_2.length:Int))then some false else (forL s1_1 () (λk x s=>fG s2_2 k x s)).bind λo_12=>thenC o_12 (λs_9=>some true) (λr=>some r)
def bX (s2_2:(List Log_)) (k_4:Nat) (x_6:Log_) (s_9:Unit):Option (Ctl (Unit) (Bool)) :=
  (idx s2_2 (k_4:Int)).bind λy_14=>bif (!((x_6.Player.toList==y_14.Player.toList)&&((x_6.Item.toList==y_14.Item.toList)&&((x_6.No==y_14.No)&&((x_6.Clock==y_14.Clock)&&((x_6.Long==y_14.Long)&&((x_6.Sum.toList==y_14.Sum.toList)&&true)))))))then some (.ret false)else some (.go ())
def bU (s1_1:(List Log_)) (s2_2:(List Log_)):Option (Bool) :=
  bif ((s1_1.length:Int) != (s2_2.length:Int))then some false else (forL s1_1 () (λk x s=>bX s2_2 k x s)).bind λo_12=>thenC o_12 (λs_9=>some true) (λr=>some r)
def lF (r_1:Rect):Option (Int) :=
  ((aP r_1.X (-100000) 100000).bind λr_5=>bif r_5 then some true else (aP r_1.Y (-100000) 100000).bind λr_8=>some r_8).bind λv_3=>bif v_3 then some 1 else ((aP r_1.W 1 (w64 (100000-r_1.X))).bind λr_13=>bif r_13 then some true else (aP r_1.H 1 (w64 (100000-r_1.Y))).bind λr_16=>some r_16).bind λv_11=>bif v_11 then some 1 else some 0
def kP (k_3:Nat) (x_5:Rect) (s_8:Unit):Option (Ctl (Unit) (Int)) :=
  (lF x_5).bind λr_14=>bif (r_14 != 0)then some (.ret r_14)else some (.go ())
def kr (l_1:(List Rect)):Option (Int) :=
  bif (decide ((l_1.length:Int)>2000))then some 2 else (forL l_1 () (λk x s=>kP k x s)).bind λo_11=>thenC o_11 (λs_8=>some 0) (λr=>some r)
def fO (n_1:Int):Option Bool :=
  bif (decide (n_1<0))then none else bif (decide ((w64 (n_1-(w64 (0-0))))>0))then (zN (w64 (n_1-(w64 (0-0)))) 32).bind λ_=>some true else some false
def fD (k_2:Nat) (x_4:(List Rect)) (s_7:Int):Option (Ctl (Int) (Unit)) :=
  (bif (decide ((w64 (s_7+(x_4.length:Int)))<0))then none else some ()).bind λv_12=>some (.go (w64 (s_7+(x_4.length:Int))))
def fB (k_18:Nat) (x_20:(List Rect)) (s_23:(List Rect)):Option (Ctl ((List Rect)) (Unit)) :=
  (mg s_23 x_20).bind λa_30=>some (.go a_30)
def dQ (slices_1:(List (List Rect))):Option ((List Rect)) :=
  (forL slices_1 0 (λk x s=>fD k x s)).bind λo_10=>thenC o_10 (λs_7=>(fO s_7).bind λb_15=>(forL slices_1 ([]:List Rect) (λk x s=>fB k x s)).bind λo_28=>thenC o_28 (λs_23=>some s_23) (λ_=>none)) (λ_=>none)
def ig (x:(List Int)):Option ((List Int)) :=
  KN x
def fw (s_1:(List Int)) (s_8:Int) (s_28:(List Int)×Int×Int):Option (Ctl ((List Int)×Int×Int) (Unit)) :=
  bif (decide (s_28.2.2<(((((s_1.length:Int)).toNat-(s_8).toNat):Nat):Int)))then (inN s_28.2.2 (((s_1.length:Int)).toNat-(s_8).toNat)).bind λ_=>(s_28.1[(((s_8).toNat)+(s_28.2.2).toNat)]?).bind λe_35=>(inN (w64 (s_28.2.2-1)) (((s_1.length:Int)).toNat-(s_8).toNat)).bind λ_=>(s_28.1[(((s_8).toNat)+((w64 (s_28.2.2-1))).toNat)]?).bind λe_38=>(bif (e_35 != e_38)then (inN s_28.2.2 (((s_1.length:Int)).toNat-(s_8).toNat)).bind λ_=>(s_28.1[(((s_8).toNat)+(s_28.2.2).toNat)]?).bind λe_44=>(inR s_28.2.1 s_28.1).bind λ_=>(s_28.1[(0+(s_28.2.1).toNat)]?).bind λe_47=>some ((s_28.1.set (0+(s_28.2.1).toNat) e_44),(w64 (s_28.2.1+1)))else some (s_28.1,s_28.2.1)).bind λv_40=>some (.go (v_40.1,v_40.2,(w64 (s_28.2.2+1))))else some (.brk (s_28.1,s_28.2.1,s_28.2.2))
noncomputable def dI (s_1:(List Int)) (s_8:Int):Option (Ctl (Int) ((List Int))) :=
  bif (decide (s_8<(s_1.length:Int)))then (inR s_8 s_1).bind λ_=>(s_1[(0+(s_8).toNat)]?).bind λe_15=>(inR (w64 (s_8-1)) s_1).bind λ_=>(s_1[(0+((w64 (s_8-1))).toNat)]?).bind λe_18=>bif (e_15==e_18)then (neL s_1).bind λ_=>(nu s_1 s_8 (s_1.length:Int)).bind λ_=>(fI (s_1,s_8,1) (λs=>fw s_1 s_8 s)).bind λo_31=>thenC o_31 (λs_28=>(nu s_28.1 s_28.2.1 (s_28.1.length:Int)).bind λ_=>(nu (s_28.1.take ((s_28.2.1).toNat)++List.replicate (((s_28.1.length:Int)).toNat-(s_28.2.1).toNat) 0++s_28.1.drop (((s_28.2.1).toNat)+(((s_28.1.length:Int)).toNat-(s_28.2.1).toNat))) 0 s_28.2.1).bind λ_=>some (.ret (yJ (s_28.1.take ((s_28.2.1).toNat)++List.replicate (((s_28.1.length:Int)).toNat-(s_28.2.1).toNat) 0++s_28.1.drop (((s_28.2.1).toNat)+(((s_28.1.length:Int)).toNat-(s_28.2.1).toNat))) 0 ((s_28.2.1).toNat)))) (λ_=>none)else some (.go (w64 (s_8+1)))else some (.brk s_8)
noncomputable def eH (s_1:(List Int)):Option ((List Int)) :=
  bif (decide ((s_1.length:Int)<2))then some s_1 else (fI 1 (λs=>dI s_1 s)).bind λo_11=>thenC o_11 (λs_8=>some s_1) (λr=>some r)
def sN (a_1:Run) (b_2:Run):Option (Int) :=
  some (w64 (a_1.f_from-b_2.f_from))
def ql (x_1:Int):Option (Int) :=
  (bif (decide (x_1>=4294967296))then (Gi .u64 x_1 32).bind λq_5=>some (q_5,32)else some (x_1,0)).bind λv_2=>(bif (decide (v_2.1>=65536))then (Gi .u64 v_2.1 16).bind λq_10=>some (q_10,(w64 (v_2.2+16)))else some (v_2.1,v_2.2)).bind λv_7=>(bif (decide (v_7.1>=256))then (Gi .u64 v_7.1 8).bind λq_15=>some (q_15,(w64 (v_7.2+8)))else some (v_7.1,v_7.2)).bind λv_12=>(rW (⟨#[0,1,2,2,3,3,3,3,4,4,4,4,4,4,4,4,5,5,5,5,5,5,5,5,5,5,5,5,5,5,5,5,6,6,6,6,6,6,6,6,6,6,6,6,6,6,6,6,6,6,6,6,6,6,6,6,6,6,6,6,6,6,6,6,7,7,7,7,7,7,7,7,7,7,7,7,7,7,7,7,7,7,7,7,7,7,7,7,7,7,7,7,7,7,7,7,7,7,7,7,7,7,7,7,7,7,7,7,7,7,7,7,7,7,7,7,7,7,7,7,7,7,7,7,7,7,7,7,8,8,8,8,8,8,8,8,8,8,8,8,8,8,8,8,8,8,8,8,8,8,8,8,8,8,8,8,8,8,8,8,8,8,8,8,8,8,8,8,8,8,8,8,8,8,8,8,8,8,8,8,8,8,8,8,8,8,8,8,8,8,8,8,8,8,8,8,8,8,8,8,8,8,8,8,8,8,8,8,8,8,8,8,8,8,8,8,8,8,8,8,8,8,8,8,8,8,8,8,8,8,8,8,8,8,8,8,8,8,8,8,8,8,8,8,8,8,8,8,8,8,8,8,8,8,8,8]⟩:ByteArray) (IntKind.u8.wrap v_12.1)).bind λb_17=>some (w64 (v_12.2+(w64 (b_17.toNat:Int))))
def o9 (x_1:Int):Option (Int) :=
  (ql x_1).bind λr_2=>some r_2
def bS (a_2:Int) (s_21:(List Run)×Int):Option (Ctl ((List Run)×Int) (Unit)) :=
  (bif (decide (s_21.2>a_2))then (inR s_21.2 s_21.1).bind λ_=>(s_21.1[(0+(s_21.2).toNat)]?).bind λe_30=>(inR (w64 (s_21.2-1)) s_21.1).bind λ_=>(s_21.1[(0+((w64 (s_21.2-1))).toNat)]?).bind λe_33=>(sN e_30 e_33).bind λr_35=>some (decide (r_35<0))else some false).bind λv_26=>bif v_26 then (inR (w64 (s_21.2-1)) s_21.1).bind λ_=>(s_21.1[(0+((w64 (s_21.2-1))).toNat)]?).bind λe_39=>(inR s_21.2 s_21.1).bind λ_=>(s_21.1[(0+(s_21.2).toNat)]?).bind λe_42=>(inR s_21.2 s_21.1).bind λ_=>(s_21.1[(0+(s_21.2).toNat)]?).bind λe_45=>(inR (w64 (s_21.2-1)) (s_21.1.set (0+(s_21.2).toNat) e_39)).bind λ_=>((s_21.1.set (0+(s_21.2).toNat) e_39)[(0+((w64 (s_21.2-1))).toNat)]?).bind λe_48=>some (.go (((s_21.1.set (0+(s_21.2).toNat) e_39).set (0+((w64 (s_21.2-1))).toNat) e_42),(w64 (s_21.2-1))))else some (.brk (s_21.1,s_21.2))
noncomputable def bD (b_3:Int) (a_2:Int) (s_10:(List Run)×Int):Option (Ctl ((List Run)×Int) (Unit)) :=
  bif (decide (s_10.2<b_3))then (fI (s_10.1,s_10.2) (λs=>bS a_2 s)).bind λo_24=>thenC o_24 (λs_21=>some (.go (s_21.1,(w64 (s_10.2+1))))) (λ_=>none)else some (.brk (s_10.1,s_10.2))
noncomputable def bI (data_1:(List Run)) (a_2:Int) (b_3:Int):Option ((List Run)) :=
  (fI (data_1,(w64 (a_2+1))) (λs=>bD b_3 a_2 s)).bind λo_13=>thenC o_13 (λs_10=>some s_10.1) (λ_=>none)
noncomputable def bR (b_3:Int) (a_2:Int) (data_1:(List Run)) (limit_4:Int) (s_11:Unit):Option (Ctl (Unit) ((List Run))) :=
  bif (decide ((w64 (b_3-a_2))<=12))then (bI data_1 a_2 b_3).bind λr_17=>(lV r_17 data_1).bind λ_=>some (.ret r_17)else bif (limit_4==0)then none else none
noncomputable def cz (data_1:(List Run)) (a_2:Int) (b_3:Int) (limit_4:Int):Option ((List Run)) :=
  (fI () (λs=>bR b_3 a_2 data_1 limit_4 s)).bind λo_14=>thenC o_14 (λs_11=>some data_1) (λr=>some r)
noncomputable def bL (x_1:(List Run)):Option ((List Run)) :=
  (o9 (IntKind.u64.wrap (x_1.length:Int))).bind λr_3=>(cz x_1 0 (x_1.length:Int) r_3).bind λr_5=>(lV r_5 x_1).bind λ_=>some r_5
def nR (y_2:Int) (k_3:Nat) (x_5:Rect) (s_8:(List Run)):Option (Ctl ((List Run)) (Unit)) :=
  (bif (decide (x_5.Y<=y_2))then some (decide (y_2<(w64 (x_5.Y+x_5.H))))else some false).bind λv_17=>(bif v_17 then (mg s_8 ([(⟨x_5.X,(w64 (x_5.X+x_5.W))⟩:Run)]:List Run)).bind λa_24=>some a_24 else some s_8).bind λv_20=>some (.go v_20)
def nK (k_30:Nat) (x_32:Run) (s_35:(List Run)):Option (Ctl ((List Run)) (Unit)) :=
  (bif (decide ((w64 ((s_35.length:Int)-1))>=0))then (inR (w64 ((s_35.length:Int)-1)) s_35).bind λ_=>(s_35[(0+((w64 ((s_35.length:Int)-1))).toNat)]?).bind λe_48=>some (decide (x_32.f_from<=e_48.f_to))else some false).bind λv_44=>(bif v_44 then (inR (w64 ((s_35.length:Int)-1)) s_35).bind λ_=>(s_35[(0+((w64 ((s_35.length:Int)-1))).toNat)]?).bind λe_55=>(inR (w64 ((s_35.length:Int)-1)) s_35).bind λ_=>(s_35[(0+((w64 ((s_35.length:Int)-1))).toNat)]?).bind λe_58=>some (s_35.set (0+((w64 ((s_35.length:Int)-1))).toNat) (⟨e_58.f_from,(tT e_55.f_to x_32.f_to)⟩:Run))else (mg s_35 ([x_32]:List Run)).bind λa_60=>some a_60).bind λv_50=>some (.go v_50)
noncomputable def mZ (l_1:(List Rect)) (y_2:Int):Option ((List Run)) :=
  (forL l_1 ([]:List Run) (λk x s=>nR y_2 k x s)).bind λo_14=>thenC o_14 (λs_8=>(bL s_8).bind λr_27=>(lV r_27 s_8).bind λ_=>(forL r_27 ([]:List Run) (λk x s=>nK k x s)).bind λo_41=>thenC o_41 (λs_35=>some s_35) (λ_=>none)) (λ_=>none)
def nX (m_2:(List Run)) (x_5:Run) (s_22:Int):Option (Ctl (Int) (Unit)) :=
  (bif (decide (s_22<(m_2.length:Int)))then (idx m_2 s_22).bind λy_30=>some (decide (y_30.f_to<=x_5.f_from))else some false).bind λv_27=>bif v_27 then some (.go (w64 (s_22+1)))else some (.brk s_22)
def nH (m_2:(List Run)) (x_5:Run) (s_38:(List Run)×Int×Int):Option (Ctl ((List Run)×Int×Int) (Unit)) :=
  (bif (decide (s_38.2.1<(m_2.length:Int)))then (idx m_2 s_38.2.1).bind λy_48=>some (decide (y_48.f_from<x_5.f_to))else some false).bind λv_45=>bif v_45 then (idx m_2 s_38.2.1).bind λy_51=>(bif (decide (y_51.f_from>s_38.2.2))then (idx m_2 s_38.2.1).bind λy_57=>(mg s_38.1 ([(⟨s_38.2.2,y_57.f_from⟩:Run)]:List Run)).bind λa_59=>some a_59 else some s_38.1).bind λv_53=>(idx m_2 s_38.2.1).bind λy_62=>some (.go (v_53,(w64 (s_38.2.1+1)),(tT s_38.2.2 y_62.f_to)))else some (.brk (s_38.1,s_38.2.1,s_38.2.2))
noncomputable def lg (m_2:(List Run)) (k_3:Nat) (x_5:Run) (s_8:(List Run)×Int):Option (Ctl ((List Run)×Int) (Unit)) :=
  (fI s_8.2 (λs=>nX m_2 x_5 s)).bind λo_25=>thenC o_25 (λs_22=>(fI (s_8.1,s_22,x_5.f_from) (λs=>nH m_2 x_5 s)).bind λo_43=>thenC o_43 (λs_38=>(bif (decide (s_38.2.2<x_5.f_to))then (mg s_38.1 ([(⟨s_38.2.2,x_5.f_to⟩:Run)]:List Run)).bind λa_68=>some a_68 else some s_38.1).bind λv_64=>some (.go (v_64,s_22))) (λ_=>none)) (λ_=>none)
noncomputable def pR (l_1:(List Run)) (m_2:(List Run)):Option ((List Run)) :=
  (forL l_1 (([]:List Run),0) (λk x s=>lg m_2 k x s)).bind λo_14=>thenC o_14 (λs_8=>some s_8.1) (λ_=>none)
def dX (s2_2:(List Run)) (k_4:Nat) (x_6:Run) (s_9:Unit):Option (Ctl (Unit) (Bool)) :=
  (idx s2_2 (k_4:Int)).bind λy_14=>bif (!((x_6.f_from==y_14.f_from)&&((x_6.f_to==y_14.f_to)&&true)))then some (.ret false)else some (.go ())
def dE (s1_1:(List Run)) (s2_2:(List Run)):Option (Bool) :=
  bif ((s1_1.length:Int) != (s2_2.length:Int))then some false else (forL s1_1 () (λk x s=>dX s2_2 k x s)).bind λo_12=>thenC o_12 (λs_9=>some true) (λr=>some r)
def lC (k_5:Nat) (x_7:Rect) (s_10:(List Int)):Option (Ctl ((List Int)) (Unit)) :=
  (mg s_10 ([x_7.Y,(w64 (x_7.Y+x_7.H))]:List Int)).bind λa_19=>some (.go a_19)
def lH (s_32:(List Rect)×(List Run)×Int) (x_29:Int) (k_54:Nat) (x_56:Run) (s_59:(List Rect)):Option (Ctl ((List Rect)) (Unit)) :=
  (mg s_59 ([(⟨x_56.f_from,s_32.2.2,(w64 (x_56.f_to-x_56.f_from)),(w64 (x_29-s_32.2.2))⟩:Rect)]:List Rect)).bind λa_67=>some (.go a_67)
noncomputable def jB (r_25:(List Int)) (l_1:(List Rect)) (m_2:(List Rect)) (k_27:Nat) (x_29:Int) (s_32:(List Rect)×(List Run)×Int):Option (Ctl ((List Rect)×(List Run)×Int) (Unit)) :=
  (bif (decide ((w64 ((k_27:Int)+1))<(r_25.length:Int)))then (mZ l_1 x_29).bind λr_45=>(mZ m_2 x_29).bind λr_47=>(pR r_45 r_47).bind λr_49=>some r_49 else some ([]:List Run)).bind λv_42=>(dE s_32.2.1 v_42).bind λr_51=>bif r_51 then some (.go (s_32.1,s_32.2.1,s_32.2.2))else (forL s_32.2.1 s_32.1 (λk x s=>lH s_32 x_29 k x s)).bind λo_64=>thenC o_64 (λs_59=>some (.go (s_59,v_42,x_29))) (λ_=>none)
noncomputable def lY (l_1:(List Rect)) (m_2:(List Rect)):Option ((List Rect)) :=
  (dQ ([l_1,m_2]:List (List Rect))).bind λr_3=>(forL r_3 ([]:List Int) (λk x s=>lC k x s)).bind λo_16=>thenC o_16 (λs_10=>(ig s_10).bind λr_22=>(lV r_22 s_10).bind λ_=>(eH r_22).bind λr_25=>(forL r_25 (([]:List Rect),([]:List Run),0) (λk x s=>jB r_25 l_1 m_2 k x s)).bind λo_38=>thenC o_38 (λs_32=>some s_32.1) (λ_=>none)) (λ_=>none)
def rG (k_2:Nat) (x_4:Rect) (s_7:Int):Option (Ctl (Int) (Unit)) :=
  some (.go (w64 (s_7+(w64 (x_4.W*x_4.H)))))
def sJ (l_1:(List Rect)):Option (Int) :=
  (forL l_1 0 (λk x s=>rG k x s)).bind λo_10=>thenC o_10 (λs_7=>some s_7) (λ_=>none)
noncomputable def pI (l_1:(List Rect)):Option (Int×Int) :=
  (kr l_1).bind λr_2=>bif (r_2 != 0)then some (0,r_2)else (lY l_1 ([]:List Rect)).bind λr_5=>(sJ r_5).bind λr_7=>some (r_7,0)
def AZ (n_1:Int):Option (Bool) :=
  (bif (decide (n_1>=0))then some (decide (n_1<=4000))else some false).bind λv_2=>some v_2
def jH (l_1:(List Int)) (k_3:Nat) (x_5:Int) (s_8:Unit):Option (Ctl (Unit) (Int)) :=
  (AZ x_5).bind λr_13=>bif (!r_13)then some (.ret 1)else (bif (decide ((k_3:Int)>0))then (idx l_1 (w64 ((k_3:Int)-1))).bind λy_19=>some (decide (x_5<=y_19))else some false).bind λv_16=>bif v_16 then some (.ret 7)else some (.go ())
def jg (l_1:(List Int)):Option (Int) :=
  bif (decide ((l_1.length:Int)>100))then some 2 else (forL l_1 () (λk x s=>jH l_1 k x s)).bind λo_11=>thenC o_11 (λs_8=>some 0) (λr=>some r)
noncomputable def iw (l_1:(List ByteArray)) (k_2:Nat) (x_4:ByteArray) (s_7:Unit):Option (Ctl (Unit) (Int)) :=
  (dY x_4).bind λr_12=>bif (!r_12)then some (.ret 5)else (bif (decide ((k_2:Int)>0))then (idx l_1 (w64 ((k_2:Int)-1))).bind λy_18=>some (sLe x_4 y_18)else some false).bind λv_15=>bif v_15 then some (.ret 7)else some (.go ())
noncomputable def iV (l_1:(List ByteArray)):Option (Int) :=
  (forL l_1 () (λk x s=>iw l_1 k x s)).bind λo_10=>thenC o_10 (λs_7=>some 0) (λr=>some r)
noncomputable def iH (l_1:(List ByteArray)):Option (Int) :=
  bif (decide ((l_1.length:Int)>20))then some 2 else (iV l_1).bind λr_3=>some r_3
noncomputable def ib (e_1:Entry):Option (Int) :=
  ((dY e_1.Key).bind λr_5=>bif (!r_5)then some true else (dY e_1.Item).bind λr_8=>some (!r_8)).bind λv_3=>bif v_3 then some 5 else ((aP e_1.Version 0 1000000).bind λr_13=>bif r_13 then some true else (aP e_1.First 0 e_1.Last).bind λr_16=>bif r_16 then some true else bif (decide (e_1.Last>4000))then some true else (aP e_1.Every 1 400).bind λr_20=>bif r_20 then some true else (aP e_1.Days 1 127).bind λr_23=>some r_23).bind λv_11=>bif v_11 then some 1 else (jg e_1.Except).bind λr_26=>bif (r_26 != 0)then some r_26 else ((aP e_1.From 0 1439).bind λr_31=>bif r_31 then some true else (aP e_1.To 0 1439).bind λr_34=>bif r_34 then some true else (aP e_1.Prio 0 9).bind λr_37=>some r_37).bind λv_29=>bif v_29 then some 1 else (iH e_1.Tags).bind λr_40=>some r_40
noncomputable def fo (l_1:(List Entry)) (k_3:Nat) (x_5:Entry) (s_8:Unit):Option (Ctl (Unit) (Int)) :=
  (ib x_5).bind λr_14=>bif (r_14 != 0)then some (.ret r_14)else (bif (decide ((k_3:Int)>0))then (idx l_1 (w64 ((k_3:Int)-1))).bind λy_20=>some (sLe x_5.Key y_20.Key)else some false).bind λv_17=>bif v_17 then some (.ret 7)else some (.go ())
noncomputable def fU (l_1:(List Entry)):Option (Int) :=
  bif (decide ((l_1.length:Int)>200))then some 2 else (forL l_1 () (λk x s=>fo l_1 k x s)).bind λo_11=>thenC o_11 (λs_8=>some 0) (λr=>some r)
def iW (wv_1:Window):Option (Int) :=
  ((aP wv_1.From 0 wv_1.To).bind λr_5=>bif r_5 then some true else some (decide (wv_1.To>345686400000))).bind λv_3=>bif v_3 then some 1 else bif (decide ((w64 (wv_1.To-wv_1.From))>34560000000))then some 2 else some 0
def cmp_Less_int (x_1:Int) (y_2:Int):Option (Bool) :=
  ((cmp_isNaN_int x_1).bind λr_5=>bif r_5 then (cmp_isNaN_int y_2).bind λr_8=>bif (!r_8)then some true else some (decide (x_1<y_2))else some (decide (x_1<y_2))).bind λv_3=>some v_3
def iq (x_1:Int):Option (Bool) :=
  some (x_1 != x_1)
def eF (x_1:(List Int)) (target_2:Int) (s_8:Int×Int):Option (Ctl (Int×Int) (Unit)) :=
  bif (decide (s_8.1<s_8.2))then (Gi .u64 (IntKind.u64.wrap (w64 (s_8.1+s_8.2))) 1).bind λq_14=>(idx x_1 (w64 q_14)).bind λy_16=>(cmp_Less_int y_16 target_2).bind λr_18=>bif r_18 then some (.go ((w64 ((w64 q_14)+1)),s_8.2))else some (.go (s_8.1,(w64 q_14)))else some (.brk (s_8.1,s_8.2))
noncomputable def dL (x_1:(List Int)) (target_2:Int):Option (Int×Bool) :=
  (fI (0,(x_1.length:Int)) (λs=>eF x_1 target_2 s)).bind λo_11=>thenC o_11 (λs_8=>(bif (decide (s_8.1<(x_1.length:Int)))then (idx x_1 s_8.1).bind λy_24=>bif (y_24==target_2)then some true else (idx x_1 s_8.1).bind λy_27=>(iq y_27).bind λr_29=>bif r_29 then (iq target_2).bind λr_32=>some r_32 else some false else some false).bind λv_21=>some (s_8.1,v_21)) (λ_=>none)
noncomputable def kM (e_1:Entry) (d_2:Int):Option (Bool) :=
  ((aP d_2 e_1.First e_1.Last).bind λr_6=>bif r_6 then some true else (GM .i64 (w64 (d_2-e_1.First)) e_1.Every).bind λq_9=>bif (q_9 != 0)then some true else (shlO .i64 1 (d_2.tmod 7)).bind λq_12=>some ((Aj .i64 e_1.Days q_12)==0)).bind λv_4=>bif v_4 then some false else (dL e_1.Except d_2).bind λr_15=>some (!r_15.2)
def mq (e_1:Entry) (zone_2:Int) (d_3:Int):Option (Window) :=
  (bif (decide ((w64 (e_1.To-e_1.From))<=0))then some (w64 ((w64 (e_1.To-e_1.From))+1440))else some (w64 (e_1.To-e_1.From))).bind λv_6=>some (⟨(w64 ((w64 ((w64 ((w64 (d_3*1440))+e_1.From))-zone_2))*60000)),(w64 ((w64 ((w64 ((w64 ((w64 (d_3*1440))+e_1.From))-zone_2))*60000))+(w64 (v_6*60000))))⟩:Window)
noncomputable def jd (wv_3:Window) (zone_2:Int) (e_1:Entry) (s_15:(List Window)×Int):Option (Ctl ((List Window)×Int) (Unit)) :=
  bif (decide (s_15.2<=(Gr (w64 ((w64 ((w64 (wv_3.To+(w64 (zone_2*60000)))).tdiv 86400000))+1)) e_1.Last)))then (kM e_1 s_15.2).bind λr_24=>bif (!r_24)then some (.go (s_15.1,(w64 (s_15.2+1))))else (mq e_1 zone_2 s_15.2).bind λr_27=>(bif (decide (r_27.From<wv_3.To))then some (decide (r_27.To>wv_3.From))else some false).bind λv_30=>(bif v_30 then (mg s_15.1 ([r_27]:List Window)).bind λa_37=>some a_37 else some s_15.1).bind λv_33=>some (.go (v_33,(w64 (s_15.2+1))))else some (.brk (s_15.1,s_15.2))
noncomputable def kY (e_1:Entry) (zone_2:Int) (wv_3:Window):Option ((List Window)) :=
  (bif e_1.Gone then some true else some (decide (wv_3.From>=wv_3.To))).bind λv_6=>bif v_6 then some ([]:(List Window))else (fI (([]:List Window),(tT (w64 ((w64 ((w64 (wv_3.From+(w64 (zone_2*60000)))).tdiv 86400000))-2)) e_1.First)) (λs=>jd wv_3 zone_2 e_1 s)).bind λo_21=>thenC o_21 (λs_15=>some s_15.1) (λ_=>none)
def vN (t_1:Window) (wv_2:Window):Option (Window) :=
  some (⟨(tT t_1.From wv_2.From),(Gr t_1.To wv_2.To)⟩:Window)
def kC (wv_3:Window) (k_19:Nat) (x_21:Nat) (s_24:(List Window)):Option (Ctl ((List Window)) (Unit)) :=
  (inR (k_19:Int) s_24).bind λ_=>(s_24[(0+((k_19:Int)).toNat)]?).bind λe_30=>(vN e_30 wv_3).bind λr_33=>(inR (k_19:Int) s_24).bind λ_=>(s_24[(0+((k_19:Int)).toNat)]?).bind λe_36=>some (.go (s_24.set (0+((k_19:Int)).toNat) r_33))
noncomputable def lh (e_1:Entry) (zone_2:Int) (wv_3:Window):Option ((List Window)×Int) :=
  (fU ([e_1]:List Entry)).bind λr_6=>bif (r_6 != 0)then some (([]:(List Window)),r_6)else (aP zone_2 (-1440) 1440).bind λr_9=>bif r_9 then some (([]:(List Window)),1)else (iW wv_3).bind λr_12=>bif (r_12 != 0)then some (([]:(List Window)),r_12)else (kY e_1 zone_2 wv_3).bind λr_15=>(forL (List.range ((r_15.length:Int)).toNat) r_15 (λk x s=>kC wv_3 k x s)).bind λo_27=>thenC o_27 (λs_24=>some (s_24,0)) (λ_=>none)
def nM (wv_1:Window):Option (Bool) :=
  (bif (decide (wv_1.From>=0))then bif (decide (wv_1.From<wv_1.To))then some (decide (wv_1.To<=345686400000))else some false else some false).bind λv_3=>some v_3
noncomputable def ja (l_1:(List ByteArray)):Option (Int) :=
  bif (decide ((l_1.length:Int)>20))then some 2 else (iV l_1).bind λr_3=>some r_3
noncomputable def eG (l_1:(List Campaign)) (k_3:Nat) (x_5:Campaign) (s_8:Unit):Option (Ctl (Unit) (Int)) :=
  ((dY x_5.Key).bind λr_16=>bif (!r_16)then some true else bif (sNe x_5.Class (⟨#[]⟩:ByteArray))then (dY x_5.Class).bind λr_20=>some (!r_20)else some false).bind λv_14=>bif v_14 then some (.ret 5)else (bif (decide ((k_3:Int)>0))then (idx l_1 (w64 ((k_3:Int)-1))).bind λy_26=>some (sLe x_5.Key y_26.Key)else some false).bind λv_23=>bif v_23 then some (.ret 7)else ((nM x_5.Time).bind λr_31=>bif (!r_31)then some true else (aP x_5.Goal 0 1000000).bind λr_34=>bif r_34 then some true else (aP x_5.Most 0 1000000).bind λr_37=>bif r_37 then some true else (aP x_5.Cents 0 1000000000).bind λr_40=>some r_40).bind λv_29=>bif v_29 then some (.ret 1)else (ja x_5.Tags).bind λr_43=>bif (r_43 != 0)then some (.ret r_43)else some (.go ())
noncomputable def fJ (l_1:(List Campaign)):Option (Int) :=
  bif (decide ((l_1.length:Int)>30))then some 2 else (forL l_1 () (λk x s=>eG l_1 k x s)).bind λo_11=>thenC o_11 (λs_8=>some 0) (λr=>some r)
def dA (n_1:Int):Option (Bool) :=
  (bif (decide (n_1>=0))then some (decide (n_1<345686400000))else some false).bind λv_2=>some v_2
def su (c_1:Campaign) (atv_2:Int):Option (Int) :=
  bif (decide (atv_2<c_1.Time.From))then some 0 else bif (decide (atv_2>=c_1.Time.To))then some c_1.Goal else (Gy .i64 (w64 (c_1.Goal*(w64 (atv_2-c_1.Time.From)))) (w64 (c_1.Time.To-c_1.Time.From))).bind λq_6=>some q_6
noncomputable def p8 (c_1:Campaign) (atv_2:Int):Option (Int×Int) :=
  (fJ ([c_1]:List Campaign)).bind λr_4=>bif (r_4 != 0)then some (0,r_4)else (dA atv_2).bind λr_7=>bif (!r_7)then some (0,1)else (su c_1 atv_2).bind λr_10=>some (r_10,0)
def jQ (a_1:Beat) (b_2:Beat):Option (Int) :=
  (strings_Compare a_1.Player b_2.Player).bind λr_5=>(cmp_Compare_int a_1.At b_2.At).bind λr_7=>(mM ([r_5,r_7]:List Int)).bind λr_9=>some r_9
noncomputable def gY (l_1:(List Beat)) (k_3:Nat) (x_5:Beat) (s_8:Unit):Option (Ctl (Unit) (Int)) :=
  (dY x_5.Player).bind λr_14=>bif (!r_14)then some (.ret 5)else ((dA x_5.At).bind λr_19=>bif (!r_19)then some true else (aP x_5.Clock 0 345686399999).bind λr_22=>some r_22).bind λv_17=>bif v_17 then some (.ret 1)else (bif (decide ((k_3:Int)>0))then (idx l_1 (w64 ((k_3:Int)-1))).bind λy_28=>(jQ y_28 x_5).bind λr_30=>some (decide (r_30>=0))else some false).bind λv_25=>bif v_25 then some (.ret 7)else (bif (decide ((k_3:Int)>0))then (idx l_1 (w64 ((k_3:Int)-1))).bind λy_36=>bif (sEq x_5.Player y_36.Player)then (idx l_1 (w64 ((k_3:Int)-1))).bind λy_39=>some (decide (x_5.Clock<=y_39.Clock))else some false else some false).bind λv_33=>bif v_33 then some (.ret 16)else some (.go ())
noncomputable def jJ (l_1:(List Beat)):Option (Int) :=
  bif (decide ((l_1.length:Int)>500))then some 2 else (forL l_1 () (λk x s=>gY l_1 k x s)).bind λo_11=>thenC o_11 (λs_8=>some 0) (λr=>some r)
def oO (player_2:ByteArray) (back_3:Bool) (k_4:Nat) (x_6:Beat) (s_9:(List Beat_)):Option (Ctl ((List Beat_)) (Unit)) :=
  (bif (sNe x_6.Player player_2)then some s_9 else bif back_3 then (mg s_9 ([(⟨x_6.At,x_6.Clock⟩:Beat_)]:List Beat_)).bind λa_23=>some a_23 else (mg s_9 ([(⟨x_6.Clock,x_6.At⟩:Beat_)]:List Beat_)).bind λa_26=>some a_26).bind λv_18=>some (.go v_18)
def oV (l_1:(List Beat)) (player_2:ByteArray) (back_3:Bool):Option ((List Beat_)) :=
  (forL l_1 ([]:List Beat_) (λk x s=>oO player_2 back_3 k x s)).bind λo_15=>thenC o_15 (λs_9=>some s_9) (λ_=>none)
def mh (l_1:(List Beat_)) (n_2:Int) (s_9:Int):Option (Ctl (Int) (Unit)) :=
  (bif (decide (s_9<(l_1.length:Int)))then (idx l_1 s_9).bind λy_17=>some (decide (y_17.f_from<=n_2))else some false).bind λv_14=>bif v_14 then some (.go (w64 (s_9+1)))else some (.brk s_9)
noncomputable def nA (l_1:(List Beat_)) (n_2:Int):Option (Int×Int) :=
  bif ((l_1.length:Int)==0)then some (0,8)else (fI 0 (λs=>mh l_1 n_2 s)).bind λo_12=>thenC o_12 (λs_9=>bif (s_9==0)then (idx l_1 0).bind λy_21=>(idx l_1 0).bind λy_23=>(dA (w64 (y_21.f_to-(w64 (y_23.f_from-n_2))))).bind λr_25=>bif (!r_25)then some (0,11)else some ((w64 (y_21.f_to-(w64 (y_23.f_from-n_2)))),0)else bif (s_9==(l_1.length:Int))then (idx l_1 (w64 (s_9-1))).bind λy_29=>(idx l_1 (w64 (s_9-1))).bind λy_31=>(dA (w64 ((w64 (y_29.f_to+n_2))-y_31.f_from))).bind λr_33=>bif (!r_33)then some (0,11)else some ((w64 ((w64 (y_29.f_to+n_2))-y_31.f_from)),0)else (idx l_1 (w64 (s_9-1))).bind λy_36=>(idx l_1 s_9).bind λy_38=>(bif (decide ((w64 (y_38.f_from-y_36.f_from))>2592000000))then some true else some (decide ((w64 (y_38.f_to-y_36.f_to))>2592000000))).bind λv_42=>bif v_42 then some (0,2)else (Gy .i64 (w64 ((w64 (n_2-y_36.f_from))*(w64 (y_38.f_to-y_36.f_to)))) (w64 (y_38.f_from-y_36.f_from))).bind λq_46=>(dA (w64 (y_36.f_to+q_46))).bind λr_48=>bif (!r_48)then some (0,11)else some ((w64 (y_36.f_to+q_46)),0)) (λ_=>none)
noncomputable def pQ (l_1:(List Beat)) (player_2:ByteArray) (n_3:Int) (back_4:Bool):Option (Int×Int) :=
  (jJ l_1).bind λr_5=>bif (r_5 != 0)then some (0,r_5)else (dY player_2).bind λr_8=>bif (!r_8)then some (0,5)else (dA n_3).bind λr_11=>bif (!r_11)then some (0,1)else (oV l_1 player_2 back_4).bind λr_14=>(nA r_14 n_3).bind λr_16=>some (r_16.1,r_16.2)
noncomputable def pJ (l_1:(List Beat)) (player_2:ByteArray) (clock_3:Int):Option (Int×Int) :=
  (pQ l_1 player_2 clock_3 false).bind λr_4=>some (r_4.1,r_4.2)
noncomputable def iy (a_1:Alert) (k_4:Nat) (x_6:ByteArray) (s_9:Unit):Option (Ctl (Unit) (Int)) :=
  (dY x_6).bind λr_14=>bif (!r_14)then some (.ret 5)else (bif (decide ((k_4:Int)>0))then (idx a_1.Refs (w64 ((k_4:Int)-1))).bind λy_20=>some (sLe x_6 y_20)else some false).bind λv_17=>bif v_17 then some (.ret 7)else bif (sEq x_6 a_1.Id)then some (.ret 14)else some (.go ())
noncomputable def jZ (a_1:Alert):Option (Int) :=
  bif (decide ((a_1.Refs.length:Int)>20))then some 2 else (forL a_1.Refs () (λk x s=>iy a_1 k x s)).bind λo_12=>thenC o_12 (λs_9=>bif (!((a_1.Kind==1)==((a_1.Refs.length:Int)==0)))then some 3 else some 0) (λr=>some r)
def ji (x0:ByteArray):Option (Bool) :=
  JE x0
def strings_Contains (x0:ByteArray) (x1:ByteArray):Option (Bool) :=
  AX x0 x1
def nT (s_1:ByteArray) (s_7:Int):Option (Ctl (Int) (Bool)) :=
  bif (decide (s_7<(s_1.size:Int)))then ((rW s_1 s_7).bind λb_15=>bif (decide ((b_15.toNat:Int)<32))then some true else (rW s_1 s_7).bind λb_18=>some ((b_18.toNat:Int)==127)).bind λv_13=>bif v_13 then some (.ret false)else some (.go (w64 (s_7+1)))else some (.brk s_7)
noncomputable def pM (s_1:ByteArray):Option (Bool) :=
  (fI 0 (λs=>nT s_1 s)).bind λo_10=>thenC o_10 (λs_7=>((ji s_1).bind λr_23=>bif r_23 then (lq s_1 (⟨#[32]⟩:ByteArray)).bind λr_26=>bif (sEq r_26 s_1)then (strings_Contains s_1 (⟨#[32,32]⟩:ByteArray)).bind λr_29=>some (!r_29)else some false else some false).bind λv_21=>some v_21) (λr=>some r)
def jo (k_29:Nat) (x_31:Rect) (s_34:Unit):Option (Ctl (Unit) (Int)) :=
  (lF x_31).bind λr_40=>bif (r_40 != 0)then some (.ret r_40)else some (.go ())
noncomputable def jv (a_1:Alert):Option (Int) :=
  ((dY a_1.Id).bind λr_5=>bif (!r_5)then some true else (dY a_1.Sender).bind λr_8=>some (!r_8)).bind λv_3=>bif v_3 then some 5 else (aP a_1.Kind 1 3).bind λr_11=>bif r_11 then some 4 else (jZ a_1).bind λr_14=>bif (r_14 != 0)then some r_14 else ((dA a_1.At).bind λr_19=>bif (!r_19)then some true else (aP a_1.Until (w64 (a_1.At+1)) (w64 (a_1.At+2592000000))).bind λr_22=>bif r_22 then some true else (aP a_1.Weight 1 9).bind λr_25=>some r_25).bind λv_17=>bif v_17 then some 1 else bif (decide ((a_1.Areas.length:Int)>20))then some 2 else (forL a_1.Areas () (λk x s=>jo k x s)).bind λo_37=>thenC o_37 (λs_34=>bif (!((a_1.Kind==3)==((a_1.Areas.length:Int)==0)))then some 3 else bif (decide ((a_1.Text.size:Int)>500))then some 2 else ((pM a_1.Text).bind λr_47=>bif (!r_47)then some true else bif (sEq a_1.Text (⟨#[]⟩:ByteArray))then some (!(a_1.Kind==3))else some false).bind λv_45=>bif v_45 then some 3 else some 0) (λr=>some r)
def oU (a_1:Alert) (b_2:Alert):Option (Int) :=
  (cmp_Compare_int a_1.At b_2.At).bind λr_5=>(strings_Compare a_1.Id b_2.Id).bind λr_7=>(mM ([r_5,r_7]:List Int)).bind λr_9=>some r_9
noncomputable def gH (l_1:(List Alert)) (k_3:Nat) (x_5:Alert) (s_8:Unit):Option (Ctl (Unit) (Int)) :=
  (jv x_5).bind λr_14=>bif (r_14 != 0)then some (.ret r_14)else (bif (decide ((k_3:Int)>0))then (idx l_1 (w64 ((k_3:Int)-1))).bind λy_20=>(oU y_20 x_5).bind λr_22=>some (decide (r_22>=0))else some false).bind λv_17=>bif v_17 then some (.ret 7)else some (.go ())
def iY (k_26:Nat) (x_28:Alert) (s_31:(List (ByteArray×Bool))):Option (Ctl ((List (ByteArray×Bool))) (Int)) :=
  bif ((Ja eqS s_31 x_28.Id).getD false)then some (.ret 6)else some (.go (NC eqS s_31 x_28.Id true))
noncomputable def iZ (l_1:(List Alert)):Option (Int) :=
  bif (decide ((l_1.length:Int)>300))then some 2 else (forL l_1 () (λk x s=>gH l_1 k x s)).bind λo_11=>thenC o_11 (λs_8=>(forL l_1 ([]:List (ByteArray×Bool)) (λk x s=>iY k x s)).bind λo_34=>thenC o_34 (λs_31=>some 0) (λr=>some r)) (λr=>some r)
noncomputable def ic (l_1:(List Post)) (k_3:Nat) (x_5:Post) (s_8:Unit):Option (Ctl (Unit) (Int)) :=
  (dY x_5.Player).bind λr_14=>bif (!r_14)then some (.ret 5)else ((aP x_5.X (-100000) 100000).bind λr_19=>bif r_19 then some true else (aP x_5.Y (-100000) 100000).bind λr_22=>some r_22).bind λv_17=>bif v_17 then some (.ret 1)else (bif (decide ((k_3:Int)>0))then (idx l_1 (w64 ((k_3:Int)-1))).bind λy_28=>some (sLe x_5.Player y_28.Player)else some false).bind λv_25=>bif v_25 then some (.ret 7)else some (.go ())
noncomputable def jI (l_1:(List Post)):Option (Int) :=
  bif (decide ((l_1.length:Int)>500))then some 2 else (forL l_1 () (λk x s=>ic l_1 k x s)).bind λo_11=>thenC o_11 (λs_8=>some 0) (λr=>some r)
noncomputable def jU (l_1:(List Alert)) (posts_2:(List Post)):Option (Int) :=
  (iZ l_1).bind λr_3=>bif (r_3 != 0)then some r_3 else (jI posts_2).bind λr_6=>some r_6
def qi (r_1:Rect) (p_2:Post):Option (Bool) :=
  (bif (decide (r_1.X<=p_2.X))then bif (decide (p_2.X<(w64 (r_1.X+r_1.W))))then bif (decide (r_1.Y<=p_2.Y))then some (decide (p_2.Y<(w64 (r_1.Y+r_1.H))))else some false else some false else some false).bind λv_4=>some v_4
def eu (f_2:Rect->Option Bool) (k_3:Nat) (x_5:Rect) (s_8:Unit):Option (Ctl (Unit) (Int)) :=
  (f_2 x_5).bind λr_13=>bif r_13 then some (.ret (k_3:Int))else some (.go ())
def fA (s_1:(List Rect)) (f_2:Rect->Option Bool):Option (Int) :=
  (forL s_1 () (λk x s=>eu f_2 k x s)).bind λo_11=>thenC o_11 (λs_8=>some (-1)) (λr=>some r)
def dZ (s_1:(List Rect)) (f_2:Rect->Option Bool):Option (Bool) :=
  (fA s_1 f_2).bind λr_3=>some (decide (r_3>=0))
def o7 (a_1:Alert) (p_2:Post):Option (Bool) :=
  (dZ a_1.Areas (λx0=>qi x0 p_2)).bind λr_5=>some r_5
noncomputable def l7 (a_1:Alert) (p_2:Post):Option (Bool×Int) :=
  (jU ([a_1]:List Alert) ([p_2]:List Post)).bind λr_5=>bif (r_5 != 0)then some (false,r_5)else (o7 a_1 p_2).bind λr_8=>some (r_8,0)
noncomputable def oz  : Option (Bool) :=
  (pI ([(⟨0,0,2,2⟩:Rect),(⟨1,1,2,2⟩:Rect)]:List Rect)).bind λr_1=>(lh (⟨(⟨#[97]⟩:ByteArray),(⟨#[98]⟩:ByteArray),0,0,0,1,127,([]:List Int),1,2,0,([]:List ByteArray),false⟩:Entry) 0 (⟨0,86400000⟩:Window)).bind λr_3=>(p8 (⟨(⟨#[97]⟩:ByteArray),(⟨#[]⟩:ByteArray),(⟨0,100⟩:Window),([]:List ByteArray),10,0,0⟩:Campaign) 50).bind λr_5=>(pJ ([(⟨(⟨#[112]⟩:ByteArray),0,100⟩:Beat),(⟨(⟨#[112]⟩:ByteArray),1000,1300⟩:Beat)]:List Beat) (⟨#[112]⟩:ByteArray) 700).bind λr_7=>(l7 (⟨(⟨#[97]⟩:ByteArray),(⟨#[115]⟩:ByteArray),1,([]:List ByteArray),0,5,1,([(⟨0,0,2,2⟩:Rect)]:List Rect),(⟨#[120]⟩:ByteArray)⟩:Alert) (⟨(⟨#[112]⟩:ByteArray),1,1⟩:Post)).bind λr_10=>((mY ([r_1.2,r_3.2,r_5.2,r_7.2,r_10.2]:List Int)).bind λr_14=>bif (r_14==0)then bif (r_1.1==7)then bif ((r_3.1.length:Int)==1)then bif (r_5.1==5)then bif (r_7.1==500)then some r_10.1 else some false else some false else some false else some false else some false).bind λv_12=>some v_12
def iJ (k_6:Nat) (x_8:Nat) (s_11:(List Log_)×(List Int)×Int):Option (Ctl ((List Log_)×(List Int)×Int) (Unit)) :=
  (kN (⟨s_11.2.1,s_11.2.2⟩:Stream) ([(⟨#[105,97]⟩:ByteArray),(⟨#[105,98]⟩:ByteArray)]:List ByteArray)).bind λr_19=>(mg s_11.1 ([(⟨(⟨#[112]⟩:ByteArray),r_19.1,(w64 ((k_6:Int)+1)),(w64 (100*(k_6:Int))),10,(⟨#[]⟩:ByteArray)⟩:Log_)]:List Log_)).bind λa_22=>some (.go (a_22,r_19.2.L,r_19.2.f_at))
noncomputable def mr (l_1:(List Int)):Option (Bool) :=
  (iT (⟨l_1,0⟩:Stream) 1 6).bind λr_3=>(forL (List.range (r_3.1).toNat) (([]:List Log_),r_3.2.L,r_3.2.f_at) (λk x s=>iJ k x s)).bind λo_17=>thenC o_17 (λs_11=>(pF (⟨#[]⟩:ByteArray) s_11.1).bind λr_25=>(jS r_25.1).bind λr_27=>(ma r_25.1).bind λr_29=>((mY ([r_25.2,r_27.2,r_29.2]:List Int)).bind λr_33=>bif (r_33 != 0)then some true else bif ((r_25.1.length:Int) != (s_11.1.length:Int))then some true else bif ((w64 ((r_27.1.length:Int)+(r_29.1.length:Int))) != 0)then some true else (bW r_25.1).bind λr_38=>some (r_38 != 0)).bind λv_31=>bif v_31 then some false else (iB (⟨s_11.2.1,s_11.2.2⟩:Stream) (r_25.1.length:Int)).bind λr_41=>(bJ r_25.1).bind λr_44=>(inR r_41.1 r_44).bind λ_=>(r_44[(0+(r_41.1).toNat)]?).bind λe_49=>(inR r_41.1 r_44).bind λ_=>(r_44[(0+(r_41.1).toNat)]?).bind λe_52=>(jS (r_44.set (0+(r_41.1).toNat) (⟨e_52.Player,e_52.Item,e_52.No,e_52.Clock,(w64 (e_49.Long+1)),e_52.Sum⟩:Log_))).bind λr_54=>(iT r_41.2 0 (r_25.1.length:Int)).bind λr_56=>(wQ r_25.1 0 r_56.1).bind λy_59=>(wQ r_25.1 r_56.1 r_25.1.length).bind λy_61=>(jN y_59 y_61).bind λr_63=>(wQ r_25.1 r_56.1 r_25.1.length).bind λy_65=>(jN y_65 r_25.1).bind λr_67=>(rF r_25.1).bind λr_69=>(rf r_69.1).bind λr_71=>((mY ([r_54.2,r_63.2,r_67.2,r_69.2,r_71.2.2]:List Int)).bind λr_75=>bif (r_75==0)then (gJ r_54.1 ([r_41.1]:List Int)).bind λr_78=>bif r_78 then (bU r_63.1 r_25.1).bind λr_81=>bif r_81 then (bU r_67.1 r_25.1).bind λr_84=>bif r_84 then (bU r_71.1 r_25.1).bind λr_87=>bif r_87 then (oz).bind λr_90=>some r_90 else some false else some false else some false else some false else some false).bind λv_73=>some v_73) (λ_=>none)
end Go.Proofs.YtnkgapmhkhcanabGreatDoor.Law

