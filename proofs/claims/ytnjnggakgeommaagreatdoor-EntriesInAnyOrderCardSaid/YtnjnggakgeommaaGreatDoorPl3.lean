/-
  THE PLAIN LAW (part 3).
-/
import Derived.Test.YtnjnggakgeommaaGreatDoorPl2
import Derived.Test.YtnjnggakgeommaaGreatDoorDefs
open Go Go.Eng
namespace Go.Proofs.YtnjnggakgeommaaGreatDoor.Law
set_option linter.unusedVariables false
set_option linter.unusedSimpArgs false
set_option maxRecDepth 100000
def gq (s_1:(List Int)) (s_8:Int):Option (Ctl (Int) ((List Int))) :=
 bif (decide (s_8<(s_1.length:Int)))then (inR s_8 s_1).bind λ_=>(s_1[(0+(s_8).toNat)]?).bind λe_15=>(inR (w64 (s_8-1)) s_1).bind λ_=>(s_1[(0+((w64 (s_8-1))).toNat)]?).bind λe_18=>bif (e_15==e_18)then (neL s_1).bind λ_=>(Ah s_1 s_8 (s_1.length:Int)).bind λ_=>(ol (s_1,s_8,1) (λs=>eP s_1 s_8 s)).bind λo_31=>thenC o_31 (λs_28=>(Ah s_28.1 s_28.2.1 (s_28.1.length:Int)).bind λ_=>(Ah (s_28.1.take ((s_28.2.1).toNat)++List.replicate (((s_28.1.length:Int)).toNat-(s_28.2.1).toNat) 0++s_28.1.drop (((s_28.2.1).toNat)+(((s_28.1.length:Int)).toNat-(s_28.2.1).toNat))) 0 s_28.2.1).bind λ_=>some (.ret (cutL (s_28.1.take ((s_28.2.1).toNat)++List.replicate (((s_28.1.length:Int)).toNat-(s_28.2.1).toNat) 0++s_28.1.drop (((s_28.2.1).toNat)+(((s_28.1.length:Int)).toNat-(s_28.2.1).toNat))) 0 ((s_28.2.1).toNat)))) (λ_=>none)else some (.go (w64 (s_8+1)))else some (.brk s_8)
theorem mO (s_1:(List Int)) (s_8:Int):Le (gq s_1 s_8) (dB s_1 s_8):=by
 unfold gq dB
 repeat' (with_reducible first | exact Le.refl _ | refine Le.loop (λ_ => ?_) | refine Le.forL (λ_ _ _ => ?_) | refine Le.thenC (λ_ => ?_) (λ_ => ?_) | refine Le.cond ?_ ?_ | refine Le.bind ?_ (λ_ => ?_))
def iq (s_1:(List Int)):Option ((List Int)) :=
 bif (decide ((s_1.length:Int)<2))then some s_1 else (ol 1 (λs=>gq s_1 s)).bind λo_11=>thenC o_11 (λs_8=>some s_1) (λr=>some r)
theorem oM (s_1:(List Int)):Le (iq s_1) (dW s_1):=by
 unfold iq dW
 repeat' (with_reducible first | exact Le.refl _ | exact mO _ _ | refine Le.loop (λ_ => ?_) | refine Le.forL (λ_ _ _ => ?_) | refine Le.thenC (λ_ => ?_) (λ_ => ?_) | refine Le.cond ?_ ?_ | refine Le.bind ?_ (λ_ => ?_))
def cB (b_3:Int) (a_2:Int) (s_10:(List Run)×Int):Option (Ctl ((List Run)×Int) (Unit)) :=
 bif (decide (s_10.2<b_3))then (ol (s_10.1,s_10.2) (λs=>bQ a_2 s)).bind λo_24=>thenC o_24 (λs_21=>some (.go (s_21.1,(w64 (s_10.2+1))))) (λ_=>none)else some (.brk (s_10.1,s_10.2))
theorem iJ (b_3:Int) (a_2:Int) (s_10:(List Run)×Int):Le (cB b_3 a_2 s_10) (bA b_3 a_2 s_10):=by
 unfold cB bA
 repeat' (with_reducible first | exact Le.refl _ | refine Le.loop (λ_ => ?_) | refine Le.forL (λ_ _ _ => ?_) | refine Le.thenC (λ_ => ?_) (λ_ => ?_) | refine Le.cond ?_ ?_ | refine Le.bind ?_ (λ_ => ?_))
def dz (data_1:(List Run)) (a_2:Int) (b_3:Int):Option ((List Run)) :=
 (ol (data_1,(w64 (a_2+1))) (λs=>cB b_3 a_2 s)).bind λo_13=>thenC o_13 (λs_10=>some s_10.1) (λ_=>none)
theorem je (data_1:(List Run)) (a_2:Int) (b_3:Int):Le (dz data_1 a_2 b_3) (bD data_1 a_2 b_3):=by
 unfold dz bD
 repeat' (with_reducible first | exact Le.refl _ | exact iJ _ _ _ | refine Le.loop (λ_ => ?_) | refine Le.forL (λ_ _ _ => ?_) | refine Le.thenC (λ_ => ?_) (λ_ => ?_) | refine Le.cond ?_ ?_ | refine Le.bind ?_ (λ_ => ?_))
def dH (b_3:Int) (a_2:Int) (data_1:(List Run)) (limit_4:Int) (s_11:Unit):Option (Ctl (Unit) ((List Run))) :=
 bif (decide ((w64 (b_3-a_2))<=12))then (dz data_1 a_2 b_3).bind λr_17=>(wu r_17 data_1).bind λ_=>some (.ret r_17)else bif (limit_4==0)then none else none
theorem jB (b_3:Int) (a_2:Int) (data_1:(List Run)) (limit_4:Int) (s_11:Unit):Le (dH b_3 a_2 data_1 limit_4 s_11) (bN b_3 a_2 data_1 limit_4 s_11):=by
 unfold dH bN
 repeat' (with_reducible first | exact Le.refl _ | exact je _ _ _ | refine Le.loop (λ_ => ?_) | refine Le.forL (λ_ _ _ => ?_) | refine Le.thenC (λ_ => ?_) (λ_ => ?_) | refine Le.cond ?_ ?_ | refine Le.bind ?_ (λ_ => ?_))
def dZ (data_1:(List Run)) (a_2:Int) (b_3:Int) (limit_4:Int):Option ((List Run)) :=
 (ol () (λs=>dH b_3 a_2 data_1 limit_4 s)).bind λo_14=>thenC o_14 (λs_11=>some data_1) (λr=>some r)
theorem kr (data_1:(List Run)) (a_2:Int) (b_3:Int) (limit_4:Int):Le (dZ data_1 a_2 b_3 limit_4) (bS data_1 a_2 b_3 limit_4):=by
 unfold dZ bS
 repeat' (with_reducible first | exact Le.refl _ | exact jB _ _ _ _ _ | refine Le.loop (λ_ => ?_) | refine Le.forL (λ_ _ _ => ?_) | refine Le.thenC (λ_ => ?_) (λ_ => ?_) | refine Le.cond ?_ ?_ | refine Le.bind ?_ (λ_ => ?_))
def dC (x_1:(List Run)):Option ((List Run)) :=
 (nN (IntKind.u64.wrap (x_1.length:Int))).bind λr_3=>(dZ x_1 0 (x_1.length:Int) r_3).bind λr_5=>(wu r_5 x_1).bind λ_=>some r_5
theorem jg (x_1:(List Run)):Le (dC x_1) (bI x_1):=by
 unfold dC bI
 repeat' (with_reducible first | exact Le.refl _ | exact kr _ _ _ _ | refine Le.loop (λ_ => ?_) | refine Le.forL (λ_ _ _ => ?_) | refine Le.thenC (λ_ => ?_) (λ_ => ?_) | refine Le.cond ?_ ?_ | refine Le.bind ?_ (λ_ => ?_))
def pE (l_1:(List Rect)) (y_2:Int):Option ((List Run)) :=
 (forL l_1 ([]:List Run) (λk x s=>mE y_2 k x s)).bind λo_14=>thenC o_14 (λs_8=>(dC s_8).bind λr_27=>(wu r_27 s_8).bind λ_=>(forL r_27 ([]:List Run) (λk x s=>mr k x s)).bind λo_41=>thenC o_41 (λs_35=>some s_35) (λ_=>none)) (λ_=>none)
theorem Cx (l_1:(List Rect)) (y_2:Int):Le (pE l_1 y_2) (lV l_1 y_2):=by
 unfold pE lV
 repeat' (with_reducible first | exact Le.refl _ | exact jg _ | refine Le.loop (λ_ => ?_) | refine Le.forL (λ_ _ _ => ?_) | refine Le.thenC (λ_ => ?_) (λ_ => ?_) | refine Le.cond ?_ ?_ | refine Le.bind ?_ (λ_ => ?_))
def oJ (m_2:(List Run)) (k_3:Nat) (x_5:Run) (s_8:(List Run)×Int):Option (Ctl ((List Run)×Int) (Unit)) :=
 (ol s_8.2 (λs=>mD m_2 x_5 s)).bind λo_25=>thenC o_25 (λs_22=>(ol (s_8.1,s_22,x_5.f_from) (λs=>mJ m_2 x_5 s)).bind λo_43=>thenC o_43 (λs_38=>(bif (decide (s_38.2.2<x_5.f_to))then (ji s_38.1 ([(⟨s_38.2.2,x_5.f_to⟩:Run)]:List Run)).bind λa_68=>some a_68 else some s_38.1).bind λv_64=>some (.go (v_64,s_22))) (λ_=>none)) (λ_=>none)
theorem xD (m_2:(List Run)) (k_3:Nat) (x_5:Run) (s_8:(List Run)×Int):Le (oJ m_2 k_3 x_5 s_8) (jY m_2 k_3 x_5 s_8):=by
 unfold oJ jY
 repeat' (with_reducible first | exact Le.refl _ | refine Le.loop (λ_ => ?_) | refine Le.forL (λ_ _ _ => ?_) | refine Le.thenC (λ_ => ?_) (λ_ => ?_) | refine Le.cond ?_ ?_ | refine Le.bind ?_ (λ_ => ?_))
def sH (l_1:(List Run)) (m_2:(List Run)):Option ((List Run)) :=
 (forL l_1 (([]:List Run),0) (λk x s=>oJ m_2 k x s)).bind λo_14=>thenC o_14 (λs_8=>some s_8.1) (λ_=>none)
theorem CE (l_1:(List Run)) (m_2:(List Run)):Le (sH l_1 m_2) (oo l_1 m_2):=by
 unfold sH oo
 repeat' (with_reducible first | exact Le.refl _ | exact xD _ _ _ _ | refine Le.loop (λ_ => ?_) | refine Le.forL (λ_ _ _ => ?_) | refine Le.thenC (λ_ => ?_) (λ_ => ?_) | refine Le.cond ?_ ?_ | refine Le.bind ?_ (λ_ => ?_))
def mg (r_25:(List Int)) (l_1:(List Rect)) (m_2:(List Rect)) (k_27:Nat) (x_29:Int) (s_32:(List Rect)×(List Run)×Int):Option (Ctl ((List Rect)×(List Run)×Int) (Unit)) :=
 (bif (decide ((w64 ((k_27:Int)+1))<(r_25.length:Int)))then (pE l_1 x_29).bind λr_45=>(pE m_2 x_29).bind λr_47=>(sH r_45 r_47).bind λr_49=>some r_49 else some ([]:List Run)).bind λv_42=>(dx s_32.2.1 v_42).bind λr_51=>bif r_51 then some (.go (s_32.1,s_32.2.1,s_32.2.2))else (forL s_32.2.1 s_32.1 (λk x s=>kN s_32 x_29 k x s)).bind λo_64=>thenC o_64 (λs_59=>some (.go (s_59,v_42,x_29))) (λ_=>none)
theorem wh (r_25:(List Int)) (l_1:(List Rect)) (m_2:(List Rect)) (k_27:Nat) (x_29:Int) (s_32:(List Rect)×(List Run)×Int):Le (mg r_25 l_1 m_2 k_27 x_29 s_32) (jf r_25 l_1 m_2 k_27 x_29 s_32):=by
 unfold mg jf
 repeat' (with_reducible first | exact Le.refl _ | exact Cx _ _ | exact CE _ _ | refine Le.loop (λ_ => ?_) | refine Le.forL (λ_ _ _ => ?_) | refine Le.thenC (λ_ => ?_) (λ_ => ?_) | refine Le.cond ?_ ?_ | refine Le.bind ?_ (λ_ => ?_))
def pW (l_1:(List Rect)) (m_2:(List Rect)):Option ((List Rect)) :=
 (dJ ([l_1,m_2]:List (List Rect))).bind λr_3=>(forL r_3 ([]:List Int) (λk x s=>kJ k x s)).bind λo_16=>thenC o_16 (λs_10=>(Kl s_10).bind λr_22=>(wu r_22 s_10).bind λ_=>(iq r_22).bind λr_25=>(forL r_25 (([]:List Rect),([]:List Run),0) (λk x s=>mg r_25 l_1 m_2 k x s)).bind λo_38=>thenC o_38 (λs_32=>some s_32.1) (λ_=>none)) (λ_=>none)
theorem yN (l_1:(List Rect)) (m_2:(List Rect)):Le (pW l_1 m_2) (ll l_1 m_2):=by
 unfold pW ll
 repeat' (with_reducible first | exact Le.refl _ | exact oM _ | exact wh _ _ _ _ _ _ | exact Ke _ | refine Le.loop (λ_ => ?_) | refine Le.forL (λ_ _ _ => ?_) | refine Le.thenC (λ_ => ?_) (λ_ => ?_) | refine Le.cond ?_ ?_ | refine Le.bind ?_ (λ_ => ?_))
def sK (l_1:(List Rect)):Option (Int×Int) :=
 (jP l_1).bind λr_2=>bif (r_2 != 0)then some (0,r_2)else (pW l_1 ([]:List Rect)).bind λr_5=>(qI r_5).bind λr_7=>some (r_7,0)
theorem Ca (l_1:(List Rect)):Le (sK l_1) (nW l_1):=by
 unfold sK nW
 repeat' (with_reducible first | exact Le.refl _ | exact yN _ _ | refine Le.loop (λ_ => ?_) | refine Le.forL (λ_ _ _ => ?_) | refine Le.thenC (λ_ => ?_) (λ_ => ?_) | refine Le.cond ?_ ?_ | refine Le.bind ?_ (λ_ => ?_))
def fQ (s_1:ByteArray):Option (Bool) :=
 (ol 0 (λs=>iG s_1 s)).bind λo_10=>thenC o_10 (λs_7=>(bif (sNe s_1 (⟨#[]⟩:ByteArray))then some (decide ((s_1.size:Int)<=40))else some false).bind λv_30=>some v_30) (λr=>some r)
theorem iM (s_1:ByteArray):Le (fQ s_1) (fe s_1):=by
 unfold fQ fe
 repeat' (with_reducible first | exact Le.refl _ | refine Le.loop (λ_ => ?_) | refine Le.forL (λ_ _ _ => ?_) | refine Le.thenC (λ_ => ?_) (λ_ => ?_) | refine Le.cond ?_ ?_ | refine Le.bind ?_ (λ_ => ?_))
def lg (l_1:(List ByteArray)) (k_2:Nat) (x_4:ByteArray) (s_7:Unit):Option (Ctl (Unit) (Int)) :=
 (fQ x_4).bind λr_12=>bif (!r_12)then some (.ret 5)else (bif (decide ((k_2:Int)>0))then (idx l_1 (w64 ((k_2:Int)-1))).bind λy_18=>some (sLe x_4 y_18)else some false).bind λv_15=>bif v_15 then some (.ret 7)else some (.go ())
theorem uB (l_1:(List ByteArray)) (k_2:Nat) (x_4:ByteArray) (s_7:Unit):Le (lg l_1 k_2 x_4 s_7) (fP l_1 k_2 x_4 s_7):=by
 unfold lg fP
 repeat' (with_reducible first | exact Le.refl _ | exact iM _ | refine Le.loop (λ_ => ?_) | refine Le.forL (λ_ _ _ => ?_) | refine Le.thenC (λ_ => ?_) (λ_ => ?_) | refine Le.cond ?_ ?_ | refine Le.bind ?_ (λ_ => ?_))
def kP (l_1:(List ByteArray)):Option (Int) :=
 (forL l_1 () (λk x s=>lg l_1 k x s)).bind λo_10=>thenC o_10 (λs_7=>some 0) (λr=>some r)
theorem ql (l_1:(List ByteArray)):Le (kP l_1) (gP l_1):=by
 unfold kP gP
 repeat' (with_reducible first | exact Le.refl _ | exact uB _ _ _ _ | refine Le.loop (λ_ => ?_) | refine Le.forL (λ_ _ _ => ?_) | refine Le.thenC (λ_ => ?_) (λ_ => ?_) | refine Le.cond ?_ ?_ | refine Le.bind ?_ (λ_ => ?_))
def kY (l_1:(List ByteArray)):Option (Int) :=
 bif (decide ((l_1.length:Int)>20))then some 2 else (kP l_1).bind λr_3=>some r_3
theorem uz (l_1:(List ByteArray)):Le (kY l_1) (eY l_1):=by
 unfold kY eY
 repeat' (with_reducible first | exact Le.refl _ | exact ql _ | refine Le.loop (λ_ => ?_) | refine Le.forL (λ_ _ _ => ?_) | refine Le.thenC (λ_ => ?_) (λ_ => ?_) | refine Le.cond ?_ ?_ | refine Le.bind ?_ (λ_ => ?_))
def j4 (e_1:Entry):Option (Int) :=
 ((fQ e_1.Key).bind λr_5=>bif (!r_5)then some true else (fQ e_1.Item).bind λr_8=>some (!r_8)).bind λv_3=>bif v_3 then some 5 else ((aN e_1.Version 0 1000000).bind λr_13=>bif r_13 then some true else (aN e_1.First 0 e_1.Last).bind λr_16=>bif r_16 then some true else bif (decide (e_1.Last>4000))then some true else (aN e_1.Every 1 400).bind λr_20=>bif r_20 then some true else (aN e_1.Days 1 127).bind λr_23=>some r_23).bind λv_11=>bif v_11 then some 1 else (fo e_1.Except).bind λr_26=>bif (r_26 != 0)then some r_26 else ((aN e_1.From 0 1439).bind λr_31=>bif r_31 then some true else (aN e_1.To 0 1439).bind λr_34=>bif r_34 then some true else (aN e_1.Prio 0 9).bind λr_37=>some r_37).bind λv_29=>bif v_29 then some 1 else (kY e_1.Tags).bind λr_40=>some r_40
theorem sI (e_1:Entry):Le (j4 e_1) (eu e_1):=by
 unfold j4 eu
 repeat' (with_reducible first | exact Le.refl _ | exact iM _ | exact uz _ | refine Le.loop (λ_ => ?_) | refine Le.forL (λ_ _ _ => ?_) | refine Le.thenC (λ_ => ?_) (λ_ => ?_) | refine Le.cond ?_ ?_ | refine Le.bind ?_ (λ_ => ?_))
def iC (l_1:(List Entry)) (k_3:Nat) (x_5:Entry) (s_8:Unit):Option (Ctl (Unit) (Int)) :=
 (j4 x_5).bind λr_14=>bif (r_14 != 0)then some (.ret r_14)else (bif (decide ((k_3:Int)>0))then (idx l_1 (w64 ((k_3:Int)-1))).bind λy_20=>some (sLe x_5.Key y_20.Key)else some false).bind λv_17=>bif v_17 then some (.ret 7)else some (.go ())
theorem pz (l_1:(List Entry)) (k_3:Nat) (x_5:Entry) (s_8:Unit):Le (iC l_1 k_3 x_5 s_8) (dD l_1 k_3 x_5 s_8):=by
 unfold iC dD
 repeat' (with_reducible first | exact Le.refl _ | exact sI _ | refine Le.loop (λ_ => ?_) | refine Le.forL (λ_ _ _ => ?_) | refine Le.thenC (λ_ => ?_) (λ_ => ?_) | refine Le.cond ?_ ?_ | refine Le.bind ?_ (λ_ => ?_))
def jv (l_1:(List Entry)):Option (Int) :=
 bif (decide ((l_1.length:Int)>200))then some 2 else (forL l_1 () (λk x s=>iC l_1 k x s)).bind λo_11=>thenC o_11 (λs_8=>some 0) (λr=>some r)
theorem qP (l_1:(List Entry)):Le (jv l_1) (cK l_1):=by
 unfold jv cK
 repeat' (with_reducible first | exact Le.refl _ | exact pz _ _ _ _ | refine Le.loop (λ_ => ?_) | refine Le.forL (λ_ _ _ => ?_) | refine Le.thenC (λ_ => ?_) (λ_ => ?_) | refine Le.cond ?_ ?_ | refine Le.bind ?_ (λ_ => ?_))
def gM (x_1:(List Int)) (target_2:Int):Option (Int×Bool) :=
 (ol (0,(x_1.length:Int)) (λs=>dR x_1 target_2 s)).bind λo_11=>thenC o_11 (λs_8=>(bif (decide (s_8.1<(x_1.length:Int)))then (idx x_1 s_8.1).bind λy_24=>bif (y_24==target_2)then some true else (idx x_1 s_8.1).bind λy_27=>(gZ y_27).bind λr_29=>bif r_29 then (gZ target_2).bind λr_32=>some r_32 else some false else some false).bind λv_21=>some (s_8.1,v_21)) (λ_=>none)
theorem mW (x_1:(List Int)) (target_2:Int):Le (gM x_1 target_2) (dF x_1 target_2):=by
 unfold gM dF
 repeat' (with_reducible first | exact Le.refl _ | refine Le.loop (λ_ => ?_) | refine Le.forL (λ_ _ _ => ?_) | refine Le.thenC (λ_ => ?_) (λ_ => ?_) | refine Le.cond ?_ ?_ | refine Le.bind ?_ (λ_ => ?_))
def oH (e_1:Entry) (d_2:Int):Option (Bool) :=
 ((aN d_2 e_1.First e_1.Last).bind λr_6=>bif r_6 then some true else (Gp .i64 (w64 (d_2-e_1.First)) e_1.Every).bind λq_9=>bif (q_9 != 0)then some true else (A7 .i64 1 (d_2.tmod 7)).bind λq_12=>some ((tu .i64 e_1.Days q_12)==0)).bind λv_4=>bif v_4 then some false else (gM e_1.Except d_2).bind λr_15=>some (!r_15.2)
theorem xV (e_1:Entry) (d_2:Int):Le (oH e_1 d_2) (jU e_1 d_2):=by
 unfold oH jU
 repeat' (with_reducible first | exact Le.refl _ | exact mW _ _ | refine Le.loop (λ_ => ?_) | refine Le.forL (λ_ _ _ => ?_) | refine Le.thenC (λ_ => ?_) (λ_ => ?_) | refine Le.cond ?_ ?_ | refine Le.bind ?_ (λ_ => ?_))
def lS (wv_3:Window) (zone_2:Int) (e_1:Entry) (s_15:(List Window)×Int):Option (Ctl ((List Window)×Int) (Unit)) :=
 bif (decide (s_15.2<=(D8 (w64 ((w64 ((w64 (wv_3.To+(w64 (zone_2*60000)))).tdiv 86400000))+1)) e_1.Last)))then (oH e_1 s_15.2).bind λr_24=>bif (!r_24)then some (.go (s_15.1,(w64 (s_15.2+1))))else (lG e_1 zone_2 s_15.2).bind λr_27=>(bif (decide (r_27.From<wv_3.To))then some (decide (r_27.To>wv_3.From))else some false).bind λv_30=>(bif v_30 then (ji s_15.1 ([r_27]:List Window)).bind λa_37=>some a_37 else some s_15.1).bind λv_33=>some (.go (v_33,(w64 (s_15.2+1))))else some (.brk (s_15.1,s_15.2))
theorem uC (wv_3:Window) (zone_2:Int) (e_1:Entry) (s_15:(List Window)×Int):Le (lS wv_3 zone_2 e_1 s_15) (iO wv_3 zone_2 e_1 s_15):=by
 unfold lS iO
 repeat' (with_reducible first | exact Le.refl _ | exact xV _ _ | refine Le.loop (λ_ => ?_) | refine Le.forL (λ_ _ _ => ?_) | refine Le.thenC (λ_ => ?_) (λ_ => ?_) | refine Le.cond ?_ ?_ | refine Le.bind ?_ (λ_ => ?_))
def oN (e_1:Entry) (zone_2:Int) (wv_3:Window):Option ((List Window)) :=
 (bif e_1.Gone then some true else some (decide (wv_3.From>=wv_3.To))).bind λv_6=>bif v_6 then some ([]:(List Window))else (ol (([]:List Window),(rV (w64 ((w64 ((w64 (wv_3.From+(w64 (zone_2*60000)))).tdiv 86400000))-2)) e_1.First)) (λs=>lS wv_3 zone_2 e_1 s)).bind λo_21=>thenC o_21 (λs_15=>some s_15.1) (λ_=>none)
theorem xZ (e_1:Entry) (zone_2:Int) (wv_3:Window):Le (oN e_1 zone_2 wv_3) (jZ e_1 zone_2 wv_3):=by
 unfold oN jZ
 repeat' (with_reducible first | exact Le.refl _ | exact uC _ _ _ _ | refine Le.loop (λ_ => ?_) | refine Le.forL (λ_ _ _ => ?_) | refine Le.thenC (λ_ => ?_) (λ_ => ?_) | refine Le.cond ?_ ?_ | refine Le.bind ?_ (λ_ => ?_))
def oz (e_1:Entry) (zone_2:Int) (wv_3:Window):Option ((List Window)×Int) :=
 (jv ([e_1]:List Entry)).bind λr_6=>bif (r_6 != 0)then some (([]:(List Window)),r_6)else (aN zone_2 (-1440) 1440).bind λr_9=>bif r_9 then some (([]:(List Window)),1)else (iL wv_3).bind λr_12=>bif (r_12 != 0)then some (([]:(List Window)),r_12)else (oN e_1 zone_2 wv_3).bind λr_15=>(forL (List.range ((r_15.length:Int)).toNat) r_15 (λk x s=>jN wv_3 k x s)).bind λo_27=>thenC o_27 (λs_24=>some (s_24,0)) (λ_=>none)
theorem xS (e_1:Entry) (zone_2:Int) (wv_3:Window):Le (oz e_1 zone_2 wv_3) (j5 e_1 zone_2 wv_3):=by
 unfold oz j5
 repeat' (with_reducible first | exact Le.refl _ | exact qP _ | exact xZ _ _ _ | refine Le.loop (λ_ => ?_) | refine Le.forL (λ_ _ _ => ?_) | refine Le.thenC (λ_ => ?_) (λ_ => ?_) | refine Le.cond ?_ ?_ | refine Le.bind ?_ (λ_ => ?_))
def lJ (l_1:(List ByteArray)):Option (Int) :=
 bif (decide ((l_1.length:Int)>20))then some 2 else (kP l_1).bind λr_3=>some r_3
theorem u7 (l_1:(List ByteArray)):Le (lJ l_1) (iE l_1):=by
 unfold lJ iE
 repeat' (with_reducible first | exact Le.refl _ | exact ql _ | refine Le.loop (λ_ => ?_) | refine Le.forL (λ_ _ _ => ?_) | refine Le.thenC (λ_ => ?_) (λ_ => ?_) | refine Le.cond ?_ ?_ | refine Le.bind ?_ (λ_ => ?_))
def ic (l_1:(List Campaign)) (k_3:Nat) (x_5:Campaign) (s_8:Unit):Option (Ctl (Unit) (Int)) :=
 ((fQ x_5.Key).bind λr_16=>bif (!r_16)then some true else bif (sNe x_5.Class (⟨#[]⟩:ByteArray))then (fQ x_5.Class).bind λr_20=>some (!r_20)else some false).bind λv_14=>bif v_14 then some (.ret 5)else (bif (decide ((k_3:Int)>0))then (idx l_1 (w64 ((k_3:Int)-1))).bind λy_26=>some (sLe x_5.Key y_26.Key)else some false).bind λv_23=>bif v_23 then some (.ret 7)else ((mM x_5.Time).bind λr_31=>bif (!r_31)then some true else (aN x_5.Goal 0 1000000).bind λr_34=>bif r_34 then some true else (aN x_5.Most 0 1000000).bind λr_37=>bif r_37 then some true else (aN x_5.Cents 0 1000000000).bind λr_40=>some r_40).bind λv_29=>bif v_29 then some (.ret 1)else (lJ x_5.Tags).bind λr_43=>bif (r_43 != 0)then some (.ret r_43)else some (.go ())
theorem oP (l_1:(List Campaign)) (k_3:Nat) (x_5:Campaign) (s_8:Unit):Le (ic l_1 k_3 x_5 s_8) (dY l_1 k_3 x_5 s_8):=by
 unfold ic dY
 repeat' (with_reducible first | exact Le.refl _ | exact iM _ | exact u7 _ | refine Le.loop (λ_ => ?_) | refine Le.forL (λ_ _ _ => ?_) | refine Le.thenC (λ_ => ?_) (λ_ => ?_) | refine Le.cond ?_ ?_ | refine Le.bind ?_ (λ_ => ?_))
def iV (l_1:(List Campaign)):Option (Int) :=
 bif (decide ((l_1.length:Int)>30))then some 2 else (forL l_1 () (λk x s=>ic l_1 k x s)).bind λo_11=>thenC o_11 (λs_8=>some 0) (λr=>some r)
theorem qw (l_1:(List Campaign)):Le (iV l_1) (fD l_1):=by
 unfold iV fD
 repeat' (with_reducible first | exact Le.refl _ | exact oP _ _ _ _ | refine Le.loop (λ_ => ?_) | refine Le.forL (λ_ _ _ => ?_) | refine Le.thenC (λ_ => ?_) (λ_ => ?_) | refine Le.cond ?_ ?_ | refine Le.bind ?_ (λ_ => ?_))
def tH (c_1:Campaign) (atv_2:Int):Option (Int×Int) :=
 (iV ([c_1]:List Campaign)).bind λr_4=>bif (r_4 != 0)then some (0,r_4)else (cO atv_2).bind λr_7=>bif (!r_7)then some (0,1)else (qH c_1 atv_2).bind λr_10=>some (r_10,0)
theorem AY (c_1:Campaign) (atv_2:Int):Le (tH c_1 atv_2) (nZ c_1 atv_2):=by
 unfold tH nZ
 repeat' (with_reducible first | exact Le.refl _ | exact qw _ | refine Le.loop (λ_ => ?_) | refine Le.forL (λ_ _ _ => ?_) | refine Le.thenC (λ_ => ?_) (λ_ => ?_) | refine Le.cond ?_ ?_ | refine Le.bind ?_ (λ_ => ?_))
def jW (l_1:(List Beat)) (k_3:Nat) (x_5:Beat) (s_8:Unit):Option (Ctl (Unit) (Int)) :=
 (fQ x_5.Player).bind λr_14=>bif (!r_14)then some (.ret 5)else ((cO x_5.At).bind λr_19=>bif (!r_19)then some true else (aN x_5.Clock 0 345686399999).bind λr_22=>some r_22).bind λv_17=>bif v_17 then some (.ret 1)else (bif (decide ((k_3:Int)>0))then (idx l_1 (w64 ((k_3:Int)-1))).bind λy_28=>(jr y_28 x_5).bind λr_30=>some (decide (r_30>=0))else some false).bind λv_25=>bif v_25 then some (.ret 7)else (bif (decide ((k_3:Int)>0))then (idx l_1 (w64 ((k_3:Int)-1))).bind λy_36=>bif (sEq x_5.Player y_36.Player)then (idx l_1 (w64 ((k_3:Int)-1))).bind λy_39=>some (decide (x_5.Clock<=y_39.Clock))else some false else some false).bind λv_33=>bif v_33 then some (.ret 16)else some (.go ())
theorem tO (l_1:(List Beat)) (k_3:Nat) (x_5:Beat) (s_8:Unit):Le (jW l_1 k_3 x_5 s_8) (gQ l_1 k_3 x_5 s_8):=by
 unfold jW gQ
 repeat' (with_reducible first | exact Le.refl _ | exact iM _ | refine Le.loop (λ_ => ?_) | refine Le.forL (λ_ _ _ => ?_) | refine Le.thenC (λ_ => ?_) (λ_ => ?_) | refine Le.cond ?_ ?_ | refine Le.bind ?_ (λ_ => ?_))
def mI (l_1:(List Beat)):Option (Int) :=
 bif (decide ((l_1.length:Int)>500))then some 2 else (forL l_1 () (λk x s=>jW l_1 k x s)).bind λo_11=>thenC o_11 (λs_8=>some 0) (λr=>some r)
theorem vZ (l_1:(List Beat)):Le (mI l_1) (iZ l_1):=by
 unfold mI iZ
 repeat' (with_reducible first | exact Le.refl _ | exact tO _ _ _ _ | refine Le.loop (λ_ => ?_) | refine Le.forL (λ_ _ _ => ?_) | refine Le.thenC (λ_ => ?_) (λ_ => ?_) | refine Le.cond ?_ ?_ | refine Le.bind ?_ (λ_ => ?_))
def qM (l_1:(List Beat_)) (n_2:Int):Option (Int×Int) :=
 bif ((l_1.length:Int)==0)then some (0,8)else (ol 0 (λs=>lD l_1 n_2 s)).bind λo_12=>thenC o_12 (λs_9=>bif (s_9==0)then (idx l_1 0).bind λy_21=>(idx l_1 0).bind λy_23=>(cO (w64 (y_21.f_to-(w64 (y_23.f_from-n_2))))).bind λr_25=>bif (!r_25)then some (0,11)else some ((w64 (y_21.f_to-(w64 (y_23.f_from-n_2)))),0)else bif (s_9==(l_1.length:Int))then (idx l_1 (w64 (s_9-1))).bind λy_29=>(idx l_1 (w64 (s_9-1))).bind λy_31=>(cO (w64 ((w64 (y_29.f_to+n_2))-y_31.f_from))).bind λr_33=>bif (!r_33)then some (0,11)else some ((w64 ((w64 (y_29.f_to+n_2))-y_31.f_from)),0)else (idx l_1 (w64 (s_9-1))).bind λy_36=>(idx l_1 s_9).bind λy_38=>(bif (decide ((w64 (y_38.f_from-y_36.f_from))>2592000000))then some true else some (decide ((w64 (y_38.f_to-y_36.f_to))>2592000000))).bind λv_42=>bif v_42 then some (0,2)else (GY .i64 (w64 ((w64 (n_2-y_36.f_from))*(w64 (y_38.f_to-y_36.f_to)))) (w64 (y_38.f_from-y_36.f_from))).bind λq_46=>(cO (w64 (y_36.f_to+q_46))).bind λr_48=>bif (!r_48)then some (0,11)else some ((w64 (y_36.f_to+q_46)),0)) (λ_=>none)
theorem Ac (l_1:(List Beat_)) (n_2:Int):Le (qM l_1 n_2) (mf l_1 n_2):=by
 unfold qM mf
 repeat' (with_reducible first | exact Le.refl _ | refine Le.loop (λ_ => ?_) | refine Le.forL (λ_ _ _ => ?_) | refine Le.thenC (λ_ => ?_) (λ_ => ?_) | refine Le.cond ?_ ?_ | refine Le.bind ?_ (λ_ => ?_))
def sN (l_1:(List Beat)) (player_2:ByteArray) (n_3:Int) (back_4:Bool):Option (Int×Int) :=
 (mI l_1).bind λr_5=>bif (r_5 != 0)then some (0,r_5)else (fQ player_2).bind λr_8=>bif (!r_8)then some (0,5)else (cO n_3).bind λr_11=>bif (!r_11)then some (0,1)else (nI l_1 player_2 back_4).bind λr_14=>(qM r_14 n_3).bind λr_16=>some (r_16.1,r_16.2)
theorem Bu (l_1:(List Beat)) (player_2:ByteArray) (n_3:Int) (back_4:Bool):Le (sN l_1 player_2 n_3 back_4) (nX l_1 player_2 n_3 back_4):=by
 unfold sN nX
 repeat' (with_reducible first | exact Le.refl _ | exact iM _ | exact vZ _ | exact Ac _ _ | refine Le.loop (λ_ => ?_) | refine Le.forL (λ_ _ _ => ?_) | refine Le.thenC (λ_ => ?_) (λ_ => ?_) | refine Le.cond ?_ ?_ | refine Le.bind ?_ (λ_ => ?_))
def tF (l_1:(List Beat)) (player_2:ByteArray) (clock_3:Int):Option (Int×Int) :=
 (sN l_1 player_2 clock_3 false).bind λr_4=>some (r_4.1,r_4.2)
theorem Cn (l_1:(List Beat)) (player_2:ByteArray) (clock_3:Int):Le (tF l_1 player_2 clock_3) (og l_1 player_2 clock_3):=by
 unfold tF og
 repeat' (with_reducible first | exact Le.refl _ | exact Bu _ _ _ _ | refine Le.loop (λ_ => ?_) | refine Le.forL (λ_ _ _ => ?_) | refine Le.thenC (λ_ => ?_) (λ_ => ?_) | refine Le.cond ?_ ?_ | refine Le.bind ?_ (λ_ => ?_))
def kX (a_1:Alert) (k_4:Nat) (x_6:ByteArray) (s_9:Unit):Option (Ctl (Unit) (Int)) :=
 (fQ x_6).bind λr_14=>bif (!r_14)then some (.ret 5)else (bif (decide ((k_4:Int)>0))then (idx a_1.Refs (w64 ((k_4:Int)-1))).bind λy_20=>some (sLe x_6 y_20)else some false).bind λv_17=>bif v_17 then some (.ret 7)else bif (sEq x_6 a_1.Id)then some (.ret 14)else some (.go ())
theorem uy (a_1:Alert) (k_4:Nat) (x_6:ByteArray) (s_9:Unit):Le (kX a_1 k_4 x_6 s_9) (ig a_1 k_4 x_6 s_9):=by
 unfold kX ig
 repeat' (with_reducible first | exact Le.refl _ | exact iM _ | refine Le.loop (λ_ => ?_) | refine Le.forL (λ_ _ _ => ?_) | refine Le.thenC (λ_ => ?_) (λ_ => ?_) | refine Le.cond ?_ ?_ | refine Le.bind ?_ (λ_ => ?_))
def nE (a_1:Alert):Option (Int) :=
 bif (decide ((a_1.Refs.length:Int)>20))then some 2 else (forL a_1.Refs () (λk x s=>kX a_1 k x s)).bind λo_12=>thenC o_12 (λs_9=>bif (!((a_1.Kind==1)==((a_1.Refs.length:Int)==0)))then some 3 else some 0) (λr=>some r)
theorem xq (a_1:Alert):Le (nE a_1) (jE a_1):=by
 unfold nE jE
 repeat' (with_reducible first | exact Le.refl _ | exact uy _ _ _ _ | refine Le.loop (λ_ => ?_) | refine Le.forL (λ_ _ _ => ?_) | refine Le.thenC (λ_ => ?_) (λ_ => ?_) | refine Le.cond ?_ ?_ | refine Le.bind ?_ (λ_ => ?_))
def gL (s_7:ByteArray):Option (Ctl (ByteArray) (Unit)) :=
 bif (decide ((s_7.size:Int)>0))then (mX s_7 0).bind λb_13=>bif (decide ((b_13.toNat:Int)<128))then (si s_7 1 s_7.size).bind λy_16=>(bif (decide ((y_16.size:Int)>8))then (bn y_16).bind λr_21=>some ((tu .u64 r_21 9259542123273814144)==0)else some false).bind λv_18=>(bif v_18 then (si y_16 8 y_16.size).bind λy_26=>(bif (decide ((y_26.size:Int)>16))then (bn y_26).bind λr_31=>(si y_26 8 y_26.size).bind λy_33=>(bn y_33).bind λr_35=>some ((tu .u64 (orI .u64 r_31 r_35) 9259542123273814144)==0)else some false).bind λv_28=>bif v_28 then (si y_26 16 y_26.size).bind λy_38=>(ol y_38 (λs=>fu s)).bind λo_48=>thenC o_48 (λs_45=>some s_45) (λ_=>none)else some y_26 else some y_16).bind λv_23=>some (.go v_23)else none else some (.brk s_7)
theorem ni (s_7:ByteArray):Le (gL s_7) (dE s_7):=by
 unfold gL dE
 repeat' (with_reducible first | exact Le.refl _ | refine Le.loop (λ_ => ?_) | refine Le.forL (λ_ _ _ => ?_) | refine Le.thenC (λ_ => ?_) (λ_ => ?_) | refine Le.cond ?_ ?_ | refine Le.bind ?_ (λ_ => ?_))
def iB (s_1:ByteArray):Option (Bool) :=
 (ol s_1 (λs=>gL s)).bind λo_10=>thenC o_10 (λs_7=>some true) (λ_=>none)
theorem pg (s_1:ByteArray):Le (iB s_1) (eH s_1):=by
 unfold iB eH
 repeat' (with_reducible first | exact Le.refl _ | exact ni _ | refine Le.loop (λ_ => ?_) | refine Le.forL (λ_ _ _ => ?_) | refine Le.thenC (λ_ => ?_) (λ_ => ?_) | refine Le.cond ?_ ?_ | refine Le.bind ?_ (λ_ => ?_))
def jw (s_1:ByteArray) (c_2:Int):Option (ByteArray) :=
 (ol s_1 (λs=>gm c_2 s)).bind λo_11=>thenC o_11 (λs_8=>some s_8) (λ_=>none)
theorem qQ (s_1:ByteArray) (c_2:Int):Le (jw s_1 c_2) (strings_trimRightByte s_1 c_2):=by
 unfold jw strings_trimRightByte
 repeat' (with_reducible first | exact Le.refl _ | refine Le.loop (λ_ => ?_) | refine Le.forL (λ_ _ _ => ?_) | refine Le.thenC (λ_ => ?_) (λ_ => ?_) | refine Le.cond ?_ ?_ | refine Le.bind ?_ (λ_ => ?_))
def jM (s_1:ByteArray) (c_2:Int):Option (ByteArray) :=
 (ol s_1 (λs=>gJ c_2 s)).bind λo_11=>thenC o_11 (λs_8=>some s_8) (λ_=>none)
theorem rU (s_1:ByteArray) (c_2:Int):Le (jM s_1 c_2) (strings_trimLeftByte s_1 c_2):=by
 unfold jM strings_trimLeftByte
 repeat' (with_reducible first | exact Le.refl _ | refine Le.loop (λ_ => ?_) | refine Le.forL (λ_ _ _ => ?_) | refine Le.thenC (λ_ => ?_) (λ_ => ?_) | refine Le.cond ?_ ?_ | refine Le.bind ?_ (λ_ => ?_))
def qN (s_1:ByteArray) (cutset_2:ByteArray):Option (ByteArray) :=
 (bif (sEq s_1 (⟨#[]⟩:ByteArray))then some true else some (sEq cutset_2 (⟨#[]⟩:ByteArray))).bind λv_3=>bif v_3 then some s_1 else (bif ((cutset_2.size:Int)==1)then (mX cutset_2 0).bind λb_10=>some (decide ((b_10.toNat:Int)<128))else some false).bind λv_7=>bif v_7 then (mX cutset_2 0).bind λb_13=>(jw s_1 (b_13.toNat:Int)).bind λr_15=>(mX cutset_2 0).bind λb_17=>(jM r_15 (b_17.toNat:Int)).bind λr_19=>some r_19 else none
theorem Aa (s_1:ByteArray) (cutset_2:ByteArray):Le (qN s_1 cutset_2) (mK s_1 cutset_2):=by
 unfold qN mK
 repeat' (with_reducible first | exact Le.refl _ | exact qQ _ _ | exact rU _ _ | refine Le.loop (λ_ => ?_) | refine Le.forL (λ_ _ _ => ?_) | refine Le.thenC (λ_ => ?_) (λ_ => ?_) | refine Le.cond ?_ ?_ | refine Le.bind ?_ (λ_ => ?_))
def tC (s_1:ByteArray):Option (Bool) :=
 (ol 0 (λs=>mH s_1 s)).bind λo_10=>thenC o_10 (λs_7=>((iB s_1).bind λr_23=>bif r_23 then (qN s_1 (⟨#[32]⟩:ByteArray)).bind λr_26=>bif (sEq r_26 s_1)then (strings_Contains s_1 (⟨#[32,32]⟩:ByteArray)).bind λr_29=>some (!r_29)else some false else some false).bind λv_21=>some v_21) (λr=>some r)
theorem Ch (s_1:ByteArray):Le (tC s_1) (nP s_1):=by
 unfold tC nP
 repeat' (with_reducible first | exact Le.refl _ | exact pg _ | exact Aa _ _ | refine Le.loop (λ_ => ?_) | refine Le.forL (λ_ _ _ => ?_) | refine Le.thenC (λ_ => ?_) (λ_ => ?_) | refine Le.cond ?_ ?_ | refine Le.bind ?_ (λ_ => ?_))
def mh (a_1:Alert):Option (Int) :=
 ((fQ a_1.Id).bind λr_5=>bif (!r_5)then some true else (fQ a_1.Sender).bind λr_8=>some (!r_8)).bind λv_3=>bif v_3 then some 5 else (aN a_1.Kind 1 3).bind λr_11=>bif r_11 then some 4 else (nE a_1).bind λr_14=>bif (r_14 != 0)then some r_14 else ((cO a_1.At).bind λr_19=>bif (!r_19)then some true else (aN a_1.Until (w64 (a_1.At+1)) (w64 (a_1.At+2592000000))).bind λr_22=>bif r_22 then some true else (aN a_1.Weight 1 9).bind λr_25=>some r_25).bind λv_17=>bif v_17 then some 1 else bif (decide ((a_1.Areas.length:Int)>20))then some 2 else (forL a_1.Areas () (λk x s=>iQ k x s)).bind λo_37=>thenC o_37 (λs_34=>bif (!((a_1.Kind==3)==((a_1.Areas.length:Int)==0)))then some 3 else bif (decide ((a_1.Text.size:Int)>500))then some 2 else ((tC a_1.Text).bind λr_47=>bif (!r_47)then some true else bif (sEq a_1.Text (⟨#[]⟩:ByteArray))then some (!(a_1.Kind==3))else some false).bind λv_45=>bif v_45 then some 3 else some 0) (λr=>some r)
theorem vW (a_1:Alert):Le (mh a_1) (iW a_1):=by
 unfold mh iW
 repeat' (with_reducible first | exact Le.refl _ | exact iM _ | exact xq _ | exact Ch _ | refine Le.loop (λ_ => ?_) | refine Le.forL (λ_ _ _ => ?_) | refine Le.thenC (λ_ => ?_) (λ_ => ?_) | refine Le.cond ?_ ?_ | refine Le.bind ?_ (λ_ => ?_))
def jJ (l_1:(List Alert)) (k_3:Nat) (x_5:Alert) (s_8:Unit):Option (Ctl (Unit) (Int)) :=
 (mh x_5).bind λr_14=>bif (r_14 != 0)then some (.ret r_14)else (bif (decide ((k_3:Int)>0))then (idx l_1 (w64 ((k_3:Int)-1))).bind λy_20=>(nK y_20 x_5).bind λr_22=>some (decide (r_22>=0))else some false).bind λv_17=>bif v_17 then some (.ret 7)else some (.go ())
theorem rq (l_1:(List Alert)) (k_3:Nat) (x_5:Alert) (s_8:Unit):Le (jJ l_1 k_3 x_5 s_8) (gu l_1 k_3 x_5 s_8):=by
 unfold jJ gu
 repeat' (with_reducible first | exact Le.refl _ | exact vW _ | refine Le.loop (λ_ => ?_) | refine Le.forL (λ_ _ _ => ?_) | refine Le.thenC (λ_ => ?_) (λ_ => ?_) | refine Le.cond ?_ ?_ | refine Le.bind ?_ (λ_ => ?_))
def lN (l_1:(List Alert)):Option (Int) :=
 bif (decide ((l_1.length:Int)>300))then some 2 else (forL l_1 () (λk x s=>jJ l_1 k x s)).bind λo_11=>thenC o_11 (λs_8=>(forL l_1 ([]:List (ByteArray×Bool)) (λk x s=>iK k x s)).bind λo_34=>thenC o_34 (λs_31=>some 0) (λr=>some r)) (λr=>some r)
theorem uW (l_1:(List Alert)):Le (lN l_1) (iH l_1):=by
 unfold lN iH
 repeat' (with_reducible first | exact Le.refl _ | exact rq _ _ _ _ | refine Le.loop (λ_ => ?_) | refine Le.forL (λ_ _ _ => ?_) | refine Le.thenC (λ_ => ?_) (λ_ => ?_) | refine Le.cond ?_ ?_ | refine Le.bind ?_ (λ_ => ?_))
def jX (l_1:(List Post)) (k_3:Nat) (x_5:Post) (s_8:Unit):Option (Ctl (Unit) (Int)) :=
 (fQ x_5.Player).bind λr_14=>bif (!r_14)then some (.ret 5)else ((aN x_5.X (-100000) 100000).bind λr_19=>bif r_19 then some true else (aN x_5.Y (-100000) 100000).bind λr_22=>some r_22).bind λv_17=>bif v_17 then some (.ret 1)else (bif (decide ((k_3:Int)>0))then (idx l_1 (w64 ((k_3:Int)-1))).bind λy_28=>some (sLe x_5.Player y_28.Player)else some false).bind λv_25=>bif v_25 then some (.ret 7)else some (.go ())
theorem sS (l_1:(List Post)) (k_3:Nat) (x_5:Post) (s_8:Unit):Le (jX l_1 k_3 x_5 s_8) (gU l_1 k_3 x_5 s_8):=by
 unfold jX gU
 repeat' (with_reducible first | exact Le.refl _ | exact iM _ | refine Le.loop (λ_ => ?_) | refine Le.forL (λ_ _ _ => ?_) | refine Le.thenC (λ_ => ?_) (λ_ => ?_) | refine Le.cond ?_ ?_ | refine Le.bind ?_ (λ_ => ?_))
def mF (l_1:(List Post)):Option (Int) :=
 bif (decide ((l_1.length:Int)>500))then some 2 else (forL l_1 () (λk x s=>jX l_1 k x s)).bind λo_11=>thenC o_11 (λs_8=>some 0) (λr=>some r)
theorem vY (l_1:(List Post)):Le (mF l_1) (jc l_1):=by
 unfold mF jc
 repeat' (with_reducible first | exact Le.refl _ | exact sS _ _ _ _ | refine Le.loop (λ_ => ?_) | refine Le.forL (λ_ _ _ => ?_) | refine Le.thenC (λ_ => ?_) (λ_ => ?_) | refine Le.cond ?_ ?_ | refine Le.bind ?_ (λ_ => ?_))
def nz (l_1:(List Alert)) (posts_2:(List Post)):Option (Int) :=
 (lN l_1).bind λr_3=>bif (r_3 != 0)then some r_3 else (mF posts_2).bind λr_6=>some r_6
theorem wX (l_1:(List Alert)) (posts_2:(List Post)):Le (nz l_1 posts_2) (jy l_1 posts_2):=by
 unfold nz jy
 repeat' (with_reducible first | exact Le.refl _ | exact uW _ | exact vY _ | refine Le.loop (λ_ => ?_) | refine Le.forL (λ_ _ _ => ?_) | refine Le.thenC (λ_ => ?_) (λ_ => ?_) | refine Le.cond ?_ ?_ | refine Le.bind ?_ (λ_ => ?_))
def qf (a_1:Alert) (p_2:Post):Option (Bool×Int) :=
 (nz ([a_1]:List Alert) ([p_2]:List Post)).bind λr_5=>bif (r_5 != 0)then some (false,r_5)else (nG a_1 p_2).bind λr_8=>some (r_8,0)
theorem yU (a_1:Alert) (p_2:Post):Le (qf a_1 p_2) (lm a_1 p_2):=by
 unfold qf lm
 repeat' (with_reducible first | exact Le.refl _ | exact wX _ _ | refine Le.loop (λ_ => ?_) | refine Le.forL (λ_ _ _ => ?_) | refine Le.thenC (λ_ => ?_) (λ_ => ?_) | refine Le.cond ?_ ?_ | refine Le.bind ?_ (λ_ => ?_))
def uQ  : Option (Bool) :=
 (sK ([(⟨0,0,2,2⟩:Rect),(⟨1,1,2,2⟩:Rect)]:List Rect)).bind λr_1=>(oz (⟨(⟨#[97]⟩:ByteArray),(⟨#[98]⟩:ByteArray),0,0,0,1,127,([]:List Int),1,2,0,([]:List ByteArray),false⟩:Entry) 0 (⟨0,86400000⟩:Window)).bind λr_3=>(tH (⟨(⟨#[97]⟩:ByteArray),(⟨#[]⟩:ByteArray),(⟨0,100⟩:Window),([]:List ByteArray),10,0,0⟩:Campaign) 50).bind λr_5=>(tF ([(⟨(⟨#[112]⟩:ByteArray),0,100⟩:Beat),(⟨(⟨#[112]⟩:ByteArray),1000,1300⟩:Beat)]:List Beat) (⟨#[112]⟩:ByteArray) 700).bind λr_7=>(qf (⟨(⟨#[97]⟩:ByteArray),(⟨#[115]⟩:ByteArray),1,([]:List ByteArray),0,5,1,([(⟨0,0,2,2⟩:Rect)]:List Rect),(⟨#[120]⟩:ByteArray)⟩:Alert) (⟨(⟨#[112]⟩:ByteArray),1,1⟩:Post)).bind λr_10=>((pG ([r_1.2,r_3.2,r_5.2,r_7.2,r_10.2]:List Int)).bind λr_14=>bif (r_14==0)then bif (r_1.1==7)then bif ((r_3.1.length:Int)==1)then bif (r_5.1==5)then bif (r_7.1==500)then some r_10.1 else some false else some false else some false else some false else some false).bind λv_12=>some v_12
theorem CV  : Le (uQ) (mU):=by
 unfold uQ mU
 repeat' (with_reducible first | exact Le.refl _ | exact Ca _ | exact xS _ _ _ | exact AY _ _ | exact Cn _ _ _ | exact yU _ _ | refine Le.loop (λ_ => ?_) | refine Le.forL (λ_ _ _ => ?_) | refine Le.thenC (λ_ => ?_) (λ_ => ?_) | refine Le.cond ?_ ?_ | refine Le.bind ?_ (λ_ => ?_))
theorem ready_F:uQ=some true:=by kernel_rfl
theorem J6:mU=some true:=CV _ ready_F
open Go Go.Eng Go.Proofs
theorem G6 {e:Entry} (h:RE e) {v p:Int} (hv:0<=v/\v<=1000000) (hp:0<=p/\p<=9):RE ⟨e.Key,e.Item,v,e.First,e.Last,e.Every,e.Days,e.Except,e.From,e.To,p,e.Tags,e.Gone⟩:=by
 refine⟨h.1,?_⟩
 have h:=h.2
 unfold sM at h ⊢
 cases hk:(!oD e.Key || !oD e.Item)with
 | true=>rw [hk]at h;cases h
 | false =>
 rw [hk,cond_false]at h
 cases hb:(iy e.Version 0 1000000||(iy e.First 0 e.Last||(decide (e.Last>4000)||(iy e.Every 1 400||iy e.Days 1 127))))with
 | true=>rw [hb]at h;cases h
 | false =>
 rw [hb,cond_false]at h
 cases hx:exF e.Except==0 with
 | false=>rw [hx,cond_false]at h;rw [h]at hx;cases hx
 | true =>
 rw [hx,cond_true]at h
 cases hc:(iy e.From 0 1439||(iy e.To 0 1439||iy e.Prio 0 9))with
 | true=>rw [hc]at h;cases h
 | false =>
 rw [hc,cond_false]at h
 simp only [Bool.or_eq_false_iff]at hb hc hk
 simp only [hk.1,hk.2,hb.2.1,hb.2.2.1,hb.2.2.2.1,hb.2.2.2.2,hc.1,hc.2.1,hx,h,EY hv,EY hp,Bool.or_false,cond_false,cond_true]
theorem GN {a:List Entry} (ha:LR a) (hv:∀x∈a,0<=x.Version/\x.Version<=2) (la:a.length<=4) (s:Stream) {b:Int} (hs:Ok s b) (hb:b<=800000) :
  ∃t:List Entry×List Entry×List Int×Int,forL a (([]:List Entry),([]:List Entry),s.L,s.f_at) (λk x s=>dn k x s)=some (.go t) /\
   (t.1.map (·.Key)).Sublist (a.map (·.Key))/\(t.2.1.map (·.Key)).Sublist (a.map (·.Key))/\(∀y∈t.1,RE y/\∃x∈a,y.Key=x.Key/\y.Version=x.Version+1)/\(∀z∈t.2.1,RE z/\∃x∈a,z.Key=x.Key/\x.Version+2<=z.Version):=by
 obtain ⟨t,t1,t2,t3,t4,t5,t6⟩:=Al (body:=λk x s=>dn k x s) (ρ:=Unit) (λk (t:List Entry×List Entry×List Int×Int)=>Ok ⟨t.2.2.1,t.2.2.2⟩ (b+2*k)/\(t.1.map (·.Key)).Sublist ((a.take k).map (·.Key))/\(t.2.1.map (·.Key)).Sublist ((a.take k).map (·.Key))/\(∀y∈t.1,RE y/\∃x∈a,y.Key=x.Key/\y.Version=x.Version+1)/\(∀z∈t.2.1,RE z/\∃x∈a,z.Key=x.Key/\x.Version+2<=z.Version))
  (xs:=a) (s:=(([]:List Entry),([]:List Entry),s.L,s.f_at)) (by omega) (λk x t hx ⟨i1,i2,i3,i4,i5⟩=>by
   have hk:k<a.length:=(List.getElem?_eq_some_iff.1 hx).1
   have hxm:=List.mem_of_getElem? hx
   have hxv:=hv x hxm
   have et:(a.take (k+1)).map (·.Key)=(a.take k).map (·.Key)++[x.Key]:=by rw [List.take_add_one,hx];simp
   have l1:=i2.length_le
   have l2:=i3.length_le
   simp only [List.length_map,List.length_take]at l1 l2
   have hw1:w64 (x.Version+1)=x.Version+1:=jL (by omega)
   have hw2:w64 (x.Version+1+2)=x.Version+1+2:=jL (by omega)
   have hw3:w64 (x.Version+2)=x.Version+2:=jL (by omega)
   obtain ⟨f,s1,a1,a2⟩:=xG _ 2 i1 (by omega) (by decide) (by decide)
   obtain ⟨g,s2,a3,a4⟩:=xG s1 2 a2 (by omega) (by decide) (by decide)
   have hp9:(0:Int)<=9/\(9:Int)<=9:=by decide
   have hprio:0<=x.Prio/\x.Prio<=9:=by
    have hh:=(ha.1 x hxm).2
    unfold sM at hh
    cases hk:(!oD x.Key || !oD x.Item)with
    | true=>rw [hk]at hh;cases hh
    | false =>
    rw [hk,cond_false]at hh
    cases hb:(iy x.Version 0 1000000||(iy x.First 0 x.Last||(decide (x.Last>4000)||(iy x.Every 1 400||iy x.Days 1 127))))with
    | true=>rw [hb]at hh;cases hh
    | false =>
    rw [hb,cond_false]at hh
    cases hx:exF x.Except==0 with
    | false=>rw [hx,cond_false]at hh;rw [hh]at hx;cases hx
    | true =>
    rw [hx,cond_true]at hh
    cases hc:(iy x.From 0 1439||(iy x.To 0 1439||iy x.Prio 0 9))with
    | true=>rw [hc]at hh;cases hh
    | false =>
    simp only [Bool.or_eq_false_iff]at hc
    exact uH hc.2.2
   have g1:=G6 (ha.1 x hxm) (v:=x.Version+1) (p:=x.Prio) (by omega) hprio
   have g2:=G6 (ha.1 x hxm) (v:=x.Version+1+2) (p:=9) (by omega) hp9
   have g3:=G6 (ha.1 x hxm) (v:=x.Version+2) (p:=9) (by omega) hp9
   have app:∀(l:List Entry) (P:Entry->Prop) (y:Entry),(∀z∈l,P z)->P y->∀z∈l++[y],P z:=λl P y h hy z hz=>by
    rcases List.mem_append.1 hz with hz|hz
    ·exact h z hz
    ·rw [List.mem_singleton.1 hz];exact hy
   have sk:∀(l:List Entry),(l.map (·.Key)).Sublist ((a.take k).map (·.Key))->(l.map (·.Key)).Sublist ((a.take (k+1)).map (·.Key)):=λl h=>by rw [et];exact h.trans (List.sublist_append_left _ _)
   have sa:∀(l:List Entry) (y:Entry),y.Key=x.Key->(l.map (·.Key)).Sublist ((a.take k).map (·.Key))->((l++[y]).map (·.Key)).Sublist ((a.take (k+1)).map (·.Key)):=λl y hy h=>by
    rw [et,List.map_append]
    exact h.append (by simp [hy])
   have ap1:∀y:Entry,ji t.1 [y]=some (t.1++[y]):=λy=>pq _ _ (by simp;omega)
   have ap2:∀y:Entry,ji t.2.1 [y]=some (t.2.1++[y]):=λy=>pq _ _ (by simp;omega)
   unfold dn
   rw [a1]
   cases f with
   | true =>
    simp only [cond_true,ob_,hw1,ap1,a3]
    cases g with
    | true =>
     simp only [cond_true,ob_,hw2,ap2]
     exact⟨_,rfl,a4.mono (by omega),sa _ _ rfl i2,sa _ _ rfl i3,app _ _ _ i4 ⟨g1,x,hxm,rfl,rfl⟩,app _ _ _ i5 ⟨g2,x,hxm,rfl,by show x.Version+2<=x.Version+1+2;omega⟩⟩
    | false =>
     simp only [cond_false,ob_]
     exact⟨_,rfl,a4.mono (by omega),sa _ _ rfl i2,sk _ i3,app _ _ _ i4 ⟨g1,x,hxm,rfl,rfl⟩,i5⟩
   | false =>
    simp only [cond_false,ob_,a3]
    cases g with
    | true =>
     simp only [cond_true,ob_,hw3,ap2]
     exact⟨_,rfl,a4.mono (by omega),sk _ i2,sa _ _ rfl i3,i4,app _ _ _ i5 ⟨g3,x,hxm,rfl,by show x.Version+2<=x.Version+2;omega⟩⟩
    | false =>
     simp only [cond_false,ob_]
     exact⟨_,rfl,a4.mono (by omega),sk _ i2,sk _ i3,i4,i5⟩) ⟨by simpa using hs,List.Sublist.refl _,List.Sublist.refl _,by simp,by simp⟩
 rw [List.take_length]at t3 t4
 exact⟨t,t1,t3,t4,t5,t6⟩
theorem Lr {a l:List Entry} (ha:LR a) (hg:∀y∈l,RE y) (hs:(l.map (·.Key)).Sublist (a.map (·.Key))):LR l :=
 ⟨hg,List.pairwise_map.1 ((List.pairwise_map.2 ha.2).sublist hs)⟩
theorem errs6:pG [0,0,0,0,0,0]=some 0:=by kernel_rfl
theorem same1 {r:List Entry} (h:LR r) (hl:r.length<=1000):cz r r=some true:=by
 unfold cz
 rw [Fx h.1 hl];rfl
theorem entriesInAnyOrder (l:List Int):gX l=some true:=by
 obtain ⟨a,s1,h1,h2,h3,h4,h5⟩:=rightE ⟨l,0⟩ (b:=0) ⟨Int.le_refl _,Int.le_refl _⟩ (by decide)
 have ha:LR a:=⟨re_of (λe he=>(h4 e he).1) h5,(vT a yB h5).2⟩
 obtain ⟨⟨b,c,L,n⟩,t1,t2,t3,t4,t5⟩:=GN ha (λx hx=>(h4 x hx).2) h3 s1 h2 (by omega)
 simp only at t2 t3 t4 t5
 have hb:LR b:=Lr ha (λy hy=>(t4 y hy).1) t2
 have hc:LR c:=Lr ha (λy hy=>(t5 y hy).1) t3
 have lb:b.length<=4:=by have:=t2.length_le;simp only [List.length_map]at this;omega
 have lc:c.length<=4:=by have:=t3.length_le;simp only [List.length_map]at this;omega
 have hU:Cp (a++b++c):=by
  intro e he f hf hk hv
  have src:∀e∈a++b++c,(e∈a)\/(e∈b/\∃x∈a,e.Key=x.Key/\e.Version=x.Version+1)\/(e∈c/\∃x∈a,e.Key=x.Key/\x.Version+2<=e.Version):=λe he=>by
   rcases List.mem_append.1 he with he|he
   ·rcases List.mem_append.1 he with he|he
    ·exact .inl he
    ·exact .inr (.inl ⟨he,(t4 e he).2⟩)
   ·exact .inr (.inr ⟨he,(t5 e he).2⟩)
  rcases src e he with e1|⟨e1,x,x1,x2,x3⟩|⟨e1,x,x1,x2,x3⟩ <;> rcases src f hf with f1|⟨f1,y,y1,y2,y3⟩|⟨f1,y,y1,y2,y3⟩
  ·exact wL ha.kn e1 f1 hk
  ·have:=wL ha.kn e1 y1 (hk.trans y2);rw [this]at hv;omega
  ·have:=wL ha.kn e1 y1 (hk.trans y2);rw [this]at hv;omega
  ·have:=wL ha.kn f1 x1 (hk.symm.trans x2);rw [this]at hv;omega
  ·exact wL hb.kn e1 f1 hk
  ·have:=wL ha.kn x1 y1 (x2.symm.trans (hk.trans y2));rw [this]at x3;omega
  ·have:=wL ha.kn f1 x1 (hk.symm.trans x2);rw [this]at hv;omega
  ·have:=wL ha.kn x1 y1 (x2.symm.trans (hk.trans y2));rw [this]at x3;omega
  ·exact wL hc.kn e1 f1 hk
 have inU:∀e,e∈a\/e∈b\/e∈c->e∈a++b++c:=λe h=>by simp only [List.mem_append];rcases h with h | h | h <;> simp [h]
 obtain ⟨ab,m1,p1,n1,q1⟩:=rQ ha hb (by omega) (by omega) (hU.sub λe he=>inU e (by rw [List.mem_append]at he;rcases he with h|h <;> simp [h]))
 obtain ⟨ba,m2,p2,n2,q2⟩:=rQ hb ha (by omega) (by omega) (hU.sub λe he=>inU e (by rw [List.mem_append]at he;rcases he with h|h <;> simp [h]))
 obtain ⟨bc,m3,p3,n3,q3⟩:=rQ hb hc (by omega) (by omega) (hU.sub λe he=>inU e (by rw [List.mem_append]at he;rcases he with h|h <;> simp [h]))
 have abU:∀e∈ab,e∈a\/e∈b:=λe he=>List.mem_append.1 ((q1 e).1 he).1
 have bcU:∀e∈bc,e∈b\/e∈c:=λe he=>List.mem_append.1 ((q3 e).1 he).1
 obtain ⟨x,m4,p4,n4,q4⟩:=rQ p1 hc (by omega) (by omega) (hU.sub λe he=>inU e (by
  rw [List.mem_append]at he
  rcases he with h|h
  ·rcases abU e h with k|k <;> simp [k]
  ·simp [h]))
 obtain ⟨y,m5,p5,n5,q5⟩:=rQ ha p3 (by omega) (by omega) (hU.sub λe he=>inU e (by
  rw [List.mem_append]at he
  rcases he with h|h
  ·simp [h]
  ·rcases bcU e h with k|k <;> simp [k]))
 have xU:∀e∈x,e∈a\/e∈b\/e∈c:=λe he=>by
  rcases List.mem_append.1 ((q4 e).1 he).1 with h|h
  ·rcases abU e h with k|k <;> simp [k]
  ·simp [h]
 obtain ⟨z,m6,p6,n6,q6⟩:=rQ p4 hb (by omega) (by omega) (hU.sub λe he=>inU e (by
  rw [List.mem_append]at he
  rcases he with h|h
  ·exact xU e h
  ·simp [h]))
 have rx:∀e,e∈x↔Mx (a++b++c) e:=λe=>(q4 e).trans (ES q1 e)
 have ry:∀e,e∈y↔Mx (a++b++c) e:=λe=>by
  rw [q5 e,ER (M:=bc++a) (λe=>by simp only [List.mem_append];exact Or.comm) e,ES q3 e]
  exact ER (λe=>by simp only [List.mem_append];constructor <;> intro h <;> rcases h with (h | h) | h <;> simp [h]) e
 have rz:∀e,e∈z↔Mx (a++b++c) e:=λe=>by
  rw [q6 e,ES rx e]
  exact ER (λe=>by
   simp only [List.mem_append]
   constructor
   ·rintro (((h|h) | h) | h) <;> simp [h]
   ·rintro ((h|h) | h) <;> simp [h]) e
 have eab:ba=ab:=p2.uniq p1 λe=>by rw [q2 e,q1 e];exact ER (λe=>by simp only [List.mem_append];exact Or.comm) e
 have ey:y=x:=p5.uniq p4 λe=>by rw [ry e,rx e]
 have ez:z=x:=p6.uniq p4 λe=>by rw [rz e,rx e]
 subst eab ey ez
 simp only [gX,h1,ob_,t1,nQ,m1,m2,m3,m4,m5,m6,errs6,beq_self_eq_true,cond_true,same1 p1 (by omega),same1 p4 (by omega),J6]
end Go.Proofs.YtnjnggakgeommaaGreatDoor.Law

