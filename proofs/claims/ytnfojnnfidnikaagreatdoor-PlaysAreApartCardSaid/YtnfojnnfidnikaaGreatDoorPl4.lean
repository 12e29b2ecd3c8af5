/-
  THE PLAIN LAW (part 4).
-/
import Derived.Test.YtnfojnnfidnikaaGreatDoorPl3
import Derived.Test.YtnfojnnfidnikaaGreatDoorDefs
open Go Go.Eng
namespace Go.Proofs.YtnfojnnfidnikaaGreatDoor.Law
set_option linter.unusedVariables false
set_option linter.unusedSimpArgs false
set_option maxRecDepth 100000
def gm (s_1:ByteArray):Option (Bool) :=
 (sF 0 (λs=>ji s_1 s)).bind λo_10=>thenC o_10 (λs_7=>(bif (sNe s_1 (⟨#[]⟩:ByteArray))then some (decide ((s_1.size:Int)<=40))else some false).bind λv_30=>some v_30) (λr=>some r)
theorem jd (s_1:ByteArray):Le (gm s_1) (dF s_1):=by
 unfold gm dF
 repeat' (with_reducible first | exact Le.refl _ | refine Le.loop (λ_ => ?_) | refine Le.forL (λ_ _ _ => ?_) | refine Le.thenC (λ_ => ?_) (λ_ => ?_) | refine Le.cond ?_ ?_ | refine Le.bind ?_ (λ_ => ?_))
def gM (s_1:(List Int)) (s_8:Int):Option (Ctl (Int) ((List Int))) :=
 bif (decide (s_8<(s_1.length:Int)))then (inR s_8 s_1).bind λ_=>(s_1[(0+(s_8).toNat)]?).bind λe_15=>(inR (w64 (s_8-1)) s_1).bind λ_=>(s_1[(0+((w64 (s_8-1))).toNat)]?).bind λe_18=>bif (e_15==e_18)then (neL s_1).bind λ_=>(BG s_1 s_8 (s_1.length:Int)).bind λ_=>(sF (s_1,s_8,1) (λs=>fo s_1 s_8 s)).bind λo_31=>thenC o_31 (λs_28=>(BG s_28.1 s_28.2.1 (s_28.1.length:Int)).bind λ_=>(BG (s_28.1.take ((s_28.2.1).toNat)++List.replicate (((s_28.1.length:Int)).toNat-(s_28.2.1).toNat) 0++s_28.1.drop (((s_28.2.1).toNat)+(((s_28.1.length:Int)).toNat-(s_28.2.1).toNat))) 0 s_28.2.1).bind λ_=>some (.ret (cutL (s_28.1.take ((s_28.2.1).toNat)++List.replicate (((s_28.1.length:Int)).toNat-(s_28.2.1).toNat) 0++s_28.1.drop (((s_28.2.1).toNat)+(((s_28.1.length:Int)).toNat-(s_28.2.1).toNat))) 0 ((s_28.2.1).toNat)))) (λ_=>none)else some (.go (w64 (s_8+1)))else some (.brk s_8)
theorem oh (s_1:(List Int)) (s_8:Int):Le (gM s_1 s_8) (dC s_1 s_8):=by
 unfold gM dC
 repeat' (with_reducible first | exact Le.refl _ | refine Le.loop (λ_ => ?_) | refine Le.forL (λ_ _ _ => ?_) | refine Le.thenC (λ_ => ?_) (λ_ => ?_) | refine Le.cond ?_ ?_ | refine Le.bind ?_ (λ_ => ?_))
def iP (s_1:(List Int)):Option ((List Int)) :=
 bif (decide ((s_1.length:Int)<2))then some s_1 else (sF 1 (λs=>gM s_1 s)).bind λo_11=>thenC o_11 (λs_8=>some s_1) (λr=>some r)
theorem p9 (s_1:(List Int)):Le (iP s_1) (ek s_1):=by
 unfold iP ek
 repeat' (with_reducible first | exact Le.refl _ | exact oh _ _ | refine Le.loop (λ_ => ?_) | refine Le.forL (λ_ _ _ => ?_) | refine Le.thenC (λ_ => ?_) (λ_ => ?_) | refine Le.cond ?_ ?_ | refine Le.bind ?_ (λ_ => ?_))
def cK (b_3:Int) (a_2:Int) (s_10:(List Run)×Int):Option (Ctl ((List Run)×Int) (Unit)) :=
 bif (decide (s_10.2<b_3))then (sF (s_10.1,s_10.2) (λs=>bQ a_2 s)).bind λo_24=>thenC o_24 (λs_21=>some (.go (s_21.1,(w64 (s_10.2+1))))) (λ_=>none)else some (.brk (s_10.1,s_10.2))
theorem jg (b_3:Int) (a_2:Int) (s_10:(List Run)×Int):Le (cK b_3 a_2 s_10) (bB b_3 a_2 s_10):=by
 unfold cK bB
 repeat' (with_reducible first | exact Le.refl _ | refine Le.loop (λ_ => ?_) | refine Le.forL (λ_ _ _ => ?_) | refine Le.thenC (λ_ => ?_) (λ_ => ?_) | refine Le.cond ?_ ?_ | refine Le.bind ?_ (λ_ => ?_))
def dA (data_1:(List Run)) (a_2:Int) (b_3:Int):Option ((List Run)) :=
 (sF (data_1,(w64 (a_2+1))) (λs=>cK b_3 a_2 s)).bind λo_13=>thenC o_13 (λs_10=>some s_10.1) (λ_=>none)
theorem jw (data_1:(List Run)) (a_2:Int) (b_3:Int):Le (dA data_1 a_2 b_3) (bG data_1 a_2 b_3):=by
 unfold dA bG
 repeat' (with_reducible first | exact Le.refl _ | exact jg _ _ _ | refine Le.loop (λ_ => ?_) | refine Le.forL (λ_ _ _ => ?_) | refine Le.thenC (λ_ => ?_) (λ_ => ?_) | refine Le.cond ?_ ?_ | refine Le.bind ?_ (λ_ => ?_))
def dI (b_3:Int) (a_2:Int) (data_1:(List Run)) (limit_4:Int) (s_11:Unit):Option (Ctl (Unit) ((List Run))) :=
 bif (decide ((w64 (b_3-a_2))<=12))then (dA data_1 a_2 b_3).bind λr_17=>(jS r_17 data_1).bind λ_=>some (.ret r_17)else bif (limit_4==0)then none else none
theorem kw (b_3:Int) (a_2:Int) (data_1:(List Run)) (limit_4:Int) (s_11:Unit):Le (dI b_3 a_2 data_1 limit_4 s_11) (bP b_3 a_2 data_1 limit_4 s_11):=by
 unfold dI bP
 repeat' (with_reducible first | exact Le.refl _ | exact jw _ _ _ | refine Le.loop (λ_ => ?_) | refine Le.forL (λ_ _ _ => ?_) | refine Le.thenC (λ_ => ?_) (λ_ => ?_) | refine Le.cond ?_ ?_ | refine Le.bind ?_ (λ_ => ?_))
def eu (data_1:(List Run)) (a_2:Int) (b_3:Int) (limit_4:Int):Option ((List Run)) :=
 (sF () (λs=>dI b_3 a_2 data_1 limit_4 s)).bind λo_14=>thenC o_14 (λs_11=>some data_1) (λr=>some r)
theorem lJ (data_1:(List Run)) (a_2:Int) (b_3:Int) (limit_4:Int):Le (eu data_1 a_2 b_3 limit_4) (bU data_1 a_2 b_3 limit_4):=by
 unfold eu bU
 repeat' (with_reducible first | exact Le.refl _ | exact kw _ _ _ _ _ | refine Le.loop (λ_ => ?_) | refine Le.forL (λ_ _ _ => ?_) | refine Le.thenC (λ_ => ?_) (λ_ => ?_) | refine Le.cond ?_ ?_ | refine Le.bind ?_ (λ_ => ?_))
def dD (x_1:(List Run)):Option ((List Run)) :=
 (oP (IntKind.u64.wrap (x_1.length:Int))).bind λr_3=>(eu x_1 0 (x_1.length:Int) r_3).bind λr_5=>(jS r_5 x_1).bind λ_=>some r_5
theorem jR (x_1:(List Run)):Le (dD x_1) (bI x_1):=by
 unfold dD bI
 repeat' (with_reducible first | exact Le.refl _ | exact lJ _ _ _ _ | refine Le.loop (λ_ => ?_) | refine Le.forL (λ_ _ _ => ?_) | refine Le.thenC (λ_ => ?_) (λ_ => ?_) | refine Le.cond ?_ ?_ | refine Le.bind ?_ (λ_ => ?_))
def qA (l_1:(List Rect)) (y_2:Int):Option ((List Run)) :=
 (forL l_1 ([]:List Run) (λk x s=>nP y_2 k x s)).bind λo_14=>thenC o_14 (λs_8=>(dD s_8).bind λr_27=>(jS r_27 s_8).bind λ_=>(forL r_27 ([]:List Run) (λk x s=>nQ k x s)).bind λo_41=>thenC o_41 (λs_35=>some s_35) (λ_=>none)) (λ_=>none)
theorem CE (l_1:(List Rect)) (y_2:Int):Le (qA l_1 y_2) (nA l_1 y_2):=by
 unfold qA nA
 repeat' (with_reducible first | exact Le.refl _ | exact jR _ | refine Le.loop (λ_ => ?_) | refine Le.forL (λ_ _ _ => ?_) | refine Le.thenC (λ_ => ?_) (λ_ => ?_) | refine Le.cond ?_ ?_ | refine Le.bind ?_ (λ_ => ?_))
def pM (m_2:(List Run)) (k_3:Nat) (x_5:Run) (s_8:(List Run)×Int):Option (Ctl ((List Run)×Int) (Unit)) :=
 (sF s_8.2 (λs=>nU m_2 x_5 s)).bind λo_25=>thenC o_25 (λs_22=>(sF (s_8.1,s_22,x_5.f_from) (λs=>nY m_2 x_5 s)).bind λo_43=>thenC o_43 (λs_38=>(bif (decide (s_38.2.2<x_5.f_to))then (lH s_38.1 ([(⟨s_38.2.2,x_5.f_to⟩:Run)]:List Run)).bind λa_68=>some a_68 else some s_38.1).bind λv_64=>some (.go (v_64,s_22))) (λ_=>none)) (λ_=>none)
theorem yV (m_2:(List Run)) (k_3:Nat) (x_5:Run) (s_8:(List Run)×Int):Le (pM m_2 k_3 x_5 s_8) (lq m_2 k_3 x_5 s_8):=by
 unfold pM lq
 repeat' (with_reducible first | exact Le.refl _ | refine Le.loop (λ_ => ?_) | refine Le.forL (λ_ _ _ => ?_) | refine Le.thenC (λ_ => ?_) (λ_ => ?_) | refine Le.cond ?_ ?_ | refine Le.bind ?_ (λ_ => ?_))
def uz (l_1:(List Run)) (m_2:(List Run)):Option ((List Run)) :=
 (forL l_1 (([]:List Run),0) (λk x s=>pM m_2 k x s)).bind λo_14=>thenC o_14 (λs_8=>some s_8.1) (λ_=>none)
theorem CZ (l_1:(List Run)) (m_2:(List Run)):Le (uz l_1 m_2) (pu l_1 m_2):=by
 unfold uz pu
 repeat' (with_reducible first | exact Le.refl _ | exact yV _ _ _ _ | refine Le.loop (λ_ => ?_) | refine Le.forL (λ_ _ _ => ?_) | refine Le.thenC (λ_ => ?_) (λ_ => ?_) | refine Le.cond ?_ ?_ | refine Le.bind ?_ (λ_ => ?_))
def nS (r_25:(List Int)) (l_1:(List Rect)) (m_2:(List Rect)) (k_27:Nat) (x_29:Int) (s_32:(List Rect)×(List Run)×Int):Option (Ctl ((List Rect)×(List Run)×Int) (Unit)) :=
 (bif (decide ((w64 ((k_27:Int)+1))<(r_25.length:Int)))then (qA l_1 x_29).bind λr_45=>(qA m_2 x_29).bind λr_47=>(uz r_45 r_47).bind λr_49=>some r_49 else some ([]:List Run)).bind λv_42=>(dz s_32.2.1 v_42).bind λr_51=>bif r_51 then some (.go (s_32.1,s_32.2.1,s_32.2.2))else (forL s_32.2.1 s_32.1 (λk x s=>l8 s_32 x_29 k x s)).bind λo_64=>thenC o_64 (λs_59=>some (.go (s_59,v_42,x_29))) (λ_=>none)
theorem xx (r_25:(List Int)) (l_1:(List Rect)) (m_2:(List Rect)) (k_27:Nat) (x_29:Int) (s_32:(List Rect)×(List Run)×Int):Le (nS r_25 l_1 m_2 k_27 x_29 s_32) (jN r_25 l_1 m_2 k_27 x_29 s_32):=by
 unfold nS jN
 repeat' (with_reducible first | exact Le.refl _ | exact CE _ _ | exact CZ _ _ | refine Le.loop (λ_ => ?_) | refine Le.forL (λ_ _ _ => ?_) | refine Le.thenC (λ_ => ?_) (λ_ => ?_) | refine Le.cond ?_ ?_ | refine Le.bind ?_ (λ_ => ?_))
def qV (l_1:(List Rect)) (m_2:(List Rect)):Option ((List Rect)) :=
 (dL ([l_1,m_2]:List (List Rect))).bind λr_3=>(forL r_3 ([]:List Int) (λk x s=>lW k x s)).bind λo_16=>thenC o_16 (λs_10=>(xD s_10).bind λr_22=>(jS r_22 s_10).bind λ_=>(iP r_22).bind λr_25=>(forL r_25 (([]:List Rect),([]:List Run),0) (λk x s=>nS r_25 l_1 m_2 k x s)).bind λo_38=>thenC o_38 (λs_32=>some s_32.1) (λ_=>none)) (λ_=>none)
theorem Ap (l_1:(List Rect)) (m_2:(List Rect)):Le (qV l_1 m_2) (mI l_1 m_2):=by
 unfold qV mI
 repeat' (with_reducible first | exact Le.refl _ | exact p9 _ | exact xx _ _ _ _ _ _ | exact PT _ | refine Le.loop (λ_ => ?_) | refine Le.forL (λ_ _ _ => ?_) | refine Le.thenC (λ_ => ?_) (λ_ => ?_) | refine Le.cond ?_ ?_ | refine Le.bind ?_ (λ_ => ?_))
def uF (l_1:(List Rect)):Option (Int×Int) :=
 (kQ l_1).bind λr_2=>bif (r_2 != 0)then some (0,r_2)else (qV l_1 ([]:List Rect)).bind λr_5=>(rU r_5).bind λr_7=>some (r_7,0)
theorem Dq (l_1:(List Rect)):Le (uF l_1) (oZ l_1):=by
 unfold uF oZ
 repeat' (with_reducible first | exact Le.refl _ | exact Ap _ _ | refine Le.loop (λ_ => ?_) | refine Le.forL (λ_ _ _ => ?_) | refine Le.thenC (λ_ => ?_) (λ_ => ?_) | refine Le.cond ?_ ?_ | refine Le.bind ?_ (λ_ => ?_))
def mq (l_1:(List ByteArray)) (k_2:Nat) (x_4:ByteArray) (s_7:Unit):Option (Ctl (Unit) (Int)) :=
 (gm x_4).bind λr_12=>bif (!r_12)then some (.ret 5)else (bif (decide ((k_2:Int)>0))then (idx l_1 (w64 ((k_2:Int)-1))).bind λy_18=>some (sLe x_4 y_18)else some false).bind λv_15=>bif v_15 then some (.ret 7)else some (.go ())
theorem ve (l_1:(List ByteArray)) (k_2:Nat) (x_4:ByteArray) (s_7:Unit):Le (mq l_1 k_2 x_4 s_7) (iI l_1 k_2 x_4 s_7):=by
 unfold mq iI
 repeat' (with_reducible first | exact Le.refl _ | exact jd _ | refine Le.loop (λ_ => ?_) | refine Le.forL (λ_ _ _ => ?_) | refine Le.thenC (λ_ => ?_) (λ_ => ?_) | refine Le.cond ?_ ?_ | refine Le.bind ?_ (λ_ => ?_))
def ma (l_1:(List ByteArray)):Option (Int) :=
 (forL l_1 () (λk x s=>mq l_1 k x s)).bind λo_10=>thenC o_10 (λs_7=>some 0) (λr=>some r)
theorem qF (l_1:(List ByteArray)):Le (ma l_1) (iX l_1):=by
 unfold ma iX
 repeat' (with_reducible first | exact Le.refl _ | exact ve _ _ _ _ | refine Le.loop (λ_ => ?_) | refine Le.forL (λ_ _ _ => ?_) | refine Le.thenC (λ_ => ?_) (λ_ => ?_) | refine Le.cond ?_ ?_ | refine Le.bind ?_ (λ_ => ?_))
def mD (l_1:(List ByteArray)):Option (Int) :=
 bif (decide ((l_1.length:Int)>20))then some 2 else (ma l_1).bind λr_3=>some r_3
theorem vg (l_1:(List ByteArray)):Le (mD l_1) (iE l_1):=by
 unfold mD iE
 repeat' (with_reducible first | exact Le.refl _ | exact qF _ | refine Le.loop (λ_ => ?_) | refine Le.forL (λ_ _ _ => ?_) | refine Le.thenC (λ_ => ?_) (λ_ => ?_) | refine Le.cond ?_ ?_ | refine Le.bind ?_ (λ_ => ?_))
def lC (e_1:Entry):Option (Int) :=
 ((gm e_1.Key).bind λr_5=>bif (!r_5)then some true else (gm e_1.Item).bind λr_8=>some (!r_8)).bind λv_3=>bif v_3 then some 5 else ((aO e_1.Version 0 1000000).bind λr_13=>bif r_13 then some true else (aO e_1.First 0 e_1.Last).bind λr_16=>bif r_16 then some true else bif (decide (e_1.Last>4000))then some true else (aO e_1.Every 1 400).bind λr_20=>bif r_20 then some true else (aO e_1.Days 1 127).bind λr_23=>some r_23).bind λv_11=>bif v_11 then some 1 else (ja e_1.Except).bind λr_26=>bif (r_26 != 0)then some r_26 else ((aO e_1.From 0 1439).bind λr_31=>bif r_31 then some true else (aO e_1.To 0 1439).bind λr_34=>bif r_34 then some true else (aO e_1.Prio 0 9).bind λr_37=>some r_37).bind λv_29=>bif v_29 then some 1 else (mD e_1.Tags).bind λr_40=>some r_40
theorem uo (e_1:Entry):Le (lC e_1) (ik e_1):=by
 unfold lC ik
 repeat' (with_reducible first | exact Le.refl _ | exact jd _ | exact vg _ | refine Le.loop (λ_ => ?_) | refine Le.forL (λ_ _ _ => ?_) | refine Le.thenC (λ_ => ?_) (λ_ => ?_) | refine Le.cond ?_ ?_ | refine Le.bind ?_ (λ_ => ?_))
def iW (l_1:(List Entry)) (k_3:Nat) (x_5:Entry) (s_8:Unit):Option (Ctl (Unit) (Int)) :=
 (lC x_5).bind λr_14=>bif (r_14 != 0)then some (.ret r_14)else (bif (decide ((k_3:Int)>0))then (idx l_1 (w64 ((k_3:Int)-1))).bind λy_20=>some (sLe x_5.Key y_20.Key)else some false).bind λv_17=>bif v_17 then some (.ret 7)else some (.go ())
theorem qC (l_1:(List Entry)) (k_3:Nat) (x_5:Entry) (s_8:Unit):Le (iW l_1 k_3 x_5 s_8) (eU l_1 k_3 x_5 s_8):=by
 unfold iW eU
 repeat' (with_reducible first | exact Le.refl _ | exact uo _ | refine Le.loop (λ_ => ?_) | refine Le.forL (λ_ _ _ => ?_) | refine Le.thenC (λ_ => ?_) (λ_ => ?_) | refine Le.cond ?_ ?_ | refine Le.bind ?_ (λ_ => ?_))
def jT (l_1:(List Entry)):Option (Int) :=
 bif (decide ((l_1.length:Int)>200))then some 2 else (forL l_1 () (λk x s=>iW l_1 k x s)).bind λo_11=>thenC o_11 (λs_8=>some 0) (λr=>some r)
theorem su (l_1:(List Entry)):Le (jT l_1) (fU l_1):=by
 unfold jT fU
 repeat' (with_reducible first | exact Le.refl _ | exact qC _ _ _ _ | refine Le.loop (λ_ => ?_) | refine Le.forL (λ_ _ _ => ?_) | refine Le.thenC (λ_ => ?_) (λ_ => ?_) | refine Le.cond ?_ ?_ | refine Le.bind ?_ (λ_ => ?_))
def gZ (x_1:(List Int)) (target_2:Int):Option (Int×Bool) :=
 (sF (0,(x_1.length:Int)) (λs=>dX x_1 target_2 s)).bind λo_11=>thenC o_11 (λs_8=>(bif (decide (s_8.1<(x_1.length:Int)))then (idx x_1 s_8.1).bind λy_24=>bif (y_24==target_2)then some true else (idx x_1 s_8.1).bind λy_27=>(iC y_27).bind λr_29=>bif r_29 then (iC target_2).bind λr_32=>some r_32 else some false else some false).bind λv_21=>some (s_8.1,v_21)) (λ_=>none)
theorem oH (x_1:(List Int)) (target_2:Int):Le (gZ x_1 target_2) (dG x_1 target_2):=by
 unfold gZ dG
 repeat' (with_reducible first | exact Le.refl _ | refine Le.loop (λ_ => ?_) | refine Le.forL (λ_ _ _ => ?_) | refine Le.thenC (λ_ => ?_) (λ_ => ?_) | refine Le.cond ?_ ?_ | refine Le.bind ?_ (λ_ => ?_))
def pY (e_1:Entry) (d_2:Int):Option (Bool) :=
 ((aO d_2 e_1.First e_1.Last).bind λr_6=>bif r_6 then some true else (Jr .i64 (w64 (d_2-e_1.First)) e_1.Every).bind λq_9=>bif (q_9 != 0)then some true else (shlO .i64 1 (d_2.tmod 7)).bind λq_12=>some ((NN .i64 e_1.Days q_12)==0)).bind λv_4=>bif v_4 then some false else (gZ e_1.Except d_2).bind λr_15=>some (!r_15.2)
theorem zh (e_1:Entry) (d_2:Int):Le (pY e_1 d_2) (kW e_1 d_2):=by
 unfold pY kW
 repeat' (with_reducible first | exact Le.refl _ | exact oH _ _ | refine Le.loop (λ_ => ?_) | refine Le.forL (λ_ _ _ => ?_) | refine Le.thenC (λ_ => ?_) (λ_ => ?_) | refine Le.cond ?_ ?_ | refine Le.bind ?_ (λ_ => ?_))
def mW (wv_3:Window) (zone_2:Int) (e_1:Entry) (s_15:(List Window)×Int):Option (Ctl ((List Window)×Int) (Unit)) :=
 bif (decide (s_15.2<=(Gs (w64 ((w64 ((w64 (wv_3.To+(w64 (zone_2*60000)))).tdiv 86400000))+1)) e_1.Last)))then (pY e_1 s_15.2).bind λr_24=>bif (!r_24)then some (.go (s_15.1,(w64 (s_15.2+1))))else (mO e_1 zone_2 s_15.2).bind λr_27=>(bif (decide (r_27.From<wv_3.To))then some (decide (r_27.To>wv_3.From))else some false).bind λv_30=>(bif v_30 then (lH s_15.1 ([r_27]:List Window)).bind λa_37=>some a_37 else some s_15.1).bind λv_33=>some (.go (v_33,(w64 (s_15.2+1))))else some (.brk (s_15.1,s_15.2))
theorem wB (wv_3:Window) (zone_2:Int) (e_1:Entry) (s_15:(List Window)×Int):Le (mW wv_3 zone_2 e_1 s_15) (je wv_3 zone_2 e_1 s_15):=by
 unfold mW je
 repeat' (with_reducible first | exact Le.refl _ | exact zh _ _ | refine Le.loop (λ_ => ?_) | refine Le.forL (λ_ _ _ => ?_) | refine Le.thenC (λ_ => ?_) (λ_ => ?_) | refine Le.cond ?_ ?_ | refine Le.bind ?_ (λ_ => ?_))
def pX (e_1:Entry) (zone_2:Int) (wv_3:Window):Option ((List Window)) :=
 (bif e_1.Gone then some true else some (decide (wv_3.From>=wv_3.To))).bind λv_6=>bif v_6 then some ([]:(List Window))else (sF (([]:List Window),(iw (w64 ((w64 ((w64 (wv_3.From+(w64 (zone_2*60000)))).tdiv 86400000))-2)) e_1.First)) (λs=>mW wv_3 zone_2 e_1 s)).bind λo_21=>thenC o_21 (λs_15=>some s_15.1) (λ_=>none)
theorem zl (e_1:Entry) (zone_2:Int) (wv_3:Window):Le (pX e_1 zone_2 wv_3) (kZ e_1 zone_2 wv_3):=by
 unfold pX kZ
 repeat' (with_reducible first | exact Le.refl _ | exact wB _ _ _ _ | refine Le.loop (λ_ => ?_) | refine Le.forL (λ_ _ _ => ?_) | refine Le.thenC (λ_ => ?_) (λ_ => ?_) | refine Le.cond ?_ ?_ | refine Le.bind ?_ (λ_ => ?_))
def qc (e_1:Entry) (zone_2:Int) (wv_3:Window):Option ((List Window)×Int) :=
 (jT ([e_1]:List Entry)).bind λr_6=>bif (r_6 != 0)then some (([]:(List Window)),r_6)else (aO zone_2 (-1440) 1440).bind λr_9=>bif r_9 then some (([]:(List Window)),1)else (jb wv_3).bind λr_12=>bif (r_12 != 0)then some (([]:(List Window)),r_12)else (pX e_1 zone_2 wv_3).bind λr_15=>(forL (List.range ((r_15.length:Int)).toNat) r_15 (λk x s=>kN wv_3 k x s)).bind λo_27=>thenC o_27 (λs_24=>some (s_24,0)) (λ_=>none)
theorem yK (e_1:Entry) (zone_2:Int) (wv_3:Window):Le (qc e_1 zone_2 wv_3) (lG e_1 zone_2 wv_3):=by
 unfold qc lG
 repeat' (with_reducible first | exact Le.refl _ | exact su _ | exact zl _ _ _ | refine Le.loop (λ_ => ?_) | refine Le.forL (λ_ _ _ => ?_) | refine Le.thenC (λ_ => ?_) (λ_ => ?_) | refine Le.cond ?_ ?_ | refine Le.bind ?_ (λ_ => ?_))
def mU (l_1:(List ByteArray)):Option (Int) :=
 bif (decide ((l_1.length:Int)>20))then some 2 else (ma l_1).bind λr_3=>some r_3
theorem vT (l_1:(List ByteArray)):Le (mU l_1) (jk l_1):=by
 unfold mU jk
 repeat' (with_reducible first | exact Le.refl _ | exact qF _ | refine Le.loop (λ_ => ?_) | refine Le.forL (λ_ _ _ => ?_) | refine Le.thenC (λ_ => ?_) (λ_ => ?_) | refine Le.cond ?_ ?_ | refine Le.bind ?_ (λ_ => ?_))
def iL (l_1:(List Campaign)) (k_3:Nat) (x_5:Campaign) (s_8:Unit):Option (Ctl (Unit) (Int)) :=
 ((gm x_5.Key).bind λr_16=>bif (!r_16)then some true else bif (sNe x_5.Class (⟨#[]⟩:ByteArray))then (gm x_5.Class).bind λr_20=>some (!r_20)else some false).bind λv_14=>bif v_14 then some (.ret 5)else (bif (decide ((k_3:Int)>0))then (idx l_1 (w64 ((k_3:Int)-1))).bind λy_26=>some (sLe x_5.Key y_26.Key)else some false).bind λv_23=>bif v_23 then some (.ret 7)else ((nW x_5.Time).bind λr_31=>bif (!r_31)then some true else (aO x_5.Goal 0 1000000).bind λr_34=>bif r_34 then some true else (aO x_5.Most 0 1000000).bind λr_37=>bif r_37 then some true else (aO x_5.Cents 0 1000000000).bind λr_40=>some r_40).bind λv_29=>bif v_29 then some (.ret 1)else (mU x_5.Tags).bind λr_43=>bif (r_43 != 0)then some (.ret r_43)else some (.go ())
theorem qd (l_1:(List Campaign)) (k_3:Nat) (x_5:Campaign) (s_8:Unit):Le (iL l_1 k_3 x_5 s_8) (d9 l_1 k_3 x_5 s_8):=by
 unfold iL d9
 repeat' (with_reducible first | exact Le.refl _ | exact jd _ | exact vT _ | refine Le.loop (λ_ => ?_) | refine Le.forL (λ_ _ _ => ?_) | refine Le.thenC (λ_ => ?_) (λ_ => ?_) | refine Le.cond ?_ ?_ | refine Le.bind ?_ (λ_ => ?_))
def jy (l_1:(List Campaign)):Option (Int) :=
 bif (decide ((l_1.length:Int)>30))then some 2 else (forL l_1 () (λk x s=>iL l_1 k x s)).bind λo_11=>thenC o_11 (λs_8=>some 0) (λr=>some r)
theorem rH (l_1:(List Campaign)):Le (jy l_1) (fM l_1):=by
 unfold jy fM
 repeat' (with_reducible first | exact Le.refl _ | exact qd _ _ _ _ | refine Le.loop (λ_ => ?_) | refine Le.forL (λ_ _ _ => ?_) | refine Le.thenC (λ_ => ?_) (λ_ => ?_) | refine Le.cond ?_ ?_ | refine Le.bind ?_ (λ_ => ?_))
def tQ (c_1:Campaign) (atv_2:Int):Option (Int×Int) :=
 (jy ([c_1]:List Campaign)).bind λr_4=>bif (r_4 != 0)then some (0,r_4)else (bO atv_2).bind λr_7=>bif (!r_7)then some (0,1)else (rY c_1 atv_2).bind λr_10=>some (r_10,0)
theorem Ce (c_1:Campaign) (atv_2:Int):Le (tQ c_1 atv_2) (oU c_1 atv_2):=by
 unfold tQ oU
 repeat' (with_reducible first | exact Le.refl _ | exact rH _ | refine Le.loop (λ_ => ?_) | refine Le.forL (λ_ _ _ => ?_) | refine Le.thenC (λ_ => ?_) (λ_ => ?_) | refine Le.cond ?_ ?_ | refine Le.bind ?_ (λ_ => ?_))
def kY (l_1:(List Beat)) (k_3:Nat) (x_5:Beat) (s_8:Unit):Option (Ctl (Unit) (Int)) :=
 (gm x_5.Player).bind λr_14=>bif (!r_14)then some (.ret 5)else ((bO x_5.At).bind λr_19=>bif (!r_19)then some true else (aO x_5.Clock 0 345686399999).bind λr_22=>some r_22).bind λv_17=>bif v_17 then some (.ret 1)else (bif (decide ((k_3:Int)>0))then (idx l_1 (w64 ((k_3:Int)-1))).bind λy_28=>(gp y_28 x_5).bind λr_30=>some (decide (r_30>=0))else some false).bind λv_25=>bif v_25 then some (.ret 7)else (bif (decide ((k_3:Int)>0))then (idx l_1 (w64 ((k_3:Int)-1))).bind λy_36=>bif (sEq x_5.Player y_36.Player)then (idx l_1 (w64 ((k_3:Int)-1))).bind λy_39=>some (decide (x_5.Clock<=y_39.Clock))else some false else some false).bind λv_33=>bif v_33 then some (.ret 16)else some (.go ())
theorem uB (l_1:(List Beat)) (k_3:Nat) (x_5:Beat) (s_8:Unit):Le (kY l_1 k_3 x_5 s_8) (fO l_1 k_3 x_5 s_8):=by
 unfold kY fO
 repeat' (with_reducible first | exact Le.refl _ | exact jd _ | refine Le.loop (λ_ => ?_) | refine Le.forL (λ_ _ _ => ?_) | refine Le.thenC (λ_ => ?_) (λ_ => ?_) | refine Le.cond ?_ ?_ | refine Le.bind ?_ (λ_ => ?_))
def nM (l_1:(List Beat)):Option (Int) :=
 bif (decide ((l_1.length:Int)>500))then some 2 else (forL l_1 () (λk x s=>kY l_1 k x s)).bind λo_11=>thenC o_11 (λs_8=>some 0) (λr=>some r)
theorem xn (l_1:(List Beat)):Le (nM l_1) (dZ l_1):=by
 unfold nM dZ
 repeat' (with_reducible first | exact Le.refl _ | exact uB _ _ _ _ | refine Le.loop (λ_ => ?_) | refine Le.forL (λ_ _ _ => ?_) | refine Le.thenC (λ_ => ?_) (λ_ => ?_) | refine Le.cond ?_ ?_ | refine Le.bind ?_ (λ_ => ?_))
def sw (l_1:(List Beat_)) (n_2:Int):Option (Int×Int) :=
 bif ((l_1.length:Int)==0)then some (0,8)else (sF 0 (λs=>eZ l_1 n_2 s)).bind λo_12=>thenC o_12 (λs_9=>bif (s_9==0)then (idx l_1 0).bind λy_21=>(idx l_1 0).bind λy_23=>(bO (w64 (y_21.f_to-(w64 (y_23.f_from-n_2))))).bind λr_25=>bif (!r_25)then some (0,11)else some ((w64 (y_21.f_to-(w64 (y_23.f_from-n_2)))),0)else bif (s_9==(l_1.length:Int))then (idx l_1 (w64 (s_9-1))).bind λy_29=>(idx l_1 (w64 (s_9-1))).bind λy_31=>(bO (w64 ((w64 (y_29.f_to+n_2))-y_31.f_from))).bind λr_33=>bif (!r_33)then some (0,11)else some ((w64 ((w64 (y_29.f_to+n_2))-y_31.f_from)),0)else (idx l_1 (w64 (s_9-1))).bind λy_36=>(idx l_1 s_9).bind λy_38=>(bif (decide ((w64 (y_38.f_from-y_36.f_from))>2592000000))then some true else some (decide ((w64 (y_38.f_to-y_36.f_to))>2592000000))).bind λv_42=>bif v_42 then some (0,2)else (Ji .i64 (w64 ((w64 (n_2-y_36.f_from))*(w64 (y_38.f_to-y_36.f_to)))) (w64 (y_38.f_from-y_36.f_from))).bind λq_46=>(bO (w64 (y_36.f_to+q_46))).bind λr_48=>bif (!r_48)then some (0,11)else some ((w64 (y_36.f_to+q_46)),0)) (λ_=>none)
theorem Bv (l_1:(List Beat_)) (n_2:Int):Le (sw l_1 n_2) (gz l_1 n_2):=by
 unfold sw gz
 repeat' (with_reducible first | exact Le.refl _ | refine Le.loop (λ_ => ?_) | refine Le.forL (λ_ _ _ => ?_) | refine Le.thenC (λ_ => ?_) (λ_ => ?_) | refine Le.cond ?_ ?_ | refine Le.bind ?_ (λ_ => ?_))
def tO (l_1:(List Beat)) (player_2:ByteArray) (n_3:Int) (back_4:Bool):Option (Int×Int) :=
 (nM l_1).bind λr_5=>bif (r_5 != 0)then some (0,r_5)else (gm player_2).bind λr_8=>bif (!r_8)then some (0,5)else (bO n_3).bind λr_11=>bif (!r_11)then some (0,1)else (jq l_1 player_2 back_4).bind λr_14=>(sw r_14 n_3).bind λr_16=>some (r_16.1,r_16.2)
theorem Ch (l_1:(List Beat)) (player_2:ByteArray) (n_3:Int) (back_4:Bool):Le (tO l_1 player_2 n_3 back_4) (pJ l_1 player_2 n_3 back_4):=by
 unfold tO pJ
 repeat' (with_reducible first | exact Le.refl _ | exact jd _ | exact xn _ | exact Bv _ _ | refine Le.loop (λ_ => ?_) | refine Le.forL (λ_ _ _ => ?_) | refine Le.thenC (λ_ => ?_) (λ_ => ?_) | refine Le.cond ?_ ?_ | refine Le.bind ?_ (λ_ => ?_))
def uy (l_1:(List Beat)) (player_2:ByteArray) (clock_3:Int):Option (Int×Int) :=
 (tO l_1 player_2 clock_3 false).bind λr_4=>some (r_4.1,r_4.2)
theorem Dk (l_1:(List Beat)) (player_2:ByteArray) (clock_3:Int):Le (uy l_1 player_2 clock_3) (o7 l_1 player_2 clock_3):=by
 unfold uy o7
 repeat' (with_reducible first | exact Le.refl _ | exact Ch _ _ _ _ | refine Le.loop (λ_ => ?_) | refine Le.forL (λ_ _ _ => ?_) | refine Le.thenC (λ_ => ?_) (λ_ => ?_) | refine Le.cond ?_ ?_ | refine Le.bind ?_ (λ_ => ?_))
def mo (a_1:Alert) (k_4:Nat) (x_6:ByteArray) (s_9:Unit):Option (Ctl (Unit) (Int)) :=
 (gm x_6).bind λr_14=>bif (!r_14)then some (.ret 5)else (bif (decide ((k_4:Int)>0))then (idx a_1.Refs (w64 ((k_4:Int)-1))).bind λy_20=>some (sLe x_6 y_20)else some false).bind λv_17=>bif v_17 then some (.ret 7)else bif (sEq x_6 a_1.Id)then some (.ret 14)else some (.go ())
theorem u6 (a_1:Alert) (k_4:Nat) (x_6:ByteArray) (s_9:Unit):Le (mo a_1 k_4 x_6 s_9) (iT a_1 k_4 x_6 s_9):=by
 unfold mo iT
 repeat' (with_reducible first | exact Le.refl _ | exact jd _ | refine Le.loop (λ_ => ?_) | refine Le.forL (λ_ _ _ => ?_) | refine Le.thenC (λ_ => ?_) (λ_ => ?_) | refine Le.cond ?_ ?_ | refine Le.bind ?_ (λ_ => ?_))
def ou (a_1:Alert):Option (Int) :=
 bif (decide ((a_1.Refs.length:Int)>20))then some 2 else (forL a_1.Refs () (λk x s=>mo a_1 k x s)).bind λo_12=>thenC o_12 (λs_9=>bif (!((a_1.Kind==1)==((a_1.Refs.length:Int)==0)))then some 3 else some 0) (λr=>some r)
theorem yB (a_1:Alert):Le (ou a_1) (kr a_1):=by
 unfold ou kr
 repeat' (with_reducible first | exact Le.refl _ | exact u6 _ _ _ _ | refine Le.loop (λ_ => ?_) | refine Le.forL (λ_ _ _ => ?_) | refine Le.thenC (λ_ => ?_) (λ_ => ?_) | refine Le.cond ?_ ?_ | refine Le.bind ?_ (λ_ => ?_))
def tX (s_1:ByteArray):Option (Bool) :=
 (sF 0 (λs=>nH s_1 s)).bind λo_10=>thenC o_10 (λs_7=>((jo s_1).bind λr_23=>bif r_23 then (lT s_1 (⟨#[32]⟩:ByteArray)).bind λr_26=>bif (sEq r_26 s_1)then (strings_Contains s_1 (⟨#[32,32]⟩:ByteArray)).bind λr_29=>some (!r_29)else some false else some false).bind λv_21=>some v_21) (λr=>some r)
theorem Ck (s_1:ByteArray):Le (tX s_1) (pE s_1):=by
 unfold tX pE
 repeat' (with_reducible first | exact Le.refl _ | refine Le.loop (λ_ => ?_) | refine Le.forL (λ_ _ _ => ?_) | refine Le.thenC (λ_ => ?_) (λ_ => ?_) | refine Le.cond ?_ ?_ | refine Le.bind ?_ (λ_ => ?_))
def nK (a_1:Alert):Option (Int) :=
 ((gm a_1.Id).bind λr_5=>bif (!r_5)then some true else (gm a_1.Sender).bind λr_8=>some (!r_8)).bind λv_3=>bif v_3 then some 5 else (aO a_1.Kind 1 3).bind λr_11=>bif r_11 then some 4 else (ou a_1).bind λr_14=>bif (r_14 != 0)then some r_14 else ((bO a_1.At).bind λr_19=>bif (!r_19)then some true else (aO a_1.Until (w64 (a_1.At+1)) (w64 (a_1.At+2592000000))).bind λr_22=>bif r_22 then some true else (aO a_1.Weight 1 9).bind λr_25=>some r_25).bind λv_17=>bif v_17 then some 1 else bif (decide ((a_1.Areas.length:Int)>20))then some 2 else (forL a_1.Areas () (λk x s=>jv k x s)).bind λo_37=>thenC o_37 (λs_34=>bif (!((a_1.Kind==3)==((a_1.Areas.length:Int)==0)))then some 3 else bif (decide ((a_1.Text.size:Int)>500))then some 2 else ((tX a_1.Text).bind λr_47=>bif (!r_47)then some true else bif (sEq a_1.Text (⟨#[]⟩:ByteArray))then some (!(a_1.Kind==3))else some false).bind λv_45=>bif v_45 then some 3 else some 0) (λr=>some r)
theorem xm (a_1:Alert):Le (nK a_1) (jP a_1):=by
 unfold nK jP
 repeat' (with_reducible first | exact Le.refl _ | exact jd _ | exact yB _ | exact Ck _ | refine Le.loop (λ_ => ?_) | refine Le.forL (λ_ _ _ => ?_) | refine Le.thenC (λ_ => ?_) (λ_ => ?_) | refine Le.cond ?_ ?_ | refine Le.bind ?_ (λ_ => ?_))
def kL (l_1:(List Alert)) (k_3:Nat) (x_5:Alert) (s_8:Unit):Option (Ctl (Unit) (Int)) :=
 (nK x_5).bind λr_14=>bif (r_14 != 0)then some (.ret r_14)else (bif (decide ((k_3:Int)>0))then (idx l_1 (w64 ((k_3:Int)-1))).bind λy_20=>(oN y_20 x_5).bind λr_22=>some (decide (r_22>=0))else some false).bind λv_17=>bif v_17 then some (.ret 7)else some (.go ())
theorem sW (l_1:(List Alert)) (k_3:Nat) (x_5:Alert) (s_8:Unit):Le (kL l_1 k_3 x_5 s_8) (gD l_1 k_3 x_5 s_8):=by
 unfold kL gD
 repeat' (with_reducible first | exact Le.refl _ | exact xm _ | refine Le.loop (λ_ => ?_) | refine Le.forL (λ_ _ _ => ?_) | refine Le.thenC (λ_ => ?_) (λ_ => ?_) | refine Le.cond ?_ ?_ | refine Le.bind ?_ (λ_ => ?_))
def mY (l_1:(List Alert)):Option (Int) :=
 bif (decide ((l_1.length:Int)>300))then some 2 else (forL l_1 () (λk x s=>kL l_1 k x s)).bind λo_11=>thenC o_11 (λs_8=>(forL l_1 ([]:List (ByteArray×Bool)) (λk x s=>jl k x s)).bind λo_34=>thenC o_34 (λs_31=>some 0) (λr=>some r)) (λr=>some r)
theorem wm (l_1:(List Alert)):Le (mY l_1) (jf l_1):=by
 unfold mY jf
 repeat' (with_reducible first | exact Le.refl _ | exact sW _ _ _ _ | refine Le.loop (λ_ => ?_) | refine Le.forL (λ_ _ _ => ?_) | refine Le.thenC (λ_ => ?_) (λ_ => ?_) | refine Le.cond ?_ ?_ | refine Le.bind ?_ (λ_ => ?_))
def lD (l_1:(List Post)) (k_3:Nat) (x_5:Post) (s_8:Unit):Option (Ctl (Unit) (Int)) :=
 (gm x_5.Player).bind λr_14=>bif (!r_14)then some (.ret 5)else ((aO x_5.X (-100000) 100000).bind λr_19=>bif r_19 then some true else (aO x_5.Y (-100000) 100000).bind λr_22=>some r_22).bind λv_17=>bif v_17 then some (.ret 1)else (bif (decide ((k_3:Int)>0))then (idx l_1 (w64 ((k_3:Int)-1))).bind λy_28=>some (sLe x_5.Player y_28.Player)else some false).bind λv_25=>bif v_25 then some (.ret 7)else some (.go ())
theorem uw (l_1:(List Post)) (k_3:Nat) (x_5:Post) (s_8:Unit):Le (lD l_1 k_3 x_5 s_8) (ib l_1 k_3 x_5 s_8):=by
 unfold lD ib
 repeat' (with_reducible first | exact Le.refl _ | exact jd _ | refine Le.loop (λ_ => ?_) | refine Le.forL (λ_ _ _ => ?_) | refine Le.thenC (λ_ => ?_) (λ_ => ?_) | refine Le.cond ?_ ?_ | refine Le.bind ?_ (λ_ => ?_))
def nN (l_1:(List Post)):Option (Int) :=
 bif (decide ((l_1.length:Int)>500))then some 2 else (forL l_1 () (λk x s=>lD l_1 k x s)).bind λo_11=>thenC o_11 (λs_8=>some 0) (λr=>some r)
theorem xy (l_1:(List Post)):Le (nN l_1) (jK l_1):=by
 unfold nN jK
 repeat' (with_reducible first | exact Le.refl _ | exact uw _ _ _ _ | refine Le.loop (λ_ => ?_) | refine Le.forL (λ_ _ _ => ?_) | refine Le.thenC (λ_ => ?_) (λ_ => ?_) | refine Le.cond ?_ ?_ | refine Le.bind ?_ (λ_ => ?_))
def oz (l_1:(List Alert)) (posts_2:(List Post)):Option (Int) :=
 (mY l_1).bind λr_3=>bif (r_3 != 0)then some r_3 else (nN posts_2).bind λr_6=>some r_6
theorem xU (l_1:(List Alert)) (posts_2:(List Post)):Le (oz l_1 posts_2) (kG l_1 posts_2):=by
 unfold oz kG
 repeat' (with_reducible first | exact Le.refl _ | exact wm _ | exact xy _ | refine Le.loop (λ_ => ?_) | refine Le.forL (λ_ _ _ => ?_) | refine Le.thenC (λ_ => ?_) (λ_ => ?_) | refine Le.cond ?_ ?_ | refine Le.bind ?_ (λ_ => ?_))
def rA (a_1:Alert) (p_2:Post):Option (Bool×Int) :=
 (oz ([a_1]:List Alert) ([p_2]:List Post)).bind λr_5=>bif (r_5 != 0)then some (false,r_5)else (oL a_1 p_2).bind λr_8=>some (r_8,0)
theorem Aw (a_1:Alert) (p_2:Post):Le (rA a_1 p_2) (mE a_1 p_2):=by
 unfold rA mE
 repeat' (with_reducible first | exact Le.refl _ | exact xU _ _ | refine Le.loop (λ_ => ?_) | refine Le.forL (λ_ _ _ => ?_) | refine Le.thenC (λ_ => ?_) (λ_ => ?_) | refine Le.cond ?_ ?_ | refine Le.bind ?_ (λ_ => ?_))
def wF  : Option (Bool) :=
 (uF ([(⟨0,0,2,2⟩:Rect),(⟨1,1,2,2⟩:Rect)]:List Rect)).bind λr_1=>(qc (⟨(⟨#[97]⟩:ByteArray),(⟨#[98]⟩:ByteArray),0,0,0,1,127,([]:List Int),1,2,0,([]:List ByteArray),false⟩:Entry) 0 (⟨0,86400000⟩:Window)).bind λr_3=>(tQ (⟨(⟨#[97]⟩:ByteArray),(⟨#[]⟩:ByteArray),(⟨0,100⟩:Window),([]:List ByteArray),10,0,0⟩:Campaign) 50).bind λr_5=>(uy ([(⟨(⟨#[112]⟩:ByteArray),0,100⟩:Beat),(⟨(⟨#[112]⟩:ByteArray),1000,1300⟩:Beat)]:List Beat) (⟨#[112]⟩:ByteArray) 700).bind λr_7=>(rA (⟨(⟨#[97]⟩:ByteArray),(⟨#[115]⟩:ByteArray),1,([]:List ByteArray),0,5,1,([(⟨0,0,2,2⟩:Rect)]:List Rect),(⟨#[120]⟩:ByteArray)⟩:Alert) (⟨(⟨#[112]⟩:ByteArray),1,1⟩:Post)).bind λr_10=>((wV ([r_1.2,r_3.2,r_5.2,r_7.2,r_10.2]:List Int)).bind λr_14=>bif (r_14==0)then bif (r_1.1==7)then bif ((r_3.1.length:Int)==1)then bif (r_5.1==5)then bif (r_7.1==500)then some r_10.1 else some false else some false else some false else some false else some false).bind λv_12=>some v_12
theorem En  : Le (wF) (oC):=by
 unfold wF oC
 repeat' (with_reducible first | exact Le.refl _ | exact Dq _ | exact yK _ _ _ | exact Ce _ _ | exact Dk _ _ _ | exact Aw _ _ | refine Le.loop (λ_ => ?_) | refine Le.forL (λ_ _ _ => ?_) | refine Le.thenC (λ_ => ?_) (λ_ => ?_) | refine Le.cond ?_ ?_ | refine Le.bind ?_ (λ_ => ?_))
theorem ready_F:wF=some true:=by kernel_rfl
theorem Pv:oC=some true:=En _ ready_F
def smI (l:List Int):Int:=l.foldr (· + ·) 0
theorem Jb {a b:List Int} (h:a.Perm b):smI a=smI b:=by
 induction h with
 | nil=>rfl
 | cons x _ ih=>show x+smI _=x+smI _;rw [ih]
 | swap x y l=>show y+(x+smI l)=x+(y+smI l);omega
 | trans _ _ h1 h2=>rw [h1,h2]
theorem LD:∀(a b:List Int),smI (a++b)=smI a+smI b
 | [],b=>by show smI b=0+smI b;omega
 | x::a,b=>by
  show x+smI (a++b)=x+smI a+smI b
  rw [LD a b];omega
theorem Hl:∀(l:List Int) (i:Nat) (x y:Int),l[i]? = some x->smI (l.set i y)=smI l-x+y
 | [],i,x,y,h=>by simp at h
 | z::l,0,x,y,h=>by
  simp only [List.getElem?_cons_zero,so_]at h
  subst h
  show y+smI l=z+smI l-z+y;omega
 | z::l,i+1,x,y,h=>by
  show z+smI (l.set i y)=z+smI l-x+y
  rw [Hl l i x y (by simpa using h)];omega
theorem M9 {zone:Int} (ts:List Tally) (p:Play):smI ((stepT zone ts p).map (·.Many))=smI (ts.map (·.Many))+1/\smI ((stepT zone ts p).map (·.Long))=smI (ts.map (·.Long))+p.Long:=by
 obtain ⟨i,t,i1,i2,i3⟩:=Cu zone ts p
 rw [D8 i1 i2,List.map_set,List.map_set]
 have w:smI ((jE zone ts p).map (·.Many))=smI (ts.map (·.Many))/\smI ((jE zone ts p).map (·.Long))=smI (ts.map (·.Long)):=by
  unfold jE
  cases ixT (kT p zone) ts with
  | some _=>exact⟨rfl,rfl⟩
  | none =>
   simp only [List.map_append,LD]
   exact⟨Int.add_zero _,Int.add_zero _⟩
 have g1:((jE zone ts p).map (·.Many))[i]? = some t.Many:=by rw [List.getElem?_map,i2];rfl
 have g2:((jE zone ts p).map (·.Long))[i]? = some t.Long:=by rw [List.getElem?_map,i2];rfl
 rw [Hl _ i _ _ g1,Hl _ i _ _ g2,w.1,w.2]
 show _-t.Many+(t.Many+1)=_/\_-t.Long+(t.Long+p.Long)=_
 omega
theorem Ff (zone:Int):∀(l:List Play) (ts:List Tally),smI ((l.foldl (stepT zone) ts).map (·.Many))=smI (ts.map (·.Many))+l.length/\smI ((l.foldl (stepT zone) ts).map (·.Long))=smI (ts.map (·.Long))+smI (l.map (·.Long))
 | [],ts=>⟨(Int.add_zero _).symm,(Int.add_zero _).symm⟩
 | p::l,ts=>by
  obtain ⟨h1,h2⟩:=Ff zone l (stepT zone ts p)
  obtain ⟨s1,s2⟩:=M9 (zone:=zone) ts p
  rw [List.foldl_cons,h1,h2,s1,s2,List.length_cons,List.map_cons]
  show _=_+((l.length+1:Nat):Int)/\_=_+(p.Long+smI (l.map (·.Long)))
  omega
theorem Dr:∀(r:List Tally) (k:Nat) (a b:Int),(∀t∈r,0<=t.Many/\t.Many<=1000000)->(∀t∈r,0<=t.Long/\t.Long<=1000000000000)->(0<=a/\a+1000000*r.length<=1000000000000000)->(0<=b/\b+1000000000000*r.length<=1000000000000000) ->
  forR (λk x s=>eH k x s) r k (a,b)=some (.go (a+smI (r.map (·.Many)),b+smI (r.map (·.Long))))
 | [],k,a,b,_,_,_,_=>by
  show some (Ctl.go (a,b))=some (Ctl.go (a+0,b+0))
  rw [Int.add_zero,Int.add_zero]
 | t::r,k,a,b,h1,h2,h3,h4=>by
  have m1:=h1 t (by simp)
  have m2:=h2 t (by simp)
  simp only [List.length_cons]at h3 h4
  have w1:w64 (a+t.Many)=a+t.Many:=dR (by omega)
  have w2:w64 (b+t.Long)=b+t.Long:=dR (by omega)
  rw [forR]
  unfold eH
  simp only [w1,w2,ob_]
  have:=Dr r (k+1) (a+t.Many) (b+t.Long) (λx hx=>h1 x (List.mem_cons_of_mem _ hx)) (λx hx=>h2 x (List.mem_cons_of_mem _ hx)) (by omega) (by omega)
  unfold eH at this
  rw [this]
  show some (Ctl.go _)=some (Ctl.go (a+(t.Many+smI (r.map (·.Many))),b+(t.Long+smI (r.map (·.Long)))))
  rw [Int.add_assoc,Int.add_assoc]
theorem Fv:∀(r:List Play) (k:Nat) (a:Int),(∀t∈r,0<=t.Long/\t.Long<=1000000000000)->(0<=a/\a+1000000000000*r.length<=1000000000000000) ->
  forR (λk x s=>eG k x s) r k a=some (.go (a+smI (r.map (·.Long))))
 | [],k,a,_,_=>by
  show some (Ctl.go a)=some (Ctl.go (a+0))
  rw [Int.add_zero]
 | t::r,k,a,h2,h4=>by
  have m2:=h2 t (by simp)
  simp only [List.length_cons]at h4
  have w2:w64 (a+t.Long)=a+t.Long:=dR (by omega)
  rw [forR]
  unfold eG
  simp only [w2,ob_]
  have:=Fv r (k+1) (a+t.Long) (λx hx=>h2 x (List.mem_cons_of_mem _ hx)) (by omega)
  unfold eG at this
  rw [this]
  show some (Ctl.go _)=some (Ctl.go (a+(t.Long+smI (r.map (·.Long)))))
  rw [Int.add_assoc]
theorem sep_bef {a b:Play} (ha:0<a.Long) (h:Sep a b):befP a b:=by
 rcases h with h|⟨h1,h2⟩
 ·exact .inl h
 ·exact .inr ⟨h1,by omega⟩
theorem KN {l:List Play} (hl:l.length<=1000) (hg:∀q∈l,nL q) (hp:l.Pairwise Sep) (F:List Int) (e:Int):forL l () (λk x s=>eO (l,F,e) k x s)=some (.go ()):=by
 obtain ⟨u,h,_⟩:=BU (body:=λk x s=>eO (l,F,e) k x s) (λ_ _=>True) (xs:=l) (s:=()) (by omega) (λk x s hk _=>by
  refine⟨(),?_,trivial⟩
  unfold eO
  obtain ⟨hkl,hkx⟩:=List.getElem?_eq_some_iff.1 hk
  by_cases h0:k=0
  ·subst h0
   rw [decide_eq_false (by omega)];rfl
  ·obtain ⟨y,y1,y2⟩:=wR hk (by omega) (by omega)
   obtain ⟨hyl,hyx⟩:=List.getElem?_eq_some_iff.1 y2
   have hs:=List.pairwise_iff_getElem.1 hp (k-1) k hyl hkl (by omega)
   rw [hyx,hkx]at hs
   have gy:=hg y (List.mem_of_getElem? y2)
   unfold nL at gy
   rw [decide_eq_true (by omega),cond_true]
   simp only [y1,ob_]
   cases hq:sEq x.Player y.Player with
   | false=>rfl
   | true =>
    have hq:=(F7 _ _).1 hq
    rw [cond_true,dR (by omega)]
    have:¬x.At<y.At+y.Long:=by
     rcases hs with h|⟨_,h⟩
     ·rw [hq]at h;exact absurd h (fK _)
     ·omega
    rw [decide_eq_false this];rfl) trivial
 exact h
theorem JL {l:List Play} (h:∀q∈l,nL q/\(q.Player=paS\/q.Player=pbS)/\(q.Item=iaS\/q.Item=ibS)) (hp:l.Pairwise Sep):F8 l=0/\∀q∈l,GoodY q:=by
 obtain ⟨k1,k2,k3,k4⟩:=PQ
 have key:∀x∈l,plE x=0:=λx hx=>by
  obtain ⟨h1,h2,h3⟩:=h x hx
  unfold nL at h1
  have e1:oV x.Player=true:=by rcases h2 with e | e <;> rw [e] <;> assumption
  have e2:oV x.Item=true:=by rcases h3 with e | e <;> rw [e] <;> assumption
  have e3:momB x.At=true:=by unfold momB;rw [pg (by omega)];rfl
  have e4:FH x.Long=false:=by unfold FH;exact pg (by omega)
  unfold plE
  rw [e1,e2,e3,e4];rfl
 refine⟨BP (λx hx => ?_) ?_,λq hq => ?_⟩
 ·unfold Ed
  rw [key x (List.mem_of_head? hx)];rfl
 ·refine List.Pairwise.imp_of_mem (λ{a b} ha hb hab => ?_) hp
  unfold Ed
  have:EF a b=true:=Ct.2 (sep_bef (h a ha).1.2.2.1 hab)
  rw [key b hb]
  show (bif EF a b then (0:Int)else 7)=0
  rw [this];rfl
 ·obtain ⟨h1,h2,h3⟩:=h q hq
  unfold nL at h1
  refine⟨?_,?_,by omega,by omega⟩
  ·rcases h2 with e|e <;> rw [e] <;> exact lI rfl
  ·rcases h3 with e|e <;> rw [e] <;> exact lI rfl
theorem playsAreApart (l:List Int):jY l=some true:=by
 obtain ⟨x,x1,x2,x3,x4,x5⟩:=Bu ⟨l,0⟩ 7 (by decide) (b:=0) ⟨Int.le_refl _,Int.le_refl _⟩ (by decide)
 obtain ⟨B,s2,b1,b2,b3,b4,b5⟩:=zO x.2 x2 (by omega)
 obtain ⟨z,z1,z2,z3⟩:=F4 s2 [0,60] b2 (by omega) (by simp) (by simp)
 have hlen:x.1.length<=14:=x3
 have l0:=MW x4 x5 (by omega)
 have q0:=KM b4 b5 (by omega)
 have hk:=logsK x.1 (λy hy=>AB (x4 y hy)) (by omega)
 have hb:=beatsK B (λy hy=>Js (b4 y hy)) (by omega)
 rw [l0]at hk
 rw [q0]at hb
 obtain ⟨t1,t2⟩:=logsF_0 l0
 obtain ⟨_,u2⟩:=OX q0
 have hB:BOk B:=⟨u2,by omega⟩
 have hL:LOk x.1:=⟨t1,t2,by omega⟩
 obtain ⟨F,f1,f2⟩:=Kj hB hL hk hb
 obtain ⟨g1,g2⟩:=JD hB hL x4
 generalize (fnd B x.1 x.1).1=pl at f1 f2 g1 g2
 obtain ⟨v1,v2⟩:=JL g1 g2
 have hc:=xL v2 (by omega)
 rw [v1]at hc
 have hz : -1440<=z.1/\z.1<=1440:=by
  simp only [List.mem_cons,List.not_mem_nil,or_false]at z2
  rcases z2 with h|h <;> omega
 have hvp:VP pl:=vp_of v2 v1
 obtain ⟨r,r1,r2⟩:=KT hvp (by omega) hz v1
 have htt:=Dc hz pl hvp.at_ hvp.lo
 obtain ⟨s1,s2'⟩:=Ff z.1 pl []
 have hm1:=Jb (r2.map (·.Many))
 have hm2:=Jb (r2.map (·.Long))
 have hrl:r.length<=14:=by have:=r2.length_eq;have:=htt.len;omega
 have hL1:∀t∈r,0<=t.Many/\t.Many<=1000000:=λt ht=>by have:=htt.many t (r2.mem_iff.1 ht);omega
 have hL2:∀t∈r,0<=t.Long/\t.Long<=1000000000000:=λt ht=>by have:=htt.lo t (r2.mem_iff.1 ht);omega
 have e1:w64 ((pl.length:Int)+(F.length:Int))=(x.1.length:Int):=by rw [dR (by omega)];omega
 have a1:smI (r.map (·.Many))=(pl.length:Int):=by
  rw [hm1]
  unfold wE
  rw [s1]
  show 0+(pl.length:Int)=_
  omega
 have a2:smI (r.map (·.Long))=smI (pl.map (·.Long)):=by
  rw [hm2]
  unfold wE
  rw [s2']
  show 0+smI _=_
  omega
 unfold jY
 simp only [x1,b1,f1,ob_,e1,hc,bne_self_eq_false,cond_false]
 rw [KN (by omega) (λq hq=>(g1 q hq).1) g2 F 0,ob_]
 simp only [thenC]
 rw [z1,ob_,r1,ob_]
 simp only []
 rw [kM (by omega),Dr r 0 0 0 hL1 hL2 (by omega) (by omega),ob_]
 simp only []
 rw [kM (by omega),Fv pl 0 0 (λt ht=>by have:=(g1 t ht).1;unfold nL at this;omega) (by omega),ob_]
 simp only [a1,a2,Int.zero_add,beq_self_eq_true,cond_true,Pv,ob_]
end Go.Proofs.YtnfojnnfidnikaaGreatDoor.Law

