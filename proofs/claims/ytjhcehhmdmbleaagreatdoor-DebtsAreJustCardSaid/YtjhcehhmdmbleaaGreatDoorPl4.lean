/-
  THE PLAIN LAW (part 4).
-/
import Derived.Test.YtjhcehhmdmbleaaGreatDoorPl3
import Derived.Test.YtjhcehhmdmbleaaGreatDoorDefs
import Derived.Test.YtjhcehhmdmbleaaGreatDoorEng5
open Go Go.Eng
namespace Go.Proofs.YtjhcehhmdmbleaaGreatDoor.Law
set_option linter.unusedVariables false
set_option linter.unusedSimpArgs false
set_option maxRecDepth 100000
def gD (s_1:ByteArray):Option (Bool) :=
 (oF 0 (fun s=>jf s_1 s)).bind fun o_10=>thenC o_10 (fun s_7=>(bif (sNe s_1 (⟨#[]⟩:ByteArray))then some (decide ((s_1.size:Int)≤40))else some false).bind fun v_30=>some v_30) (fun r=>some r)
theorem je (s_1:ByteArray):Le (gD s_1) (kit_IsKey s_1):=by
 unfold gD kit_IsKey
 repeat' (with_reducible first | exact Le.refl _ | refine Le.loop (fun _ => ?_) | refine Le.forL (fun _ _ _ => ?_) | refine Le.thenC (fun _ => ?_) (fun _ => ?_) | refine Le.cond ?_ ?_ | refine Le.bind ?_ (fun _ => ?_))
def gW (s_1:(List Int)) (s_8:Int):Option (Ctl (Int) ((List Int))) :=
 bif (decide (s_8 < (s_1.length:Int)))then (inR s_8 s_1).bind fun _=>(s_1[(0 + (s_8).toNat)]?).bind fun e_15=>(inR (w64 (s_8 - 1)) s_1).bind fun _=>(s_1[(0 + ((w64 (s_8 - 1))).toNat)]?).bind fun e_18=>bif (e_15 == e_18)then (neL s_1).bind fun _=>(uy s_1 s_8 (s_1.length:Int)).bind fun _=>(oF (s_1,s_8,1) (fun s=>bH s_1 s_8 s)).bind fun o_31=>thenC o_31 (fun s_28=>(uy s_28.1 s_28.2.1 (s_28.1.length:Int)).bind fun _=>(uy (s_28.1.take ((s_28.2.1).toNat)++List.replicate (((s_28.1.length:Int)).toNat - (s_28.2.1).toNat) 0++s_28.1.drop (((s_28.2.1).toNat) + (((s_28.1.length:Int)).toNat - (s_28.2.1).toNat))) 0 s_28.2.1).bind fun _=>some (.ret (cutL (s_28.1.take ((s_28.2.1).toNat)++List.replicate (((s_28.1.length:Int)).toNat - (s_28.2.1).toNat) 0++s_28.1.drop (((s_28.2.1).toNat) + (((s_28.1.length:Int)).toNat - (s_28.2.1).toNat))) 0 ((s_28.2.1).toNat)))) (fun _=>none)else some (.go (w64 (s_8 + 1)))else some (.brk s_8)
theorem nN (s_1:(List Int)) (s_8:Int):Le (gW s_1 s_8) (aQ s_1 s_8):=by
 unfold gW aQ
 repeat' (with_reducible first | exact Le.refl _ | refine Le.loop (fun _ => ?_) | refine Le.forL (fun _ _ _ => ?_) | refine Le.thenC (fun _ => ?_) (fun _ => ?_) | refine Le.cond ?_ ?_ | refine Le.bind ?_ (fun _ => ?_))
def iG (s_1:(List Int)):Option ((List Int)) :=
 bif (decide ((s_1.length:Int) < 2))then some s_1 else (oF 1 (fun s=>gW s_1 s)).bind fun o_11=>thenC o_11 (fun s_8=>some s_1) (fun r=>some r)
theorem o7 (s_1:(List Int)):Le (iG s_1) (bZ s_1):=by
 unfold iG bZ
 repeat' (with_reducible first | exact Le.refl _ | exact nN _ _ | refine Le.loop (fun _ => ?_) | refine Le.forL (fun _ _ _ => ?_) | refine Le.thenC (fun _ => ?_) (fun _ => ?_) | refine Le.cond ?_ ?_ | refine Le.bind ?_ (fun _ => ?_))
def dm (b_3:Int) (a_2:Int) (s_10:(List Run)×Int):Option (Ctl ((List Run)×Int) (Unit)) :=
 bif (decide (s_10.2 < b_3))then (oF (s_10.1,s_10.2) (fun s=>bU a_2 s)).bind fun o_24=>thenC o_24 (fun s_21=>some (.go (s_21.1,(w64 (s_10.2 + 1))))) (fun _=>none)else some (.brk (s_10.1,s_10.2))
theorem iY (b_3:Int) (a_2:Int) (s_10:(List Run)×Int):Le (dm b_3 a_2 s_10) (bD b_3 a_2 s_10):=by
 unfold dm bD
 repeat' (with_reducible first | exact Le.refl _ | refine Le.loop (fun _ => ?_) | refine Le.forL (fun _ _ _ => ?_) | refine Le.thenC (fun _ => ?_) (fun _ => ?_) | refine Le.cond ?_ ?_ | refine Le.bind ?_ (fun _ => ?_))
def dD (data_1:(List Run)) (a_2:Int) (b_3:Int):Option ((List Run)) :=
 (oF (data_1,(w64 (a_2 + 1))) (fun s=>dm b_3 a_2 s)).bind fun o_13=>thenC o_13 (fun s_10=>some s_10.1) (fun _=>none)
theorem jG (data_1:(List Run)) (a_2:Int) (b_3:Int):Le (dD data_1 a_2 b_3) (bI data_1 a_2 b_3):=by
 unfold dD bI
 repeat' (with_reducible first | exact Le.refl _ | exact iY _ _ _ | refine Le.loop (fun _ => ?_) | refine Le.forL (fun _ _ _ => ?_) | refine Le.thenC (fun _ => ?_) (fun _ => ?_) | refine Le.cond ?_ ?_ | refine Le.bind ?_ (fun _ => ?_))
def dR (b_3:Int) (a_2:Int) (data_1:(List Run)) (limit_4:Int) (s_11:Unit):Option (Ctl (Unit) ((List Run))) :=
 bif (decide ((w64 (b_3 - a_2))≤12))then (dD data_1 a_2 b_3).bind fun r_17=>(kJ r_17 data_1).bind fun _=>some (.ret r_17)else bif (limit_4 == 0)then none else none
theorem jZ (b_3:Int) (a_2:Int) (data_1:(List Run)) (limit_4:Int) (s_11:Unit):Le (dR b_3 a_2 data_1 limit_4 s_11) (bR b_3 a_2 data_1 limit_4 s_11):=by
 unfold dR bR
 repeat' (with_reducible first | exact Le.refl _ | exact jG _ _ _ | refine Le.loop (fun _ => ?_) | refine Le.forL (fun _ _ _ => ?_) | refine Le.thenC (fun _ => ?_) (fun _ => ?_) | refine Le.cond ?_ ?_ | refine Le.bind ?_ (fun _ => ?_))
def eF (data_1:(List Run)) (a_2:Int) (b_3:Int) (limit_4:Int):Option ((List Run)) :=
 (oF () (fun s=>dR b_3 a_2 data_1 limit_4 s)).bind fun o_14=>thenC o_14 (fun s_11=>some data_1) (fun r=>some r)
theorem kW (data_1:(List Run)) (a_2:Int) (b_3:Int) (limit_4:Int):Le (eF data_1 a_2 b_3 limit_4) (cB data_1 a_2 b_3 limit_4):=by
 unfold eF cB
 repeat' (with_reducible first | exact Le.refl _ | exact jZ _ _ _ _ _ | refine Le.loop (fun _ => ?_) | refine Le.forL (fun _ _ _ => ?_) | refine Le.thenC (fun _ => ?_) (fun _ => ?_) | refine Le.cond ?_ ?_ | refine Le.bind ?_ (fun _ => ?_))
def dJ (x_1:(List Run)):Option ((List Run)) :=
 (iA (IntKind.u64.wrap (x_1.length:Int))).bind fun r_3=>(eF x_1 0 (x_1.length:Int) r_3).bind fun r_5=>(kJ r_5 x_1).bind fun _=>some r_5
theorem jJ (x_1:(List Run)):Le (dJ x_1) (bK x_1):=by
 unfold dJ bK
 repeat' (with_reducible first | exact Le.refl _ | exact kW _ _ _ _ | refine Le.loop (fun _ => ?_) | refine Le.forL (fun _ _ _ => ?_) | refine Le.thenC (fun _ => ?_) (fun _ => ?_) | refine Le.cond ?_ ?_ | refine Le.bind ?_ (fun _ => ?_))
def pY (l_1:(List Rect)) (y_2:Int):Option ((List Run)) :=
 (forL l_1 ([]:List Run) (fun k x s=>mO y_2 k x s)).bind fun o_14=>thenC o_14 (fun s_8=>(dJ s_8).bind fun r_27=>(kJ r_27 s_8).bind fun _=>(forL r_27 ([]:List Run) (fun k x s=>mX k x s)).bind fun o_41=>thenC o_41 (fun s_35=>some s_35) (fun _=>none)) (fun _=>none)
theorem AR (l_1:(List Rect)) (y_2:Int):Le (pY l_1 y_2) (mI l_1 y_2):=by
 unfold pY mI
 repeat' (with_reducible first | exact Le.refl _ | exact jJ _ | refine Le.loop (fun _ => ?_) | refine Le.forL (fun _ _ _ => ?_) | refine Le.thenC (fun _ => ?_) (fun _ => ?_) | refine Le.cond ?_ ?_ | refine Le.bind ?_ (fun _ => ?_))
def oV (m_2:(List Run)) (k_3:Nat) (x_5:Run) (s_8:(List Run)×Int):Option (Ctl ((List Run)×Int) (Unit)) :=
 (oF s_8.2 (fun s=>mM m_2 x_5 s)).bind fun o_25=>thenC o_25 (fun s_22=>(oF (s_8.1,s_22,x_5.f_from) (fun s=>mY m_2 x_5 s)).bind fun o_43=>thenC o_43 (fun s_38=>(bif (decide (s_38.2.2 < x_5.f_to))then (nJ s_38.1 ([(⟨s_38.2.2,x_5.f_to⟩:Run)]:List Run)).bind fun a_68=>some a_68 else some s_38.1).bind fun v_64=>some (.go (v_64,s_22))) (fun _=>none)) (fun _=>none)
theorem xE (m_2:(List Run)) (k_3:Nat) (x_5:Run) (s_8:(List Run)×Int):Le (oV m_2 k_3 x_5 s_8) (kT m_2 k_3 x_5 s_8):=by
 unfold oV kT
 repeat' (with_reducible first | exact Le.refl _ | refine Le.loop (fun _ => ?_) | refine Le.forL (fun _ _ _ => ?_) | refine Le.thenC (fun _ => ?_) (fun _ => ?_) | refine Le.cond ?_ ?_ | refine Le.bind ?_ (fun _ => ?_))
def tY (l_1:(List Run)) (m_2:(List Run)):Option ((List Run)) :=
 (forL l_1 (([]:List Run),0) (fun k x s=>oV m_2 k x s)).bind fun o_14=>thenC o_14 (fun s_8=>some s_8.1) (fun _=>none)
theorem AU (l_1:(List Run)) (m_2:(List Run)):Le (tY l_1 m_2) (oG l_1 m_2):=by
 unfold tY oG
 repeat' (with_reducible first | exact Le.refl _ | exact xE _ _ _ _ | refine Le.loop (fun _ => ?_) | refine Le.forL (fun _ _ _ => ?_) | refine Le.thenC (fun _ => ?_) (fun _ => ?_) | refine Le.cond ?_ ?_ | refine Le.bind ?_ (fun _ => ?_))
def nH (r_25:(List Int)) (l_1:(List Rect)) (m_2:(List Rect)) (k_27:Nat) (x_29:Int) (s_32:(List Rect)×(List Run)×Int):Option (Ctl ((List Rect)×(List Run)×Int) (Unit)) :=
 (bif (decide ((w64 ((k_27:Int) + 1)) < (r_25.length:Int)))then (pY l_1 x_29).bind fun r_45=>(pY m_2 x_29).bind fun r_47=>(tY r_45 r_47).bind fun r_49=>some r_49 else some ([]:List Run)).bind fun v_42=>(dC s_32.2.1 v_42).bind fun r_51=>bif r_51 then some (.go (s_32.1,s_32.2.1,s_32.2.2))else (forL s_32.2.1 s_32.1 (fun k x s=>lM s_32 x_29 k x s)).bind fun o_64=>thenC o_64 (fun s_59=>some (.go (s_59,v_42,x_29))) (fun _=>none)
theorem wy (r_25:(List Int)) (l_1:(List Rect)) (m_2:(List Rect)) (k_27:Nat) (x_29:Int) (s_32:(List Rect)×(List Run)×Int):Le (nH r_25 l_1 m_2 k_27 x_29 s_32) (jw r_25 l_1 m_2 k_27 x_29 s_32):=by
 unfold nH jw
 repeat' (with_reducible first | exact Le.refl _ | exact AR _ _ | exact AU _ _ | refine Le.loop (fun _ => ?_) | refine Le.forL (fun _ _ _ => ?_) | refine Le.thenC (fun _ => ?_) (fun _ => ?_) | refine Le.cond ?_ ?_ | refine Le.bind ?_ (fun _ => ?_))
def qm (l_1:(List Rect)) (m_2:(List Rect)):Option ((List Rect)) :=
 (dU ([l_1,m_2]:List (List Rect))).bind fun r_3=>(forL r_3 ([]:List Int) (fun k x s=>lH k x s)).bind fun o_16=>thenC o_16 (fun s_10=>(wF s_10).bind fun r_22=>(kJ r_22 s_10).bind fun _=>(iG r_22).bind fun r_25=>(forL r_25 (([]:List Rect),([]:List Run),0) (fun k x s=>nH r_25 l_1 m_2 k x s)).bind fun o_38=>thenC o_38 (fun s_32=>some s_32.1) (fun _=>none)) (fun _=>none)
theorem yX (l_1:(List Rect)) (m_2:(List Rect)):Le (qm l_1 m_2) (lX l_1 m_2):=by
 unfold qm lX
 repeat' (with_reducible first | exact Le.refl _ | exact o7 _ | exact wy _ _ _ _ _ _ | exact KZ _ | refine Le.loop (fun _ => ?_) | refine Le.forL (fun _ _ _ => ?_) | refine Le.thenC (fun _ => ?_) (fun _ => ?_) | refine Le.cond ?_ ?_ | refine Le.bind ?_ (fun _ => ?_))
def tJ (l_1:(List Rect)):Option (Int×Int) :=
 (kG l_1).bind fun r_2=>bif (r_2 != 0)then some (0,r_2)else (qm l_1 ([]:List Rect)).bind fun r_5=>(qQ r_5).bind fun r_7=>some (r_7,0)
theorem Au (l_1:(List Rect)):Le (tJ l_1) (oM l_1):=by
 unfold tJ oM
 repeat' (with_reducible first | exact Le.refl _ | exact yX _ _ | refine Le.loop (fun _ => ?_) | refine Le.forL (fun _ _ _ => ?_) | refine Le.thenC (fun _ => ?_) (fun _ => ?_) | refine Le.cond ?_ ?_ | refine Le.bind ?_ (fun _ => ?_))
def lV (l_1:(List ByteArray)) (k_2:Nat) (x_4:ByteArray) (s_7:Unit):Option (Ctl (Unit) (Int)) :=
 (gD x_4).bind fun r_12=>bif (!r_12)then some (.ret 5)else (bif (decide ((k_2:Int) > 0))then (idx l_1 (w64 ((k_2:Int) - 1))).bind fun y_18=>some (sLe x_4 y_18)else some false).bind fun v_15=>bif v_15 then some (.ret 7)else some (.go ())
theorem uA (l_1:(List ByteArray)) (k_2:Nat) (x_4:ByteArray) (s_7:Unit):Le (lV l_1 k_2 x_4 s_7) (iK l_1 k_2 x_4 s_7):=by
 unfold lV iK
 repeat' (with_reducible first | exact Le.refl _ | exact je _ | refine Le.loop (fun _ => ?_) | refine Le.forL (fun _ _ _ => ?_) | refine Le.thenC (fun _ => ?_) (fun _ => ?_) | refine Le.cond ?_ ?_ | refine Le.bind ?_ (fun _ => ?_))
def lG (l_1:(List ByteArray)):Option (Int) :=
 (forL l_1 () (fun k x s=>lV l_1 k x s)).bind fun o_10=>thenC o_10 (fun s_7=>some 0) (fun r=>some r)
theorem qE (l_1:(List ByteArray)):Le (lG l_1) (iW l_1):=by
 unfold lG iW
 repeat' (with_reducible first | exact Le.refl _ | exact uA _ _ _ _ | refine Le.loop (fun _ => ?_) | refine Le.forL (fun _ _ _ => ?_) | refine Le.thenC (fun _ => ?_) (fun _ => ?_) | refine Le.cond ?_ ?_ | refine Le.bind ?_ (fun _ => ?_))
def lS (l_1:(List ByteArray)):Option (Int) :=
 bif (decide ((l_1.length:Int) > 20))then some 2 else (lG l_1).bind fun r_3=>some r_3
theorem uz (l_1:(List ByteArray)):Le (lS l_1) (iP l_1):=by
 unfold lS iP
 repeat' (with_reducible first | exact Le.refl _ | exact qE _ | refine Le.loop (fun _ => ?_) | refine Le.forL (fun _ _ _ => ?_) | refine Le.thenC (fun _ => ?_) (fun _ => ?_) | refine Le.cond ?_ ?_ | refine Le.bind ?_ (fun _ => ?_))
def lw (e_1:Entry):Option (Int) :=
 ((gD e_1.Key).bind fun r_5=>bif (!r_5)then some true else (gD e_1.Item).bind fun r_8=>some (!r_8)).bind fun v_3=>bif v_3 then some 5 else ((aN e_1.Version 0 1000000).bind fun r_13=>bif r_13 then some true else (aN e_1.First 0 e_1.Last).bind fun r_16=>bif r_16 then some true else bif (decide (e_1.Last > 4000))then some true else (aN e_1.Every 1 400).bind fun r_20=>bif r_20 then some true else (aN e_1.Days 1 127).bind fun r_23=>some r_23).bind fun v_11=>bif v_11 then some 1 else (jd e_1.Except).bind fun r_26=>bif (r_26 != 0)then some r_26 else ((aN e_1.From 0 1439).bind fun r_31=>bif r_31 then some true else (aN e_1.To 0 1439).bind fun r_34=>bif r_34 then some true else (aN e_1.Prio 0 9).bind fun r_37=>some r_37).bind fun v_29=>bif v_29 then some 1 else (lS e_1.Tags).bind fun r_40=>some r_40
theorem tT (e_1:Entry):Le (lw e_1) (ig e_1):=by
 unfold lw ig
 repeat' (with_reducible first | exact Le.refl _ | exact je _ | exact uz _ | refine Le.loop (fun _ => ?_) | refine Le.forL (fun _ _ _ => ?_) | refine Le.thenC (fun _ => ?_) (fun _ => ?_) | refine Le.cond ?_ ?_ | refine Le.bind ?_ (fun _ => ?_))
def iR (l_1:(List Entry)) (k_3:Nat) (x_5:Entry) (s_8:Unit):Option (Ctl (Unit) (Int)) :=
 (lw x_5).bind fun r_14=>bif (r_14 != 0)then some (.ret r_14)else (bif (decide ((k_3:Int) > 0))then (idx l_1 (w64 ((k_3:Int) - 1))).bind fun y_20=>some (sLe x_5.Key y_20.Key)else some false).bind fun v_17=>bif v_17 then some (.ret 7)else some (.go ())
theorem pO (l_1:(List Entry)) (k_3:Nat) (x_5:Entry) (s_8:Unit):Le (iR l_1 k_3 x_5 s_8) (eO l_1 k_3 x_5 s_8):=by
 unfold iR eO
 repeat' (with_reducible first | exact Le.refl _ | exact tT _ | refine Le.loop (fun _ => ?_) | refine Le.forL (fun _ _ _ => ?_) | refine Le.thenC (fun _ => ?_) (fun _ => ?_) | refine Le.cond ?_ ?_ | refine Le.bind ?_ (fun _ => ?_))
def jP (l_1:(List Entry)):Option (Int) :=
 bif (decide ((l_1.length:Int) > 200))then some 2 else (forL l_1 () (fun k x s=>iR l_1 k x s)).bind fun o_11=>thenC o_11 (fun s_8=>some 0) (fun r=>some r)
theorem rq (l_1:(List Entry)):Le (jP l_1) (gm l_1):=by
 unfold jP gm
 repeat' (with_reducible first | exact Le.refl _ | exact pO _ _ _ _ | refine Le.loop (fun _ => ?_) | refine Le.forL (fun _ _ _ => ?_) | refine Le.thenC (fun _ => ?_) (fun _ => ?_) | refine Le.cond ?_ ?_ | refine Le.bind ?_ (fun _ => ?_))
def ib (x_1:(List Int)) (target_2:Int):Option (Int×Bool) :=
 (oF (0,(x_1.length:Int)) (fun s=>dZ x_1 target_2 s)).bind fun o_11=>thenC o_11 (fun s_8=>(bif (decide (s_8.1 < (x_1.length:Int)))then (idx x_1 s_8.1).bind fun y_24=>bif (y_24 == target_2)then some true else (idx x_1 s_8.1).bind fun y_27=>(iE y_27).bind fun r_29=>bif r_29 then (iE target_2).bind fun r_32=>some r_32 else some false else some false).bind fun v_21=>some (s_8.1,v_21)) (fun _=>none)
theorem nV (x_1:(List Int)) (target_2:Int):Le (ib x_1 target_2) (dN x_1 target_2):=by
 unfold ib dN
 repeat' (with_reducible first | exact Le.refl _ | refine Le.loop (fun _ => ?_) | refine Le.forL (fun _ _ _ => ?_) | refine Le.thenC (fun _ => ?_) (fun _ => ?_) | refine Le.cond ?_ ?_ | refine Le.bind ?_ (fun _ => ?_))
def oU (e_1:Entry) (d_2:Int):Option (Bool) :=
 ((aN d_2 e_1.First e_1.Last).bind fun r_6=>bif r_6 then some true else (EX .i64 (w64 (d_2 - e_1.First)) e_1.Every).bind fun q_9=>bif (q_9 != 0)then some true else (AY .i64 1 (d_2.tmod 7)).bind fun q_12=>some ((tN .i64 e_1.Days q_12) == 0)).bind fun v_4=>bif v_4 then some false else (ib e_1.Except d_2).bind fun r_15=>some (!r_15.2)
theorem yn (e_1:Entry) (d_2:Int):Le (oU e_1 d_2) (lg e_1 d_2):=by
 unfold oU lg
 repeat' (with_reducible first | exact Le.refl _ | exact nV _ _ | refine Le.loop (fun _ => ?_) | refine Le.forL (fun _ _ _ => ?_) | refine Le.thenC (fun _ => ?_) (fun _ => ?_) | refine Le.cond ?_ ?_ | refine Le.bind ?_ (fun _ => ?_))
def mE (wv_3:Window) (zone_2:Int) (e_1:Entry) (s_15:(List Window)×Int):Option (Ctl ((List Window)×Int) (Unit)) :=
 bif (decide (s_15.2≤(uX (w64 ((w64 ((w64 (wv_3.To + (w64 (zone_2 * 60000)))).tdiv 86400000)) + 1)) e_1.Last)))then (oU e_1 s_15.2).bind fun r_24=>bif (!r_24)then some (.go (s_15.1,(w64 (s_15.2 + 1))))else (l9 e_1 zone_2 s_15.2).bind fun r_27=>(bif (decide (r_27.From < wv_3.To))then some (decide (r_27.To > wv_3.From))else some false).bind fun v_30=>(bif v_30 then (nJ s_15.1 ([r_27]:List Window)).bind fun a_37=>some a_37 else some s_15.1).bind fun v_33=>some (.go (v_33,(w64 (s_15.2 + 1))))else some (.brk (s_15.1,s_15.2))
theorem uG (wv_3:Window) (zone_2:Int) (e_1:Entry) (s_15:(List Window)×Int):Le (mE wv_3 zone_2 e_1 s_15) (jc wv_3 zone_2 e_1 s_15):=by
 unfold mE jc
 repeat' (with_reducible first | exact Le.refl _ | exact yn _ _ | refine Le.loop (fun _ => ?_) | refine Le.forL (fun _ _ _ => ?_) | refine Le.thenC (fun _ => ?_) (fun _ => ?_) | refine Le.cond ?_ ?_ | refine Le.bind ?_ (fun _ => ?_))
def oO (e_1:Entry) (zone_2:Int) (wv_3:Window):Option ((List Window)) :=
 (bif e_1.Gone then some true else some (decide (wv_3.From≥wv_3.To))).bind fun v_6=>bif v_6 then some ([]:(List Window))else (oF (([]:List Window),(sI (w64 ((w64 ((w64 (wv_3.From + (w64 (zone_2 * 60000)))).tdiv 86400000)) - 2)) e_1.First)) (fun s=>mE wv_3 zone_2 e_1 s)).bind fun o_21=>thenC o_21 (fun s_15=>some s_15.1) (fun _=>none)
theorem xV (e_1:Entry) (zone_2:Int) (wv_3:Window):Le (oO e_1 zone_2 wv_3) (lq e_1 zone_2 wv_3):=by
 unfold oO lq
 repeat' (with_reducible first | exact Le.refl _ | exact uG _ _ _ _ | refine Le.loop (fun _ => ?_) | refine Le.forL (fun _ _ _ => ?_) | refine Le.thenC (fun _ => ?_) (fun _ => ?_) | refine Le.cond ?_ ?_ | refine Le.bind ?_ (fun _ => ?_))
def oW (e_1:Entry) (zone_2:Int) (wv_3:Window):Option ((List Window)×Int) :=
 (jP ([e_1]:List Entry)).bind fun r_6=>bif (r_6 != 0)then some (([]:(List Window)),r_6)else (aN zone_2 (-1440) 1440).bind fun r_9=>bif r_9 then some (([]:(List Window)),1)else (iX wv_3).bind fun r_12=>bif (r_12 != 0)then some (([]:(List Window)),r_12)else (oO e_1 zone_2 wv_3).bind fun r_15=>(forL (List.range ((r_15.length:Int)).toNat) r_15 (fun k x s=>kK wv_3 k x s)).bind fun o_27=>thenC o_27 (fun s_24=>some (s_24,0)) (fun _=>none)
theorem xD (e_1:Entry) (zone_2:Int) (wv_3:Window):Le (oW e_1 zone_2 wv_3) (kX e_1 zone_2 wv_3):=by
 unfold oW kX
 repeat' (with_reducible first | exact Le.refl _ | exact rq _ | exact xV _ _ _ | refine Le.loop (fun _ => ?_) | refine Le.forL (fun _ _ _ => ?_) | refine Le.thenC (fun _ => ?_) (fun _ => ?_) | refine Le.cond ?_ ?_ | refine Le.bind ?_ (fun _ => ?_))
def mo (l_1:(List ByteArray)):Option (Int) :=
 bif (decide ((l_1.length:Int) > 20))then some 2 else (lG l_1).bind fun r_3=>some r_3
theorem uK (l_1:(List ByteArray)):Le (mo l_1) (jb l_1):=by
 unfold mo jb
 repeat' (with_reducible first | exact Le.refl _ | exact qE _ | refine Le.loop (fun _ => ?_) | refine Le.forL (fun _ _ _ => ?_) | refine Le.thenC (fun _ => ?_) (fun _ => ?_) | refine Le.cond ?_ ?_ | refine Le.bind ?_ (fun _ => ?_))
def iL (l_1:(List Campaign)) (k_3:Nat) (x_5:Campaign) (s_8:Unit):Option (Ctl (Unit) (Int)) :=
 ((gD x_5.Key).bind fun r_16=>bif (!r_16)then some true else bif (sNe x_5.Class (⟨#[]⟩:ByteArray))then (gD x_5.Class).bind fun r_20=>some (!r_20)else some false).bind fun v_14=>bif v_14 then some (.ret 5)else (bif (decide ((k_3:Int) > 0))then (idx l_1 (w64 ((k_3:Int) - 1))).bind fun y_26=>some (sLe x_5.Key y_26.Key)else some false).bind fun v_23=>bif v_23 then some (.ret 7)else ((mV x_5.Time).bind fun r_31=>bif (!r_31)then some true else (aN x_5.Goal 0 1000000).bind fun r_34=>bif r_34 then some true else (aN x_5.Most 0 1000000).bind fun r_37=>bif r_37 then some true else (aN x_5.Cents 0 1000000000).bind fun r_40=>some r_40).bind fun v_29=>bif v_29 then some (.ret 1)else (mo x_5.Tags).bind fun r_43=>bif (r_43 != 0)then some (.ret r_43)else some (.go ())
theorem oZ (l_1:(List Campaign)) (k_3:Nat) (x_5:Campaign) (s_8:Unit):Le (iL l_1 k_3 x_5 s_8) (eD l_1 k_3 x_5 s_8):=by
 unfold iL eD
 repeat' (with_reducible first | exact Le.refl _ | exact je _ | exact uK _ | refine Le.loop (fun _ => ?_) | refine Le.forL (fun _ _ _ => ?_) | refine Le.thenC (fun _ => ?_) (fun _ => ?_) | refine Le.cond ?_ ?_ | refine Le.bind ?_ (fun _ => ?_))
def jC (l_1:(List Campaign)):Option (Int) :=
 bif (decide ((l_1.length:Int) > 30))then some 2 else (forL l_1 () (fun k x s=>iL l_1 k x s)).bind fun o_11=>thenC o_11 (fun s_8=>some 0) (fun r=>some r)
theorem qO (l_1:(List Campaign)):Le (jC l_1) (fH l_1):=by
 unfold jC fH
 repeat' (with_reducible first | exact Le.refl _ | exact oZ _ _ _ _ | refine Le.loop (fun _ => ?_) | refine Le.forL (fun _ _ _ => ?_) | refine Le.thenC (fun _ => ?_) (fun _ => ?_) | refine Le.cond ?_ ?_ | refine Le.bind ?_ (fun _ => ?_))
def tF (c_1:Campaign) (atv_2:Int):Option (Int×Int) :=
 (jC ([c_1]:List Campaign)).bind fun r_4=>bif (r_4 != 0)then some (0,r_4)else (bW atv_2).bind fun r_7=>bif (!r_7)then some (0,1)else (qV c_1 atv_2).bind fun r_10=>some (r_10,0)
theorem BH (c_1:Campaign) (atv_2:Int):Le (tF c_1 atv_2) (oI c_1 atv_2):=by
 unfold tF oI
 repeat' (with_reducible first | exact Le.refl _ | exact qO _ | refine Le.loop (fun _ => ?_) | refine Le.forL (fun _ _ _ => ?_) | refine Le.thenC (fun _ => ?_) (fun _ => ?_) | refine Le.cond ?_ ?_ | refine Le.bind ?_ (fun _ => ?_))
def kN (l_1:(List Beat)) (k_3:Nat) (x_5:Beat) (s_8:Unit):Option (Ctl (Unit) (Int)) :=
 (gD x_5.Player).bind fun r_14=>bif (!r_14)then some (.ret 5)else ((bW x_5.At).bind fun r_19=>bif (!r_19)then some true else (aN x_5.Clock 0 345686399999).bind fun r_22=>some r_22).bind fun v_17=>bif v_17 then some (.ret 1)else (bif (decide ((k_3:Int) > 0))then (idx l_1 (w64 ((k_3:Int) - 1))).bind fun y_28=>(jL y_28 x_5).bind fun r_30=>some (decide (r_30≥0))else some false).bind fun v_25=>bif v_25 then some (.ret 7)else (bif (decide ((k_3:Int) > 0))then (idx l_1 (w64 ((k_3:Int) - 1))).bind fun y_36=>bif (sEq x_5.Player y_36.Player)then (idx l_1 (w64 ((k_3:Int) - 1))).bind fun y_39=>some (decide (x_5.Clock≤y_39.Clock))else some false else some false).bind fun v_33=>bif v_33 then some (.ret 16)else some (.go ())
theorem sO (l_1:(List Beat)) (k_3:Nat) (x_5:Beat) (s_8:Unit):Le (kN l_1 k_3 x_5 s_8) (ik l_1 k_3 x_5 s_8):=by
 unfold kN ik
 repeat' (with_reducible first | exact Le.refl _ | exact je _ | refine Le.loop (fun _ => ?_) | refine Le.forL (fun _ _ _ => ?_) | refine Le.thenC (fun _ => ?_) (fun _ => ?_) | refine Le.cond ?_ ?_ | refine Le.bind ?_ (fun _ => ?_))
def nk (l_1:(List Beat)):Option (Int) :=
 bif (decide ((l_1.length:Int) > 500))then some 2 else (forL l_1 () (fun k x s=>kN l_1 k x s)).bind fun o_11=>thenC o_11 (fun s_8=>some 0) (fun r=>some r)
theorem wB (l_1:(List Beat)):Le (nk l_1) (jD l_1):=by
 unfold nk jD
 repeat' (with_reducible first | exact Le.refl _ | exact sO _ _ _ _ | refine Le.loop (fun _ => ?_) | refine Le.forL (fun _ _ _ => ?_) | refine Le.thenC (fun _ => ?_) (fun _ => ?_) | refine Le.cond ?_ ?_ | refine Le.bind ?_ (fun _ => ?_))
def rE (l_1:(List Beat_)) (n_2:Int):Option (Int×Int) :=
 bif ((l_1.length:Int) == 0)then some (0,8)else (oF 0 (fun s=>mf l_1 n_2 s)).bind fun o_12=>thenC o_12 (fun s_9=>bif (s_9 == 0)then (idx l_1 0).bind fun y_21=>(idx l_1 0).bind fun y_23=>(bW (w64 (y_21.f_to - (w64 (y_23.f_from - n_2))))).bind fun r_25=>bif (!r_25)then some (0,11)else some ((w64 (y_21.f_to - (w64 (y_23.f_from - n_2)))),0)else bif (s_9 == (l_1.length:Int))then (idx l_1 (w64 (s_9 - 1))).bind fun y_29=>(idx l_1 (w64 (s_9 - 1))).bind fun y_31=>(bW (w64 ((w64 (y_29.f_to + n_2)) - y_31.f_from))).bind fun r_33=>bif (!r_33)then some (0,11)else some ((w64 ((w64 (y_29.f_to + n_2)) - y_31.f_from)),0)else (idx l_1 (w64 (s_9 - 1))).bind fun y_36=>(idx l_1 s_9).bind fun y_38=>(bif (decide ((w64 (y_38.f_from - y_36.f_from)) > 2592000000))then some true else some (decide ((w64 (y_38.f_to - y_36.f_to)) > 2592000000))).bind fun v_42=>bif v_42 then some (0,2)else (GD .i64 (w64 ((w64 (n_2 - y_36.f_from)) * (w64 (y_38.f_to - y_36.f_to)))) (w64 (y_38.f_from - y_36.f_from))).bind fun q_46=>(bW (w64 (y_36.f_to + q_46))).bind fun r_48=>bif (!r_48)then some (0,11)else some ((w64 (y_36.f_to + q_46)),0)) (fun _=>none)
theorem zH (l_1:(List Beat_)) (n_2:Int):Le (rE l_1 n_2) (mQ l_1 n_2):=by
 unfold rE mQ
 repeat' (with_reducible first | exact Le.refl _ | refine Le.loop (fun _ => ?_) | refine Le.forL (fun _ _ _ => ?_) | refine Le.thenC (fun _ => ?_) (fun _ => ?_) | refine Le.cond ?_ ?_ | refine Le.bind ?_ (fun _ => ?_))
def sM (l_1:(List Beat)) (player_2:ByteArray) (n_3:Int) (back_4:Bool):Option (Int×Int) :=
 (nk l_1).bind fun r_5=>bif (r_5 != 0)then some (0,r_5)else (gD player_2).bind fun r_8=>bif (!r_8)then some (0,5)else (bW n_3).bind fun r_11=>bif (!r_11)then some (0,1)else (oo l_1 player_2 back_4).bind fun r_14=>(rE r_14 n_3).bind fun r_16=>some (r_16.1,r_16.2)
theorem Bb (l_1:(List Beat)) (player_2:ByteArray) (n_3:Int) (back_4:Bool):Le (sM l_1 player_2 n_3 back_4) (oz l_1 player_2 n_3 back_4):=by
 unfold sM oz
 repeat' (with_reducible first | exact Le.refl _ | exact je _ | exact wB _ | exact zH _ _ | refine Le.loop (fun _ => ?_) | refine Le.forL (fun _ _ _ => ?_) | refine Le.thenC (fun _ => ?_) (fun _ => ?_) | refine Le.cond ?_ ?_ | refine Le.bind ?_ (fun _ => ?_))
def tQ (l_1:(List Beat)) (player_2:ByteArray) (clock_3:Int):Option (Int×Int) :=
 (sM l_1 player_2 clock_3 false).bind fun r_4=>some (r_4.1,r_4.2)
theorem Bg (l_1:(List Beat)) (player_2:ByteArray) (clock_3:Int):Le (tQ l_1 player_2 clock_3) (oC l_1 player_2 clock_3):=by
 unfold tQ oC
 repeat' (with_reducible first | exact Le.refl _ | exact Bb _ _ _ _ | refine Le.loop (fun _ => ?_) | refine Le.forL (fun _ _ _ => ?_) | refine Le.thenC (fun _ => ?_) (fun _ => ?_) | refine Le.cond ?_ ?_ | refine Le.bind ?_ (fun _ => ?_))
def lU (a_1:Alert) (k_4:Nat) (x_6:ByteArray) (s_9:Unit):Option (Ctl (Unit) (Int)) :=
 (gD x_6).bind fun r_14=>bif (!r_14)then some (.ret 5)else (bif (decide ((k_4:Int) > 0))then (idx a_1.Refs (w64 ((k_4:Int) - 1))).bind fun y_20=>some (sLe x_6 y_20)else some false).bind fun v_17=>bif v_17 then some (.ret 7)else bif (sEq x_6 a_1.Id)then some (.ret 14)else some (.go ())
theorem uu (a_1:Alert) (k_4:Nat) (x_6:ByteArray) (s_9:Unit):Le (lU a_1 k_4 x_6 s_9) (eZ a_1 k_4 x_6 s_9):=by
 unfold lU eZ
 repeat' (with_reducible first | exact Le.refl _ | exact je _ | refine Le.loop (fun _ => ?_) | refine Le.forL (fun _ _ _ => ?_) | refine Le.thenC (fun _ => ?_) (fun _ => ?_) | refine Le.cond ?_ ?_ | refine Le.bind ?_ (fun _ => ?_))
def og (a_1:Alert):Option (Int) :=
 bif (decide ((a_1.Refs.length:Int) > 20))then some 2 else (forL a_1.Refs () (fun k x s=>lU a_1 k x s)).bind fun o_12=>thenC o_12 (fun s_9=>bif (!((a_1.Kind == 1) == ((a_1.Refs.length:Int) == 0)))then some 3 else some 0) (fun r=>some r)
theorem wT (a_1:Alert):Le (og a_1) (gZ a_1):=by
 unfold og gZ
 repeat' (with_reducible first | exact Le.refl _ | exact uu _ _ _ _ | refine Le.loop (fun _ => ?_) | refine Le.forL (fun _ _ _ => ?_) | refine Le.thenC (fun _ => ?_) (fun _ => ?_) | refine Le.cond ?_ ?_ | refine Le.bind ?_ (fun _ => ?_))
def nu (a_1:Alert):Option (Int) :=
 ((gD a_1.Id).bind fun r_5=>bif (!r_5)then some true else (gD a_1.Sender).bind fun r_8=>some (!r_8)).bind fun v_3=>bif v_3 then some 5 else (aN a_1.Kind 1 3).bind fun r_11=>bif r_11 then some 4 else (og a_1).bind fun r_14=>bif (r_14 != 0)then some r_14 else ((bW a_1.At).bind fun r_19=>bif (!r_19)then some true else (aN a_1.Until (w64 (a_1.At + 1)) (w64 (a_1.At + 2592000000))).bind fun r_22=>bif r_22 then some true else (aN a_1.Weight 1 9).bind fun r_25=>some r_25).bind fun v_17=>bif v_17 then some 1 else bif (decide ((a_1.Areas.length:Int) > 20))then some 2 else (forL a_1.Areas () (fun k x s=>fO k x s)).bind fun o_37=>thenC o_37 (fun s_34=>bif (!((a_1.Kind == 3) == ((a_1.Areas.length:Int) == 0)))then some 3 else bif (decide ((a_1.Text.size:Int) > 500))then some 2 else ((ja a_1.Text).bind fun r_47=>bif (!r_47)then some true else bif (sEq a_1.Text (⟨#[]⟩:ByteArray))then some (!(a_1.Kind == 3))else some false).bind fun v_45=>bif v_45 then some 3 else some 0) (fun r=>some r)
theorem ww (a_1:Alert):Le (nu a_1) (gG a_1):=by
 unfold nu gG
 repeat' (with_reducible first | exact Le.refl _ | exact je _ | exact wT _ | exact jq _ | exact zC _ | refine Le.loop (fun _ => ?_) | refine Le.forL (fun _ _ _ => ?_) | refine Le.thenC (fun _ => ?_) (fun _ => ?_) | refine Le.cond ?_ ?_ | refine Le.bind ?_ (fun _ => ?_))
def kw (l_1:(List Alert)) (k_3:Nat) (x_5:Alert) (s_8:Unit):Option (Ctl (Unit) (Int)) :=
 (nu x_5).bind fun r_14=>bif (r_14 != 0)then some (.ret r_14)else (bif (decide ((k_3:Int) > 0))then (idx l_1 (w64 ((k_3:Int) - 1))).bind fun y_20=>(gJ y_20 x_5).bind fun r_22=>some (decide (r_22≥0))else some false).bind fun v_17=>bif v_17 then some (.ret 7)else some (.go ())
theorem rW (l_1:(List Alert)) (k_3:Nat) (x_5:Alert) (s_8:Unit):Le (kw l_1 k_3 x_5 s_8) (dX l_1 k_3 x_5 s_8):=by
 unfold kw dX
 repeat' (with_reducible first | exact Le.refl _ | exact ww _ | refine Le.loop (fun _ => ?_) | refine Le.forL (fun _ _ _ => ?_) | refine Le.thenC (fun _ => ?_) (fun _ => ?_) | refine Le.cond ?_ ?_ | refine Le.bind ?_ (fun _ => ?_))
def mh (l_1:(List Alert)):Option (Int) :=
 bif (decide ((l_1.length:Int) > 300))then some 2 else (forL l_1 () (fun k x s=>kw l_1 k x s)).bind fun o_11=>thenC o_11 (fun s_8=>(forL l_1 ([]:List (ByteArray×Bool)) (fun k x s=>dW k x s)).bind fun o_34=>thenC o_34 (fun s_31=>some 0) (fun r=>some r)) (fun r=>some r)
theorem uS (l_1:(List Alert)):Le (mh l_1) (fJ l_1):=by
 unfold mh fJ
 repeat' (with_reducible first | exact Le.refl _ | exact rW _ _ _ _ | refine Le.loop (fun _ => ?_) | refine Le.forL (fun _ _ _ => ?_) | refine Le.thenC (fun _ => ?_) (fun _ => ?_) | refine Le.cond ?_ ?_ | refine Le.bind ?_ (fun _ => ?_))
def kR (l_1:(List Post)) (k_3:Nat) (x_5:Post) (s_8:Unit):Option (Ctl (Unit) (Int)) :=
 (gD x_5.Player).bind fun r_14=>bif (!r_14)then some (.ret 5)else ((aN x_5.X (-100000) 100000).bind fun r_19=>bif r_19 then some true else (aN x_5.Y (-100000) 100000).bind fun r_22=>some r_22).bind fun v_17=>bif v_17 then some (.ret 1)else (bif (decide ((k_3:Int) > 0))then (idx l_1 (w64 ((k_3:Int) - 1))).bind fun y_28=>some (sLe x_5.Player y_28.Player)else some false).bind fun v_25=>bif v_25 then some (.ret 7)else some (.go ())
theorem sP (l_1:(List Post)) (k_3:Nat) (x_5:Post) (s_8:Unit):Le (kR l_1 k_3 x_5 s_8) (dn l_1 k_3 x_5 s_8):=by
 unfold kR dn
 repeat' (with_reducible first | exact Le.refl _ | exact je _ | refine Le.loop (fun _ => ?_) | refine Le.forL (fun _ _ _ => ?_) | refine Le.thenC (fun _ => ?_) (fun _ => ?_) | refine Le.cond ?_ ?_ | refine Le.bind ?_ (fun _ => ?_))
def ny (l_1:(List Post)):Option (Int) :=
 bif (decide ((l_1.length:Int) > 500))then some 2 else (forL l_1 () (fun k x s=>kR l_1 k x s)).bind fun o_11=>thenC o_11 (fun s_8=>some 0) (fun r=>some r)
theorem wu (l_1:(List Post)):Le (ny l_1) (eu l_1):=by
 unfold ny eu
 repeat' (with_reducible first | exact Le.refl _ | exact sP _ _ _ _ | refine Le.loop (fun _ => ?_) | refine Le.forL (fun _ _ _ => ?_) | refine Le.thenC (fun _ => ?_) (fun _ => ?_) | refine Le.cond ?_ ?_ | refine Le.bind ?_ (fun _ => ?_))
def nP (l_1:(List Alert)) (posts_2:(List Post)):Option (Int) :=
 (mh l_1).bind fun r_3=>bif (r_3 != 0)then some r_3 else (ny posts_2).bind fun r_6=>some r_6
theorem xm (l_1:(List Alert)) (posts_2:(List Post)):Le (nP l_1 posts_2) (eX l_1 posts_2):=by
 unfold nP eX
 repeat' (with_reducible first | exact Le.refl _ | exact uS _ | exact wu _ | refine Le.loop (fun _ => ?_) | refine Le.forL (fun _ _ _ => ?_) | refine Le.thenC (fun _ => ?_) (fun _ => ?_) | refine Le.cond ?_ ?_ | refine Le.bind ?_ (fun _ => ?_))
def qx (a_1:Alert) (p_2:Post):Option (Bool×Int) :=
 (nP ([a_1]:List Alert) ([p_2]:List Post)).bind fun r_5=>bif (r_5 != 0)then some (false,r_5)else (jh a_1 p_2).bind fun r_8=>some (r_8,0)
theorem yH (a_1:Alert) (p_2:Post):Le (qx a_1 p_2) (iy a_1 p_2):=by
 unfold qx iy
 repeat' (with_reducible first | exact Le.refl _ | exact xm _ _ | refine Le.loop (fun _ => ?_) | refine Le.forL (fun _ _ _ => ?_) | refine Le.thenC (fun _ => ?_) (fun _ => ?_) | refine Le.cond ?_ ?_ | refine Le.bind ?_ (fun _ => ?_))
def uU  : Option (Bool) :=
 (tJ ([(⟨0,0,2,2⟩:Rect),(⟨1,1,2,2⟩:Rect)]:List Rect)).bind fun r_1=>(oW (⟨(⟨#[97]⟩:ByteArray),(⟨#[98]⟩:ByteArray),0,0,0,1,127,([]:List Int),1,2,0,([]:List ByteArray),false⟩:Entry) 0 (⟨0,86400000⟩:Window)).bind fun r_3=>(tF (⟨(⟨#[97]⟩:ByteArray),(⟨#[]⟩:ByteArray),(⟨0,100⟩:Window),([]:List ByteArray),10,0,0⟩:Campaign) 50).bind fun r_5=>(tQ ([(⟨(⟨#[112]⟩:ByteArray),0,100⟩:Beat),(⟨(⟨#[112]⟩:ByteArray),1000,1300⟩:Beat)]:List Beat) (⟨#[112]⟩:ByteArray) 700).bind fun r_7=>(qx (⟨(⟨#[97]⟩:ByteArray),(⟨#[115]⟩:ByteArray),1,([]:List ByteArray),0,5,1,([(⟨0,0,2,2⟩:Rect)]:List Rect),(⟨#[120]⟩:ByteArray)⟩:Alert) (⟨(⟨#[112]⟩:ByteArray),1,1⟩:Post)).bind fun r_10=>((vQ ([r_1.2,r_3.2,r_5.2,r_7.2,r_10.2]:List Int)).bind fun r_14=>bif (r_14 == 0)then bif (r_1.1 == 7)then bif ((r_3.1.length:Int) == 1)then bif (r_5.1 == 5)then bif (r_7.1 == 500)then some r_10.1 else some false else some false else some false else some false else some false).bind fun v_12=>some v_12
theorem Ce  : Le (uU) (nT):=by
 unfold uU nT
 repeat' (with_reducible first | exact Le.refl _ | exact Au _ | exact xD _ _ _ | exact BH _ _ | exact Bg _ _ _ | exact yH _ _ | refine Le.loop (fun _ => ?_) | refine Le.forL (fun _ _ _ => ?_) | refine Le.thenC (fun _ => ?_) (fun _ => ?_) | refine Le.cond ?_ ?_ | refine Le.bind ?_ (fun _ => ?_))
end Go.Proofs.YtjhcehhmdmbleaaGreatDoor.Law

open Go Go.Eng
namespace Go.Proofs.YtjhcehhmdmbleaaGreatDoor.Law
set_option linter.unusedVariables false
set_option maxRecDepth 100000
theorem ready_F:uU=some true:=by kernel_rfl
theorem JZ:nT=some true:=Ce _ ready_F
end Go.Proofs.YtjhcehhmdmbleaaGreatDoor.Law

open Go Go.Eng
namespace Go.Proofs.YtjhcehhmdmbleaaGreatDoor.Law
set_option linter.unusedVariables false
set_option linter.unusedSimpArgs false
set_option maxRecDepth 100000
def eqP (a b:Pair):Bool:=eqS a.f_player b.f_player && (eqS a.f_alert b.f_alert && true)
theorem Ab (a b:Pair):eqP a b=true↔a=b:=by
 obtain ⟨a1,a2⟩:=a
 obtain ⟨b1,b2⟩:=b
 unfold eqP
 rw [Bool.and_true,Bool.and_eq_true,x9,x9]
 constructor
 ·rintro ⟨h,k⟩
  simp only at h k
  rw [h,k]
 ·intro h
  cases h
  exact⟨rfl,rfl⟩
theorem Fs (t:Int) (k:Nat) (x:Receipt) (s:List (Pair×Int)):∃ s',iI t k x s=some (.go s')∧(s'=s∨s'=wQ eqP s ⟨x.Player,x.Alert⟩ x.At)∧(x.At≤t→(mGet eqP s ⟨x.Player,x.Alert⟩).isSome=false→s'=wQ eqP s ⟨x.Player,x.Alert⟩ x.At):=by
 have he:(fun (a b:Pair)=>(eqS a.f_player b.f_player && (eqS a.f_alert b.f_alert && true)))=eqP:=rfl
 unfold iI
 rw [he]
 cases h1:decide (x.At≤t)with
 | false =>
  exact⟨s,rfl,.inl rfl,fun h=>absurd h (of_decide_eq_false h1)⟩
 | true =>
  cases h2:(mGet eqP s ⟨x.Player,x.Alert⟩).isSome with
  | false=>exact⟨_,rfl,.inr rfl,fun _ _=>rfl⟩
  | true =>
   cases h3:decide (x.At < ((mGet eqP s ⟨x.Player,x.Alert⟩).getD 0))with
   | false=>refine⟨s,?_,.inl rfl,fun _ h=>by cases h⟩; simp only [Bool.not_true,cond_true,cond_false,Option.bind_some,h3]
   | true=>refine⟨_,?_,.inr rfl,fun _ h=>by cases h⟩; simp only [Bool.not_true,cond_true,cond_false,Option.bind_some,h3]
theorem K7 (r:List Receipt) (hr:r.length≤1000000) (t:Int):∃ m,jK r t=some m:=by
 unfold jK
 obtain ⟨u,u1,_⟩:=gL (body:=fun k x s=>iI t k x s) (fun _ _=>True) (xs:=r) (s:=([]:List (Pair×Int))) (by omega) (fun k x s _ _=>by
  obtain ⟨s',e,_⟩:=Fs t k x s
  exact⟨s',e,trivial⟩) trivial
 rw [u1]; exact⟨u,rfl⟩
theorem KR (r:List Receipt) (hr:r.length≤1000000) (h0:∀ x∈r,x.At=0) {t:Int} (ht:0≤t):∃ m,jK r t=some m ∧ ∀ x∈r,mGet eqP m ⟨x.Player,x.Alert⟩=some 0:=by
 unfold jK
 obtain ⟨u,u1,u2,u3⟩:=gL (body:=fun k x s=>iI t k x s) (fun k s=>(∀ x∈r.take k,mGet eqP s ⟨x.Player,x.Alert⟩=some 0) ∧ ∀ q v,mGet eqP s q=some v→v=0) (xs:=r) (s:=([]:List (Pair×Int))) (by omega) (fun k x s hx ⟨i1,i2⟩=>by
  have et:r.take (k + 1)=r.take k ++ [x]:=by rw [List.take_add_one,hx]; rfl
  have hx0:=h0 x (List.mem_of_getElem? hx)
  obtain ⟨s',e,e2,e3⟩:=Fs t k x s
  have key:(∀ q v,mGet eqP s' q=some v→v=0)∧(∀ q,mGet eqP s q=some 0→mGet eqP s' q=some 0):=by
   rcases e2 with rfl | rfl
   ·exact⟨i2,fun _ h=>h⟩
   ·constructor
    ·intro q v h
     rw [sJ Ab]at h
     split at h
     ·rw [← Option.some.inj h]; exact hx0
     ·exact i2 q v h
    ·intro q h
     rw [sJ Ab]
     split
     ·rw [hx0]
     ·exact h
  refine⟨s',e,fun y hy => ?_,key.1⟩
  rw [et]at hy
  rcases List.mem_append.1 hy with hy | hy
  ·exact key.2 _ (i1 y hy)
  ·rw [List.mem_singleton.1 hy]
   cases hq:mGet eqP s ⟨x.Player,x.Alert⟩with
   | some v =>
    have:=i2 _ _ hq
    rw [this]at hq
    exact key.2 _ hq
   | none =>
    rw [e3 (by omega) (by rw [hq]; rfl),sJ Ab,if_pos ((Ab _ _).2 rfl),hx0]) ⟨fun x hx=>(by cases hx),fun q v h=>(by cases h)⟩
 rw [List.take_length]at u2
 rw [u1]; exact⟨u,rfl,u2⟩
structure Just (l:List Alert) (ps:List Post) (inv t:Int) (m:List (Pair×Int)) (d:Debt):Prop where
 of:∃ a∈l,∃ p∈ps,d.Alert=a.Id∧d.Player=p.Player∧d.Due=a.At + inv∧hasB a.Areas p.X p.Y=true∧(mGet eqP m ⟨p.Player,a.Id⟩=some 0→a.At + inv < 0)
 due:d.Due < t
 late:d.Got < 0∨d.Due < d.Got
theorem Jn {l:List Alert} {n:Nat} (h:RAlerts l n) (hn:n≤12) {ps:List Post} {p:Post} (hp:p∈ps) {inv t:Int} (hi:0≤inv∧inv≤20) (m:List (Pair×Int)) {k:Nat} {a:Alert} (ha:l[k]? = some a) {s:List Debt} (hs:∀ d∈s,Just l ps inv t m d) (hl:s.length≤1000) :
  ∃ s',jA (l.map (rO l)) p t inv m k a s=some (.go s')∧(∀ d∈s',Just l ps inv t m d)∧s'.length≤s.length + 1:=by
 have hm:=List.mem_of_getElem? ha
 have hr:=h.right a hm
 have hat:=hr.at_
 have hal:=hr.alen
 have he:(fun (a b:Pair)=>(eqS a.f_player b.f_player && (eqS a.f_alert b.f_alert && true)))=eqP:=rfl
 have hidx:idx (l.map (rO l)) (k:Int)=some (rO l a):=idx_map ha
 have hsh:mZ a (rO l a) p t=some ((decide (a.Kind≠3) && (decide (a.At≤t) && decide (a.At < rO l a))) && hasB a.Areas p.X p.Y):=by
  unfold mZ
  have e:(a.Kind != 3)=decide (a.Kind≠3):=by rw [Bool.eq_iff_iff]; simp
  rw [e,Bn hr.areas (by omega)]
  cases decide (a.Kind≠3) <;> cases decide (a.At≤t) <;> cases decide (a.At < rO l a) <;> rfl
 unfold jA
 rw [he,hidx,Option.bind_some,hsh]
 simp only [Option.bind_some]
 have hw:w64 (a.At + inv)=a.At + inv:=gN (by omega)
 rw [hw]
 cases h1:((decide (a.Kind≠3) && (decide (a.At≤t) && decide (a.At < rO l a))) && hasB a.Areas p.X p.Y)with
 | false=>exact⟨s,rfl,hs,by omega⟩
 | true =>
 have hb:hasB a.Areas p.X p.Y=true:=by rw [Bool.and_eq_true]at h1; exact h1.2
 cases h2:decide (a.At + inv≥t)with
 | true=>exact⟨s,rfl,hs,by omega⟩
 | false =>
 have h2':=of_decide_eq_false h2
 cases h3:decide (rO l a < a.At + inv)with
 | true=>exact⟨s,by simp only [Bool.not_true,cond_false,cond_true,Option.bind_some,h3],hs,by omega⟩
 | false =>
 simp only [Bool.not_true,cond_false,cond_true,Option.bind_some,h3]
 cases h4:mGet eqP m ⟨p.Player,a.Id⟩with
 | none =>
  simp only [Option.isSome_none,Bool.not_false,cond_true]
  rw [pK _ _ (by simp only [List.length_cons,List.length_nil]; omega)]
  refine⟨_,rfl,fun d hd => ?_,by simp⟩
  rcases List.mem_append.1 hd with hd | hd
  ·exact hs d hd
  ·rw [List.mem_singleton.1 hd]
   exact⟨⟨a,hm,p,hp,rfl,rfl,rfl,hb,fun q=>by rw [h4]at q; cases q⟩,by simp only []; omega,.inl (by show (-1:Int) < 0; decide)⟩
 | some v =>
  simp only [Option.isSome_some,Bool.not_true,cond_false,Option.getD_some]
  cases h5:decide (v > a.At + inv)with
  | false=>exact⟨s,rfl,hs,by omega⟩
  | true =>
   have h5':=of_decide_eq_true h5
   rw [cond_true,pK _ _ (by simp only [List.length_cons,List.length_nil]; omega)]
   refine⟨_,rfl,fun d hd => ?_,by simp⟩
   rcases List.mem_append.1 hd with hd | hd
   ·exact hs d hd
   ·rw [List.mem_singleton.1 hd]
    exact⟨⟨a,hm,p,hp,rfl,rfl,rfl,hb,fun q=>by
     rw [h4,Option.some.injEq]at q
     omega⟩,by simp only []; omega,.inr (by simp only []; omega)⟩
def cmpD (a b:Debt):Int:=or0 (vX a.Player b.Player) (vX a.Alert b.Alert)
theorem Ap {a b:Debt}:cmpD a b < 0↔lt a.Player b.Player∨a.Player=b.Player∧lt a.Alert b.Alert:=by
 unfold cmpD
 rw [Hq,Ad,Jm,Ad]
theorem sortD (s:List Debt) (hl:s.length≤1000):∃ r,eT s=some r∧r.Perm s:=by
 unfold eT
 obtain ⟨r,r1,r2,_⟩:=He (F:=fun a b=>kr a b) cmpD (xs:=s) (by omega) (fun a _ b _=>by
   unfold kr cmpD
   rw [qp,qp]
   simp only [Option.bind_some]
   rw [GQ]; rfl)
  (fun a _ h=>by
   rcases Ap.1 h with q | ⟨_,q⟩
   ·exact iU _ q
   ·exact iU _ q)
  (fun a _ b _ c _ h k=>by
   rw [Ap]at *
   rcases h with h | ⟨h,h2⟩ <;> rcases k with k | ⟨k,k2⟩
   ·exact .inl (lt_trans h k)
   ·rw [← k]; exact .inl h
   ·rw [h]; exact .inl k
   ·exact .inr ⟨h.trans k,lt_trans h2 k2⟩)
  (fun a _ b _ c _ h k q=>by
   rw [Ap]at *
   simp only [not_or,not_and]at h k
   obtain ⟨h1,h2⟩:=h
   obtain ⟨k1,k2⟩:=k
   rcases xc a.Player b.Player with e1 | e1 | e1
   ·exact h1 e1
   ·rcases xc b.Player c.Player with e2 | e2 | e2
    ·exact k1 e2
    ·have e3:=h2 e1
     have e4:=k2 e2
     rcases q with q | ⟨_,q⟩
     ·rw [e1,e2]at q; exact iU _ q
     ·rcases xc a.Alert b.Alert with f1 | f1 | f1
      ·exact e3 f1
      ·rw [f1]at q; exact e4 q
      ·exact e4 (lt_trans f1 q)
    ·rw [e1]at q
     rcases q with q | ⟨q,_⟩
     ·exact iU _ (lt_trans q e2)
     ·rw [q]at e2; exact iU _ e2
   ·rcases q with q | ⟨q,_⟩
    ·exact k1 (lt_trans e1 q)
    ·rw [q]at e1; exact k1 e1)
 exact⟨r,r1,r2⟩
theorem G6 {l:List Alert} {n:Nat} (h:RAlerts l n) (hn:n≤300) {ps:List Post} (hp:RPosts ps) {r:List Receipt} (hr:RRc r):ll l ps r=some 0:=by
 unfold ll eX
 rw [wD h hn,Option.bind_some,DT hp,IZ hr]; rfl
theorem EW {l:List Alert} {n:Nat} (h:RAlerts l n) (hn:n≤12) {ps:List Post} (hp:RPosts ps) {r:List Receipt} (hr:RRc r) {inv t:Int} (hi:0≤inv∧inv≤20) (ht:0≤t∧t≤80) {m:List (Pair×Int)} (hm:jK r t=some m) :
  ∃ ds,mF l ps r inv t=some (ds,0)∧(∀ d∈ds,Just l ps inv t m d)∧ds.length≤1000:=by
 have hl:=h.len
 have hpl:=hp.len
 have hmo:Fw t=true:=by unfold Fw; rw [jQ (by omega)]; rfl
 unfold mF
 rw [G6 h (by omega) hp hr,Option.bind_some,bne_self_eq_false,cond_false,qf,jQ (by omega)]
 simp only [Option.bind_some,cond_false,uL,hmo,Bool.not_true]
 rw [hm,Option.bind_some,ends_eq (h.ca hn),Option.bind_some]
 obtain ⟨u,u1,u2,u3⟩:=gL (body:=fun k x s=>kS l (l.map (rO l)) t inv m k x s) (fun k s=>(∀ d∈s,Just l ps inv t m d)∧s.length≤12 * k) (xs:=ps) (s:=([]:List Debt)) (by omega) (fun k p s hx ⟨i1,i2⟩=>by
  have hk:k < ps.length:=(List.getElem?_eq_some_iff.1 hx).1
  obtain ⟨v,v1,v2,v3⟩:=gL (body:=fun j a s=>jA (l.map (rO l)) p t inv m j a s) (fun j s'=>(∀ d∈s',Just l ps inv t m d)∧s'.length≤s.length + j) (xs:=l) (s:=s) (by omega) (fun j a s' ha ⟨j1,j2⟩=>by
   have hj:j < l.length:=(List.getElem?_eq_some_iff.1 ha).1
   obtain ⟨s2,e1,e2,e3⟩:=Jn h hn (List.mem_of_getElem? hx) hi m ha j1 (by omega)
   exact⟨s2,e1,e2,by omega⟩) ⟨i1,Nat.le_refl _⟩
  unfold kS
  rw [v1]
  exact⟨v,rfl,v2,by omega⟩) ⟨fun d hd=>(by cases hd),Nat.le_refl _⟩
 obtain ⟨q,q1,q2⟩:=sortD u (by omega)
 have e3:kJ q u=some ():=by unfold kJ; rw [if_pos q2.length_eq]
 rw [u1]
 simp only [Option.bind_some,thenC]
 rw [q1,Option.bind_some,e3]
 exact⟨q,rfl,fun d hd=>u2 d (q2.mem_iff.1 hd),by rw [q2.length_eq]; omega⟩
def aL:List ByteArray := [⟨#[97,97]⟩,⟨#[97,98]⟩,⟨#[97,99]⟩,⟨#[97,100]⟩,⟨#[97,101]⟩]
theorem Db:aL=idL.take 5:=rfl
theorem aL_rise:aL.Pairwise lt:=by rw [Db]; exact FC.sublist (List.take_sublist _ _)
theorem aL_key:∀ k∈aL,kit_IsKey k=some true:=fun k hk=>by
 have:=IC k (List.mem_of_mem_take (by rw [Db]at hk; exact hk))
 rw [uZ _ (Nat.le_trans (Nat.le_of_ble_eq_true this.2) (by decide)),this.1]
structure RcJ (ps:List Post) (k j:Nat) (x:Post) (s:List Receipt):Prop where
 rise:s.Pairwise befRc
 of:∀ r∈s,(∃ p∈ps.take k,r.Player=p.Player∧r.Alert∈aL)∨r.Player=x.Player∧r.Alert∈aL.take j
 at_:∀ r∈s,0≤r.At∧r.At≤60
 len:s.length≤5 * k + j
theorem RcJ.add {ps:List Post} (hp:RPosts ps) {k j:Nat} {x:Post} (hx:ps[k]? = some x) {s:List Receipt} (h:RcJ ps k j x s) {y:ByteArray} (hy:aL[j]? = some y) {v:Int} (hv:0≤v∧v≤60):RcJ ps k (j + 1) x (s ++ [⟨x.Player,y,v,false⟩]):=by
 have et:aL.take (j + 1)=aL.take j ++ [y]:=by rw [List.take_add_one,hy]; rfl
 refine⟨List.pairwise_append.2 ⟨h.rise,List.pairwise_singleton _ _,fun r hr q hq => ?_⟩,fun r hr => ?_,fun r hr => ?_,by have:=h.len; simp; omega⟩
 ·rw [List.mem_singleton.1 hq]
  rcases h.of r hr with⟨p,p1,p2,_⟩ | ⟨p1,p2⟩
  ·left
   rw [p2]
   obtain ⟨i,hi⟩:=List.getElem?_of_mem p1
   have hik:i < k:=by
    obtain ⟨h1,_⟩:=List.getElem?_eq_some_iff.1 hi
    rw [List.length_take]at h1; omega
   rw [List.getElem?_take_of_lt hik]at hi
   obtain ⟨h1,e1⟩:=List.getElem?_eq_some_iff.1 hi
   obtain ⟨h2,e2⟩:=List.getElem?_eq_some_iff.1 hx
   have:=List.pairwise_iff_getElem.1 hp.rise i k (by simpa using h1) (by simpa using h2) hik
   rw [List.getElem_map,List.getElem_map,e1,e2]at this
   exact this
  ·right
   refine⟨p1,?_⟩
   obtain ⟨i,hi⟩:=List.getElem?_of_mem p2
   have hij:i < j:=by
    obtain ⟨h1,_⟩:=List.getElem?_eq_some_iff.1 hi
    rw [List.length_take]at h1; omega
   rw [List.getElem?_take_of_lt hij]at hi
   obtain ⟨h1,e1⟩:=List.getElem?_eq_some_iff.1 hi
   obtain ⟨h2,e2⟩:=List.getElem?_eq_some_iff.1 hy
   have:=List.pairwise_iff_getElem.1 aL_rise i j h1 h2 hij
   rw [e1,e2]at this
   exact this
 ·rcases List.mem_append.1 hr with hr | hr
  ·rcases h.of r hr with q | ⟨q1,q2⟩
   ·exact .inl q
   ·exact .inr ⟨q1,by rw [et]; exact List.mem_append_left _ q2⟩
  ·rw [List.mem_singleton.1 hr]
   exact .inr ⟨rfl,by rw [et]; exact List.mem_append_right _ (List.mem_singleton.2 rfl)⟩
 ·rcases List.mem_append.1 hr with hr | hr
  ·exact h.at_ r hr
  ·rw [List.mem_singleton.1 hr]; exact hv
theorem RcJ.mono {ps:List Post} {k j:Nat} {x:Post} {y:ByteArray} (hy:aL[j]? = some y) {s:List Receipt} (h:RcJ ps k j x s):RcJ ps k (j + 1) x s:=by
 have et:aL.take (j + 1)=aL.take j ++ [y]:=by rw [List.take_add_one,hy]; rfl
 refine⟨h.rise,fun r hr => ?_,h.at_,by have:=h.len; omega⟩
 rcases h.of r hr with q | ⟨q1,q2⟩
 ·exact .inl q
 ·exact .inr ⟨q1,by rw [et]; exact List.mem_append_left _ q2⟩
theorem RcJ.next {ps:List Post} {k:Nat} {x z:Post} (hx:ps[k]? = some x) {s:List Receipt} (h:RcJ ps k 5 x s):RcJ ps (k + 1) 0 z s:=by
 have et:ps.take (k + 1)=ps.take k ++ [x]:=by rw [List.take_add_one,hx]; rfl
 refine⟨h.rise,fun r hr => ?_,h.at_,by have:=h.len; omega⟩
 left
 rw [et]
 rcases h.of r hr with⟨p,q1,q2⟩ | ⟨q1,q2⟩
 ·exact⟨p,List.mem_append_left _ q1,q2⟩
 ·exact⟨x,List.mem_append_right _ (List.mem_singleton.2 rfl),q1,List.mem_of_mem_take q2⟩
theorem RcJ.other {ps:List Post} {k:Nat} {x z:Post} {s:List Receipt} (h:RcJ ps k 0 x s):RcJ ps k 0 z s:=by
 refine⟨h.rise,fun r hr => ?_,h.at_,h.len⟩
 rcases h.of r hr with q | ⟨q1,q2⟩
 ·exact .inl q
 ·cases q2
theorem RPosts.key {ps:List Post} (hp:RPosts ps) {p:Post} (h:p∈ps):kit_IsKey p.Player=some true:=(hp.right p h).key
theorem RcJ.rc {ps:List Post} (hp:RPosts ps) {z:Post} {s:List Receipt} (h:RcJ ps ps.length 0 z s):RRc s:=by
 have hpl:=hp.len
 have hl:=h.len
 refine⟨h.rise,fun r hr => ?_,fun r hr => ?_,by omega⟩
 ·rcases h.of r hr with⟨p,q1,q2,q3⟩ | ⟨_,q2⟩
  ·rw [q2]
   exact⟨hp.key (List.mem_of_mem_take q1),aL_key _ q3⟩
  ·cases q2
 ·have:=h.at_ r hr
  omega
theorem draw_rc {ps:List Post} (hp:RPosts ps) (s:Stream) {b:Int} (hs:Ok s b) (hb:b≤100000):∃ t,forL ps (([]:List Receipt),s.L,s.f_at) (fun k x s=>fq k x s)=some (.go t)∧RRc t.1:=by
 have hpl:=hp.len
 obtain ⟨t,t1,t2,t3⟩:=gL (body:=fun k x s=>fq k x s) (fun k t=>RcJ ps k 0 ⟨⟨#[]⟩,0,0⟩ t.1∧Ok ⟨t.2.1,t.2.2⟩ (b + 20 * k)) (xs:=ps) (s:=(([]:List Receipt),s.L,s.f_at)) (by omega) (fun k x t hx ⟨i1,i2⟩=>by
  have hk:k < ps.length:=(List.getElem?_eq_some_iff.1 hx).1
  obtain ⟨v,v1,v2,v3⟩:=gL (body:=fun j y s=>fw x j y s) (fun j v=>RcJ ps k j x v.1∧Ok ⟨v.2.1,v.2.2⟩ (b + 20 * k + 2 * j)) (xs:=aL) (s:=(t.1,t.2.1,t.2.2)) (by decide) (fun j y v hy ⟨j1,j2⟩=>by
   have hj:j < 5:=(List.getElem?_eq_some_iff.1 hy).1
   have hvl:=j1.len
   obtain ⟨f,s1,c1,c2⟩:=Dc _ 2 j2 (by omega) (by decide) (by decide)
   unfold fw
   rw [c1,Option.bind_some]
   simp only []
   cases f with
   | false=>exact⟨(v.1,s1.L,s1.f_at),rfl,j1.mono hy,c2.mono (by omega)⟩
   | true =>
    obtain ⟨w,s2,d1,d2,d3,d4⟩:=jW s1 0 60 c2 (by omega) (by decide) (by decide) (by decide)
    rw [cond_true,d1,Option.bind_some]
    simp only []
    rw [pK _ _ (by simp only [List.length_cons,List.length_nil]; omega)]
    exact⟨(_,s2.L,s2.f_at),rfl,j1.add hp hx hy ⟨d2,d3⟩,d4.mono (by omega)⟩) ⟨i1.other,i2.mono (by omega)⟩
  unfold fq
  have v1':forL ([(⟨#[97,97]⟩:ByteArray),(⟨#[97,98]⟩:ByteArray),(⟨#[97,99]⟩:ByteArray),(⟨#[97,100]⟩:ByteArray),(⟨#[97,101]⟩:ByteArray)]:List ByteArray) (t.1,t.2.1,t.2.2) (fun j y s=>fw x j y s)=some (.go v):=v1
  rw [v1']
  exact⟨_,rfl,RcJ.next hx v2,v3.mono (by show b + 20 * (k:Int) + 2 * ((5:Nat):Int)≤_; omega)⟩) ⟨⟨List.Pairwise.nil,fun r hr=>(by cases hr),fun r hr=>(by cases hr),Nat.le_refl _⟩,hs.mono (by omega)⟩
 exact⟨t,t1,t2.rc hp⟩
theorem all_rc {ps:List Post} (hp:RPosts ps):∃ t,forL ps ([]:List Receipt) (fun k x s=>fA k x s)=some (.go t)∧RRc t∧(∀ r∈t,r.At=0) ∧ ∀ p∈ps,∀ y∈aL,∃ r∈t,r.Player=p.Player∧r.Alert=y:=by
 have hpl:=hp.len
 obtain ⟨t,t1,t2,t3,t4⟩:=gL (body:=fun k x s=>fA k x s) (fun k t=>RcJ ps k 0 ⟨⟨#[]⟩,0,0⟩ t∧(∀ r∈t,r.At=0) ∧ ∀ p∈ps.take k,∀ y∈aL,∃ r∈t,r.Player=p.Player∧r.Alert=y) (xs:=ps) (s:=([]:List Receipt)) (by omega) (fun k x t hx ⟨i1,i2,i3⟩=>by
  have hk:k < ps.length:=(List.getElem?_eq_some_iff.1 hx).1
  have et:ps.take (k + 1)=ps.take k ++ [x]:=by rw [List.take_add_one,hx]; rfl
  obtain ⟨v,v1,v2,v3,v4,v5⟩:=gL (body:=fun j y s=>fE x j y s) (fun j v=>RcJ ps k j x v∧(∀ r∈v,r.At=0)∧(∀ r∈t,r∈v) ∧ ∀ y∈aL.take j,∃ r∈v,r.Player=x.Player∧r.Alert=y) (xs:=aL) (s:=t) (by decide) (fun j y v hy ⟨j1,j2,j3,j4⟩=>by
   have hj:j < 5:=(List.getElem?_eq_some_iff.1 hy).1
   have ey:aL.take (j + 1)=aL.take j ++ [y]:=by rw [List.take_add_one,hy]; rfl
   have hvl:=j1.len
   unfold fE
   rw [pK _ _ (by simp only [List.length_cons,List.length_nil]; omega)]
   refine⟨_,rfl,j1.add hp hx hy (by decide),fun r hr => ?_,fun r hr=>List.mem_append_left _ (j3 r hr),fun z hz => ?_⟩
   ·rcases List.mem_append.1 hr with hr | hr
    ·exact j2 r hr
    ·rw [List.mem_singleton.1 hr]
   ·rw [ey]at hz
    rcases List.mem_append.1 hz with hz | hz
    ·obtain ⟨r,r1,r2⟩:=j4 z hz
     exact⟨r,List.mem_append_left _ r1,r2⟩
    ·rw [List.mem_singleton.1 hz]
     exact⟨_,List.mem_append_right _ (List.mem_singleton.2 rfl),rfl,rfl⟩) ⟨i1.other,i2,fun r hr=>hr,fun y hy=>(by cases hy)⟩
  unfold fA
  have v1':forL ([(⟨#[97,97]⟩:ByteArray),(⟨#[97,98]⟩:ByteArray),(⟨#[97,99]⟩:ByteArray),(⟨#[97,100]⟩:ByteArray),(⟨#[97,101]⟩:ByteArray)]:List ByteArray) t (fun j y s=>fE x j y s)=some (.go v):=v1
  rw [v1']
  refine⟨v,rfl,RcJ.next hx v2,v3,fun p hp' y hy => ?_⟩
  rw [et]at hp'
  rcases List.mem_append.1 hp' with hp' | hp'
  ·obtain ⟨r,r1,r2⟩:=i3 p hp' y hy
   exact⟨r,v4 r r1,r2⟩
  ·rw [List.mem_singleton.1 hp']
   rw [List.take_length]at v5
   exact v5 y hy) ⟨⟨List.Pairwise.nil,fun r hr=>(by cases hr),fun r hr=>(by cases hr),Nat.le_refl _⟩,fun r hr=>(by cases hr),fun p hp=>(by cases hp)⟩
 rw [List.take_length]at t4
 exact⟨t,t1,t2.rc hp,t3,t4⟩
theorem ED {α:Type} {f:α→ByteArray} {B:(α→Option Bool)→Nat→α→Unit→Option (Ctl Unit Int)} (hB:∀ g k x,B g k x ()=(g x).bind fun r=>bif r then some (.ret (k:Int))else some (.go ())) {l:List α} (hl:l.length≤1000000) {v:ByteArray} {a:α} (ha:a∈l) (hv:f a=v) :
  ∃ (j:Nat) (x:α),(forL l () (fun k x s=>B (fun x0=>some (sEq (f x0) v)) k x s)).bind (fun o_11=>thenC o_11 (fun s_8=>some (-1)) (fun r=>some r))=some (j:Int)∧l[j]? = some x∧f x=v:=by
 rw [qP (by omega)]
 rcases BA (f:=fun x=>some (sEq (f x) v)) (p:=fun x=>sEq (f x) v) (B:=fun k x s=>B (fun x0=>some (sEq (f x0) v)) k x s) (fun k x=>hB _ k x) l 0 (fun x _=>rfl)with⟨h1,_⟩ | ⟨j,x,h1,h2,_,h4,_⟩
 ·have:l.any (fun x=>sEq (f x) v)=true:=List.any_eq_true.2 ⟨a,ha,(zK _ _).2 hv⟩
  rw [h1]at this; cases this
 ·rw [h4]
  exact⟨j,x,by simp only [Option.bind_some,thenC,Nat.zero_add],h1,(zK _ _).1 h2⟩
theorem Ky {l:List Alert} {n:Nat} (h:RAlerts l n) (hn:n≤12) {ps:List Post} (hp:RPosts ps) {inv t:Int} (hi:0≤inv∧inv≤20) {m:List (Pair×Int)} {d:Debt} (hd:Just l ps inv t m d) (s1 s2 s3 s4:Stream) (k:Nat):fu (l,s1) (ps,s2) (inv,s3) (t,s4) k d ()=some (.go ()):=by
 have hl:=h.len
 have hpl:=hp.len
 obtain ⟨a,ha,p,hp',e1,e2,e3,e4,_⟩:=hd.of
 obtain ⟨i,x,i1,i2,i3⟩:=ED (f:=fun (x:Alert)=>x.Id) (B:=fun g k x s=>bP g k x s) (fun g k x=>rfl) (l:=l) (by omega) ha (v:=d.Alert) e1.symm
 obtain ⟨j,y,j1,j2,j3⟩:=ED (f:=fun (x:Post)=>x.Player) (B:=fun g k x s=>di g k x s) (fun g k x=>rfl) (l:=ps) (by omega) hp' (v:=d.Player) e2.symm
 obtain ⟨i0,hi0⟩:=List.getElem?_of_mem ha
 obtain ⟨j0,hj0⟩:=List.getElem?_of_mem hp'
 have ei:i0=i:=F4 h.ids hi0 i2 (by rw [← e1]; exact i3.symm)
 subst ei
 rw [hi0]at i2
 obtain rfl:=Option.some.inj i2
 have ej:j0=j:=by
  obtain ⟨l1,m1⟩:=List.getElem?_eq_some_iff.1 hj0
  obtain ⟨l2,m2⟩:=List.getElem?_eq_some_iff.1 j2
  have hpw:=List.pairwise_iff_getElem.1 hp.rise
  have heq:p.Player=y.Player:=by rw [← e2]; exact j3.symm
  rcases Nat.lt_trichotomy j0 j with q | q | q
  ·have:=hpw j0 j (by simpa using l1) (by simpa using l2) q
   rw [List.getElem_map,List.getElem_map,m1,m2,heq]at this
   exact absurd this (iU _)
  ·exact q
  ·have:=hpw j j0 (by simpa using l2) (by simpa using l1) q
   rw [List.getElem_map,List.getElem_map,m1,m2,heq]at this
   exact absurd this (iU _)
 subst ej
 rw [hj0]at j2
 obtain rfl:=Option.some.inj j2
 have hat:=(h.right a ha).at_
 unfold fu
 simp only []
 have f1:bE l (fun x0=>jl x0 d)=some (i0:Int):=i1
 have f2:dE ps (fun x0=>jm x0 d)=some (j0:Int):=j1
 rw [f1,Option.bind_some,f2,Option.bind_some,decide_eq_false (by omega),decide_eq_false (by omega),zW,hi0,zW,hj0]
 simp only [cond_false,Option.bind_some]
 rw [gN (n:=a.At + inv) (by omega),e3,bne_self_eq_false,cond_false]
 have h1:=hd.due
 have h2:=hd.late
 rw [e3]at h1 h2
 rw [decide_eq_false (by omega),cond_false,Gf (h.right a ha) (hp.right p hp'),e4]
 by_cases hg:d.Got≥0
 ·rw [decide_eq_true hg,decide_eq_false (show ¬ d.Got≤a.At + inv by omega)]; rfl
 ·rw [decide_eq_false hg]; rfl
theorem debtsAreJust (l:List Int):kH l=some true:=by
 have h0:Ok (⟨l,0⟩:Stream) 0:=⟨Int.le_refl _,Int.le_refl _⟩
 obtain ⟨al,s1,a1,⟨a2,a4⟩,a3⟩:=Ef 5 (by decide) _ h0 (by decide)
 obtain ⟨ps,s2,b1,b2,b3⟩:=GM s1 a3 (by decide)
 obtain ⟨inv,s3,c1,c2,c3,c4⟩:=jW s2 0 20 b3 (by decide) (by decide) (by decide) (by decide)
 obtain ⟨t,s4,d1,d2,d3,d4⟩:=jW s3 0 80 c4 (by decide) (by decide) (by decide) (by decide)
 have hn:(5:Int).toNat≤12:=by decide
 have hal:=a2.len
 obtain ⟨rc,e1,e2⟩:=draw_rc b2 s4 d4 (by decide)
 have e3:=e2.len
 obtain ⟨m,m1⟩:=K7 rc.1 (by omega) t
 obtain ⟨ds,f1,f2,f3⟩:=EW a2 hn b2 e2 ⟨c2,c3⟩ ⟨d2,d3⟩ m1
 obtain ⟨rc2,g1,g2,g3,g4⟩:=all_rc b2
 have g5:=g2.len
 obtain ⟨m2,k1,k2⟩:=KR rc2 (by omega) g3 d2
 obtain ⟨ds2,j1,j2,j3⟩:=EW a2 hn b2 g2 ⟨c2,c3⟩ ⟨d2,d3⟩ k1
 have hnil:ds2 = []:=by
  cases hq:ds2 with
  | nil=>rfl
  | cons d r =>
   exfalso
   obtain ⟨a,ha,p,hp,_,_,_,_,q⟩:=(j2 d (by rw [hq]; exact List.mem_cons_self)).of
   have hid:a.Id∈aL:=by rw [Db]; exact a4 a ha
   obtain ⟨r,r1,r2,r3⟩:=g4 p hp a.Id hid
   have:=k2 r r1
   rw [r2,r3]at this
   have:=q this
   have:=(a2.right a ha).at_
   omega
 subst hnil
 obtain ⟨u,u1,_⟩:=gL (body:=fun k x s=>fu (al,s1) (ps,s2) (inv,s3) (t,s4) k x s) (fun _ _=>True) (xs:=ds) (s:=()) (by omega) (fun k x s hx _=>by
  cases s
  exact⟨(),Ky a2 hn b2 ⟨c2,c3⟩ (f2 x (List.mem_of_getElem? hx)) s1 s2 s3 s4 k,trivial⟩) trivial
 unfold kH
 rw [a1,Option.bind_some]
 simp only []
 rw [b1,Option.bind_some]
 simp only []
 rw [c1,Option.bind_some]
 simp only []
 rw [d1,Option.bind_some]
 simp only []
 rw [e1]
 simp only [Option.bind_some,thenC]
 rw [f1]
 simp only [Option.bind_some,bne_self_eq_false,cond_false]
 rw [g1]
 simp only [Option.bind_some,thenC]
 rw [j1]
 simp only [Option.bind_some]
 rw [u1]
 simp only [Option.bind_some,thenC,JZ]
 rfl
end Go.Proofs.YtjhcehhmdmbleaaGreatDoor.Law

