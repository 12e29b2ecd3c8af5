/-
  THE PLAIN LAW (part 4).
-/
import Derived.Test.YtnkgapmhkhcanabGreatDoorPl3
import Derived.Test.YtnkgapmhkhcanabGreatDoorDefs
open Go Go.Eng
namespace Go.Proofs.YtnkgapmhkhcanabGreatDoor.Law
set_option linter.unusedVariables false
set_option linter.unusedSimpArgs false
set_option maxRecDepth 100000
def gy (s_1:ByteArray):Option (Bool) :=
 (tZ 0 (λs=>je s_1 s)).bind λo_10=>thenC o_10 (λs_7=>(bif (sNe s_1 (⟨#[]⟩:ByteArray))then some (decide ((s_1.size:Int)<=40))else some false).bind λv_30=>some v_30) (λr=>some r)
theorem iX (s_1:ByteArray):Le (gy s_1) (dY s_1):=by
 unfold gy dY
 repeat' (with_reducible first | exact Le.refl _ | refine Le.loop (λ_ => ?_) | refine Le.forL (λ_ _ _ => ?_) | refine Le.thenC (λ_ => ?_) (λ_ => ?_) | refine Le.cond ?_ ?_ | refine Le.bind ?_ (λ_ => ?_))
def gN (s_1:(List Int)) (s_8:Int):Option (Ctl (Int) ((List Int))) :=
 bif (decide (s_8<(s_1.length:Int)))then (inR s_8 s_1).bind λ_=>(s_1[(0+(s_8).toNat)]?).bind λe_15=>(inR (w64 (s_8-1)) s_1).bind λ_=>(s_1[(0+((w64 (s_8-1))).toNat)]?).bind λe_18=>bif (e_15==e_18)then (neL s_1).bind λ_=>(nu s_1 s_8 (s_1.length:Int)).bind λ_=>(tZ (s_1,s_8,1) (λs=>fw s_1 s_8 s)).bind λo_31=>thenC o_31 (λs_28=>(nu s_28.1 s_28.2.1 (s_28.1.length:Int)).bind λ_=>(nu (s_28.1.take ((s_28.2.1).toNat)++List.replicate (((s_28.1.length:Int)).toNat-(s_28.2.1).toNat) 0++s_28.1.drop (((s_28.2.1).toNat)+(((s_28.1.length:Int)).toNat-(s_28.2.1).toNat))) 0 s_28.2.1).bind λ_=>some (.ret (yJ (s_28.1.take ((s_28.2.1).toNat)++List.replicate (((s_28.1.length:Int)).toNat-(s_28.2.1).toNat) 0++s_28.1.drop (((s_28.2.1).toNat)+(((s_28.1.length:Int)).toNat-(s_28.2.1).toNat))) 0 ((s_28.2.1).toNat)))) (λ_=>none)else some (.go (w64 (s_8+1)))else some (.brk s_8)
theorem nZ (s_1:(List Int)) (s_8:Int):Le (gN s_1 s_8) (dI s_1 s_8):=by
 unfold gN dI
 repeat' (with_reducible first | exact Le.refl _ | refine Le.loop (λ_ => ?_) | refine Le.forL (λ_ _ _ => ?_) | refine Le.thenC (λ_ => ?_) (λ_ => ?_) | refine Le.cond ?_ ?_ | refine Le.bind ?_ (λ_ => ?_))
def iA (s_1:(List Int)):Option ((List Int)) :=
 bif (decide ((s_1.length:Int)<2))then some s_1 else (tZ 1 (λs=>gN s_1 s)).bind λo_11=>thenC o_11 (λs_8=>some s_1) (λr=>some r)
theorem qo (s_1:(List Int)):Le (iA s_1) (eH s_1):=by
 unfold iA eH
 repeat' (with_reducible first | exact Le.refl _ | exact nZ _ _ | refine Le.loop (λ_ => ?_) | refine Le.forL (λ_ _ _ => ?_) | refine Le.thenC (λ_ => ?_) (λ_ => ?_) | refine Le.cond ?_ ?_ | refine Le.bind ?_ (λ_ => ?_))
def dz (b_3:Int) (a_2:Int) (s_10:(List Run)×Int):Option (Ctl ((List Run)×Int) (Unit)) :=
 bif (decide (s_10.2<b_3))then (tZ (s_10.1,s_10.2) (λs=>bS a_2 s)).bind λo_24=>thenC o_24 (λs_21=>some (.go (s_21.1,(w64 (s_10.2+1))))) (λ_=>none)else some (.brk (s_10.1,s_10.2))
theorem jb (b_3:Int) (a_2:Int) (s_10:(List Run)×Int):Le (dz b_3 a_2 s_10) (bD b_3 a_2 s_10):=by
 unfold dz bD
 repeat' (with_reducible first | exact Le.refl _ | refine Le.loop (λ_ => ?_) | refine Le.forL (λ_ _ _ => ?_) | refine Le.thenC (λ_ => ?_) (λ_ => ?_) | refine Le.cond ?_ ?_ | refine Le.bind ?_ (λ_ => ?_))
def dD (data_1:(List Run)) (a_2:Int) (b_3:Int):Option ((List Run)) :=
 (tZ (data_1,(w64 (a_2+1))) (λs=>dz b_3 a_2 s)).bind λo_13=>thenC o_13 (λs_10=>some s_10.1) (λ_=>none)
theorem jr (data_1:(List Run)) (a_2:Int) (b_3:Int):Le (dD data_1 a_2 b_3) (bI data_1 a_2 b_3):=by
 unfold dD bI
 repeat' (with_reducible first | exact Le.refl _ | exact jb _ _ _ | refine Le.loop (λ_ => ?_) | refine Le.forL (λ_ _ _ => ?_) | refine Le.thenC (λ_ => ?_) (λ_ => ?_) | refine Le.cond ?_ ?_ | refine Le.bind ?_ (λ_ => ?_))
def dN (b_3:Int) (a_2:Int) (data_1:(List Run)) (limit_4:Int) (s_11:Unit):Option (Ctl (Unit) ((List Run))) :=
 bif (decide ((w64 (b_3-a_2))<=12))then (dD data_1 a_2 b_3).bind λr_17=>(lV r_17 data_1).bind λ_=>some (.ret r_17)else bif (limit_4==0)then none else none
theorem jX (b_3:Int) (a_2:Int) (data_1:(List Run)) (limit_4:Int) (s_11:Unit):Le (dN b_3 a_2 data_1 limit_4 s_11) (bR b_3 a_2 data_1 limit_4 s_11):=by
 unfold dN bR
 repeat' (with_reducible first | exact Le.refl _ | exact jr _ _ _ | refine Le.loop (λ_ => ?_) | refine Le.forL (λ_ _ _ => ?_) | refine Le.thenC (λ_ => ?_) (λ_ => ?_) | refine Le.cond ?_ ?_ | refine Le.bind ?_ (λ_ => ?_))
def eU (data_1:(List Run)) (a_2:Int) (b_3:Int) (limit_4:Int):Option ((List Run)) :=
 (tZ () (λs=>dN b_3 a_2 data_1 limit_4 s)).bind λo_14=>thenC o_14 (λs_11=>some data_1) (λr=>some r)
theorem kQ (data_1:(List Run)) (a_2:Int) (b_3:Int) (limit_4:Int):Le (eU data_1 a_2 b_3 limit_4) (cz data_1 a_2 b_3 limit_4):=by
 unfold eU cz
 repeat' (with_reducible first | exact Le.refl _ | exact jX _ _ _ _ _ | refine Le.loop (λ_ => ?_) | refine Le.forL (λ_ _ _ => ?_) | refine Le.thenC (λ_ => ?_) (λ_ => ?_) | refine Le.cond ?_ ?_ | refine Le.bind ?_ (λ_ => ?_))
def dH (x_1:(List Run)):Option ((List Run)) :=
 (o9 (IntKind.u64.wrap (x_1.length:Int))).bind λr_3=>(eU x_1 0 (x_1.length:Int) r_3).bind λr_5=>(lV r_5 x_1).bind λ_=>some r_5
theorem jM (x_1:(List Run)):Le (dH x_1) (bL x_1):=by
 unfold dH bL
 repeat' (with_reducible first | exact Le.refl _ | exact kQ _ _ _ _ | refine Le.loop (λ_ => ?_) | refine Le.forL (λ_ _ _ => ?_) | refine Le.thenC (λ_ => ?_) (λ_ => ?_) | refine Le.cond ?_ ?_ | refine Le.bind ?_ (λ_ => ?_))
def qN (l_1:(List Rect)) (y_2:Int):Option ((List Run)) :=
 (forL l_1 ([]:List Run) (λk x s=>nR y_2 k x s)).bind λo_14=>thenC o_14 (λs_8=>(dH s_8).bind λr_27=>(lV r_27 s_8).bind λ_=>(forL r_27 ([]:List Run) (λk x s=>nK k x s)).bind λo_41=>thenC o_41 (λs_35=>some s_35) (λ_=>none)) (λ_=>none)
theorem CB (l_1:(List Rect)) (y_2:Int):Le (qN l_1 y_2) (mZ l_1 y_2):=by
 unfold qN mZ
 repeat' (with_reducible first | exact Le.refl _ | exact jM _ | refine Le.loop (λ_ => ?_) | refine Le.forL (λ_ _ _ => ?_) | refine Le.thenC (λ_ => ?_) (λ_ => ?_) | refine Le.cond ?_ ?_ | refine Le.bind ?_ (λ_ => ?_))
def qf (m_2:(List Run)) (k_3:Nat) (x_5:Run) (s_8:(List Run)×Int):Option (Ctl ((List Run)×Int) (Unit)) :=
 (tZ s_8.2 (λs=>nX m_2 x_5 s)).bind λo_25=>thenC o_25 (λs_22=>(tZ (s_8.1,s_22,x_5.f_from) (λs=>nH m_2 x_5 s)).bind λo_43=>thenC o_43 (λs_38=>(bif (decide (s_38.2.2<x_5.f_to))then (mg s_38.1 ([(⟨s_38.2.2,x_5.f_to⟩:Run)]:List Run)).bind λa_68=>some a_68 else some s_38.1).bind λv_64=>some (.go (v_64,s_22))) (λ_=>none)) (λ_=>none)
theorem zl (m_2:(List Run)) (k_3:Nat) (x_5:Run) (s_8:(List Run)×Int):Le (qf m_2 k_3 x_5 s_8) (lg m_2 k_3 x_5 s_8):=by
 unfold qf lg
 repeat' (with_reducible first | exact Le.refl _ | refine Le.loop (λ_ => ?_) | refine Le.forL (λ_ _ _ => ?_) | refine Le.thenC (λ_ => ?_) (λ_ => ?_) | refine Le.cond ?_ ?_ | refine Le.bind ?_ (λ_ => ?_))
def uI (l_1:(List Run)) (m_2:(List Run)):Option ((List Run)) :=
 (forL l_1 (([]:List Run),0) (λk x s=>qf m_2 k x s)).bind λo_14=>thenC o_14 (λs_8=>some s_8.1) (λ_=>none)
theorem Dp (l_1:(List Run)) (m_2:(List Run)):Le (uI l_1 m_2) (pR l_1 m_2):=by
 unfold uI pR
 repeat' (with_reducible first | exact Le.refl _ | exact zl _ _ _ _ | refine Le.loop (λ_ => ?_) | refine Le.forL (λ_ _ _ => ?_) | refine Le.thenC (λ_ => ?_) (λ_ => ?_) | refine Le.cond ?_ ?_ | refine Le.bind ?_ (λ_ => ?_))
def nI (r_25:(List Int)) (l_1:(List Rect)) (m_2:(List Rect)) (k_27:Nat) (x_29:Int) (s_32:(List Rect)×(List Run)×Int):Option (Ctl ((List Rect)×(List Run)×Int) (Unit)) :=
 (bif (decide ((w64 ((k_27:Int)+1))<(r_25.length:Int)))then (qN l_1 x_29).bind λr_45=>(qN m_2 x_29).bind λr_47=>(uI r_45 r_47).bind λr_49=>some r_49 else some ([]:List Run)).bind λv_42=>(dE s_32.2.1 v_42).bind λr_51=>bif r_51 then some (.go (s_32.1,s_32.2.1,s_32.2.2))else (forL s_32.2.1 s_32.1 (λk x s=>lH s_32 x_29 k x s)).bind λo_64=>thenC o_64 (λs_59=>some (.go (s_59,v_42,x_29))) (λ_=>none)
theorem xV (r_25:(List Int)) (l_1:(List Rect)) (m_2:(List Rect)) (k_27:Nat) (x_29:Int) (s_32:(List Rect)×(List Run)×Int):Le (nI r_25 l_1 m_2 k_27 x_29 s_32) (jB r_25 l_1 m_2 k_27 x_29 s_32):=by
 unfold nI jB
 repeat' (with_reducible first | exact Le.refl _ | exact CB _ _ | exact Dp _ _ | refine Le.loop (λ_ => ?_) | refine Le.forL (λ_ _ _ => ?_) | refine Le.thenC (λ_ => ?_) (λ_ => ?_) | refine Le.cond ?_ ?_ | refine Le.bind ?_ (λ_ => ?_))
def rC (l_1:(List Rect)) (m_2:(List Rect)):Option ((List Rect)) :=
 (dQ ([l_1,m_2]:List (List Rect))).bind λr_3=>(forL r_3 ([]:List Int) (λk x s=>lC k x s)).bind λo_16=>thenC o_16 (λs_10=>(Ny s_10).bind λr_22=>(lV r_22 s_10).bind λ_=>(iA r_22).bind λr_25=>(forL r_25 (([]:List Rect),([]:List Run),0) (λk x s=>nI r_25 l_1 m_2 k x s)).bind λo_38=>thenC o_38 (λs_32=>some s_32.1) (λ_=>none)) (λ_=>none)
theorem AR (l_1:(List Rect)) (m_2:(List Rect)):Le (rC l_1 m_2) (lY l_1 m_2):=by
 unfold rC lY
 repeat' (with_reducible first | exact Le.refl _ | exact qo _ | exact xV _ _ _ _ _ _ | exact OP _ | refine Le.loop (λ_ => ?_) | refine Le.forL (λ_ _ _ => ?_) | refine Le.thenC (λ_ => ?_) (λ_ => ?_) | refine Le.cond ?_ ?_ | refine Le.bind ?_ (λ_ => ?_))
def vJ (l_1:(List Rect)):Option (Int×Int) :=
 (kr l_1).bind λr_2=>bif (r_2 != 0)then some (0,r_2)else (rC l_1 ([]:List Rect)).bind λr_5=>(sJ r_5).bind λr_7=>some (r_7,0)
theorem DJ (l_1:(List Rect)):Le (vJ l_1) (pI l_1):=by
 unfold vJ pI
 repeat' (with_reducible first | exact Le.refl _ | exact AR _ _ | refine Le.loop (λ_ => ?_) | refine Le.forL (λ_ _ _ => ?_) | refine Le.thenC (λ_ => ?_) (λ_ => ?_) | refine Le.cond ?_ ?_ | refine Le.bind ?_ (λ_ => ?_))
def lQ (l_1:(List ByteArray)) (k_2:Nat) (x_4:ByteArray) (s_7:Unit):Option (Ctl (Unit) (Int)) :=
 (gy x_4).bind λr_12=>bif (!r_12)then some (.ret 5)else (bif (decide ((k_2:Int)>0))then (idx l_1 (w64 ((k_2:Int)-1))).bind λy_18=>some (sLe x_4 y_18)else some false).bind λv_15=>bif v_15 then some (.ret 7)else some (.go ())
theorem wE (l_1:(List ByteArray)) (k_2:Nat) (x_4:ByteArray) (s_7:Unit):Le (lQ l_1 k_2 x_4 s_7) (iw l_1 k_2 x_4 s_7):=by
 unfold lQ iw
 repeat' (with_reducible first | exact Le.refl _ | exact iX _ | refine Le.loop (λ_ => ?_) | refine Le.forL (λ_ _ _ => ?_) | refine Le.thenC (λ_ => ?_) (λ_ => ?_) | refine Le.cond ?_ ?_ | refine Le.bind ?_ (λ_ => ?_))
def lm (l_1:(List ByteArray)):Option (Int) :=
 (forL l_1 () (λk x s=>lQ l_1 k x s)).bind λo_10=>thenC o_10 (λs_7=>some 0) (λr=>some r)
theorem ru (l_1:(List ByteArray)):Le (lm l_1) (iV l_1):=by
 unfold lm iV
 repeat' (with_reducible first | exact Le.refl _ | exact wE _ _ _ _ | refine Le.loop (λ_ => ?_) | refine Le.forL (λ_ _ _ => ?_) | refine Le.thenC (λ_ => ?_) (λ_ => ?_) | refine Le.cond ?_ ?_ | refine Le.bind ?_ (λ_ => ?_))
def lL (l_1:(List ByteArray)):Option (Int) :=
 bif (decide ((l_1.length:Int)>20))then some 2 else (lm l_1).bind λr_3=>some r_3
theorem wD (l_1:(List ByteArray)):Le (lL l_1) (iH l_1):=by
 unfold lL iH
 repeat' (with_reducible first | exact Le.refl _ | exact ru _ | refine Le.loop (λ_ => ?_) | refine Le.forL (λ_ _ _ => ?_) | refine Le.thenC (λ_ => ?_) (λ_ => ?_) | refine Le.cond ?_ ?_ | refine Le.bind ?_ (λ_ => ?_))
def kJ (e_1:Entry):Option (Int) :=
 ((gy e_1.Key).bind λr_5=>bif (!r_5)then some true else (gy e_1.Item).bind λr_8=>some (!r_8)).bind λv_3=>bif v_3 then some 5 else ((aP e_1.Version 0 1000000).bind λr_13=>bif r_13 then some true else (aP e_1.First 0 e_1.Last).bind λr_16=>bif r_16 then some true else bif (decide (e_1.Last>4000))then some true else (aP e_1.Every 1 400).bind λr_20=>bif r_20 then some true else (aP e_1.Days 1 127).bind λr_23=>some r_23).bind λv_11=>bif v_11 then some 1 else (jg e_1.Except).bind λr_26=>bif (r_26 != 0)then some r_26 else ((aP e_1.From 0 1439).bind λr_31=>bif r_31 then some true else (aP e_1.To 0 1439).bind λr_34=>bif r_34 then some true else (aP e_1.Prio 0 9).bind λr_37=>some r_37).bind λv_29=>bif v_29 then some 1 else (lL e_1.Tags).bind λr_40=>some r_40
theorem vR (e_1:Entry):Le (kJ e_1) (ib e_1):=by
 unfold kJ ib
 repeat' (with_reducible first | exact Le.refl _ | exact iX _ | exact wD _ | refine Le.loop (λ_ => ?_) | refine Le.forL (λ_ _ _ => ?_) | refine Le.thenC (λ_ => ?_) (λ_ => ?_) | refine Le.cond ?_ ?_ | refine Le.bind ?_ (λ_ => ?_))
def iR (l_1:(List Entry)) (k_3:Nat) (x_5:Entry) (s_8:Unit):Option (Ctl (Unit) (Int)) :=
 (kJ x_5).bind λr_14=>bif (r_14 != 0)then some (.ret r_14)else (bif (decide ((k_3:Int)>0))then (idx l_1 (w64 ((k_3:Int)-1))).bind λy_20=>some (sLe x_5.Key y_20.Key)else some false).bind λv_17=>bif v_17 then some (.ret 7)else some (.go ())
theorem qM (l_1:(List Entry)) (k_3:Nat) (x_5:Entry) (s_8:Unit):Le (iR l_1 k_3 x_5 s_8) (fo l_1 k_3 x_5 s_8):=by
 unfold iR fo
 repeat' (with_reducible first | exact Le.refl _ | exact vR _ | refine Le.loop (λ_ => ?_) | refine Le.forL (λ_ _ _ => ?_) | refine Le.thenC (λ_ => ?_) (λ_ => ?_) | refine Le.cond ?_ ?_ | refine Le.bind ?_ (λ_ => ?_))
def jP (l_1:(List Entry)):Option (Int) :=
 bif (decide ((l_1.length:Int)>200))then some 2 else (forL l_1 () (λk x s=>iR l_1 k x s)).bind λo_11=>thenC o_11 (λs_8=>some 0) (λr=>some r)
theorem sM (l_1:(List Entry)):Le (jP l_1) (fU l_1):=by
 unfold jP fU
 repeat' (with_reducible first | exact Le.refl _ | exact qM _ _ _ _ | refine Le.loop (λ_ => ?_) | refine Le.forL (λ_ _ _ => ?_) | refine Le.thenC (λ_ => ?_) (λ_ => ?_) | refine Le.cond ?_ ?_ | refine Le.bind ?_ (λ_ => ?_))
def gW (x_1:(List Int)) (target_2:Int):Option (Int×Bool) :=
 (tZ (0,(x_1.length:Int)) (λs=>eF x_1 target_2 s)).bind λo_11=>thenC o_11 (λs_8=>(bif (decide (s_8.1<(x_1.length:Int)))then (idx x_1 s_8.1).bind λy_24=>bif (y_24==target_2)then some true else (idx x_1 s_8.1).bind λy_27=>(iq y_27).bind λr_29=>bif r_29 then (iq target_2).bind λr_32=>some r_32 else some false else some false).bind λv_21=>some (s_8.1,v_21)) (λ_=>none)
theorem oN (x_1:(List Int)) (target_2:Int):Le (gW x_1 target_2) (dL x_1 target_2):=by
 unfold gW dL
 repeat' (with_reducible first | exact Le.refl _ | refine Le.loop (λ_ => ?_) | refine Le.forL (λ_ _ _ => ?_) | refine Le.thenC (λ_ => ?_) (λ_ => ?_) | refine Le.cond ?_ ?_ | refine Le.bind ?_ (λ_ => ?_))
def qb (e_1:Entry) (d_2:Int):Option (Bool) :=
 ((aP d_2 e_1.First e_1.Last).bind λr_6=>bif r_6 then some true else (GM .i64 (w64 (d_2-e_1.First)) e_1.Every).bind λq_9=>bif (q_9 != 0)then some true else (shlO .i64 1 (d_2.tmod 7)).bind λq_12=>some ((Aj .i64 e_1.Days q_12)==0)).bind λv_4=>bif v_4 then some false else (gW e_1.Except d_2).bind λr_15=>some (!r_15.2)
theorem zO (e_1:Entry) (d_2:Int):Le (qb e_1 d_2) (kM e_1 d_2):=by
 unfold qb kM
 repeat' (with_reducible first | exact Le.refl _ | exact oN _ _ | refine Le.loop (λ_ => ?_) | refine Le.forL (λ_ _ _ => ?_) | refine Le.thenC (λ_ => ?_) (λ_ => ?_) | refine Le.cond ?_ ?_ | refine Le.bind ?_ (λ_ => ?_))
def mH (wv_3:Window) (zone_2:Int) (e_1:Entry) (s_15:(List Window)×Int):Option (Ctl ((List Window)×Int) (Unit)) :=
 bif (decide (s_15.2<=(Gr (w64 ((w64 ((w64 (wv_3.To+(w64 (zone_2*60000)))).tdiv 86400000))+1)) e_1.Last)))then (qb e_1 s_15.2).bind λr_24=>bif (!r_24)then some (.go (s_15.1,(w64 (s_15.2+1))))else (mq e_1 zone_2 s_15.2).bind λr_27=>(bif (decide (r_27.From<wv_3.To))then some (decide (r_27.To>wv_3.From))else some false).bind λv_30=>(bif v_30 then (mg s_15.1 ([r_27]:List Window)).bind λa_37=>some a_37 else some s_15.1).bind λv_33=>some (.go (v_33,(w64 (s_15.2+1))))else some (.brk (s_15.1,s_15.2))
theorem xx (wv_3:Window) (zone_2:Int) (e_1:Entry) (s_15:(List Window)×Int):Le (mH wv_3 zone_2 e_1 s_15) (jd wv_3 zone_2 e_1 s_15):=by
 unfold mH jd
 repeat' (with_reducible first | exact Le.refl _ | exact zO _ _ | refine Le.loop (λ_ => ?_) | refine Le.forL (λ_ _ _ => ?_) | refine Le.thenC (λ_ => ?_) (λ_ => ?_) | refine Le.cond ?_ ?_ | refine Le.bind ?_ (λ_ => ?_))
def qp (e_1:Entry) (zone_2:Int) (wv_3:Window):Option ((List Window)) :=
 (bif e_1.Gone then some true else some (decide (wv_3.From>=wv_3.To))).bind λv_6=>bif v_6 then some ([]:(List Window))else (tZ (([]:List Window),(tT (w64 ((w64 ((w64 (wv_3.From+(w64 (zone_2*60000)))).tdiv 86400000))-2)) e_1.First)) (λs=>mH wv_3 zone_2 e_1 s)).bind λo_21=>thenC o_21 (λs_15=>some s_15.1) (λ_=>none)
theorem zD (e_1:Entry) (zone_2:Int) (wv_3:Window):Le (qp e_1 zone_2 wv_3) (kY e_1 zone_2 wv_3):=by
 unfold qp kY
 repeat' (with_reducible first | exact Le.refl _ | exact xx _ _ _ _ | refine Le.loop (λ_ => ?_) | refine Le.forL (λ_ _ _ => ?_) | refine Le.thenC (λ_ => ?_) (λ_ => ?_) | refine Le.cond ?_ ?_ | refine Le.bind ?_ (λ_ => ?_))
def qa (e_1:Entry) (zone_2:Int) (wv_3:Window):Option ((List Window)×Int) :=
 (jP ([e_1]:List Entry)).bind λr_6=>bif (r_6 != 0)then some (([]:(List Window)),r_6)else (aP zone_2 (-1440) 1440).bind λr_9=>bif r_9 then some (([]:(List Window)),1)else (iW wv_3).bind λr_12=>bif (r_12 != 0)then some (([]:(List Window)),r_12)else (qp e_1 zone_2 wv_3).bind λr_15=>(forL (List.range ((r_15.length:Int)).toNat) r_15 (λk x s=>kC wv_3 k x s)).bind λo_27=>thenC o_27 (λs_24=>some (s_24,0)) (λ_=>none)
theorem zL (e_1:Entry) (zone_2:Int) (wv_3:Window):Le (qa e_1 zone_2 wv_3) (lh e_1 zone_2 wv_3):=by
 unfold qa lh
 repeat' (with_reducible first | exact Le.refl _ | exact sM _ | exact zD _ _ _ | refine Le.loop (λ_ => ?_) | refine Le.forL (λ_ _ _ => ?_) | refine Le.thenC (λ_ => ?_) (λ_ => ?_) | refine Le.cond ?_ ?_ | refine Le.bind ?_ (λ_ => ?_))
def mD (l_1:(List ByteArray)):Option (Int) :=
 bif (decide ((l_1.length:Int)>20))then some 2 else (lm l_1).bind λr_3=>some r_3
theorem xn (l_1:(List ByteArray)):Le (mD l_1) (ja l_1):=by
 unfold mD ja
 repeat' (with_reducible first | exact Le.refl _ | exact ru _ | refine Le.loop (λ_ => ?_) | refine Le.forL (λ_ _ _ => ?_) | refine Le.thenC (λ_ => ?_) (λ_ => ?_) | refine Le.cond ?_ ?_ | refine Le.bind ?_ (λ_ => ?_))
def iL (l_1:(List Campaign)) (k_3:Nat) (x_5:Campaign) (s_8:Unit):Option (Ctl (Unit) (Int)) :=
 ((gy x_5.Key).bind λr_16=>bif (!r_16)then some true else bif (sNe x_5.Class (⟨#[]⟩:ByteArray))then (gy x_5.Class).bind λr_20=>some (!r_20)else some false).bind λv_14=>bif v_14 then some (.ret 5)else (bif (decide ((k_3:Int)>0))then (idx l_1 (w64 ((k_3:Int)-1))).bind λy_26=>some (sLe x_5.Key y_26.Key)else some false).bind λv_23=>bif v_23 then some (.ret 7)else ((nM x_5.Time).bind λr_31=>bif (!r_31)then some true else (aP x_5.Goal 0 1000000).bind λr_34=>bif r_34 then some true else (aP x_5.Most 0 1000000).bind λr_37=>bif r_37 then some true else (aP x_5.Cents 0 1000000000).bind λr_40=>some r_40).bind λv_29=>bif v_29 then some (.ret 1)else (mD x_5.Tags).bind λr_43=>bif (r_43 != 0)then some (.ret r_43)else some (.go ())
theorem qz (l_1:(List Campaign)) (k_3:Nat) (x_5:Campaign) (s_8:Unit):Le (iL l_1 k_3 x_5 s_8) (eG l_1 k_3 x_5 s_8):=by
 unfold iL eG
 repeat' (with_reducible first | exact Le.refl _ | exact iX _ | exact xn _ | refine Le.loop (λ_ => ?_) | refine Le.forL (λ_ _ _ => ?_) | refine Le.thenC (λ_ => ?_) (λ_ => ?_) | refine Le.cond ?_ ?_ | refine Le.bind ?_ (λ_ => ?_))
def jG (l_1:(List Campaign)):Option (Int) :=
 bif (decide ((l_1.length:Int)>30))then some 2 else (forL l_1 () (λk x s=>iL l_1 k x s)).bind λo_11=>thenC o_11 (λs_8=>some 0) (λr=>some r)
theorem rZ (l_1:(List Campaign)):Le (jG l_1) (fJ l_1):=by
 unfold jG fJ
 repeat' (with_reducible first | exact Le.refl _ | exact qz _ _ _ _ | refine Le.loop (λ_ => ?_) | refine Le.forL (λ_ _ _ => ?_) | refine Le.thenC (λ_ => ?_) (λ_ => ?_) | refine Le.cond ?_ ?_ | refine Le.bind ?_ (λ_ => ?_))
def vO (c_1:Campaign) (atv_2:Int):Option (Int×Int) :=
 (jG ([c_1]:List Campaign)).bind λr_4=>bif (r_4 != 0)then some (0,r_4)else (dA atv_2).bind λr_7=>bif (!r_7)then some (0,1)else (su c_1 atv_2).bind λr_10=>some (r_10,0)
theorem Dn (c_1:Campaign) (atv_2:Int):Le (vO c_1 atv_2) (p8 c_1 atv_2):=by
 unfold vO p8
 repeat' (with_reducible first | exact Le.refl _ | exact rZ _ | refine Le.loop (λ_ => ?_) | refine Le.forL (λ_ _ _ => ?_) | refine Le.thenC (λ_ => ?_) (λ_ => ?_) | refine Le.cond ?_ ?_ | refine Le.bind ?_ (λ_ => ?_))
def kT (l_1:(List Beat)) (k_3:Nat) (x_5:Beat) (s_8:Unit):Option (Ctl (Unit) (Int)) :=
 (gy x_5.Player).bind λr_14=>bif (!r_14)then some (.ret 5)else ((dA x_5.At).bind λr_19=>bif (!r_19)then some true else (aP x_5.Clock 0 345686399999).bind λr_22=>some r_22).bind λv_17=>bif v_17 then some (.ret 1)else (bif (decide ((k_3:Int)>0))then (idx l_1 (w64 ((k_3:Int)-1))).bind λy_28=>(jQ y_28 x_5).bind λr_30=>some (decide (r_30>=0))else some false).bind λv_25=>bif v_25 then some (.ret 7)else (bif (decide ((k_3:Int)>0))then (idx l_1 (w64 ((k_3:Int)-1))).bind λy_36=>bif (sEq x_5.Player y_36.Player)then (idx l_1 (w64 ((k_3:Int)-1))).bind λy_39=>some (decide (x_5.Clock<=y_39.Clock))else some false else some false).bind λv_33=>bif v_33 then some (.ret 16)else some (.go ())
theorem uJ (l_1:(List Beat)) (k_3:Nat) (x_5:Beat) (s_8:Unit):Le (kT l_1 k_3 x_5 s_8) (gY l_1 k_3 x_5 s_8):=by
 unfold kT gY
 repeat' (with_reducible first | exact Le.refl _ | exact iX _ | refine Le.loop (λ_ => ?_) | refine Le.forL (λ_ _ _ => ?_) | refine Le.thenC (λ_ => ?_) (λ_ => ?_) | refine Le.cond ?_ ?_ | refine Le.bind ?_ (λ_ => ?_))
def nP (l_1:(List Beat)):Option (Int) :=
 bif (decide ((l_1.length:Int)>500))then some 2 else (forL l_1 () (λk x s=>kT l_1 k x s)).bind λo_11=>thenC o_11 (λs_8=>some 0) (λr=>some r)
theorem xY (l_1:(List Beat)):Le (nP l_1) (jJ l_1):=by
 unfold nP jJ
 repeat' (with_reducible first | exact Le.refl _ | exact uJ _ _ _ _ | refine Le.loop (λ_ => ?_) | refine Le.forL (λ_ _ _ => ?_) | refine Le.thenC (λ_ => ?_) (λ_ => ?_) | refine Le.cond ?_ ?_ | refine Le.bind ?_ (λ_ => ?_))
def sP (l_1:(List Beat_)) (n_2:Int):Option (Int×Int) :=
 bif ((l_1.length:Int)==0)then some (0,8)else (tZ 0 (λs=>mh l_1 n_2 s)).bind λo_12=>thenC o_12 (λs_9=>bif (s_9==0)then (idx l_1 0).bind λy_21=>(idx l_1 0).bind λy_23=>(dA (w64 (y_21.f_to-(w64 (y_23.f_from-n_2))))).bind λr_25=>bif (!r_25)then some (0,11)else some ((w64 (y_21.f_to-(w64 (y_23.f_from-n_2)))),0)else bif (s_9==(l_1.length:Int))then (idx l_1 (w64 (s_9-1))).bind λy_29=>(idx l_1 (w64 (s_9-1))).bind λy_31=>(dA (w64 ((w64 (y_29.f_to+n_2))-y_31.f_from))).bind λr_33=>bif (!r_33)then some (0,11)else some ((w64 ((w64 (y_29.f_to+n_2))-y_31.f_from)),0)else (idx l_1 (w64 (s_9-1))).bind λy_36=>(idx l_1 s_9).bind λy_38=>(bif (decide ((w64 (y_38.f_from-y_36.f_from))>2592000000))then some true else some (decide ((w64 (y_38.f_to-y_36.f_to))>2592000000))).bind λv_42=>bif v_42 then some (0,2)else (Gy .i64 (w64 ((w64 (n_2-y_36.f_from))*(w64 (y_38.f_to-y_36.f_to)))) (w64 (y_38.f_from-y_36.f_from))).bind λq_46=>(dA (w64 (y_36.f_to+q_46))).bind λr_48=>bif (!r_48)then some (0,11)else some ((w64 (y_36.f_to+q_46)),0)) (λ_=>none)
theorem BH (l_1:(List Beat_)) (n_2:Int):Le (sP l_1 n_2) (nA l_1 n_2):=by
 unfold sP nA
 repeat' (with_reducible first | exact Le.refl _ | refine Le.loop (λ_ => ?_) | refine Le.forL (λ_ _ _ => ?_) | refine Le.thenC (λ_ => ?_) (λ_ => ?_) | refine Le.cond ?_ ?_ | refine Le.bind ?_ (λ_ => ?_))
def vK (l_1:(List Beat)) (player_2:ByteArray) (n_3:Int) (back_4:Bool):Option (Int×Int) :=
 (nP l_1).bind λr_5=>bif (r_5 != 0)then some (0,r_5)else (gy player_2).bind λr_8=>bif (!r_8)then some (0,5)else (dA n_3).bind λr_11=>bif (!r_11)then some (0,1)else (oV l_1 player_2 back_4).bind λr_14=>(sP r_14 n_3).bind λr_16=>some (r_16.1,r_16.2)
theorem CF (l_1:(List Beat)) (player_2:ByteArray) (n_3:Int) (back_4:Bool):Le (vK l_1 player_2 n_3 back_4) (pQ l_1 player_2 n_3 back_4):=by
 unfold vK pQ
 repeat' (with_reducible first | exact Le.refl _ | exact iX _ | exact xY _ | exact BH _ _ | refine Le.loop (λ_ => ?_) | refine Le.forL (λ_ _ _ => ?_) | refine Le.thenC (λ_ => ?_) (λ_ => ?_) | refine Le.cond ?_ ?_ | refine Le.bind ?_ (λ_ => ?_))
def uQ (l_1:(List Beat)) (player_2:ByteArray) (clock_3:Int):Option (Int×Int) :=
 (vK l_1 player_2 clock_3 false).bind λr_4=>some (r_4.1,r_4.2)
theorem Dt (l_1:(List Beat)) (player_2:ByteArray) (clock_3:Int):Le (uQ l_1 player_2 clock_3) (pJ l_1 player_2 clock_3):=by
 unfold uQ pJ
 repeat' (with_reducible first | exact Le.refl _ | exact CF _ _ _ _ | refine Le.loop (λ_ => ?_) | refine Le.forL (λ_ _ _ => ?_) | refine Le.thenC (λ_ => ?_) (λ_ => ?_) | refine Le.cond ?_ ?_ | refine Le.bind ?_ (λ_ => ?_))
def lU (a_1:Alert) (k_4:Nat) (x_6:ByteArray) (s_9:Unit):Option (Ctl (Unit) (Int)) :=
 (gy x_6).bind λr_14=>bif (!r_14)then some (.ret 5)else (bif (decide ((k_4:Int)>0))then (idx a_1.Refs (w64 ((k_4:Int)-1))).bind λy_20=>some (sLe x_6 y_20)else some false).bind λv_17=>bif v_17 then some (.ret 7)else bif (sEq x_6 a_1.Id)then some (.ret 14)else some (.go ())
theorem wF (a_1:Alert) (k_4:Nat) (x_6:ByteArray) (s_9:Unit):Le (lU a_1 k_4 x_6 s_9) (iy a_1 k_4 x_6 s_9):=by
 unfold lU iy
 repeat' (with_reducible first | exact Le.refl _ | exact iX _ | refine Le.loop (λ_ => ?_) | refine Le.forL (λ_ _ _ => ?_) | refine Le.thenC (λ_ => ?_) (λ_ => ?_) | refine Le.cond ?_ ?_ | refine Le.bind ?_ (λ_ => ?_))
def oP (a_1:Alert):Option (Int) :=
 bif (decide ((a_1.Refs.length:Int)>20))then some 2 else (forL a_1.Refs () (λk x s=>lU a_1 k x s)).bind λo_12=>thenC o_12 (λs_9=>bif (!((a_1.Kind==1)==((a_1.Refs.length:Int)==0)))then some 3 else some 0) (λr=>some r)
theorem yD (a_1:Alert):Le (oP a_1) (jZ a_1):=by
 unfold oP jZ
 repeat' (with_reducible first | exact Le.refl _ | exact wF _ _ _ _ | refine Le.loop (λ_ => ?_) | refine Le.forL (λ_ _ _ => ?_) | refine Le.thenC (λ_ => ?_) (λ_ => ?_) | refine Le.cond ?_ ?_ | refine Le.bind ?_ (λ_ => ?_))
def uK (s_1:ByteArray):Option (Bool) :=
 (tZ 0 (λs=>nT s_1 s)).bind λo_10=>thenC o_10 (λs_7=>((ji s_1).bind λr_23=>bif r_23 then (lq s_1 (⟨#[32]⟩:ByteArray)).bind λr_26=>bif (sEq r_26 s_1)then (strings_Contains s_1 (⟨#[32,32]⟩:ByteArray)).bind λr_29=>some (!r_29)else some false else some false).bind λv_21=>some v_21) (λr=>some r)
theorem CS (s_1:ByteArray):Le (uK s_1) (pM s_1):=by
 unfold uK pM
 repeat' (with_reducible first | exact Le.refl _ | refine Le.loop (λ_ => ?_) | refine Le.forL (λ_ _ _ => ?_) | refine Le.thenC (λ_ => ?_) (λ_ => ?_) | refine Le.cond ?_ ?_ | refine Le.bind ?_ (λ_ => ?_))
def nY (a_1:Alert):Option (Int) :=
 ((gy a_1.Id).bind λr_5=>bif (!r_5)then some true else (gy a_1.Sender).bind λr_8=>some (!r_8)).bind λv_3=>bif v_3 then some 5 else (aP a_1.Kind 1 3).bind λr_11=>bif r_11 then some 4 else (oP a_1).bind λr_14=>bif (r_14 != 0)then some r_14 else ((dA a_1.At).bind λr_19=>bif (!r_19)then some true else (aP a_1.Until (w64 (a_1.At+1)) (w64 (a_1.At+2592000000))).bind λr_22=>bif r_22 then some true else (aP a_1.Weight 1 9).bind λr_25=>some r_25).bind λv_17=>bif v_17 then some 1 else bif (decide ((a_1.Areas.length:Int)>20))then some 2 else (forL a_1.Areas () (λk x s=>jo k x s)).bind λo_37=>thenC o_37 (λs_34=>bif (!((a_1.Kind==3)==((a_1.Areas.length:Int)==0)))then some 3 else bif (decide ((a_1.Text.size:Int)>500))then some 2 else ((uK a_1.Text).bind λr_47=>bif (!r_47)then some true else bif (sEq a_1.Text (⟨#[]⟩:ByteArray))then some (!(a_1.Kind==3))else some false).bind λv_45=>bif v_45 then some 3 else some 0) (λr=>some r)
theorem xR (a_1:Alert):Le (nY a_1) (jv a_1):=by
 unfold nY jv
 repeat' (with_reducible first | exact Le.refl _ | exact iX _ | exact yD _ | exact CS _ | refine Le.loop (λ_ => ?_) | refine Le.forL (λ_ _ _ => ?_) | refine Le.thenC (λ_ => ?_) (λ_ => ?_) | refine Le.cond ?_ ?_ | refine Le.bind ?_ (λ_ => ?_))
def kg (l_1:(List Alert)) (k_3:Nat) (x_5:Alert) (s_8:Unit):Option (Ctl (Unit) (Int)) :=
 (nY x_5).bind λr_14=>bif (r_14 != 0)then some (.ret r_14)else (bif (decide ((k_3:Int)>0))then (idx l_1 (w64 ((k_3:Int)-1))).bind λy_20=>(oU y_20 x_5).bind λr_22=>some (decide (r_22>=0))else some false).bind λv_17=>bif v_17 then some (.ret 7)else some (.go ())
theorem tV (l_1:(List Alert)) (k_3:Nat) (x_5:Alert) (s_8:Unit):Le (kg l_1 k_3 x_5 s_8) (gH l_1 k_3 x_5 s_8):=by
 unfold kg gH
 repeat' (with_reducible first | exact Le.refl _ | exact xR _ | refine Le.loop (λ_ => ?_) | refine Le.forL (λ_ _ _ => ?_) | refine Le.thenC (λ_ => ?_) (λ_ => ?_) | refine Le.cond ?_ ?_ | refine Le.bind ?_ (λ_ => ?_))
def mJ (l_1:(List Alert)):Option (Int) :=
 bif (decide ((l_1.length:Int)>300))then some 2 else (forL l_1 () (λk x s=>kg l_1 k x s)).bind λo_11=>thenC o_11 (λs_8=>(forL l_1 ([]:List (ByteArray×Bool)) (λk x s=>iY k x s)).bind λo_34=>thenC o_34 (λs_31=>some 0) (λr=>some r)) (λr=>some r)
theorem xm (l_1:(List Alert)):Le (mJ l_1) (iZ l_1):=by
 unfold mJ iZ
 repeat' (with_reducible first | exact Le.refl _ | exact tV _ _ _ _ | refine Le.loop (λ_ => ?_) | refine Le.forL (λ_ _ _ => ?_) | refine Le.thenC (λ_ => ?_) (λ_ => ?_) | refine Le.cond ?_ ?_ | refine Le.bind ?_ (λ_ => ?_))
def kL (l_1:(List Post)) (k_3:Nat) (x_5:Post) (s_8:Unit):Option (Ctl (Unit) (Int)) :=
 (gy x_5.Player).bind λr_14=>bif (!r_14)then some (.ret 5)else ((aP x_5.X (-100000) 100000).bind λr_19=>bif r_19 then some true else (aP x_5.Y (-100000) 100000).bind λr_22=>some r_22).bind λv_17=>bif v_17 then some (.ret 1)else (bif (decide ((k_3:Int)>0))then (idx l_1 (w64 ((k_3:Int)-1))).bind λy_28=>some (sLe x_5.Player y_28.Player)else some false).bind λv_25=>bif v_25 then some (.ret 7)else some (.go ())
theorem uE (l_1:(List Post)) (k_3:Nat) (x_5:Post) (s_8:Unit):Le (kL l_1 k_3 x_5 s_8) (ic l_1 k_3 x_5 s_8):=by
 unfold kL ic
 repeat' (with_reducible first | exact Le.refl _ | exact iX _ | refine Le.loop (λ_ => ?_) | refine Le.forL (λ_ _ _ => ?_) | refine Le.thenC (λ_ => ?_) (λ_ => ?_) | refine Le.cond ?_ ?_ | refine Le.bind ?_ (λ_ => ?_))
def nU (l_1:(List Post)):Option (Int) :=
 bif (decide ((l_1.length:Int)>500))then some 2 else (forL l_1 () (λk x s=>kL l_1 k x s)).bind λo_11=>thenC o_11 (λs_8=>some 0) (λr=>some r)
theorem xS (l_1:(List Post)):Le (nU l_1) (jI l_1):=by
 unfold nU jI
 repeat' (with_reducible first | exact Le.refl _ | exact uE _ _ _ _ | refine Le.loop (λ_ => ?_) | refine Le.forL (λ_ _ _ => ?_) | refine Le.thenC (λ_ => ?_) (λ_ => ?_) | refine Le.cond ?_ ?_ | refine Le.bind ?_ (λ_ => ?_))
def oI (l_1:(List Alert)) (posts_2:(List Post)):Option (Int) :=
 (mJ l_1).bind λr_3=>bif (r_3 != 0)then some r_3 else (nU posts_2).bind λr_6=>some r_6
theorem yM (l_1:(List Alert)) (posts_2:(List Post)):Le (oI l_1 posts_2) (jU l_1 posts_2):=by
 unfold oI jU
 repeat' (with_reducible first | exact Le.refl _ | exact xm _ | exact xS _ | refine Le.loop (λ_ => ?_) | refine Le.forL (λ_ _ _ => ?_) | refine Le.thenC (λ_ => ?_) (λ_ => ?_) | refine Le.cond ?_ ?_ | refine Le.bind ?_ (λ_ => ?_))
def rq (a_1:Alert) (p_2:Post):Option (Bool×Int) :=
 (oI ([a_1]:List Alert) ([p_2]:List Post)).bind λr_5=>bif (r_5 != 0)then some (false,r_5)else (o7 a_1 p_2).bind λr_8=>some (r_8,0)
theorem AV (a_1:Alert) (p_2:Post):Le (rq a_1 p_2) (l7 a_1 p_2):=by
 unfold rq l7
 repeat' (with_reducible first | exact Le.refl _ | exact yM _ _ | refine Le.loop (λ_ => ?_) | refine Le.forL (λ_ _ _ => ?_) | refine Le.thenC (λ_ => ?_) (λ_ => ?_) | refine Le.cond ?_ ?_ | refine Le.bind ?_ (λ_ => ?_))
def wW  : Option (Bool) :=
 (vJ ([(⟨0,0,2,2⟩:Rect),(⟨1,1,2,2⟩:Rect)]:List Rect)).bind λr_1=>(qa (⟨(⟨#[97]⟩:ByteArray),(⟨#[98]⟩:ByteArray),0,0,0,1,127,([]:List Int),1,2,0,([]:List ByteArray),false⟩:Entry) 0 (⟨0,86400000⟩:Window)).bind λr_3=>(vO (⟨(⟨#[97]⟩:ByteArray),(⟨#[]⟩:ByteArray),(⟨0,100⟩:Window),([]:List ByteArray),10,0,0⟩:Campaign) 50).bind λr_5=>(uQ ([(⟨(⟨#[112]⟩:ByteArray),0,100⟩:Beat),(⟨(⟨#[112]⟩:ByteArray),1000,1300⟩:Beat)]:List Beat) (⟨#[112]⟩:ByteArray) 700).bind λr_7=>(rq (⟨(⟨#[97]⟩:ByteArray),(⟨#[115]⟩:ByteArray),1,([]:List ByteArray),0,5,1,([(⟨0,0,2,2⟩:Rect)]:List Rect),(⟨#[120]⟩:ByteArray)⟩:Alert) (⟨(⟨#[112]⟩:ByteArray),1,1⟩:Post)).bind λr_10=>((mY ([r_1.2,r_3.2,r_5.2,r_7.2,r_10.2]:List Int)).bind λr_14=>bif (r_14==0)then bif (r_1.1==7)then bif ((r_3.1.length:Int)==1)then bif (r_5.1==5)then bif (r_7.1==500)then some r_10.1 else some false else some false else some false else some false else some false).bind λv_12=>some v_12
theorem Eb  : Le (wW) (oz):=by
 unfold wW oz
 repeat' (with_reducible first | exact Le.refl _ | exact DJ _ | exact zL _ _ _ | exact Dn _ _ | exact Dt _ _ _ | exact AV _ _ | refine Le.loop (λ_ => ?_) | refine Le.forL (λ_ _ _ => ?_) | refine Le.thenC (λ_ => ?_) (λ_ => ?_) | refine Le.cond ?_ ?_ | refine Le.bind ?_ (λ_ => ?_))
theorem ready_F:wW=some true:=by kernel_rfl
theorem Oi:oz=some true:=Eb _ ready_F
theorem Ko {α σ ρ:Type} {body:Nat->α->σ->Option (Ctl σ ρ)} (I:Nat->σ->Prop) (xs:List α):∀(l:List α) (k:Nat) (s:σ),xs.drop k=l->k<=xs.length->(∀k x s,xs[k]? = some x->I k s->∃s',body k x s=some (.go s')/\I (k+1) s')->I k s->∃s',forR body l k s=some (.go s')/\I xs.length s'
 | [],k,s,hd,hk,h,hi=>by
  have:=List.drop_eq_nil_iff.1 hd
  obtain rfl:k=xs.length:=by omega
  exact⟨s,rfl,hi⟩
 | x::l,k,s,hd,hk,h,hi=>by
  obtain ⟨s1,h1,h2⟩:=h k x s (xg hd) hi
  obtain ⟨s2,h3,h4⟩:=Ko I xs l (k+1) s1 (aR hd) (by have:=BR hd;omega) h h2
  exact⟨s2,by rw [forR,h1,ob_];exact h3,h4⟩
theorem forL_at {α σ ρ:Type} {body:Nat->α->σ->Option (Ctl σ ρ)} (I:Nat->σ->Prop) {xs:List α} {s:σ} (hl:xs.length<=1000000000000) (h:∀k x s,xs[k]? = some x->I k s->∃s',body k x s=some (.go s')/\I (k+1) s') (h0:I 0 s):∃s',forL xs s body=some (.go s')/\I xs.length s':=by
 rw [jm hl]
 exact Ko I xs xs 0 s rfl (Nat.zero_le _) h h0
def pK:ByteArray:=⟨#[112]⟩
def iaK:ByteArray:=⟨#[105,97]⟩
def ibK:ByteArray:=⟨#[105,98]⟩
def RawL (l:List Log_):Prop:=∀(i:Nat) (x:Log_),l[i]? = some x->x.Player=pK/\(x.Item=iaK\/x.Item=ibK)/\x.No=(i:Int)+1/\x.Clock=100*(i:Int)/\x.Long=10/\x.Sum=(⟨#[]⟩:ByteArray)
theorem Nh {l:List Log_} (h:RawL l) (hl:l.length<=6):(∀x∈l,GoodL x)/\(∀x∈l,formF x=0)/\∀x∈l,x.Player=pK:=by
 have key:∀x∈l,GoodL x/\formF x=0/\x.Player=pK:=λx hx=>by
  obtain ⟨i,hi⟩:=List.getElem?_of_mem hx
  have hil:=(List.getElem?_eq_some_iff.1 hi).1
  obtain ⟨h1,h2,h3,h4,h5,h6⟩:=h i x hi
  have s1:og x.Player:=by rw [h1];exact uB rfl
  have s2:og x.Item:=by rcases h2 with e | e <;> rw [e] <;> exact uB rfl
  have k1:keyB x.Player=true:=by rw [h1];kernel_rfl
  have k2:keyB x.Item=true:=by rcases h2 with e | e <;> rw [e] <;> kernel_rfl
  refine⟨⟨s1,s2,by rw [h6];exact uB rfl,?_,?_,?_⟩,?_,h1⟩
  ·unfold Med;omega
  ·unfold Med;omega
  ·unfold Med;omega
  ·unfold formF
   rw [k1,k2,xK (by omega),xK (by omega),xK (by omega)];rfl
 exact⟨λx hx=>(key x hx).1,λx hx=>(key x hx).2.1,λx hx=>(key x hx).2.2⟩
theorem Hr (i:Nat):∀n:Nat,(List.range n).filter (λk=>k==i)=if i<n then [i]else []
 | 0=>rfl
 | n+1=>by
  rw [List.range_succ,List.filter_append,Hr i n]
  by_cases h:i<n
  ·rw [if_pos h,if_pos (by omega),List.filter_cons_of_neg (by simp;omega)];simp
  ·rw [if_neg h]
   by_cases h2:i=n
   ·subst h2
    rw [if_pos (by omega),List.filter_cons_of_pos (by simp)];rfl
   ·rw [if_neg (by omega),List.filter_cons_of_neg (by simp;omega)];rfl
theorem Ic (a:ByteArray):sNe a a=false:=by
 have:sNe a a = !sEq a a:=rfl
 rw [this,(lG _ _).2 rfl];rfl
theorem Nj {a b:ByteArray} (h:a≠b):sNe a b=true:=by
 have:sNe a b = !sEq a b:=rfl
 rw [this]
 cases hq:sEq a b with
 | false=>rfl
 | true=>exact absurd ((lG _ _).1 hq) h
theorem OB:∀l:List Int,(∀x∈l,x=0)->l.length<=1000->mY l=some 0:=λl h hl=>by
 have key:∀(xs:List Int) (k:Nat),(∀x∈xs,x=0)->forR (λk x s=>qG k x s) xs k ()=some (.go ()):=by
  intro xs
  induction xs with
  | nil=>intro k _;rfl
  | cons x xs ih =>
   intro k hx
   have h0:=hx x (by simp)
   subst h0
   rw [forR]
   exact ih (k+1) (λy hy=>hx y (List.mem_cons_of_mem _ hy))
 unfold mY
 rw [jm (by omega),key l 0 h];rfl
theorem equalI1 (i:Int):gJ [i] [i]=some true:=by
 unfold gJ
 rw [show (([i].length:Int) != ([i].length:Int))=false by simp,cond_false,jm (by simp)]
 have h:fG [i] 0 i ()=some (.go ()):=by
  unfold fG
  rw [show idx [i] ((0:Nat):Int)=some i from rfl,ob_,bne_self_eq_false,cond_false]
 simp only [forR,h,ob_,gM]
theorem IE {a:List Log_} (h:SeqL pK 0 a) (hs:∀(k:Nat) (y:Log_),a[k]? = some y->y.Sum=tX (nN a k) y/\y.Long=10) {i:Nat} {x:Log_} (hi:a[i]? = some x) :
  SeqL pK 0 (a.set i ⟨x.Player,x.Item,x.No,x.Clock,11,x.Sum⟩)/\∀(k:Nat) (y:Log_),(a.set i ⟨x.Player,x.Item,x.No,x.Clock,11,x.Sum⟩)[k]? = some y->sNe (tX (nN (a.set i ⟨x.Player,x.Item,x.No,x.Clock,11,x.Sum⟩) k) y) y.Sum=(k==i):=by
 have hx:=List.mem_of_getElem? hi
 have hil:=(List.getElem?_eq_some_iff.1 hi).1
 generalize hz:(⟨x.Player,x.Item,x.No,x.Clock,11,x.Sum⟩:Log_)=z
 have hzp:z.Player=x.Player/\z.Item=x.Item/\z.No=x.No/\z.Clock=x.Clock/\z.Long=11/\z.Sum=x.Sum:=by rw [<- hz];exact⟨rfl,rfl,rfl,rfl,rfl,rfl⟩
 obtain ⟨z1,z2,z3,z4,z5,z6⟩:=hzp
 obtain ⟨g1,g2,g3,g4,g5,g6⟩:=h.good x hx
 have hfz:formF z=0:=by
  obtain ⟨f1,f2,f3,f4,f5⟩:=F5 (h.form x hx)
  unfold formF
  rw [z1,z2,z3,z4,z5,f1,f2,xK (by omega),xK (by omega),xK (by omega)];rfl
 have hget:∀(k:Nat) (y:Log_),(a.set i z)[k]? = some y->(k=i/\y=z)\/(k≠i/\a[k]? = some y):=λk y hy=>by
  by_cases hk:i=k
  ·subst hk
   rw [List.getElem?_set_self hil,so_]at hy
   exact .inl ⟨rfl,hy.symm⟩
  ·rw [List.getElem?_set_ne hk]at hy
   exact .inr ⟨λe=>hk e.symm,hy⟩
 have hmem:∀y∈a.set i z,y=z\/y∈a:=λy hy=>(List.mem_or_eq_of_mem_set hy).symm
 have hah:∀k,k<=a.length->nN (a.set i z) k=nN a k:=λk hk=>by
  unfold nN
  by_cases h0:k=0
  ·rw [if_pos h0,if_pos h0]
  ·rw [if_neg h0,if_neg h0,List.getElem?_set]
   by_cases hki:i=k-1
   ·rw [if_pos hki,if_pos (by omega),<- hki,hi]
    exact z6
   ·rw [if_neg hki]
 refine⟨⟨λy hy => ?_,λy hy => ?_,λy hy => ?_,λy hy => ?_,λk y hy => ?_,by rw [List.length_set];exact h.few⟩,λk y hy => ?_⟩
 ·rcases hmem y hy with rfl|hy
  ·refine⟨by rw [z1];exact g1,by rw [z2];exact g2,by rw [z6];exact g3,by rw [z3];exact g4,by rw [z4];exact g5,?_⟩
   rw [z5];unfold Med;omega
  ·exact h.good y hy
 ·rcases hmem y hy with rfl|hy
  ·exact hfz
  ·exact h.form y hy
 ·rcases hmem y hy with rfl|hy
  ·rw [z6];exact h.mark x hx
  ·exact h.mark y hy
 ·rcases hmem y hy with rfl|hy
  ·rw [z1];exact h.player x hx
  ·exact h.player y hy
 ·rcases hget k y hy with⟨rfl,rfl⟩|⟨_,hy⟩
  ·rw [z3];exact h.no k x hi
  ·exact h.no k y hy
 ·have hkl:k<a.length:=by
   have:=(List.getElem?_eq_some_iff.1 hy).1
   rwa [List.length_set]at this
  rw [hah k (by omega)]
  rcases hget k y hy with⟨rfl,rfl⟩|⟨hk,hy⟩
  ·obtain ⟨s1,s2⟩:=hs k x hi
   rw [beq_self_eq_true,z6,s1]
   exact Nj (λe=>long_ne (nN a k) x y z1.symm z2.symm z3.symm z4.symm s2 z5 e.symm)
  ·rw [<- (hs k y hy).1,Ic,beq_eq_false_iff_ne.2 hk]
theorem LZ {α:Type} (l:List α) (k:Nat) (h:k<=l.length):wQ l 0 (k:Int)=some (l.take k):=by
 unfold wQ
 rw [if_pos (by omega),Int.toNat_natCast];rfl
theorem Lj {α:Type} (l:List α) (k:Nat) (h:k<=l.length):wQ l (k:Int) (l.length:Int)=some (l.drop k):=by
 unfold wQ
 rw [if_pos (by omega),Int.toNat_natCast,Int.toNat_natCast,List.take_length]
theorem chainsHold (l:List Int):mr l=some true:=by
 obtain ⟨n,s1,a1,a2,a3,a4⟩:=Ij ⟨l,0⟩ 1 6 (b:=0) ⟨Int.le_refl _,Int.le_refl _⟩ (by decide) (by decide) (by decide) (by decide)
 obtain ⟨t,t1,t2,t3,t4⟩:=forL_at (body:=λk x s=>iJ k x s) (λk (s:(List Log_)×(List Int)×Int)=>s.1.length=k/\RawL s.1/\Ok ⟨s.2.1,s.2.2⟩ (100+k)) (xs:=List.range n.toNat) (s:=(([]:List Log_),s1.L,s1.f_at)) (by rw [List.length_range];omega) (λk x s hx ⟨i1,i2,i3⟩=>by
  have hk:k<n.toNat:=by simpa using (List.getElem?_eq_some_iff.1 hx).1
  obtain ⟨it,s2,b1,b2,b3⟩:=some_ok ⟨s.2.1,s.2.2⟩ [(⟨#[105,97]⟩:ByteArray),(⟨#[105,98]⟩:ByteArray)] i3 (by omega) (by simp) (by simp)
  unfold iJ
  rw [b1,ob_]
  simp only []
  rw [uH _ _ (by simp only [List.length_cons,List.length_nil];omega),ob_,fQ (n:=(k:Int)+1) (by omega),fQ (n:=100*(k:Int)) (by omega)]
  refine⟨_,rfl,by simp only [List.length_append,List.length_cons,List.length_nil];omega,λj y hy => ?_,b3.mono (by omega)⟩
  simp only []at hy
  rw [List.getElem?_append]at hy
  split at hy
  ·exact i2 j y hy
  ·rename_i hj
   have hj0:j-s.1.length=0:=by
    have:=(List.getElem?_eq_some_iff.1 hy).1
    simp only [List.length_cons,List.length_nil]at this
    omega
   rw [hj0,List.getElem?_cons_zero,so_]at hy
   rw [<- hy]
   have hjk:j=k:=by omega
   subst hjk
   refine⟨rfl,?_,rfl,rfl,rfl,rfl⟩
   simp only [List.mem_cons,List.not_mem_nil,or_false]at b2
   exact b2) ⟨rfl,λi x hi=>by simp at hi,a4.mono (by simp)⟩
 obtain ⟨raw,L,at_⟩:=t
 simp only [List.length_range]at t2 t3 t4
 have hrl:raw.length<=6:=by omega
 have hrp:1<=raw.length:=by omega
 obtain ⟨g1,g2,g3⟩:=Nh t3 hrl
 have hno:∀(k:Nat) (x:Log_),raw[k]? = some x->x.No=(k:Int)+1:=λk x hx=>(t3 k x hx).2.2.1
 have hch:=OH raw (by omega) g1 g2 g3 hno (by
  unfold bJ
  rw [uH [] raw (by simp;omega)];simp) (uB rfl)
 obtain ⟨q1,q2⟩:=chn_seq g1 g2 g3 hno (by omega)
 have hal:(chn (⟨#[]⟩:ByteArray) raw).length=raw.length:=BQ raw _
 generalize chn (⟨#[]⟩:ByteArray) raw=a at hch q1 q2 hal
 have hs:∀(k:Nat) (y:Log_),a[k]? = some y->y.Sum=tX (nN a k) y/\y.Long=10:=λk y hy=>by
  obtain ⟨w1,x,w2,w3,w4,w5,w6,w7⟩:=q2 k y hy
  exact⟨w1,by rw [w7];exact (t3 k x w2).2.2.2.2.1⟩
 have hbr:jS a=some ([],0):=by
  rw [EO q1 (λ_=>false) (λk x hx=>by rw [<- (hs k x hx).1];exact Ic _)]
  simp
 have hmi:=JU q1
 have hck:=q1.check
 obtain ⟨i,s2,b1,b2,b3,b4⟩:=EX ⟨L,at_⟩ (a.length:Int) t4 (by omega) (by omega) (by omega)
 obtain ⟨j,rfl⟩:∃j:Nat,i=(j:Int):=⟨i.toNat,by omega⟩
 have hja:j<a.length:=by omega
 have hj:a[j]? = some a[j]:=List.getElem?_eq_getElem hja
 obtain ⟨p1,p2⟩:=IE q1 hs hj
 have hbb:=EO p1 (λk=>k==j) p2
 rw [List.length_set,Hr,if_pos hja]at hbb
 obtain ⟨cut,s3,c1,c2,c3,c4⟩:=Ij s2 0 (a.length:Int) b4 (by omega) (by omega) (by decide) (by omega)
 obtain ⟨c,rfl⟩:∃c:Nat,cut=(c:Int):=⟨cut.toNat,by omega⟩
 have hca:c<=a.length:=by omega
 have hd:=SeqL.drop c 0 q1
 have ht:=SeqL.take c q1
 have m1:jN (a.take c) (a.drop c)=some (a,0):=Ha q1 (by omega) (λx hx=>List.mem_of_mem_take hx) (λx hx=>List.mem_of_mem_drop hx) (λx hx=>by
  rw [<- List.take_append_drop c a]at hx
  exact List.mem_append.1 hx) (by rw [List.length_take];omega) (by rw [List.length_drop];omega) ht.check hd.check
 have m2:jN (a.drop c) a=some (a,0):=Ha q1 (by omega) (λx hx=>List.mem_of_mem_drop hx) (λx hx=>hx) (λx hx => .inr hx) (by rw [List.length_drop];omega) (by omega) hd.check hck
 have htx:=text_eq q1.good (by omega) hck
 have hrd:=read_eq (λx hx=>⟨q1.good x hx,q1.form x hx,q1.mark x hx⟩) (by omega) hck
 have heq:=Gw a (by omega)
 have hcl:bJ a=some a:=by
  unfold bJ
  rw [uH [] a (by simp;omega)];simp
 have hir:inR (j:Int) a=some ():=NP (by omega) (by omega)
 have hgj:a[0+(j:Int).toNat]? = some a[j]:=by rw [Int.toNat_natCast,Nat.zero_add];exact hj
 have hl11:w64 (a[j].Long+1)=11:=by rw [(hs j _ hj).2];rfl
 unfold mr
 rw [a1,ob_]
 simp only []
 rw [t1,ob_,gM]
 simp only []
 rw [hch,ob_]
 simp only []
 rw [hbr,ob_,hmi,ob_]
 simp only []
 rw [OB _ (by simp) (by simp),ob_,bne_self_eq_false,cond_false,show ((a.length:Int) != (raw.length:Int))=false by rw [hal];simp,cond_false,
  show ((w64 (((([]:List Int).length:Int))+(([]:List Log_).length:Int))) != 0)=false from rfl,cond_false,hck,ob_,bne_self_eq_false,ob_,cond_false,b1,ob_]
 simp only [hcl,hir,hgj,ob_,hl11]
 rw [Int.toNat_natCast,Nat.zero_add,hbb,ob_,c1,ob_]
 simp only []
 have hsd:wQ a (c:Int) (a.length:Int)=some (a.drop c):=Lj a c hca
 rw [LZ a c hca,ob_]
 simp only [hsd,ob_,m1,m2,htx,hrd]
 rw [OB _ (by simp) (by simp),ob_,beq_self_eq_true,cond_true]
 simp only [List.map_cons,List.map_nil,equalI1,ob_,cond_true,heq,Oi]
end Go.Proofs.YtnkgapmhkhcanabGreatDoor.Law

