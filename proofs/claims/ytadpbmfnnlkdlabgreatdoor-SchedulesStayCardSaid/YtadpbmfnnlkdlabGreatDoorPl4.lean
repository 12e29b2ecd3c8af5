/-
  THE PLAIN LAW (part 4).
-/
import Derived.Test.YtadpbmfnnlkdlabGreatDoorPl3
import Derived.Test.YtadpbmfnnlkdlabGreatDoorDefs
import Derived.Lib.ItoaLen
open Go Go.Eng
namespace Go.Proofs.YtadpbmfnnlkdlabGreatDoor.Law
set_option linter.unusedVariables false
set_option linter.unusedSimpArgs false
set_option maxRecDepth 100000
def iZ (s_1:(List Int)) (s_8:Int):Option (Ctl (Int) ((List Int))) :=
 bif (decide (s_8<(s_1.length:Int)))then (inR s_8 s_1).bind λ_=>(s_1[(0+(s_8).toNat)]?).bind λe_15=>(inR (w64 (s_8-1)) s_1).bind λ_=>(s_1[(0+((w64 (s_8-1))).toNat)]?).bind λe_18=>bif (e_15==e_18)then (neL s_1).bind λ_=>(rP s_1 s_8 (s_1.length:Int)).bind λ_=>(rM (s_1,s_8,1) (λs=>cK s_1 s_8 s)).bind λo_31=>thenC o_31 (λs_28=>(rP s_28.1 s_28.2.1 (s_28.1.length:Int)).bind λ_=>(rP (s_28.1.take ((s_28.2.1).toNat)++List.replicate (((s_28.1.length:Int)).toNat-(s_28.2.1).toNat) 0++s_28.1.drop (((s_28.2.1).toNat)+(((s_28.1.length:Int)).toNat-(s_28.2.1).toNat))) 0 s_28.2.1).bind λ_=>some (.ret (cutL (s_28.1.take ((s_28.2.1).toNat)++List.replicate (((s_28.1.length:Int)).toNat-(s_28.2.1).toNat) 0++s_28.1.drop (((s_28.2.1).toNat)+(((s_28.1.length:Int)).toNat-(s_28.2.1).toNat))) 0 ((s_28.2.1).toNat)))) (λ_=>none)else some (.go (w64 (s_8+1)))else some (.brk s_8)
theorem qw (s_1:(List Int)) (s_8:Int):Le (iZ s_1 s_8) (bn s_1 s_8):=by
 unfold iZ bn
 repeat' (with_reducible first | exact Le.refl _ | refine Le.loop (λ_ => ?_) | refine Le.forL (λ_ _ _ => ?_) | refine Le.thenC (λ_ => ?_) (λ_ => ?_) | refine Le.cond ?_ ?_ | refine Le.bind ?_ (λ_ => ?_))
def jL (s_1:(List Int)):Option ((List Int)) :=
 bif (decide ((s_1.length:Int)<2))then some s_1 else (rM 1 (λs=>iZ s_1 s)).bind λo_11=>thenC o_11 (λs_8=>some s_1) (λr=>some r)
theorem sJ (s_1:(List Int)):Le (jL s_1) (cZ s_1):=by
 unfold jL cZ
 repeat' (with_reducible first | exact Le.refl _ | exact qw _ _ | refine Le.loop (λ_ => ?_) | refine Le.forL (λ_ _ _ => ?_) | refine Le.thenC (λ_ => ?_) (λ_ => ?_) | refine Le.cond ?_ ?_ | refine Le.bind ?_ (λ_ => ?_))
def d9 (b_3:Int) (a_2:Int) (s_10:(List Run)×Int):Option (Ctl ((List Run)×Int) (Unit)) :=
 bif (decide (s_10.2<b_3))then (rM (s_10.1,s_10.2) (λs=>dA a_2 s)).bind λo_24=>thenC o_24 (λs_21=>some (.go (s_21.1,(w64 (s_10.2+1))))) (λ_=>none)else some (.brk (s_10.1,s_10.2))
theorem j3 (b_3:Int) (a_2:Int) (s_10:(List Run)×Int):Le (d9 b_3 a_2 s_10) (bT b_3 a_2 s_10):=by
 unfold d9 bT
 repeat' (with_reducible first | exact Le.refl _ | refine Le.loop (λ_ => ?_) | refine Le.forL (λ_ _ _ => ?_) | refine Le.thenC (λ_ => ?_) (λ_ => ?_) | refine Le.cond ?_ ?_ | refine Le.bind ?_ (λ_ => ?_))
def eO (data_1:(List Run)) (a_2:Int) (b_3:Int):Option ((List Run)) :=
 (rM (data_1,(w64 (a_2+1))) (λs=>d9 b_3 a_2 s)).bind λo_13=>thenC o_13 (λs_10=>some s_10.1) (λ_=>none)
theorem kU (data_1:(List Run)) (a_2:Int) (b_3:Int):Le (eO data_1 a_2 b_3) (cB data_1 a_2 b_3):=by
 unfold eO cB
 repeat' (with_reducible first | exact Le.refl _ | exact j3 _ _ _ | refine Le.loop (λ_ => ?_) | refine Le.forL (λ_ _ _ => ?_) | refine Le.thenC (λ_ => ?_) (λ_ => ?_) | refine Le.cond ?_ ?_ | refine Le.bind ?_ (λ_ => ?_))
def fq (b_3:Int) (a_2:Int) (data_1:(List Run)) (limit_4:Int) (s_11:Unit):Option (Ctl (Unit) ((List Run))) :=
 bif (decide ((w64 (b_3-a_2))<=12))then (eO data_1 a_2 b_3).bind λr_17=>(mo r_17 data_1).bind λ_=>some (.ret r_17)else bif (limit_4==0)then none else none
theorem lX (b_3:Int) (a_2:Int) (data_1:(List Run)) (limit_4:Int) (s_11:Unit):Le (fq b_3 a_2 data_1 limit_4 s_11) (dz b_3 a_2 data_1 limit_4 s_11):=by
 unfold fq dz
 repeat' (with_reducible first | exact Le.refl _ | exact kU _ _ _ | refine Le.loop (λ_ => ?_) | refine Le.forL (λ_ _ _ => ?_) | refine Le.thenC (λ_ => ?_) (λ_ => ?_) | refine Le.cond ?_ ?_ | refine Le.bind ?_ (λ_ => ?_))
def fT (data_1:(List Run)) (a_2:Int) (b_3:Int) (limit_4:Int):Option ((List Run)) :=
 (rM () (λs=>fq b_3 a_2 data_1 limit_4 s)).bind λo_14=>thenC o_14 (λs_11=>some data_1) (λr=>some r)
theorem mX (data_1:(List Run)) (a_2:Int) (b_3:Int) (limit_4:Int):Le (fT data_1 a_2 b_3 limit_4) (dF data_1 a_2 b_3 limit_4):=by
 unfold fT dF
 repeat' (with_reducible first | exact Le.refl _ | exact lX _ _ _ _ _ | refine Le.loop (λ_ => ?_) | refine Le.forL (λ_ _ _ => ?_) | refine Le.thenC (λ_ => ?_) (λ_ => ?_) | refine Le.cond ?_ ?_ | refine Le.bind ?_ (λ_ => ?_))
def eQ (x_1:(List Run)):Option ((List Run)) :=
 (rf (IntKind.u64.wrap (x_1.length:Int))).bind λr_3=>(fT x_1 0 (x_1.length:Int) r_3).bind λr_5=>(mo r_5 x_1).bind λ_=>some r_5
theorem ll (x_1:(List Run)):Le (eQ x_1) (dh x_1):=by
 unfold eQ dh
 repeat' (with_reducible first | exact Le.refl _ | exact mX _ _ _ _ | refine Le.loop (λ_ => ?_) | refine Le.forL (λ_ _ _ => ?_) | refine Le.thenC (λ_ => ?_) (λ_ => ?_) | refine Le.cond ?_ ?_ | refine Le.bind ?_ (λ_ => ?_))
def tX (l_1:(List Rect)) (y_2:Int):Option ((List Run)) :=
 (forL l_1 ([]:List Run) (λk x s=>qp y_2 k x s)).bind λo_14=>thenC o_14 (λs_8=>(eQ s_8).bind λr_27=>(mo r_27 s_8).bind λ_=>(forL r_27 ([]:List Run) (λk x s=>qh k x s)).bind λo_41=>thenC o_41 (λs_35=>some s_35) (λ_=>none)) (λ_=>none)
theorem Gf (l_1:(List Rect)) (y_2:Int):Le (tX l_1 y_2) (pE l_1 y_2):=by
 unfold tX pE
 repeat' (with_reducible first | exact Le.refl _ | exact ll _ | refine Le.loop (λ_ => ?_) | refine Le.forL (λ_ _ _ => ?_) | refine Le.thenC (λ_ => ?_) (λ_ => ?_) | refine Le.cond ?_ ?_ | refine Le.bind ?_ (λ_ => ?_))
def sj (m_2:(List Run)) (k_3:Nat) (x_5:Run) (s_8:(List Run)×Int):Option (Ctl ((List Run)×Int) (Unit)) :=
 (rM s_8.2 (λs=>pY m_2 x_5 s)).bind λo_25=>thenC o_25 (λs_22=>(rM (s_8.1,s_22,x_5.f_from) (λs=>pQ m_2 x_5 s)).bind λo_43=>thenC o_43 (λs_38=>(bif (decide (s_38.2.2<x_5.f_to))then (lm s_38.1 ([(⟨s_38.2.2,x_5.f_to⟩:Run)]:List Run)).bind λa_68=>some a_68 else some s_38.1).bind λv_64=>some (.go (v_64,s_22))) (λ_=>none)) (λ_=>none)
theorem Ch (m_2:(List Run)) (k_3:Nat) (x_5:Run) (s_8:(List Run)×Int):Le (sj m_2 k_3 x_5 s_8) (nD m_2 k_3 x_5 s_8):=by
 unfold sj nD
 repeat' (with_reducible first | exact Le.refl _ | refine Le.loop (λ_ => ?_) | refine Le.forL (λ_ _ _ => ?_) | refine Le.thenC (λ_ => ?_) (λ_ => ?_) | refine Le.cond ?_ ?_ | refine Le.bind ?_ (λ_ => ?_))
def xS (l_1:(List Run)) (m_2:(List Run)):Option ((List Run)) :=
 (forL l_1 (([]:List Run),0) (λk x s=>sj m_2 k x s)).bind λo_14=>thenC o_14 (λs_8=>some s_8.1) (λ_=>none)
theorem FR (l_1:(List Run)) (m_2:(List Run)):Le (xS l_1 m_2) (rG l_1 m_2):=by
 unfold xS rG
 repeat' (with_reducible first | exact Le.refl _ | exact Ch _ _ _ _ | refine Le.loop (λ_ => ?_) | refine Le.forL (λ_ _ _ => ?_) | refine Le.thenC (λ_ => ?_) (λ_ => ?_) | refine Le.cond ?_ ?_ | refine Le.bind ?_ (λ_ => ?_))
def qj (r_25:(List Int)) (l_1:(List Rect)) (m_2:(List Rect)) (k_27:Nat) (x_29:Int) (s_32:(List Rect)×(List Run)×Int):Option (Ctl ((List Rect)×(List Run)×Int) (Unit)) :=
 (bif (decide ((w64 ((k_27:Int)+1))<(r_25.length:Int)))then (tX l_1 x_29).bind λr_45=>(tX m_2 x_29).bind λr_47=>(xS r_45 r_47).bind λr_49=>some r_49 else some ([]:List Run)).bind λv_42=>(eH s_32.2.1 v_42).bind λr_51=>bif r_51 then some (.go (s_32.1,s_32.2.1,s_32.2.2))else (forL s_32.2.1 s_32.1 (λk x s=>nM s_32 x_29 k x s)).bind λo_64=>thenC o_64 (λs_59=>some (.go (s_59,v_42,x_29))) (λ_=>none)
theorem Am (r_25:(List Int)) (l_1:(List Rect)) (m_2:(List Rect)) (k_27:Nat) (x_29:Int) (s_32:(List Rect)×(List Run)×Int):Le (qj r_25 l_1 m_2 k_27 x_29 s_32) (kW r_25 l_1 m_2 k_27 x_29 s_32):=by
 unfold qj kW
 repeat' (with_reducible first | exact Le.refl _ | exact Gf _ _ | exact FR _ _ | refine Le.loop (λ_ => ?_) | refine Le.forL (λ_ _ _ => ?_) | refine Le.thenC (λ_ => ?_) (λ_ => ?_) | refine Le.cond ?_ ?_ | refine Le.bind ?_ (λ_ => ?_))
def uT (l_1:(List Rect)) (m_2:(List Rect)):Option ((List Rect)) :=
 (fw ([l_1,m_2]:List (List Rect))).bind λr_3=>(forL r_3 ([]:List Int) (λk x s=>nJ k x s)).bind λo_16=>thenC o_16 (λs_10=>(zC s_10).bind λr_22=>(mo r_22 s_10).bind λ_=>(jL r_22).bind λr_25=>(forL r_25 (([]:List Rect),([]:List Run),0) (λk x s=>qj r_25 l_1 m_2 k x s)).bind λo_38=>thenC o_38 (λs_32=>some s_32.1) (λ_=>none)) (λ_=>none)
theorem C8 (l_1:(List Rect)) (m_2:(List Rect)):Le (uT l_1 m_2) (oG l_1 m_2):=by
 unfold uT oG
 repeat' (with_reducible first | exact Le.refl _ | exact sJ _ | exact Am _ _ _ _ _ _ | exact PI _ | refine Le.loop (λ_ => ?_) | refine Le.forL (λ_ _ _ => ?_) | refine Le.thenC (λ_ => ?_) (λ_ => ?_) | refine Le.cond ?_ ?_ | refine Le.bind ?_ (λ_ => ?_))
def xH (l_1:(List Rect)):Option (Int×Int) :=
 (mD l_1).bind λr_2=>bif (r_2 != 0)then some (0,r_2)else (uT l_1 ([]:List Rect)).bind λr_5=>(vz r_5).bind λr_7=>some (r_7,0)
theorem FI (l_1:(List Rect)):Le (xH l_1) (r9 l_1):=by
 unfold xH r9
 repeat' (with_reducible first | exact Le.refl _ | exact C8 _ _ | refine Le.loop (λ_ => ?_) | refine Le.forL (λ_ _ _ => ?_) | refine Le.thenC (λ_ => ?_) (λ_ => ?_) | refine Le.cond ?_ ?_ | refine Le.bind ?_ (λ_ => ?_))
def iQ (s_1:ByteArray):Option (Bool) :=
 (rM 0 (λs=>j6 s_1 s)).bind λo_10=>thenC o_10 (λs_7=>(bif (sNe s_1 (⟨#[]⟩:ByteArray))then some (decide ((s_1.size:Int)<=40))else some false).bind λv_30=>some v_30) (λr=>some r)
theorem kv (s_1:ByteArray):Le (iQ s_1) (fG s_1):=by
 unfold iQ fG
 repeat' (with_reducible first | exact Le.refl _ | refine Le.loop (λ_ => ?_) | refine Le.forL (λ_ _ _ => ?_) | refine Le.thenC (λ_ => ?_) (λ_ => ?_) | refine Le.cond ?_ ?_ | refine Le.bind ?_ (λ_ => ?_))
def nY (l_1:(List ByteArray)) (k_2:Nat) (x_4:ByteArray) (s_7:Unit):Option (Ctl (Unit) (Int)) :=
 (iQ x_4).bind λr_12=>bif (!r_12)then some (.ret 5)else (bif (decide ((k_2:Int)>0))then (idx l_1 (w64 ((k_2:Int)-1))).bind λy_18=>some (sLe x_4 y_18)else some false).bind λv_15=>bif v_15 then some (.ret 7)else some (.go ())
theorem yO (l_1:(List ByteArray)) (k_2:Nat) (x_4:ByteArray) (s_7:Unit):Le (nY l_1 k_2 x_4 s_7) (iP l_1 k_2 x_4 s_7):=by
 unfold nY iP
 repeat' (with_reducible first | exact Le.refl _ | exact kv _ | refine Le.loop (λ_ => ?_) | refine Le.forL (λ_ _ _ => ?_) | refine Le.thenC (λ_ => ?_) (λ_ => ?_) | refine Le.cond ?_ ?_ | refine Le.bind ?_ (λ_ => ?_))
def nP (l_1:(List ByteArray)):Option (Int) :=
 (forL l_1 () (λk x s=>nY l_1 k x s)).bind λo_10=>thenC o_10 (λs_7=>some 0) (λr=>some r)
theorem uE (l_1:(List ByteArray)):Le (nP l_1) (jq l_1):=by
 unfold nP jq
 repeat' (with_reducible first | exact Le.refl _ | exact yO _ _ _ _ | refine Le.loop (λ_ => ?_) | refine Le.forL (λ_ _ _ => ?_) | refine Le.thenC (λ_ => ?_) (λ_ => ?_) | refine Le.cond ?_ ?_ | refine Le.bind ?_ (λ_ => ?_))
def oq (l_1:(List ByteArray)):Option (Int) :=
 bif (decide ((l_1.length:Int)>20))then some 2 else (nP l_1).bind λr_3=>some r_3
theorem yJ (l_1:(List ByteArray)):Le (oq l_1) (fF l_1):=by
 unfold oq fF
 repeat' (with_reducible first | exact Le.refl _ | exact uE _ | refine Le.loop (λ_ => ?_) | refine Le.forL (λ_ _ _ => ?_) | refine Le.thenC (λ_ => ?_) (λ_ => ?_) | refine Le.cond ?_ ?_ | refine Le.bind ?_ (λ_ => ?_))
def nu (e_1:Entry):Option (Int) :=
 ((iQ e_1.Key).bind λr_5=>bif (!r_5)then some true else (iQ e_1.Item).bind λr_8=>some (!r_8)).bind λv_3=>bif v_3 then some 5 else ((aR e_1.Version 0 1000000).bind λr_13=>bif r_13 then some true else (aR e_1.First 0 e_1.Last).bind λr_16=>bif r_16 then some true else bif (decide (e_1.Last>4000))then some true else (aR e_1.Every 1 400).bind λr_20=>bif r_20 then some true else (aR e_1.Days 1 127).bind λr_23=>some r_23).bind λv_11=>bif v_11 then some 1 else (gP e_1.Except).bind λr_26=>bif (r_26 != 0)then some r_26 else ((aR e_1.From 0 1439).bind λr_31=>bif r_31 then some true else (aR e_1.To 0 1439).bind λr_34=>bif r_34 then some true else (aR e_1.Prio 0 9).bind λr_37=>some r_37).bind λv_29=>bif v_29 then some 1 else (oq e_1.Tags).bind λr_40=>some r_40
theorem yn (e_1:Entry):Le (nu e_1) (fQ e_1):=by
 unfold nu fQ
 repeat' (with_reducible first | exact Le.refl _ | exact kv _ | exact yJ _ | refine Le.loop (λ_ => ?_) | refine Le.forL (λ_ _ _ => ?_) | refine Le.thenC (λ_ => ?_) (λ_ => ?_) | refine Le.cond ?_ ?_ | refine Le.bind ?_ (λ_ => ?_))
def jR (l_1:(List Entry)) (k_3:Nat) (x_5:Entry) (s_8:Unit):Option (Ctl (Unit) (Int)) :=
 (nu x_5).bind λr_14=>bif (r_14 != 0)then some (.ret r_14)else (bif (decide ((k_3:Int)>0))then (idx l_1 (w64 ((k_3:Int)-1))).bind λy_20=>some (sLe x_5.Key y_20.Key)else some false).bind λv_17=>bif v_17 then some (.ret 7)else some (.go ())
theorem tN (l_1:(List Entry)) (k_3:Nat) (x_5:Entry) (s_8:Unit):Le (jR l_1 k_3 x_5 s_8) (eY l_1 k_3 x_5 s_8):=by
 unfold jR eY
 repeat' (with_reducible first | exact Le.refl _ | exact yn _ | refine Le.loop (λ_ => ?_) | refine Le.forL (λ_ _ _ => ?_) | refine Le.thenC (λ_ => ?_) (λ_ => ?_) | refine Le.cond ?_ ?_ | refine Le.bind ?_ (λ_ => ?_))
def lJ (l_1:(List Entry)):Option (Int) :=
 bif (decide ((l_1.length:Int)>200))then some 2 else (forL l_1 () (λk x s=>jR l_1 k x s)).bind λo_11=>thenC o_11 (λs_8=>some 0) (λr=>some r)
theorem wo (l_1:(List Entry)):Le (lJ l_1) (di l_1):=by
 unfold lJ di
 repeat' (with_reducible first | exact Le.refl _ | exact tN _ _ _ _ | refine Le.loop (λ_ => ?_) | refine Le.forL (λ_ _ _ => ?_) | refine Le.thenC (λ_ => ?_) (λ_ => ?_) | refine Le.cond ?_ ?_ | refine Le.bind ?_ (λ_ => ?_))
def jo (x_1:(List Int)) (target_2:Int):Option (Int×Bool) :=
 (rM (0,(x_1.length:Int)) (λs=>bB x_1 target_2 s)).bind λo_11=>thenC o_11 (λs_8=>(bif (decide (s_8.1<(x_1.length:Int)))then (idx x_1 s_8.1).bind λy_24=>bif (y_24==target_2)then some true else (idx x_1 s_8.1).bind λy_27=>(gU y_27).bind λr_29=>bif r_29 then (gU target_2).bind λr_32=>some r_32 else some false else some false).bind λv_21=>some (s_8.1,v_21)) (λ_=>none)
theorem qX (x_1:(List Int)) (target_2:Int):Le (jo x_1 target_2) (dC x_1 target_2):=by
 unfold jo dC
 repeat' (with_reducible first | exact Le.refl _ | refine Le.loop (λ_ => ?_) | refine Le.forL (λ_ _ _ => ?_) | refine Le.thenC (λ_ => ?_) (λ_ => ?_) | refine Le.cond ?_ ?_ | refine Le.bind ?_ (λ_ => ?_))
def sw (e_1:Entry) (d_2:Int):Option (Bool) :=
 ((aR d_2 e_1.First e_1.Last).bind λr_6=>bif r_6 then some true else (Ke .i64 (w64 (d_2-e_1.First)) e_1.Every).bind λq_9=>bif (q_9 != 0)then some true else (BR .i64 1 (d_2.tmod 7)).bind λq_12=>some ((rH .i64 e_1.Days q_12)==0)).bind λv_4=>bif v_4 then some false else (jo e_1.Except d_2).bind λr_15=>some (!r_15.2)
theorem Cy (e_1:Entry) (d_2:Int):Le (sw e_1 d_2) (jJ e_1 d_2):=by
 unfold sw jJ
 repeat' (with_reducible first | exact Le.refl _ | exact qX _ _ | refine Le.loop (λ_ => ?_) | refine Le.forL (λ_ _ _ => ?_) | refine Le.thenC (λ_ => ?_) (λ_ => ?_) | refine Le.cond ?_ ?_ | refine Le.bind ?_ (λ_ => ?_))
def o6 (wv_3:Window) (zone_2:Int) (e_1:Entry) (s_15:(List Window)×Int):Option (Ctl ((List Window)×Int) (Unit)) :=
 bif (decide (s_15.2<=(u7 (w64 ((w64 ((w64 (wv_3.To+(w64 (zone_2*60000)))).tdiv 86400000))+1)) e_1.Last)))then (sw e_1 s_15.2).bind λr_24=>bif (!r_24)then some (.go (s_15.1,(w64 (s_15.2+1))))else (jU e_1 zone_2 s_15.2).bind λr_27=>(bif (decide (r_27.From<wv_3.To))then some (decide (r_27.To>wv_3.From))else some false).bind λv_30=>(bif v_30 then (lm s_15.1 ([r_27]:List Window)).bind λa_37=>some a_37 else some s_15.1).bind λv_33=>some (.go (v_33,(w64 (s_15.2+1))))else some (.brk (s_15.1,s_15.2))
theorem zM (wv_3:Window) (zone_2:Int) (e_1:Entry) (s_15:(List Window)×Int):Le (o6 wv_3 zone_2 e_1 s_15) (eB wv_3 zone_2 e_1 s_15):=by
 unfold o6 eB
 repeat' (with_reducible first | exact Le.refl _ | exact Cy _ _ | refine Le.loop (λ_ => ?_) | refine Le.forL (λ_ _ _ => ?_) | refine Le.thenC (λ_ => ?_) (λ_ => ?_) | refine Le.cond ?_ ?_ | refine Le.bind ?_ (λ_ => ?_))
def sI (e_1:Entry) (zone_2:Int) (wv_3:Window):Option ((List Window)) :=
 (bif e_1.Gone then some true else some (decide (wv_3.From>=wv_3.To))).bind λv_6=>bif v_6 then some ([]:(List Window))else (rM (([]:List Window),(ol (w64 ((w64 ((w64 (wv_3.From+(w64 (zone_2*60000)))).tdiv 86400000))-2)) e_1.First)) (λs=>o6 wv_3 zone_2 e_1 s)).bind λo_21=>thenC o_21 (λs_15=>some s_15.1) (λ_=>none)
theorem Cg (e_1:Entry) (zone_2:Int) (wv_3:Window):Le (sI e_1 zone_2 wv_3) (gG e_1 zone_2 wv_3):=by
 unfold sI gG
 repeat' (with_reducible first | exact Le.refl _ | exact zM _ _ _ _ | refine Le.loop (λ_ => ?_) | refine Le.forL (λ_ _ _ => ?_) | refine Le.thenC (λ_ => ?_) (λ_ => ?_) | refine Le.cond ?_ ?_ | refine Le.bind ?_ (λ_ => ?_))
def sQ (e_1:Entry) (zone_2:Int) (wv_3:Window):Option ((List Window)×Int) :=
 (lJ ([e_1]:List Entry)).bind λr_6=>bif (r_6 != 0)then some (([]:(List Window)),r_6)else (aR zone_2 (-1440) 1440).bind λr_9=>bif r_9 then some (([]:(List Window)),1)else (fD wv_3).bind λr_12=>bif (r_12 != 0)then some (([]:(List Window)),r_12)else (sI e_1 zone_2 wv_3).bind λr_15=>(forL (List.range ((r_15.length:Int)).toNat) r_15 (λk x s=>mH wv_3 k x s)).bind λo_27=>thenC o_27 (λs_24=>some (s_24,0)) (λ_=>none)
theorem Ca (e_1:Entry) (zone_2:Int) (wv_3:Window):Le (sQ e_1 zone_2 wv_3) (mV e_1 zone_2 wv_3):=by
 unfold sQ mV
 repeat' (with_reducible first | exact Le.refl _ | exact wo _ | exact Cg _ _ _ | refine Le.loop (λ_ => ?_) | refine Le.forL (λ_ _ _ => ?_) | refine Le.thenC (λ_ => ?_) (λ_ => ?_) | refine Le.cond ?_ ?_ | refine Le.bind ?_ (λ_ => ?_))
def oU (l_1:(List ByteArray)):Option (Int) :=
 bif (decide ((l_1.length:Int)>20))then some 2 else (nP l_1).bind λr_3=>some r_3
theorem zg (l_1:(List ByteArray)):Le (oU l_1) (j4 l_1):=by
 unfold oU j4
 repeat' (with_reducible first | exact Le.refl _ | exact uE _ | refine Le.loop (λ_ => ?_) | refine Le.forL (λ_ _ _ => ?_) | refine Le.thenC (λ_ => ?_) (λ_ => ?_) | refine Le.cond ?_ ?_ | refine Le.bind ?_ (λ_ => ?_))
def jG (l_1:(List Campaign)) (k_3:Nat) (x_5:Campaign) (s_8:Unit):Option (Ctl (Unit) (Int)) :=
 ((iQ x_5.Key).bind λr_16=>bif (!r_16)then some true else bif (sNe x_5.Class (⟨#[]⟩:ByteArray))then (iQ x_5.Class).bind λr_20=>some (!r_20)else some false).bind λv_14=>bif v_14 then some (.ret 5)else (bif (decide ((k_3:Int)>0))then (idx l_1 (w64 ((k_3:Int)-1))).bind λy_26=>some (sLe x_5.Key y_26.Key)else some false).bind λv_23=>bif v_23 then some (.ret 7)else ((pV x_5.Time).bind λr_31=>bif (!r_31)then some true else (aR x_5.Goal 0 1000000).bind λr_34=>bif r_34 then some true else (aR x_5.Most 0 1000000).bind λr_37=>bif r_37 then some true else (aR x_5.Cents 0 1000000000).bind λr_40=>some r_40).bind λv_29=>bif v_29 then some (.ret 1)else (oU x_5.Tags).bind λr_43=>bif (r_43 != 0)then some (.ret r_43)else some (.go ())
theorem sS (l_1:(List Campaign)) (k_3:Nat) (x_5:Campaign) (s_8:Unit):Le (jG l_1 k_3 x_5 s_8) (fP l_1 k_3 x_5 s_8):=by
 unfold jG fP
 repeat' (with_reducible first | exact Le.refl _ | exact kv _ | exact zg _ | refine Le.loop (λ_ => ?_) | refine Le.forL (λ_ _ _ => ?_) | refine Le.thenC (λ_ => ?_) (λ_ => ?_) | refine Le.cond ?_ ?_ | refine Le.bind ?_ (λ_ => ?_))
def kY (l_1:(List Campaign)):Option (Int) :=
 bif (decide ((l_1.length:Int)>30))then some 2 else (forL l_1 () (λk x s=>jG l_1 k x s)).bind λo_11=>thenC o_11 (λs_8=>some 0) (λr=>some r)
theorem vk (l_1:(List Campaign)):Le (kY l_1) (ib l_1):=by
 unfold kY ib
 repeat' (with_reducible first | exact Le.refl _ | exact sS _ _ _ _ | refine Le.loop (λ_ => ?_) | refine Le.forL (λ_ _ _ => ?_) | refine Le.thenC (λ_ => ?_) (λ_ => ?_) | refine Le.cond ?_ ?_ | refine Le.bind ?_ (λ_ => ?_))
def x9 (c_1:Campaign) (atv_2:Int):Option (Int×Int) :=
 (kY ([c_1]:List Campaign)).bind λr_4=>bif (r_4 != 0)then some (0,r_4)else (dE atv_2).bind λr_7=>bif (!r_7)then some (0,1)else (vJ c_1 atv_2).bind λr_10=>some (r_10,0)
theorem FT (c_1:Campaign) (atv_2:Int):Le (x9 c_1 atv_2) (rA c_1 atv_2):=by
 unfold x9 rA
 repeat' (with_reducible first | exact Le.refl _ | exact vk _ | refine Le.loop (λ_ => ?_) | refine Le.forL (λ_ _ _ => ?_) | refine Le.thenC (λ_ => ?_) (λ_ => ?_) | refine Le.cond ?_ ?_ | refine Le.bind ?_ (λ_ => ?_))
def mO (l_1:(List Beat)) (k_3:Nat) (x_5:Beat) (s_8:Unit):Option (Ctl (Unit) (Int)) :=
 (iQ x_5.Player).bind λr_14=>bif (!r_14)then some (.ret 5)else ((dE x_5.At).bind λr_19=>bif (!r_19)then some true else (aR x_5.Clock 0 345686399999).bind λr_22=>some r_22).bind λv_17=>bif v_17 then some (.ret 1)else (bif (decide ((k_3:Int)>0))then (idx l_1 (w64 ((k_3:Int)-1))).bind λy_28=>(lC y_28 x_5).bind λr_30=>some (decide (r_30>=0))else some false).bind λv_25=>bif v_25 then some (.ret 7)else (bif (decide ((k_3:Int)>0))then (idx l_1 (w64 ((k_3:Int)-1))).bind λy_36=>bif (sEq x_5.Player y_36.Player)then (idx l_1 (w64 ((k_3:Int)-1))).bind λy_39=>some (decide (x_5.Clock<=y_39.Clock))else some false else some false).bind λv_33=>bif v_33 then some (.ret 16)else some (.go ())
theorem yh (l_1:(List Beat)) (k_3:Nat) (x_5:Beat) (s_8:Unit):Le (mO l_1 k_3 x_5 s_8) (jw l_1 k_3 x_5 s_8):=by
 unfold mO jw
 repeat' (with_reducible first | exact Le.refl _ | exact kv _ | refine Le.loop (λ_ => ?_) | refine Le.forL (λ_ _ _ => ?_) | refine Le.thenC (λ_ => ?_) (λ_ => ?_) | refine Le.cond ?_ ?_ | refine Le.bind ?_ (λ_ => ?_))
def pW (l_1:(List Beat)):Option (Int) :=
 bif (decide ((l_1.length:Int)>500))then some 2 else (forL l_1 () (λk x s=>mO l_1 k x s)).bind λo_11=>thenC o_11 (λs_8=>some 0) (λr=>some r)
theorem Ao (l_1:(List Beat)):Le (pW l_1) (kX l_1):=by
 unfold pW kX
 repeat' (with_reducible first | exact Le.refl _ | exact yh _ _ _ _ | refine Le.loop (λ_ => ?_) | refine Le.forL (λ_ _ _ => ?_) | refine Le.thenC (λ_ => ?_) (λ_ => ?_) | refine Le.cond ?_ ?_ | refine Le.bind ?_ (λ_ => ?_))
def vR (l_1:(List Beat_)) (n_2:Int):Option (Int×Int) :=
 bif ((l_1.length:Int)==0)then some (0,8)else (rM 0 (λs=>oM l_1 n_2 s)).bind λo_12=>thenC o_12 (λs_9=>bif (s_9==0)then (idx l_1 0).bind λy_21=>(idx l_1 0).bind λy_23=>(dE (w64 (y_21.f_to-(w64 (y_23.f_from-n_2))))).bind λr_25=>bif (!r_25)then some (0,11)else some ((w64 (y_21.f_to-(w64 (y_23.f_from-n_2)))),0)else bif (s_9==(l_1.length:Int))then (idx l_1 (w64 (s_9-1))).bind λy_29=>(idx l_1 (w64 (s_9-1))).bind λy_31=>(dE (w64 ((w64 (y_29.f_to+n_2))-y_31.f_from))).bind λr_33=>bif (!r_33)then some (0,11)else some ((w64 ((w64 (y_29.f_to+n_2))-y_31.f_from)),0)else (idx l_1 (w64 (s_9-1))).bind λy_36=>(idx l_1 s_9).bind λy_38=>(bif (decide ((w64 (y_38.f_from-y_36.f_from))>2592000000))then some true else some (decide ((w64 (y_38.f_to-y_36.f_to))>2592000000))).bind λv_42=>bif v_42 then some (0,2)else (L9 .i64 (w64 ((w64 (n_2-y_36.f_from))*(w64 (y_38.f_to-y_36.f_to)))) (w64 (y_38.f_from-y_36.f_from))).bind λq_46=>(dE (w64 (y_36.f_to+q_46))).bind λr_48=>bif (!r_48)then some (0,11)else some ((w64 (y_36.f_to+q_46)),0)) (λ_=>none)
theorem Ey (l_1:(List Beat_)) (n_2:Int):Le (vR l_1 n_2) (pO l_1 n_2):=by
 unfold vR pO
 repeat' (with_reducible first | exact Le.refl _ | refine Le.loop (λ_ => ?_) | refine Le.forL (λ_ _ _ => ?_) | refine Le.thenC (λ_ => ?_) (λ_ => ?_) | refine Le.cond ?_ ?_ | refine Le.bind ?_ (λ_ => ?_))
def yC (l_1:(List Beat)) (player_2:ByteArray) (n_3:Int) (back_4:Bool):Option (Int×Int) :=
 (pW l_1).bind λr_5=>bif (r_5 != 0)then some (0,r_5)else (iQ player_2).bind λr_8=>bif (!r_8)then some (0,5)else (dE n_3).bind λr_11=>bif (!r_11)then some (0,1)else (q9 l_1 player_2 back_4).bind λr_14=>(vR r_14 n_3).bind λr_16=>some (r_16.1,r_16.2)
theorem GU (l_1:(List Beat)) (player_2:ByteArray) (n_3:Int) (back_4:Bool):Le (yC l_1 player_2 n_3 back_4) (rX l_1 player_2 n_3 back_4):=by
 unfold yC rX
 repeat' (with_reducible first | exact Le.refl _ | exact kv _ | exact Ao _ | exact Ey _ _ | refine Le.loop (λ_ => ?_) | refine Le.forL (λ_ _ _ => ?_) | refine Le.thenC (λ_ => ?_) (λ_ => ?_) | refine Le.cond ?_ ?_ | refine Le.bind ?_ (λ_ => ?_))
def xN (l_1:(List Beat)) (player_2:ByteArray) (clock_3:Int):Option (Int×Int) :=
 (yC l_1 player_2 clock_3 false).bind λr_4=>some (r_4.1,r_4.2)
theorem Ha (l_1:(List Beat)) (player_2:ByteArray) (clock_3:Int):Le (xN l_1 player_2 clock_3) (rU l_1 player_2 clock_3):=by
 unfold xN rU
 repeat' (with_reducible first | exact Le.refl _ | exact GU _ _ _ _ | refine Le.loop (λ_ => ?_) | refine Le.forL (λ_ _ _ => ?_) | refine Le.thenC (λ_ => ?_) (λ_ => ?_) | refine Le.cond ?_ ?_ | refine Le.bind ?_ (λ_ => ?_))
def ou (a_1:Alert) (k_4:Nat) (x_6:ByteArray) (s_9:Unit):Option (Ctl (Unit) (Int)) :=
 (iQ x_6).bind λr_14=>bif (!r_14)then some (.ret 5)else (bif (decide ((k_4:Int)>0))then (idx a_1.Refs (w64 ((k_4:Int)-1))).bind λy_20=>some (sLe x_6 y_20)else some false).bind λv_17=>bif v_17 then some (.ret 7)else bif (sEq x_6 a_1.Id)then some (.ret 14)else some (.go ())
theorem yI (a_1:Alert) (k_4:Nat) (x_6:ByteArray) (s_9:Unit):Le (ou a_1 k_4 x_6 s_9) (jF a_1 k_4 x_6 s_9):=by
 unfold ou jF
 repeat' (with_reducible first | exact Le.refl _ | exact kv _ | refine Le.loop (λ_ => ?_) | refine Le.forL (λ_ _ _ => ?_) | refine Le.thenC (λ_ => ?_) (λ_ => ?_) | refine Le.cond ?_ ?_ | refine Le.bind ?_ (λ_ => ?_))
def qA (a_1:Alert):Option (Int) :=
 bif (decide ((a_1.Refs.length:Int)>20))then some 2 else (forL a_1.Refs () (λk x s=>ou a_1 k x s)).bind λo_12=>thenC o_12 (λs_9=>bif (!((a_1.Kind==1)==((a_1.Refs.length:Int)==0)))then some 3 else some 0) (λr=>some r)
theorem Bb (a_1:Alert):Le (qA a_1) (lY a_1):=by
 unfold qA lY
 repeat' (with_reducible first | exact Le.refl _ | exact yI _ _ _ _ | refine Le.loop (λ_ => ?_) | refine Le.forL (λ_ _ _ => ?_) | refine Le.thenC (λ_ => ?_) (λ_ => ?_) | refine Le.cond ?_ ?_ | refine Le.bind ?_ (λ_ => ?_))
def jr (s_7:ByteArray):Option (Ctl (ByteArray) (Unit)) :=
 bif (decide ((s_7.size:Int)>0))then (qH s_7 0).bind λb_13=>bif (decide ((b_13.toNat:Int)<128))then (wL s_7 1 s_7.size).bind λy_16=>(bif (decide ((y_16.size:Int)>8))then (bK y_16).bind λr_21=>some ((rH .u64 r_21 9259542123273814144)==0)else some false).bind λv_18=>(bif v_18 then (wL y_16 8 y_16.size).bind λy_26=>(bif (decide ((y_26.size:Int)>16))then (bK y_26).bind λr_31=>(wL y_26 8 y_26.size).bind λy_33=>(bK y_33).bind λr_35=>some ((rH .u64 (orI .u64 r_31 r_35) 9259542123273814144)==0)else some false).bind λv_28=>bif v_28 then (wL y_26 16 y_26.size).bind λy_38=>(rM y_38 (λs=>gY s)).bind λo_48=>thenC o_48 (λs_45=>some s_45) (λ_=>none)else some y_26 else some y_16).bind λv_23=>some (.go v_23)else none else some (.brk s_7)
theorem qG (s_7:ByteArray):Le (jr s_7) (fo s_7):=by
 unfold jr fo
 repeat' (with_reducible first | exact Le.refl _ | refine Le.loop (λ_ => ?_) | refine Le.forL (λ_ _ _ => ?_) | refine Le.thenC (λ_ => ?_) (λ_ => ?_) | refine Le.cond ?_ ?_ | refine Le.bind ?_ (λ_ => ?_))
def jP (s_1:ByteArray):Option (Bool) :=
 (rM s_1 (λs=>jr s)).bind λo_10=>thenC o_10 (λs_7=>some true) (λ_=>none)
theorem tO (s_1:ByteArray):Le (jP s_1) (gD s_1):=by
 unfold jP gD
 repeat' (with_reducible first | exact Le.refl _ | exact qG _ | refine Le.loop (λ_ => ?_) | refine Le.forL (λ_ _ _ => ?_) | refine Le.thenC (λ_ => ?_) (λ_ => ?_) | refine Le.cond ?_ ?_ | refine Le.bind ?_ (λ_ => ?_))
def lF (s_1:ByteArray) (c_2:Int):Option (ByteArray) :=
 (rM s_1 (λs=>iX c_2 s)).bind λo_11=>thenC o_11 (λs_8=>some s_8) (λ_=>none)
theorem ww (s_1:ByteArray) (c_2:Int):Le (lF s_1 c_2) (strings_trimRightByte s_1 c_2):=by
 unfold lF strings_trimRightByte
 repeat' (with_reducible first | exact Le.refl _ | refine Le.loop (λ_ => ?_) | refine Le.forL (λ_ _ _ => ?_) | refine Le.thenC (λ_ => ?_) (λ_ => ?_) | refine Le.cond ?_ ?_ | refine Le.bind ?_ (λ_ => ?_))
def l8 (s_1:ByteArray) (c_2:Int):Option (ByteArray) :=
 (rM s_1 (λs=>jg c_2 s)).bind λo_11=>thenC o_11 (λs_8=>some s_8) (λ_=>none)
theorem xm (s_1:ByteArray) (c_2:Int):Le (l8 s_1 c_2) (strings_trimLeftByte s_1 c_2):=by
 unfold l8 strings_trimLeftByte
 repeat' (with_reducible first | exact Le.refl _ | refine Le.loop (λ_ => ?_) | refine Le.forL (λ_ _ _ => ?_) | refine Le.thenC (λ_ => ?_) (λ_ => ?_) | refine Le.cond ?_ ?_ | refine Le.bind ?_ (λ_ => ?_))
def wE (s_1:ByteArray) (cutset_2:ByteArray):Option (ByteArray) :=
 (bif (sEq s_1 (⟨#[]⟩:ByteArray))then some true else some (sEq cutset_2 (⟨#[]⟩:ByteArray))).bind λv_3=>bif v_3 then some s_1 else (bif ((cutset_2.size:Int)==1)then (qH cutset_2 0).bind λb_10=>some (decide ((b_10.toNat:Int)<128))else some false).bind λv_7=>bif v_7 then (qH cutset_2 0).bind λb_13=>(lF s_1 (b_13.toNat:Int)).bind λr_15=>(qH cutset_2 0).bind λb_17=>(l8 r_15 (b_17.toNat:Int)).bind λr_19=>some r_19 else none
theorem Ew (s_1:ByteArray) (cutset_2:ByteArray):Le (wE s_1 cutset_2) (qg s_1 cutset_2):=by
 unfold wE qg
 repeat' (with_reducible first | exact Le.refl _ | exact ww _ _ | exact xm _ _ | refine Le.loop (λ_ => ?_) | refine Le.forL (λ_ _ _ => ?_) | refine Le.thenC (λ_ => ?_) (λ_ => ?_) | refine Le.cond ?_ ?_ | refine Le.bind ?_ (λ_ => ?_))
def yx (s_1:ByteArray):Option (Bool) :=
 (rM 0 (λs=>qm s_1 s)).bind λo_10=>thenC o_10 (λs_7=>((jP s_1).bind λr_23=>bif r_23 then (wE s_1 (⟨#[32]⟩:ByteArray)).bind λr_26=>bif (sEq r_26 s_1)then (strings_Contains s_1 (⟨#[32,32]⟩:ByteArray)).bind λr_29=>some (!r_29)else some false else some false).bind λv_21=>some v_21) (λr=>some r)
theorem FY (s_1:ByteArray):Le (yx s_1) (rE s_1):=by
 unfold yx rE
 repeat' (with_reducible first | exact Le.refl _ | exact tO _ | exact Ew _ _ | refine Le.loop (λ_ => ?_) | refine Le.forL (λ_ _ _ => ?_) | refine Le.thenC (λ_ => ?_) (λ_ => ?_) | refine Le.cond ?_ ?_ | refine Le.bind ?_ (λ_ => ?_))
def pX (a_1:Alert):Option (Int) :=
 ((iQ a_1.Id).bind λr_5=>bif (!r_5)then some true else (iQ a_1.Sender).bind λr_8=>some (!r_8)).bind λv_3=>bif v_3 then some 5 else (aR a_1.Kind 1 3).bind λr_11=>bif r_11 then some 4 else (qA a_1).bind λr_14=>bif (r_14 != 0)then some r_14 else ((dE a_1.At).bind λr_19=>bif (!r_19)then some true else (aR a_1.Until (w64 (a_1.At+1)) (w64 (a_1.At+2592000000))).bind λr_22=>bif r_22 then some true else (aR a_1.Weight 1 9).bind λr_25=>some r_25).bind λv_17=>bif v_17 then some 1 else bif (decide ((a_1.Areas.length:Int)>20))then some 2 else (forL a_1.Areas () (λk x s=>kM k x s)).bind λo_37=>thenC o_37 (λs_34=>bif (!((a_1.Kind==3)==((a_1.Areas.length:Int)==0)))then some 3 else bif (decide ((a_1.Text.size:Int)>500))then some 2 else ((yx a_1.Text).bind λr_47=>bif (!r_47)then some true else bif (sEq a_1.Text (⟨#[]⟩:ByteArray))then some (!(a_1.Kind==3))else some false).bind λv_45=>bif v_45 then some 3 else some 0) (λr=>some r)
theorem Al (a_1:Alert):Le (pX a_1) (kP a_1):=by
 unfold pX kP
 repeat' (with_reducible first | exact Le.refl _ | exact kv _ | exact Bb _ | exact FY _ | refine Le.loop (λ_ => ?_) | refine Le.forL (λ_ _ _ => ?_) | refine Le.thenC (λ_ => ?_) (λ_ => ?_) | refine Le.cond ?_ ?_ | refine Le.bind ?_ (λ_ => ?_))
def ma (l_1:(List Alert)) (k_3:Nat) (x_5:Alert) (s_8:Unit):Option (Ctl (Unit) (Int)) :=
 (pX x_5).bind λr_14=>bif (r_14 != 0)then some (.ret r_14)else (bif (decide ((k_3:Int)>0))then (idx l_1 (w64 ((k_3:Int)-1))).bind λy_20=>(qY y_20 x_5).bind λr_22=>some (decide (r_22>=0))else some false).bind λv_17=>bif v_17 then some (.ret 7)else some (.go ())
theorem xu (l_1:(List Alert)) (k_3:Nat) (x_5:Alert) (s_8:Unit):Le (ma l_1 k_3 x_5 s_8) (jd l_1 k_3 x_5 s_8):=by
 unfold ma jd
 repeat' (with_reducible first | exact Le.refl _ | exact Al _ | refine Le.loop (λ_ => ?_) | refine Le.forL (λ_ _ _ => ?_) | refine Le.thenC (λ_ => ?_) (λ_ => ?_) | refine Le.cond ?_ ?_ | refine Le.bind ?_ (λ_ => ?_))
def oZ (l_1:(List Alert)):Option (Int) :=
 bif (decide ((l_1.length:Int)>300))then some 2 else (forL l_1 () (λk x s=>ma l_1 k x s)).bind λo_11=>thenC o_11 (λs_8=>(forL l_1 ([]:List (ByteArray×Bool)) (λk x s=>jW k x s)).bind λo_34=>thenC o_34 (λs_31=>some 0) (λr=>some r)) (λr=>some r)
theorem zI (l_1:(List Alert)):Le (oZ l_1) (ku l_1):=by
 unfold oZ ku
 repeat' (with_reducible first | exact Le.refl _ | exact xu _ _ _ _ | refine Le.loop (λ_ => ?_) | refine Le.forL (λ_ _ _ => ?_) | refine Le.thenC (λ_ => ?_) (λ_ => ?_) | refine Le.cond ?_ ?_ | refine Le.bind ?_ (λ_ => ?_))
def mQ (l_1:(List Post)) (k_3:Nat) (x_5:Post) (s_8:Unit):Option (Ctl (Unit) (Int)) :=
 (iQ x_5.Player).bind λr_14=>bif (!r_14)then some (.ret 5)else ((aR x_5.X (-100000) 100000).bind λr_19=>bif r_19 then some true else (aR x_5.Y (-100000) 100000).bind λr_22=>some r_22).bind λv_17=>bif v_17 then some (.ret 1)else (bif (decide ((k_3:Int)>0))then (idx l_1 (w64 ((k_3:Int)-1))).bind λy_28=>some (sLe x_5.Player y_28.Player)else some false).bind λv_25=>bif v_25 then some (.ret 7)else some (.go ())
theorem yD (l_1:(List Post)) (k_3:Nat) (x_5:Post) (s_8:Unit):Le (mQ l_1 k_3 x_5 s_8) (jv l_1 k_3 x_5 s_8):=by
 unfold mQ jv
 repeat' (with_reducible first | exact Le.refl _ | exact kv _ | refine Le.loop (λ_ => ?_) | refine Le.forL (λ_ _ _ => ?_) | refine Le.thenC (λ_ => ?_) (λ_ => ?_) | refine Le.cond ?_ ?_ | refine Le.bind ?_ (λ_ => ?_))
def qa (l_1:(List Post)):Option (Int) :=
 bif (decide ((l_1.length:Int)>500))then some 2 else (forL l_1 () (λk x s=>mQ l_1 k x s)).bind λo_11=>thenC o_11 (λs_8=>some 0) (λr=>some r)
theorem Ak (l_1:(List Post)):Le (qa l_1) (lh l_1):=by
 unfold qa lh
 repeat' (with_reducible first | exact Le.refl _ | exact yD _ _ _ _ | refine Le.loop (λ_ => ?_) | refine Le.forL (λ_ _ _ => ?_) | refine Le.thenC (λ_ => ?_) (λ_ => ?_) | refine Le.cond ?_ ?_ | refine Le.bind ?_ (λ_ => ?_))
def qM (l_1:(List Alert)) (posts_2:(List Post)):Option (Int) :=
 (oZ l_1).bind λr_3=>bif (r_3 != 0)then some r_3 else (qa posts_2).bind λr_6=>some r_6
theorem BG (l_1:(List Alert)) (posts_2:(List Post)):Le (qM l_1 posts_2) (lW l_1 posts_2):=by
 unfold qM lW
 repeat' (with_reducible first | exact Le.refl _ | exact zI _ | exact Ak _ | refine Le.loop (λ_ => ?_) | refine Le.forL (λ_ _ _ => ?_) | refine Le.thenC (λ_ => ?_) (λ_ => ?_) | refine Le.cond ?_ ?_ | refine Le.bind ?_ (λ_ => ?_))
def uu (a_1:Alert) (p_2:Post):Option (Bool×Int) :=
 (qM ([a_1]:List Alert) ([p_2]:List Post)).bind λr_5=>bif (r_5 != 0)then some (false,r_5)else (ru a_1 p_2).bind λr_8=>some (r_8,0)
theorem DK (a_1:Alert) (p_2:Post):Le (uu a_1 p_2) (oH a_1 p_2):=by
 unfold uu oH
 repeat' (with_reducible first | exact Le.refl _ | exact BG _ _ | refine Le.loop (λ_ => ?_) | refine Le.forL (λ_ _ _ => ?_) | refine Le.thenC (λ_ => ?_) (λ_ => ?_) | refine Le.cond ?_ ?_ | refine Le.bind ?_ (λ_ => ?_))
def zu  : Option (Bool) :=
 (xH ([(⟨0,0,2,2⟩:Rect),(⟨1,1,2,2⟩:Rect)]:List Rect)).bind λr_1=>(sQ (⟨(⟨#[97]⟩:ByteArray),(⟨#[98]⟩:ByteArray),0,0,0,1,127,([]:List Int),1,2,0,([]:List ByteArray),false⟩:Entry) 0 (⟨0,86400000⟩:Window)).bind λr_3=>(x9 (⟨(⟨#[97]⟩:ByteArray),(⟨#[]⟩:ByteArray),(⟨0,100⟩:Window),([]:List ByteArray),10,0,0⟩:Campaign) 50).bind λr_5=>(xN ([(⟨(⟨#[112]⟩:ByteArray),0,100⟩:Beat),(⟨(⟨#[112]⟩:ByteArray),1000,1300⟩:Beat)]:List Beat) (⟨#[112]⟩:ByteArray) 700).bind λr_7=>(uu (⟨(⟨#[97]⟩:ByteArray),(⟨#[115]⟩:ByteArray),1,([]:List ByteArray),0,5,1,([(⟨0,0,2,2⟩:Rect)]:List Rect),(⟨#[120]⟩:ByteArray)⟩:Alert) (⟨(⟨#[112]⟩:ByteArray),1,1⟩:Post)).bind λr_10=>((zV ([r_1.2,r_3.2,r_5.2,r_7.2,r_10.2]:List Int)).bind λr_14=>bif (r_14==0)then bif (r_1.1==7)then bif ((r_3.1.length:Int)==1)then bif (r_5.1==5)then bif (r_7.1==500)then some r_10.1 else some false else some false else some false else some false else some false).bind λv_12=>some v_12
theorem HY  : Le (zu) (qR):=by
 unfold zu qR
 repeat' (with_reducible first | exact Le.refl _ | exact FI _ | exact Ca _ _ _ | exact FT _ _ | exact Ha _ _ _ | exact DK _ _ | refine Le.loop (λ_ => ?_) | refine Le.forL (λ_ _ _ => ?_) | refine Le.thenC (λ_ => ?_) (λ_ => ?_) | refine Le.cond ?_ ?_ | refine Le.bind ?_ (λ_ => ?_))
theorem ready_F:zu=some true:=by kernel_rfl
theorem PP:qR=some true:=HY _ ready_F
open Go Go.Eng Go.Proofs
set_option linter.unusedSectionVars false
theorem Kk {σ ρ:Type} {body:Nat->Nat->σ->Option (Ctl σ ρ)} (I:Nat->σ->Prop) {n:Nat} {s:σ} (hl:n<=1000000) (h:∀k s,k<n->I k s->∃s',body k k s=some (.go s')/\I (k+1) s') (h0:I 0 s):∃s',forL (List.range n) s body=some (.go s')/\I n s':=by
 have:=qd (body:=body) I (xs:=List.range n) (s:=s) (by rw [List.length_range];omega) (λk x s hx hi=>by
  have hk:k<n:=by have:=(List.getElem?_eq_some_iff.1 hx).1;simpa using this
  rw [List.getElem?_range hk,so_]at hx
  subst hx
  exact h k s hk hi) h0
 rw [List.length_range]at this
 exact this
theorem sameLe {α:Type} {a b:List α} (h:a.length=b.length):mo a b=some ():=by unfold mo;rw [if_pos h]
theorem QD {α:Type} (z:α) {B:Nat->Nat->List α->Option (Ctl (List α) Unit)} (hB:∀k x s,B k x s=(inR (k:Int) s).bind λ_=>(s[(0+((k:Int)).toNat)]?).bind λ_=>some (.go (s.set (0+((k:Int)).toNat) z))) (l:List α) (hl:l.length<=1000000) :
  ∃l',(forL (List.range ((l.length:Int)).toNat) l B).bind (λo=>thenC o (λs=>some s) (λ_=>none))=some l'/\mo l' l=some ():=by
 have hn:((l.length:Int)).toNat=l.length:=by simp
 obtain ⟨s,r1,r2⟩:=Kk (body:=B) (λ_ s=>s.length=l.length) (n:=l.length) (s:=l) (by omega) (λk s hk hs=>by
  rw [hB]
  have hks:k<s.length:=by omega
  refine⟨s.set k z,?_,by rw [List.length_set];exact hs⟩
  simp only [zl (i:=(k:Int)) (xs:=s) (by omega) (by omega),show 0+((k:Int)).toNat=k by simp,List.getElem?_eq_getElem hks,ob_]) rfl
 rw [hn,r1]
 exact⟨s,rfl,sameLe r2⟩
theorem MI {α:Type} {l:List α} {B:Nat->Nat->Unit->Option (Ctl Unit Unit)} (hB:∀k x s,B k x s=(inR (k:Int) l).bind λ_=>some (.go ())) (hl:l.length<=1000000) :
  (forL (List.range ((l.length:Int)).toNat) () B).bind (λo=>thenC o (λ_=>some ()) (λ_=>none))=some ():=by
 have hn:((l.length:Int)).toNat=l.length:=by simp
 obtain ⟨s,r1,_⟩:=Kk (body:=B) (λ_ _=>True) (n:=l.length) (s:=()) (by omega) (λk s hk _=>by
  rw [hB,zl (by omega) (by omega)]
  exact⟨(),rfl,trivial⟩) trivial
 rw [hn,r1];rfl
theorem spS (l:List ByteArray) (hl:l.length<=1000000):j5 l=some ():=MI (B:=λk x s=>jk l k x s) (λk x s=>rfl) hl
theorem spI (l:List Int) (hl:l.length<=1000000):mr l=some ():=MI (B:=λk x s=>kr l k x s) (λk x s=>rfl) hl
theorem spE (l:List Entry) (hl:l.length<=1000000):jh l=some ():=MI (B:=λk x s=>ic l k x s) (λk x s=>rfl) hl
theorem eqFn {α:Type} {B:Nat->α->Unit->Option (Ctl Unit Bool)} (l:List α) (hl:l.length<=1000000) (hB:∀k x,l[k]? = some x->B k x ()=some (.go ())):(bif ((l.length:Int) != (l.length:Int))then some false else (forL l () B).bind λo=>thenC o (λ_=>some true) (λr=>some r))=some true:=by
 obtain ⟨s,r1,_⟩:=qd (body:=B) (λ_ _=>True) (xs:=l) (s:=()) (by omega) (λk x s hk _=>by
  cases s
  exact⟨(),hB k x hk,trivial⟩) trivial
 have e:((l.length:Int) != (l.length:Int))=false:=by simp
 rw [e,r1];rfl
theorem jT_le (sep:List UInt8) (m:Nat):∀(r:List (List UInt8)),(∀x∈r,x.length<=m)->(Go.Lib.joinTail sep r).length<=r.length*(m+sep.length)
 | [],_=>by simp [Go.Lib.joinTail]
 | y::r,hy=>by
  have e:Go.Lib.joinTail sep (y::r)=sep++y++Go.Lib.joinTail sep r:=by simp [Go.Lib.joinTail]
  rw [e,List.length_append,List.length_append,List.length_cons,Nat.add_mul]
  have:=jT_le sep m r (λx hx=>hy x (List.mem_cons_of_mem _ hx))
  have:=hy y (by simp)
  omega
theorem j_le (sep:List UInt8) (m:Nat):∀(ls:List (List UInt8)),(∀x∈ls,x.length<=m)->(Go.Lib.join ls sep).length<=ls.length*(m+sep.length)
 | [],_=>by simp [Go.Lib.join]
 | y::r,h=>by
  rw [Go.Lib.join_cons,List.length_append,List.length_cons,Nat.add_mul]
  have:=jT_le sep m r (λx hx=>h x (List.mem_cons_of_mem _ hx))
  have:=h y (by simp)
  omega
theorem EQ (s:ByteArray):s.data.toList.length=s.size:=(Go.Lib.size_eq s).symm
theorem KD (xs:List ByteArray) (sep:ByteArray) (m:Nat) (h:∀x∈xs,x.size<=m) (hl:xs.length<=1000) (hm:m+sep.size<=1000000):∃s,strings_Join xs sep=some s/\s.size<=xs.length*(m+sep.size):=by
 have h1:=j_le sep.data.toList m (xs.map (·.data.toList)) (λx hx=>by
  obtain ⟨y,hy,rfl⟩:=List.mem_map.1 hx
  rw [EQ];exact h y hy)
 rw [List.length_map,EQ]at h1
 have h2:xs.length*(m+sep.size)<=1000*1000000:=Nat.mul_le_mul hl hm
 unfold strings_Join NP
 rw [if_pos ⟨by omega,by omega⟩]
 exact⟨_,rfl,by rw [<- EQ];exact h1⟩
theorem K6 (l:List Int) (h:∀n∈l,-1000000000000000<=n/\n<=1000000000000000) (hl:l.length<=8):∃s,rF l=some s/\s.size<=1000:=by
 obtain ⟨u,r1,r2,r3⟩:=qd (body:=λk x s=>nG k x s) (λk s=>s.length=k/\∀x∈s,x.size<=21) (xs:=l) (s:=([]:List ByteArray)) (by omega) (λk n s hk ⟨i1,i2⟩=>by
  have hn:=h n (List.mem_of_getElem? hk)
  have hkl:k<l.length:=(List.getElem?_eq_some_iff.1 hk).1
  have e:strconv_Itoa n=some ⟨(Go.Lib.itoa n).toArray⟩:=by
   unfold strconv_Itoa Nb
   rw [if_pos ⟨by omega,by omega⟩]
  unfold nG
  simp only [e,ob_,mh s [(⟨(Go.Lib.itoa n).toArray⟩:ByteArray)] (by simp;omega)]
  refine⟨_,rfl,by simp [i1],λx hx => ?_⟩
  rcases List.mem_append.1 hx with hx|hx
  ·exact i2 x hx
  ·rw [List.mem_singleton.1 hx,<- EQ]
   exact Go.Lib.itoa_length_le n (by omega) (by omega)) ⟨rfl,λx hx=>by cases hx⟩
 obtain ⟨s,s1,s2⟩:=KD u (⟨#[32]⟩:ByteArray) 21 r3 (by omega) (by decide)
 have e1:(⟨#[32]⟩:ByteArray).size=1:=rfl
 rw [e1,r2]at s2
 have h3:l.length*(21+1)<=8*22:=Nat.mul_le_mul hl (Nat.le_refl _)
 unfold rF
 rw [r1,ob_]
 show ∃t,(strings_Join u (⟨#[32]⟩:ByteArray)).bind _=_/\_
 rw [s1]
 exact⟨s,rfl,by omega⟩
theorem numsE {e:Entry} (h:wR e=0):∀n ∈ [e.Version,e.First,e.Last,e.Every,e.Days,e.From,e.To,e.Prio],(-1000000000000000:Int)<=n/\n<=1000000000000000:=by
 unfold wR at h
 cases hk:(!qK e.Key || !qK e.Item)with
 | true=>rw [hk]at h;cases h
 | false =>
 rw [hk,cond_false]at h
 cases hb:(jm e.Version 0 1000000||(jm e.First 0 e.Last||(decide (e.Last>4000)||(jm e.Every 1 400||jm e.Days 1 127))))with
 | true=>rw [hb]at h;cases h
 | false =>
 rw [hb,cond_false]at h
 cases hx:exF e.Except==0 with
 | false=>rw [hx,cond_false]at h;rw [h]at hx;cases hx
 | true =>
 rw [hx,cond_true]at h
 cases hc:(jm e.From 0 1439||(jm e.To 0 1439||jm e.Prio 0 9))with
 | true=>rw [hc]at h;cases h
 | false =>
 simp only [Bool.or_eq_false_iff,decide_eq_false_iff_not]at hb hc
 have a1:=qU hb.1
 have a2:=qU hb.2.1
 have a3:=hb.2.2.1
 have a4:=qU hb.2.2.2.1
 have a5:=qU hb.2.2.2.2
 have a6:=qU hc.1
 have a7:=qU hc.2.1
 have a8:=qU hc.2.2
 intro n hn
 simp only [List.mem_cons,List.not_mem_nil,or_false]at hn
 rcases hn with rfl|rfl|rfl|rfl|rfl|rfl|rfl|rfl <;> omega
theorem commas0:uM []=some (⟨#[45]⟩:ByteArray):=rfl
theorem Qs {e:Entry} (h:wR e=0) (hk:e.Key.size<=1000) (hi:e.Item.size<=1000):∃s,l7 (⟨e.Key,e.Item,e.Version,e.First,e.Last,e.Every,e.Days,([]:List Int),e.From,e.To,e.Prio,([]:List ByteArray),e.Gone⟩:Entry)=some s:=by
 obtain ⟨n,n1,n2⟩:=K6 _ (numsE h) (by simp)
 have hj:∀g:ByteArray,g.size<=1000->∃s,strings_Join ([e.Key,e.Item,n,g,(⟨#[45]⟩:ByteArray),(⟨#[45]⟩:ByteArray)]:List ByteArray) (⟨#[32]⟩:ByteArray)=some s:=λg hg=>by
  obtain ⟨s,s1,_⟩:=KD [e.Key,e.Item,n,g,(⟨#[45]⟩:ByteArray),(⟨#[45]⟩:ByteArray)] (⟨#[32]⟩:ByteArray) 1000 (λx hx=>by
   simp only [List.mem_cons,List.not_mem_nil,or_false]at hx
   rcases hx with rfl|rfl|rfl|rfl|rfl|rfl
   ·exact hk
   ·exact hi
   ·exact n2
   ·exact hg
   ·decide
   ·decide) (by simp) (by decide)
  exact⟨s,s1⟩
 have e0:forL ([]:List Int) ([]:List ByteArray) (λk x s=>nS k x s)=some (.go []):=by rw [qi (by simp)];rfl
 unfold l7
 simp only [e0,ob_,thenC,n1,commas0]
 cases e.Gone with
 | true =>
  obtain ⟨s,s1⟩:=hj (⟨#[103,111,110,101]⟩:ByteArray) (by decide)
  exact⟨s,by simp only [cond_true,ob_,s1]⟩
 | false =>
  obtain ⟨s,s1⟩:=hj (⟨#[111,110]⟩:ByteArray) (by decide)
  exact⟨s,by simp only [cond_false,ob_,s1]⟩
theorem equalI (l:List Int) (hl:l.length<=1000000):je l l=some true:=eqFn (B:=λk x s=>gX l k x s) l hl (λk y hk=>by
 unfold gX
 simp only [mG,hk,ob_,bne_self_eq_false,cond_false])
theorem P9 (l:List ByteArray) (hl:l.length<=1000000):ek l l=some true:=eqFn (B:=λk x s=>eF l k x s) l hl (λk y hk=>by
 have hne:sNe y y=false:=by
  show (!sEq y y)=false
  rw [(EM _ _).2 rfl];rfl
 unfold eF
 simp only [mG,hk,ob_,hne,cond_false])
theorem sameE {e:Entry} (hg:CF e) (h:wR e=0):oI e e=some true:=by
 obtain ⟨s,hs⟩:=Qs h hg.1 hg.2.1
 have h3:=hg.2.2.1
 have h4:=hg.2.2.2.1
 unfold oI
 simp only [hs,ob_,(EM s s).2 rfl,cond_true,equalI e.Except (by omega),P9 e.Tags (by omega)]
theorem concatE (a b:List Entry) (ha:a.length<=1000) (hb:b.length<=1000):dx [a,b]=some (a++b):=by
 unfold dx
 have e1:forL [a,b] 0 (λk x s=>bC k x s)=some (.go (((a.length+b.length:Nat)):Int)):=by
  rw [qi (by simp)]
  have q1:∀k,bC k a 0=some (.go (a.length:Int)):=λk=>by
   unfold bC
   rw [show (0:Int)+(a.length:Int)=(a.length:Int) by omega,bW (by omega),decide_eq_false (by omega)];rfl
  have q2:∀k,bC k b (a.length:Int)=some (.go ((a.length+b.length:Nat):Int)):=λk=>by
   unfold bC
   rw [bW (by omega),decide_eq_false (by omega)]
   simp
  simp only [forR,q1,q2,ob_]
 have e2:∃g,dL (((a.length+b.length:Nat)):Int)=some g:=by
  unfold dL
  have q:w64 ((((a.length+b.length:Nat)):Int)-w64 (0-0))=((a.length+b.length:Nat):Int):=by
   rw [bW (n:=0-0) (by decide),bW (by omega)];omega
  rw [decide_eq_false (by omega),cond_false,q]
  by_cases h:(((a.length+b.length:Nat)):Int)>0
  ·rw [decide_eq_true h,cond_true]
   unfold zN
   rw [if_pos ⟨h,by omega,by omega⟩];exact⟨_,rfl⟩
  ·rw [decide_eq_false h];exact⟨_,rfl⟩
 obtain ⟨g,e2⟩:=e2
 have e3:forL [a,b] ([]:List Entry) (λk x s=>bE k x s)=some (.go (a++b)):=by
  rw [qi (by simp)]
  have q1:∀k,bE k a []=some (.go a):=λk=>by
   unfold bE
   rw [mh _ _ (by simp;omega)];rfl
  have q2:∀k,bE k b a=some (.go (a++b)):=λk=>by
   unfold bE
   rw [mh _ _ (by omega)];rfl
  simp only [forR,q1,q2,ob_]
 simp only [e1,e2,e3,ob_,thenC]
def QU (e:Entry):Prop:=e.Except.length<=50/\e.Tags.length<=20
theorem cloneE (e:Entry) (h:QU e):mZ e=some e:=by
 have h1:=h.1
 have h2:=h.2
 unfold mZ iY fB
 simp only [mh [] e.Except (by simp;omega),mh [] e.Tags (by simp;omega),ob_,List.nil_append]
theorem QJ {es:List (ByteArray×Entry)} {k:ByteArray} {v:Entry} (h:dK eqS es k=some v):∃e∈es,e.1=k/\e.2=v:=by
 induction es with
 | nil=>cases h
 | cons x es ih =>
  rw [OQ]at h
  split at h
  ·rename_i hq
   simp only [so_]at h
   exact⟨x,by simp,((JX _ _).1 hq).symm,h⟩
  ·obtain ⟨e,e1,e2⟩:=ih h
   exact⟨e,List.mem_cons_of_mem _ e1,e2⟩
theorem Ni {β:Type}:∀(es:List (ByteArray×β)) (k:ByteArray) (v:β),(Dt eqS es k v).length<=es.length+1
 | [],k,v=>by rw [QQ];simp
 | e::es,k,v=>by
  rw [I1]
  split
  ·simp
  ·have:=Ni es k v
   simp only [List.length_cons];omega
theorem OX {x:List Entry} (hg:∀e∈x,CF e) (hl:x.length<=4) (h0:CJ x=0):∃r:List Entry×Int,mR x []=some r/\r.1.length<=4/\∀e∈r.1,QU e:=by
 obtain ⟨hr1,hr2⟩:=zX x BX h0
 have hx:=Nn hg (by omega:x.length<=100)
 have hn:=Nn (l:=[]) (λe he=>by cases he) (by simp)
 rw [h0]at hx
 have hn0:di []=some 0:=hn.trans rfl
 have c1:forL (List.range (2:Int).toNat) () (λk y s=>jf x [] k y s)=some (.go ()):=by
  obtain ⟨s,s1,_⟩:=Kk (body:=λk y s=>jf x [] k y s) (λ_ _=>True) (n:=2) (s:=()) (by omega) (λk s hk _=>by
   refine⟨(),?_,trivial⟩
   unfold jf
   have:k=0\/k=1:=by omega
   rcases this with rfl|rfl
   ·have e:idx ([x,[]]:List (List Entry)) ((0:Nat):Int)=some x:=rfl
    rw [e,ob_,hx];rfl
   ·have e:idx ([x,[]]:List (List Entry)) ((1:Nat):Int)=some []:=rfl
    rw [e,ob_,hn0];rfl) trivial
  exact s1
 have hc:=concatE x [] (by omega) (by simp)
 rw [List.append_nil]at hc
 obtain ⟨m,m1,m2,m3,m4⟩:=qd (body:=λk y s=>jV k y s) (λk (s:List (ByteArray×Entry))=>s.length<=k/\s.Pairwise (λa b=>a.1≠b.1)/\∀e∈s,(∃j y,j<k/\x[j]? = some y/\e=(y.Key,y))) (xs:=x) (s:=([]:List (ByteArray×Entry))) (by omega) (λk y s hk ⟨i1,i2,i3⟩=>by
  have hno:dK eqS s y.Key=none:=by
   cases hq:dK eqS s y.Key with
   | none=>rfl
   | some v =>
    obtain ⟨e,e1,e2,e3⟩:=QJ hq
    obtain ⟨j,z,z1,z2,z3⟩:=i3 e e1
    have hkl:=(List.getElem?_eq_some_iff.1 hk)
    have hjl:=(List.getElem?_eq_some_iff.1 z2)
    have hlt:=List.pairwise_iff_getElem.1 hr2 j k hjl.1 hkl.1 z1
    rw [hjl.2,hkl.2]at hlt
    rw [z3]at e2
    have e2':z.Key=y.Key:=e2
    rw [e2']at hlt
    unfold lt at hlt
    exact absurd hlt (List.lt_irrefl _)
  unfold jV
  simp only [hno,Option.isSome_none,cond_false,ob_,Bool.not_false,cond_true]
  obtain ⟨q1,q2⟩:=IE y y.Key s i2
  refine⟨_,rfl,?_,q1,λe he => ?_⟩
  ·have:=Ni s y.Key y
   omega
  ·rcases q2 e he with rfl|he
   ·exact⟨k,y,ls_ _,hk,rfl⟩
   ·obtain ⟨j,z,z1,z2,z3⟩:=i3 e he
    exact⟨j,z,by omega,z2,z3⟩) ⟨by simp,List.Pairwise.nil,λe he=>by cases he⟩
 have hval:∀e∈m,CF e.2/\e.1=e.2.Key:=λe he=>by
  obtain ⟨j,z,_,z2,z3⟩:=m4 e he
  rw [z3];exact⟨hg z (List.mem_of_getElem? z2),rfl⟩
 obtain ⟨ks,k1,k2,_⟩:=Qc (es:=m) (by omega) (λe he=>by
  obtain ⟨g,ge⟩:=hval e he
  rw [ge]
  have:e.2.Key.size<=1000:=g.1
  omega) m3
 have hkl:ks.length=m.length:=by rw [k2.length_eq,List.length_map]
 obtain ⟨r,r1,r2,r3⟩:=qd (body:=λk y s=>kg m k y s) (λk (s:List Entry)=>s.length=k/\∀e∈s,QU e) (xs:=ks) (s:=([]:List Entry)) (by omega) (λk y s hk ⟨i1,i2⟩=>by
  have hks:k<ks.length:=(List.getElem?_eq_some_iff.1 hk).1
  obtain ⟨v,v1,v2⟩:∃v,(dK eqS m y).getD (⟨(⟨#[]⟩:ByteArray),(⟨#[]⟩:ByteArray),0,0,0,0,0,([]:List Int),0,0,0,([]:List ByteArray),false⟩:Entry)=v/\QU v:=by
   cases hq:dK eqS m y with
   | none=>exact⟨_,rfl,by unfold QU;simp⟩
   | some v =>
    obtain ⟨e,e1,_,e3⟩:=QJ hq
    have g:=(hval e e1).1
    rw [e3]at g
    exact⟨v,rfl,g.2.2.1,g.2.2.2.1⟩
  unfold kg
  rw [v1,cloneE v v2,ob_,mh s [v] (by simp;omega),ob_]
  refine⟨_,rfl,by simp [i1],λe he => ?_⟩
  rcases List.mem_append.1 he with he|he
  ·exact i2 e he
  ·rw [List.mem_singleton.1 he];exact v2) ⟨rfl,λe he=>by cases he⟩
 refine⟨(r,0),?_,by simp only;omega,r3⟩
 unfold mR
 rw [c1,ob_]
 show (dx ([x,[]]:List (List Entry))).bind _=_
 rw [hc,ob_,m1,ob_]
 show (bif (decide ((m.length:Int)>200))then _ else _)=_
 rw [decide_eq_false (by omega),cond_false]
 show (IK m).bind _=_
 rw [k1,ob_,r1,ob_];rfl
theorem why_tot {l:List Entry} {p:Player} (h:CE l p) (hm:fA l p 0=some 0):∃w,qf l p 0=some (w,0)/\w.length<=4:=by
 have hl:(rZ l p 0).length<=4:=Ou h 0
 refine⟨(rZ l p 0).map (λx=>x.1.Key),?_,by rw [List.length_map];exact hl⟩
 unfold qf
 rw [hm,ob_,bne_self_eq_false,cond_false,on_eqT h (by omega),ob_]
 obtain ⟨u,u1,u2⟩:=qd (body:=λk x s=>lZ k x s) (λk s=>s=((rZ l p 0).take k).map (λx=>x.1.Key)) (xs:=(rZ l p 0).map jQ) (s:=([]:List ByteArray)) (by rw [List.length_map];omega) (λk x s hx hs=>by
  rw [List.getElem?_map]at hx
  cases hy:(rZ l p 0)[k]? with
  | none=>rw [hy]at hx;cases hx
  | some y =>
   rw [hy,Option.map_some,so_]at hx
   have et:(rZ l p 0).take (k+1)=(rZ l p 0).take k++[y]:=by rw [List.take_add_one,hy];rfl
   have hkl:((rZ l p 0).take k).length<=4:=by rw [List.length_take];omega
   rw [<- hx]
   unfold lZ
   show ∃s',((some y.1).bind λy_24=>_)=_/\_
   rw [ob_,hs,mh _ _ (by rw [List.length_map];simp only [List.length_cons,List.length_nil];omega)]
   exact⟨_,rfl,by rw [et,List.map_append];rfl⟩) rfl
 rw [u1,u2,List.length_map,List.take_length];rfl
theorem schedulesStay (l:List Int):lv l=some true:=by
 obtain ⟨xs,s1,a1,a2,a3,a4,a5⟩:=rightE ⟨l,0⟩ (b:=0) ⟨Int.le_refl _,Int.le_refl _⟩ (by decide)
 obtain ⟨p,s2,b1,b2,b3,b4⟩:=rightP s1 a2 (by omega)
 have hc:=ce_of a4 a3 a5 b4
 have hr:=(zX xs BX a5).1
 have hm:fA xs p 0=some 0:=by
  rw [momentK a4 (by omega) b3]
  unfold faV moF
  rw [a5,b4,Fb (by omega)];rfl
 obtain ⟨r,r1,r2,r3⟩:=OX a4 a3 a5
 obtain ⟨w,w1,w2⟩:=why_tot hc hm
 obtain ⟨t,e1,e2,e3⟩:=MO hc (w:=⟨0,86400000⟩) ⟨by simp only [];omega,by simp only [];omega,by simp only [];omega⟩ (by simp only [];omega)
 have hth:lc xs p ⟨0,86400000⟩=some (t,0):=by
  unfold lc lI
  have hw:winF ⟨0,86400000⟩=0:=by
   unfold winF
   simp only []
   rw [Fb (by omega),decide_eq_false (by omega),bW (by omega),decide_eq_false (by omega)];rfl
  rw [Nn a4 (by omega),a5,ob_,bne_self_eq_false,cond_false,playK p b3,b4,ob_,bne_self_eq_false,cond_false,winK,hw,ob_,ob_,bne_self_eq_false,cond_false,e1];rfl
 have hloop:forL (List.range ((r.1.length:Int)).toNat) () (λk x s=>gy r k x s)=some (.go ()):=by
  obtain ⟨s,q1,_⟩:=Kk (body:=λk x s=>gy r k x s) (λ_ _=>True) (n:=r.1.length) (s:=()) (by omega) (λk s hk _=>by
   refine⟨(),?_,trivial⟩
   have hg:r.1[0+((k:Int)).toNat]? = some r.1[k]:=by
    rw [show 0+((k:Int)).toNat=k by simp];exact List.getElem?_eq_getElem hk
   obtain ⟨g1,g2⟩:=r3 _ (List.getElem_mem hk)
   unfold gy
   simp only [zl (i:=(k:Int)) (xs:=r.1) (by omega) (by omega),hg,ob_,spS _ (by omega:(r.1[k]).Tags.length<=1000000),spI _ (by omega:(r.1[k]).Except.length<=1000000)]) trivial
  rw [show ((r.1.length:Int)).toNat=r.1.length by simp]
  exact q1
 obtain ⟨w',v1,v2⟩:=QD (⟨#[]⟩:ByteArray) (B:=λk x s=>jl k x s) (λk x s=>rfl) w (by omega)
 have v1:kw w=some w':=v1
 obtain ⟨t',u1,u2⟩:=QD (⟨(⟨0,0⟩:Window),(⟨#[]⟩:ByteArray)⟩:Slot_) (B:=λk x s=>iJ k x s) (λk x s=>rfl) t (by omega)
 have u1:jA t=some t':=u1
 have y1:bL xs xs=some true:=eqFn (B:=λk x s=>aY xs k x s) xs (by omega) (λk y hk=>by
  have hy:=List.mem_of_getElem? hk
  unfold aY
  simp only [mG,hk,sameE (a4 y hy) (hr y hy).1,ob_,Bool.not_true,cond_false])
 have y2:=P9 p.Tags (by have:=b3.2.2.1;omega)
 unfold lv
 simp only [a1,b1,r1,ob_,hloop,thenC,spE r.1 (by omega),w1,v1,v2,hth,u1,u2,y1,y2,cond_true,PP]
end Go.Proofs.YtadpbmfnnlkdlabGreatDoor.Law

