/-
  THE PLAIN LAW (part 5).
-/
import Derived.Test.YtkjlhdminmpmkabGreatDoorPl4
import Derived.Test.YtkjlhdminmpmkabGreatDoorDefs
open Go Go.Eng
namespace Go.Proofs.YtkjlhdminmpmkabGreatDoor.Law
set_option linter.unusedVariables false
set_option linter.unusedSimpArgs false
set_option maxRecDepth 100000
def iM (s_1:ByteArray):Option (Bool) :=
 (tZ 0 (λs=>ko s_1 s)).bind λo_10=>thenC o_10 (λs_7=>(bif (sNe s_1 (⟨#[]⟩:ByteArray))then some (decide ((s_1.size:Int)<=40))else some false).bind λv_30=>some v_30) (λr=>some r)
theorem jU (s_1:ByteArray):Le (iM s_1) (kit_IsKey s_1):=by
 unfold iM kit_IsKey
 repeat' (with_reducible first|exact Le.refl _|refine Le.loop (λ_=>?_)|refine Le.thenC (λ_=>?_) (λ_=>?_)|refine Le.cond ?_ ?_|refine Le.bind ?_ (λ_=>?_))
def iT (s_1:(List Int)) (s_8:Int):Option (Ctl (Int) ((List Int))) :=
 bif (decide (s_8<(s_1.length:Int)))then (inR s_8 s_1).bind λ_=>(s_1[(0+(s_8).toNat)]?).bind λe_15=>(inR (w64 (s_8-1)) s_1).bind λ_=>(s_1[(0+((w64 (s_8-1))).toNat)]?).bind λe_18=>bif (e_15==e_18)then (neL s_1).bind λ_=>(Dm s_1 s_8 (s_1.length:Int)).bind λ_=>(tZ (s_1,s_8,1) (λs=>gP s_1 s_8 s)).bind λo_31=>thenC o_31 (λs_28=>(Dm s_28.1 s_28.2.1 (s_28.1.length:Int)).bind λ_=>(Dm (s_28.1.take ((s_28.2.1).toNat)++List.replicate (((s_28.1.length:Int)).toNat-(s_28.2.1).toNat) 0++s_28.1.drop (((s_28.2.1).toNat)+(((s_28.1.length:Int)).toNat-(s_28.2.1).toNat))) 0 s_28.2.1).bind λ_=>some (.ret (cutL (s_28.1.take ((s_28.2.1).toNat)++List.replicate (((s_28.1.length:Int)).toNat-(s_28.2.1).toNat) 0++s_28.1.drop (((s_28.2.1).toNat)+(((s_28.1.length:Int)).toNat-(s_28.2.1).toNat))) 0 ((s_28.2.1).toNat)))) (λ_=>none)else some (.go (w64 (s_8+1)))else some (.brk s_8)
theorem pX (s_1:(List Int)) (s_8:Int):Le (iT s_1 s_8) (eQ s_1 s_8):=by
 unfold iT eQ
 repeat' (with_reducible first|exact Le.refl _|refine Le.loop (λ_=>?_)|refine Le.thenC (λ_=>?_) (λ_=>?_)|refine Le.cond ?_ ?_|refine Le.bind ?_ (λ_=>?_))
def jI (s_1:(List Int)):Option ((List Int)) :=
 bif (decide ((s_1.length:Int)<2))then some s_1 else (tZ 1 (λs=>iT s_1 s)).bind λo_11=>thenC o_11 (λs_8=>some s_1) (λr=>some r)
theorem q9 (s_1:(List Int)):Le (jI s_1) (gm s_1):=by
 unfold jI gm
 repeat' (with_reducible first|exact Le.refl _|exact pX _ _|refine Le.loop (λ_=>?_)|refine Le.thenC (λ_=>?_) (λ_=>?_)|refine Le.cond ?_ ?_|refine Le.bind ?_ (λ_=>?_))
def dS (b_3:Int) (a_2:Int) (s_10:(List Run)×Int):Option (Ctl ((List Run)×Int) (Unit)) :=
 bif (decide (s_10.2<b_3))then (tZ (s_10.1,s_10.2) (λs=>cZ a_2 s)).bind λo_24=>thenC o_24 (λs_21=>some (.go (s_21.1,(w64 (s_10.2+1))))) (λ_=>none)else some (.brk (s_10.1,s_10.2))
theorem jT (b_3:Int) (a_2:Int) (s_10:(List Run)×Int):Le (dS b_3 a_2 s_10) (bH b_3 a_2 s_10):=by
 unfold dS bH
 repeat' (with_reducible first|exact Le.refl _|refine Le.loop (λ_=>?_)|refine Le.thenC (λ_=>?_) (λ_=>?_)|refine Le.cond ?_ ?_|refine Le.bind ?_ (λ_=>?_))
def eH (data_1:(List Run)) (a_2:Int) (b_3:Int):Option ((List Run)) :=
 (tZ (data_1,(w64 (a_2+1))) (λs=>dS b_3 a_2 s)).bind λo_13=>thenC o_13 (λs_10=>some s_10.1) (λ_=>none)
theorem kT (data_1:(List Run)) (a_2:Int) (b_3:Int):Le (eH data_1 a_2 b_3) (bO data_1 a_2 b_3):=by
 unfold eH bO
 repeat' (with_reducible first|exact Le.refl _|exact jT _ _ _|refine Le.loop (λ_=>?_)|refine Le.thenC (λ_=>?_) (λ_=>?_)|refine Le.bind ?_ (λ_=>?_))
def fA (b_3:Int) (a_2:Int) (data_1:(List Run)) (limit_4:Int) (s_11:Unit):Option (Ctl (Unit) ((List Run))) :=
 bif (decide ((w64 (b_3-a_2))<=12))then (eH data_1 a_2 b_3).bind λr_17=>(iR r_17 data_1).bind λ_=>some (.ret r_17)else bif (limit_4==0)then none else none
theorem lT (b_3:Int) (a_2:Int) (data_1:(List Run)) (limit_4:Int) (s_11:Unit):Le (fA b_3 a_2 data_1 limit_4 s_11) (cz b_3 a_2 data_1 limit_4 s_11):=by
 unfold fA cz
 repeat' (with_reducible first|exact Le.refl _|exact kT _ _ _|refine Le.cond ?_ ?_|refine Le.bind ?_ (λ_=>?_))
def gp (data_1:(List Run)) (a_2:Int) (b_3:Int) (limit_4:Int):Option ((List Run)) :=
 (tZ () (λs=>fA b_3 a_2 data_1 limit_4 s)).bind λo_14=>thenC o_14 (λs_11=>some data_1) (λr=>some r)
theorem mU (data_1:(List Run)) (a_2:Int) (b_3:Int) (limit_4:Int):Le (gp data_1 a_2 b_3 limit_4) (dA data_1 a_2 b_3 limit_4):=by
 unfold gp dA
 repeat' (with_reducible first|exact Le.refl _|exact lT _ _ _ _ _|refine Le.loop (λ_=>?_)|refine Le.thenC (λ_=>?_) (λ_=>?_)|refine Le.bind ?_ (λ_=>?_))
def eP (x_1:(List Run)):Option ((List Run)) :=
 (gJ (IntKind.u64.wrap (x_1.length:Int))).bind λr_3=>(gp x_1 0 (x_1.length:Int) r_3).bind λr_5=>(iR r_5 x_1).bind λ_=>some r_5
theorem lu (x_1:(List Run)):Le (eP x_1) (bQ x_1):=by
 unfold eP bQ
 repeat' (with_reducible first|exact Le.refl _|exact mU _ _ _ _|refine Le.bind ?_ (λ_=>?_))
def rY (l_1:(List Rect)) (y_2:Int):Option ((List Run)) :=
 (forL l_1 ([]:List Run) (λk x s=>pI y_2 k x s)).bind λo_14=>thenC o_14 (λs_8=>(eP s_8).bind λr_27=>(iR r_27 s_8).bind λ_=>(forL r_27 ([]:List Run) (λk x s=>o9 k x s)).bind λo_41=>thenC o_41 (λs_35=>some s_35) (λ_=>none)) (λ_=>none)
theorem Eg (l_1:(List Rect)) (y_2:Int):Le (rY l_1 y_2) (oM l_1 y_2):=by
 unfold rY oM
 repeat' (with_reducible first|exact Le.refl _|exact lu _|refine Le.forL (λ_ _ _=>?_)|refine Le.thenC (λ_=>?_) (λ_=>?_)|refine Le.bind ?_ (λ_=>?_))
def qY (m_2:(List Run)) (k_3:Nat) (x_5:Run) (s_8:(List Run)×Int):Option (Ctl ((List Run)×Int) (Unit)) :=
 (tZ s_8.2 (λs=>pM m_2 x_5 s)).bind λo_25=>thenC o_25 (λs_22=>(tZ (s_8.1,s_22,x_5.f_from) (λs=>pK m_2 x_5 s)).bind λo_43=>thenC o_43 (λs_38=>(bif (decide (s_38.2.2<x_5.f_to))then (jc s_38.1 ([(⟨s_38.2.2,x_5.f_to⟩:Run)]:List Run)).bind λa_68=>some a_68 else some s_38.1).bind λv_64=>some (.go (v_64,s_22))) (λ_=>none)) (λ_=>none)
theorem Bq (m_2:(List Run)) (k_3:Nat) (x_5:Run) (s_8:(List Run)×Int):Le (qY m_2 k_3 x_5 s_8) (mr m_2 k_3 x_5 s_8):=by
 unfold qY mr
 repeat' (with_reducible first|exact Le.refl _|refine Le.loop (λ_=>?_)|refine Le.thenC (λ_=>?_) (λ_=>?_)|refine Le.cond ?_ ?_|refine Le.bind ?_ (λ_=>?_))
def xz (l_1:(List Run)) (m_2:(List Run)):Option ((List Run)) :=
 (forL l_1 (([]:List Run),0) (λk x s=>qY m_2 k x s)).bind λo_14=>thenC o_14 (λs_8=>some s_8.1) (λ_=>none)
theorem Eo (l_1:(List Run)) (m_2:(List Run)):Le (xz l_1 m_2) (qF l_1 m_2):=by
 unfold xz qF
 repeat' (with_reducible first|exact Le.refl _|exact Bq _ _ _ _|refine Le.forL (λ_ _ _=>?_)|refine Le.thenC (λ_=>?_) (λ_=>?_)|refine Le.bind ?_ (λ_=>?_))
def pE (r_25:(List Int)) (l_1:(List Rect)) (m_2:(List Rect)) (k_27:Nat) (x_29:Int) (s_32:(List Rect)×(List Run)×Int):Option (Ctl ((List Rect)×(List Run)×Int) (Unit)) :=
 (bif (decide ((w64 ((k_27:Int)+1))<(r_25.length:Int)))then (rY l_1 x_29).bind λr_45=>(rY m_2 x_29).bind λr_47=>(xz r_45 r_47).bind λr_49=>some r_49 else some ([]:List Run)).bind λv_42=>(eG s_32.2.1 v_42).bind λr_51=>bif r_51 then some (.go (s_32.1,s_32.2.1,s_32.2.2))else (forL s_32.2.1 s_32.1 (λk x s=>nz s_32 x_29 k x s)).bind λo_64=>thenC o_64 (λs_59=>some (.go (s_59,v_42,x_29))) (λ_=>none)
theorem zn (r_25:(List Int)) (l_1:(List Rect)) (m_2:(List Rect)) (k_27:Nat) (x_29:Int) (s_32:(List Rect)×(List Run)×Int):Le (pE r_25 l_1 m_2 k_27 x_29 s_32) (lg r_25 l_1 m_2 k_27 x_29 s_32):=by
 unfold pE lg
 repeat' (with_reducible first|exact Le.refl _|exact Eg _ _|exact Eo _ _|refine Le.forL (λ_ _ _=>?_)|refine Le.thenC (λ_=>?_) (λ_=>?_)|refine Le.cond ?_ ?_|refine Le.bind ?_ (λ_=>?_))
def tK (l_1:(List Rect)) (m_2:(List Rect)):Option ((List Rect)) :=
 (fC ([l_1,m_2]:List (List Rect))).bind λr_3=>(forL r_3 ([]:List Int) (λk x s=>ny k x s)).bind λo_16=>thenC o_16 (λs_10=>(PV s_10).bind λr_22=>(iR r_22 s_10).bind λ_=>(jI r_22).bind λr_25=>(forL r_25 (([]:List Rect),([]:List Run),0) (λk x s=>pE r_25 l_1 m_2 k x s)).bind λo_38=>thenC o_38 (λs_32=>some s_32.1) (λ_=>none)) (λ_=>none)
theorem BU (l_1:(List Rect)) (m_2:(List Rect)):Le (tK l_1 m_2) (ol l_1 m_2):=by
 unfold tK ol
 repeat' (with_reducible first|exact Le.refl _|exact q9 _|exact zn _ _ _ _ _ _|exact Pb _|refine Le.forL (λ_ _ _=>?_)|refine Le.thenC (λ_=>?_) (λ_=>?_)|refine Le.bind ?_ (λ_=>?_))
def wF (l_1:(List Rect)):Option (Int×Int) :=
 (ma l_1).bind λr_2=>bif (r_2 != 0)then some (0,r_2)else (tK l_1 ([]:List Rect)).bind λr_5=>(uB r_5).bind λr_7=>some (r_7,0)
theorem Es (l_1:(List Rect)):Le (wF l_1) (qJ l_1):=by
 unfold wF qJ
 repeat' (with_reducible first|exact Le.refl _|exact BU _ _|refine Le.cond ?_ ?_|refine Le.bind ?_ (λ_=>?_))
def nO (l_1:(List ByteArray)) (k_2:Nat) (x_4:ByteArray) (s_7:Unit):Option (Ctl (Unit) (Int)) :=
 (iM x_4).bind λr_12=>bif (!r_12)then some (.ret 5)else (bif (decide ((k_2:Int)>0))then (idx l_1 (w64 ((k_2:Int)-1))).bind λy_18=>some (sLe x_4 y_18)else some false).bind λv_15=>bif v_15 then some (.ret 7)else some (.go ())
theorem xR (l_1:(List ByteArray)) (k_2:Nat) (x_4:ByteArray) (s_7:Unit):Le (nO l_1 k_2 x_4 s_7) (jy l_1 k_2 x_4 s_7):=by
 unfold nO jy
 repeat' (with_reducible first|exact Le.refl _|exact jU _|refine Le.cond ?_ ?_|refine Le.bind ?_ (λ_=>?_))
def nC (l_1:(List ByteArray)):Option (Int) :=
 (forL l_1 () (λk x s=>nO l_1 k x s)).bind λo_10=>thenC o_10 (λs_7=>some 0) (λr=>some r)
theorem tO (l_1:(List ByteArray)):Le (nC l_1) (jP l_1):=by
 unfold nC jP
 repeat' (with_reducible first|exact Le.refl _|exact xR _ _ _ _|refine Le.forL (λ_ _ _=>?_)|refine Le.thenC (λ_=>?_) (λ_=>?_)|refine Le.bind ?_ (λ_=>?_))
def nK (l_1:(List ByteArray)):Option (Int) :=
 bif (decide ((l_1.length:Int)>20))then some 2 else (nC l_1).bind λr_3=>some r_3
theorem xM (l_1:(List ByteArray)):Le (nK l_1) (jG l_1):=by
 unfold nK jG
 repeat' (with_reducible first|exact Le.refl _|exact tO _|refine Le.cond ?_ ?_|refine Le.bind ?_ (λ_=>?_))
def mJ (e_1:Entry):Option (Int) :=
 ((iM e_1.Key).bind λr_5=>bif (!r_5)then some true else (iM e_1.Item).bind λr_8=>some (!r_8)).bind λv_3=>bif v_3 then some 5 else ((aQ e_1.Version 0 1000000).bind λr_13=>bif r_13 then some true else (aQ e_1.First 0 e_1.Last).bind λr_16=>bif r_16 then some true else bif (decide (e_1.Last>4000))then some true else (aQ e_1.Every 1 400).bind λr_20=>bif r_20 then some true else (aQ e_1.Days 1 127).bind λr_23=>some r_23).bind λv_11=>bif v_11 then some 1 else (jY e_1.Except).bind λr_26=>bif (r_26 != 0)then some r_26 else ((aQ e_1.From 0 1439).bind λr_31=>bif r_31 then some true else (aQ e_1.To 0 1439).bind λr_34=>bif r_34 then some true else (aQ e_1.Prio 0 9).bind λr_37=>some r_37).bind λv_29=>bif v_29 then some 1 else (nK e_1.Tags).bind λr_40=>some r_40
theorem wE (e_1:Entry):Le (mJ e_1) (je e_1):=by
 unfold mJ je
 repeat' (with_reducible first|exact Le.refl _|exact jU _|exact xM _|refine Le.cond ?_ ?_|refine Le.bind ?_ (λ_=>?_))
def jL (l_1:(List Entry)) (k_3:Nat) (x_5:Entry) (s_8:Unit):Option (Ctl (Unit) (Int)) :=
 (mJ x_5).bind λr_14=>bif (r_14 != 0)then some (.ret r_14)else (bif (decide ((k_3:Int)>0))then (idx l_1 (w64 ((k_3:Int)-1))).bind λy_20=>some (sLe x_5.Key y_20.Key)else some false).bind λv_17=>bif v_17 then some (.ret 7)else some (.go ())
theorem rZ (l_1:(List Entry)) (k_3:Nat) (x_5:Entry) (s_8:Unit):Le (jL l_1 k_3 x_5 s_8) (gM l_1 k_3 x_5 s_8):=by
 unfold jL gM
 repeat' (with_reducible first|exact Le.refl _|exact wE _|refine Le.cond ?_ ?_|refine Le.bind ?_ (λ_=>?_))
def lJ (l_1:(List Entry)):Option (Int) :=
 bif (decide ((l_1.length:Int)>200))then some 2 else (forL l_1 () (λk x s=>jL l_1 k x s)).bind λo_11=>thenC o_11 (λs_8=>some 0) (λr=>some r)
theorem uX (l_1:(List Entry)):Le (lJ l_1) (iH l_1):=by
 unfold lJ iH
 repeat' (with_reducible first|exact Le.refl _|exact rZ _ _ _ _|refine Le.forL (λ_ _ _=>?_)|refine Le.thenC (λ_=>?_) (λ_=>?_)|refine Le.cond ?_ ?_|refine Le.bind ?_ (λ_=>?_))
def jd (x_1:(List Int)) (target_2:Int):Option (Int×Bool) :=
 (tZ (0,(x_1.length:Int)) (λs=>fK x_1 target_2 s)).bind λo_11=>thenC o_11 (λs_8=>(bif (decide (s_8.1<(x_1.length:Int)))then (idx x_1 s_8.1).bind λy_24=>bif (y_24==target_2)then some true else (idx x_1 s_8.1).bind λy_27=>(jm y_27).bind λr_29=>bif r_29 then (jm target_2).bind λr_32=>some r_32 else some false else some false).bind λv_21=>some (s_8.1,v_21)) (λ_=>none)
theorem qh (x_1:(List Int)) (target_2:Int):Le (jd x_1 target_2) (fu x_1 target_2):=by
 unfold jd fu
 repeat' (with_reducible first|exact Le.refl _|refine Le.loop (λ_=>?_)|refine Le.thenC (λ_=>?_) (λ_=>?_)|refine Le.cond ?_ ?_|refine Le.bind ?_ (λ_=>?_))
def rE (e_1:Entry) (d_2:Int):Option (Bool) :=
 ((aQ d_2 e_1.First e_1.Last).bind λr_6=>bif r_6 then some true else (Jj .i64 (w64 (d_2-e_1.First)) e_1.Every).bind λq_9=>bif (q_9 != 0)then some true else (shlO .i64 1 (d_2.tmod 7)).bind λq_12=>some ((QS .i64 e_1.Days q_12)==0)).bind λv_4=>bif v_4 then some false else (jd e_1.Except d_2).bind λr_15=>some (!r_15.2)
theorem Bf (e_1:Entry) (d_2:Int):Le (rE e_1 d_2) (mM e_1 d_2):=by
 unfold rE mM
 repeat' (with_reducible first|exact Le.refl _|exact qh _ _|refine Le.cond ?_ ?_|refine Le.bind ?_ (λ_=>?_))
def oH (wv_3:Window) (zone_2:Int) (e_1:Entry) (s_15:(List Window)×Int):Option (Ctl ((List Window)×Int) (Unit)) :=
 bif (decide (s_15.2<=(yD (w64 ((w64 ((w64 (wv_3.To+(w64 (zone_2*60000)))).tdiv 86400000))+1)) e_1.Last)))then (rE e_1 s_15.2).bind λr_24=>bif (!r_24)then some (.go (s_15.1,(w64 (s_15.2+1))))else (om e_1 zone_2 s_15.2).bind λr_27=>(bif (decide (r_27.From<wv_3.To))then some (decide (r_27.To>wv_3.From))else some false).bind λv_30=>(bif v_30 then (jc s_15.1 ([r_27]:List Window)).bind λa_37=>some a_37 else some s_15.1).bind λv_33=>some (.go (v_33,(w64 (s_15.2+1))))else some (.brk (s_15.1,s_15.2))
theorem xX (wv_3:Window) (zone_2:Int) (e_1:Entry) (s_15:(List Window)×Int):Le (oH wv_3 zone_2 e_1 s_15) (jR wv_3 zone_2 e_1 s_15):=by
 unfold oH jR
 repeat' (with_reducible first|exact Le.refl _|exact Bf _ _|refine Le.cond ?_ ?_|refine Le.bind ?_ (λ_=>?_))
def rq (e_1:Entry) (zone_2:Int) (wv_3:Window):Option ((List Window)) :=
 (bif e_1.Gone then some true else some (decide (wv_3.From>=wv_3.To))).bind λv_6=>bif v_6 then some ([]:(List Window))else (tZ (([]:List Window),(vH (w64 ((w64 ((w64 (wv_3.From+(w64 (zone_2*60000)))).tdiv 86400000))-2)) e_1.First)) (λs=>oH wv_3 zone_2 e_1 s)).bind λo_21=>thenC o_21 (λs_15=>some s_15.1) (λ_=>none)
theorem AC (e_1:Entry) (zone_2:Int) (wv_3:Window):Le (rq e_1 zone_2 wv_3) (mF e_1 zone_2 wv_3):=by
 unfold rq mF
 repeat' (with_reducible first|exact Le.refl _|exact xX _ _ _ _|refine Le.loop (λ_=>?_)|refine Le.thenC (λ_=>?_) (λ_=>?_)|refine Le.cond ?_ ?_|refine Le.bind ?_ (λ_=>?_))
def ry (e_1:Entry) (zone_2:Int) (wv_3:Window):Option ((List Window)×Int) :=
 (lJ ([e_1]:List Entry)).bind λr_6=>bif (r_6 != 0)then some (([]:(List Window)),r_6)else (aQ zone_2 (-1440) 1440).bind λr_9=>bif r_9 then some (([]:(List Window)),1)else (kv wv_3).bind λr_12=>bif (r_12 != 0)then some (([]:(List Window)),r_12)else (rq e_1 zone_2 wv_3).bind λr_15=>(forL (List.range ((r_15.length:Int)).toNat) r_15 (λk x s=>mf wv_3 k x s)).bind λo_27=>thenC o_27 (λs_24=>some (s_24,0)) (λ_=>none)
theorem Bc (e_1:Entry) (zone_2:Int) (wv_3:Window):Le (ry e_1 zone_2 wv_3) (mV e_1 zone_2 wv_3):=by
 unfold ry mV
 repeat' (with_reducible first|exact Le.refl _|exact uX _|exact AC _ _ _|refine Le.forL (λ_ _ _=>?_)|refine Le.thenC (λ_=>?_) (λ_=>?_)|refine Le.cond ?_ ?_|refine Le.bind ?_ (λ_=>?_))
def oq (l_1:(List ByteArray)):Option (Int) :=
 bif (decide ((l_1.length:Int)>20))then some 2 else (nC l_1).bind λr_3=>some r_3
theorem yF (l_1:(List ByteArray)):Le (oq l_1) (jZ l_1):=by
 unfold oq jZ
 repeat' (with_reducible first|exact Le.refl _|exact tO _|refine Le.cond ?_ ?_|refine Le.bind ?_ (λ_=>?_))
def jE (l_1:(List Campaign)) (k_3:Nat) (x_5:Campaign) (s_8:Unit):Option (Ctl (Unit) (Int)) :=
 ((iM x_5.Key).bind λr_16=>bif (!r_16)then some true else bif (sNe x_5.Class (⟨#[]⟩:ByteArray))then (iM x_5.Class).bind λr_20=>some (!r_20)else some false).bind λv_14=>bif v_14 then some (.ret 5)else (bif (decide ((k_3:Int)>0))then (idx l_1 (w64 ((k_3:Int)-1))).bind λy_26=>some (sLe x_5.Key y_26.Key)else some false).bind λv_23=>bif v_23 then some (.ret 7)else ((pF x_5.Time).bind λr_31=>bif (!r_31)then some true else (aQ x_5.Goal 0 1000000).bind λr_34=>bif r_34 then some true else (aQ x_5.Most 0 1000000).bind λr_37=>bif r_37 then some true else (aQ x_5.Cents 0 1000000000).bind λr_40=>some r_40).bind λv_29=>bif v_29 then some (.ret 1)else (oq x_5.Tags).bind λr_43=>bif (r_43 != 0)then some (.ret r_43)else some (.go ())
theorem qW (l_1:(List Campaign)) (k_3:Nat) (x_5:Campaign) (s_8:Unit):Le (jE l_1 k_3 x_5 s_8) (fZ l_1 k_3 x_5 s_8):=by
 unfold jE fZ
 repeat' (with_reducible first|exact Le.refl _|exact jU _|exact yF _|refine Le.cond ?_ ?_|refine Le.bind ?_ (λ_=>?_))
def kS (l_1:(List Campaign)):Option (Int) :=
 bif (decide ((l_1.length:Int)>30))then some 2 else (forL l_1 () (λk x s=>jE l_1 k x s)).bind λo_11=>thenC o_11 (λs_8=>some 0) (λr=>some r)
theorem ul (l_1:(List Campaign)):Le (kS l_1) (iA l_1):=by
 unfold kS iA
 repeat' (with_reducible first|exact Le.refl _|exact qW _ _ _ _|refine Le.forL (λ_ _ _=>?_)|refine Le.thenC (λ_=>?_) (λ_=>?_)|refine Le.cond ?_ ?_|refine Le.bind ?_ (λ_=>?_))
def xg (c_1:Campaign) (atv_2:Int):Option (Int×Int) :=
 (kS ([c_1]:List Campaign)).bind λr_4=>bif (r_4 != 0)then some (0,r_4)else (di atv_2).bind λr_7=>bif (!r_7)then some (0,1)else (uF c_1 atv_2).bind λr_10=>some (r_10,0)
theorem ET (c_1:Campaign) (atv_2:Int):Le (xg c_1 atv_2) (qG c_1 atv_2):=by
 unfold xg qG
 repeat' (with_reducible first|exact Le.refl _|exact ul _|refine Le.cond ?_ ?_|refine Le.bind ?_ (λ_=>?_))
def mK (l_1:(List Beat)) (k_3:Nat) (x_5:Beat) (s_8:Unit):Option (Ctl (Unit) (Int)) :=
 (iM x_5.Player).bind λr_14=>bif (!r_14)then some (.ret 5)else ((di x_5.At).bind λr_19=>bif (!r_19)then some true else (aQ x_5.Clock 0 345686399999).bind λr_22=>some r_22).bind λv_17=>bif v_17 then some (.ret 1)else (bif (decide ((k_3:Int)>0))then (idx l_1 (w64 ((k_3:Int)-1))).bind λy_28=>(lL y_28 x_5).bind λr_30=>some (decide (r_30>=0))else some false).bind λv_25=>bif v_25 then some (.ret 7)else (bif (decide ((k_3:Int)>0))then (idx l_1 (w64 ((k_3:Int)-1))).bind λy_36=>bif (sEq x_5.Player y_36.Player)then (idx l_1 (w64 ((k_3:Int)-1))).bind λy_39=>some (decide (x_5.Clock<=y_39.Clock))else some false else some false).bind λv_33=>bif v_33 then some (.ret 16)else some (.go ())
theorem xx (l_1:(List Beat)) (k_3:Nat) (x_5:Beat) (s_8:Unit):Le (mK l_1 k_3 x_5 s_8) (jg l_1 k_3 x_5 s_8):=by
 unfold mK jg
 repeat' (with_reducible first|exact Le.refl _|exact jU _|refine Le.cond ?_ ?_|refine Le.bind ?_ (λ_=>?_))
def pQ (l_1:(List Beat)):Option (Int) :=
 bif (decide ((l_1.length:Int)>500))then some 2 else (forL l_1 () (λk x s=>mK l_1 k x s)).bind λo_11=>thenC o_11 (λs_8=>some 0) (λr=>some r)
theorem zk (l_1:(List Beat)):Le (pQ l_1) (kM l_1):=by
 unfold pQ kM
 repeat' (with_reducible first|exact Le.refl _|exact xx _ _ _ _|refine Le.forL (λ_ _ _=>?_)|refine Le.thenC (λ_=>?_) (λ_=>?_)|refine Le.cond ?_ ?_|refine Le.bind ?_ (λ_=>?_))
def uK (l_1:(List Beat_)) (n_2:Int):Option (Int×Int) :=
 bif ((l_1.length:Int)==0)then some (0,8)else (tZ 0 (λs=>oo l_1 n_2 s)).bind λo_12=>thenC o_12 (λs_9=>bif (s_9==0)then (idx l_1 0).bind λy_21=>(idx l_1 0).bind λy_23=>(di (w64 (y_21.f_to-(w64 (y_23.f_from-n_2))))).bind λr_25=>bif (!r_25)then some (0,11)else some ((w64 (y_21.f_to-(w64 (y_23.f_from-n_2)))),0)else bif (s_9==(l_1.length:Int))then (idx l_1 (w64 (s_9-1))).bind λy_29=>(idx l_1 (w64 (s_9-1))).bind λy_31=>(di (w64 ((w64 (y_29.f_to+n_2))-y_31.f_from))).bind λr_33=>bif (!r_33)then some (0,11)else some ((w64 ((w64 (y_29.f_to+n_2))-y_31.f_from)),0)else (idx l_1 (w64 (s_9-1))).bind λy_36=>(idx l_1 s_9).bind λy_38=>(bif (decide ((w64 (y_38.f_from-y_36.f_from))>2592000000))then some true else some (decide ((w64 (y_38.f_to-y_36.f_to))>2592000000))).bind λv_42=>bif v_42 then some (0,2)else (Lv .i64 (w64 ((w64 (n_2-y_36.f_from))*(w64 (y_38.f_to-y_36.f_to)))) (w64 (y_38.f_from-y_36.f_from))).bind λq_46=>(di (w64 (y_36.f_to+q_46))).bind λr_48=>bif (!r_48)then some (0,11)else some ((w64 (y_36.f_to+q_46)),0)) (λ_=>none)
theorem Di (l_1:(List Beat_)) (n_2:Int):Le (uK l_1 n_2) (pG l_1 n_2):=by
 unfold uK pG
 repeat' (with_reducible first|exact Le.refl _|refine Le.loop (λ_=>?_)|refine Le.thenC (λ_=>?_) (λ_=>?_)|refine Le.cond ?_ ?_|refine Le.bind ?_ (λ_=>?_))
def wT (l_1:(List Beat)) (player_2:ByteArray) (n_3:Int) (back_4:Bool):Option (Int×Int) :=
 (pQ l_1).bind λr_5=>bif (r_5 != 0)then some (0,r_5)else (iM player_2).bind λr_8=>bif (!r_8)then some (0,5)else (di n_3).bind λr_11=>bif (!r_11)then some (0,1)else (qx l_1 player_2 back_4).bind λr_14=>(uK r_14 n_3).bind λr_16=>some (r_16.1,r_16.2)
theorem EB (l_1:(List Beat)) (player_2:ByteArray) (n_3:Int) (back_4:Bool):Le (wT l_1 player_2 n_3 back_4) (qL l_1 player_2 n_3 back_4):=by
 unfold wT qL
 repeat' (with_reducible first|exact Le.refl _|exact jU _|exact zk _|exact Di _ _|refine Le.cond ?_ ?_|refine Le.bind ?_ (λ_=>?_))
def wN (l_1:(List Beat)) (player_2:ByteArray) (clock_3:Int):Option (Int×Int) :=
 (wT l_1 player_2 clock_3 false).bind λr_4=>some (r_4.1,r_4.2)
theorem Ec (l_1:(List Beat)) (player_2:ByteArray) (clock_3:Int):Le (wN l_1 player_2 clock_3) (qI l_1 player_2 clock_3):=by
 unfold wN qI
 repeat' (with_reducible first|exact Le.refl _|exact EB _ _ _ _|refine Le.bind ?_ (λ_=>?_))
def nP (a_1:Alert) (k_4:Nat) (x_6:ByteArray) (s_9:Unit):Option (Ctl (Unit) (Int)) :=
 (iM x_6).bind λr_14=>bif (!r_14)then some (.ret 5)else (bif (decide ((k_4:Int)>0))then (idx a_1.Refs (w64 ((k_4:Int)-1))).bind λy_20=>some (sLe x_6 y_20)else some false).bind λv_17=>bif v_17 then some (.ret 7)else bif (sEq x_6 a_1.Id)then some (.ret 14)else some (.go ())
theorem xS (a_1:Alert) (k_4:Nat) (x_6:ByteArray) (s_9:Unit):Le (nP a_1 k_4 x_6 s_9) (dQ a_1 k_4 x_6 s_9):=by
 unfold nP dQ
 repeat' (with_reducible first|exact Le.refl _|exact jU _|refine Le.cond ?_ ?_|refine Le.bind ?_ (λ_=>?_))
def qi (a_1:Alert):Option (Int) :=
 bif (decide ((a_1.Refs.length:Int)>20))then some 2 else (forL a_1.Refs () (λk x s=>nP a_1 k x s)).bind λo_12=>thenC o_12 (λs_9=>bif (!((a_1.Kind==1)==((a_1.Refs.length:Int)==0)))then some 3 else some 0) (λr=>some r)
theorem Ac (a_1:Alert):Le (qi a_1) (gN a_1):=by
 unfold qi gN
 repeat' (with_reducible first|exact Le.refl _|exact xS _ _ _ _|refine Le.forL (λ_ _ _=>?_)|refine Le.thenC (λ_=>?_) (λ_=>?_)|refine Le.cond ?_ ?_|refine Le.bind ?_ (λ_=>?_))
def pg (a_1:Alert):Option (Int) :=
 ((iM a_1.Id).bind λr_5=>bif (!r_5)then some true else (iM a_1.Sender).bind λr_8=>some (!r_8)).bind λv_3=>bif v_3 then some 5 else (aQ a_1.Kind 1 3).bind λr_11=>bif r_11 then some 4 else (qi a_1).bind λr_14=>bif (r_14 != 0)then some r_14 else ((di a_1.At).bind λr_19=>bif (!r_19)then some true else (aQ a_1.Until (w64 (a_1.At+1)) (w64 (a_1.At+2592000000))).bind λr_22=>bif r_22 then some true else (aQ a_1.Weight 1 9).bind λr_25=>some r_25).bind λv_17=>bif v_17 then some 1 else bif (decide ((a_1.Areas.length:Int)>20))then some 2 else (forL a_1.Areas () (λk x s=>dU k x s)).bind λo_37=>thenC o_37 (λs_34=>bif (!((a_1.Kind==3)==((a_1.Areas.length:Int)==0)))then some 3 else bif (decide ((a_1.Text.size:Int)>500))then some 2 else ((dW a_1.Text).bind λr_47=>bif (!r_47)then some true else bif (sEq a_1.Text (⟨#[]⟩:ByteArray))then some (!(a_1.Kind==3))else some false).bind λv_45=>bif v_45 then some 3 else some 0) (λr=>some r)
theorem zb (a_1:Alert):Le (pg a_1) (fO a_1):=by
 unfold pg fO
 repeat' (with_reducible first|exact Le.refl _|exact jU _|exact Ac _|exact dJ _|exact Dz _|refine Le.forL (λ_ _ _=>?_)|refine Le.thenC (λ_=>?_) (λ_=>?_)|refine Le.cond ?_ ?_|refine Le.bind ?_ (λ_=>?_))
def l7 (l_1:(List Alert)) (k_3:Nat) (x_5:Alert) (s_8:Unit):Option (Ctl (Unit) (Int)) :=
 (pg x_5).bind λr_14=>bif (r_14 != 0)then some (.ret r_14)else (bif (decide ((k_3:Int)>0))then (idx l_1 (w64 ((k_3:Int)-1))).bind λy_20=>(gL y_20 x_5).bind λr_22=>some (decide (r_22>=0))else some false).bind λv_17=>bif v_17 then some (.ret 7)else some (.go ())
theorem vU (l_1:(List Alert)) (k_3:Nat) (x_5:Alert) (s_8:Unit):Le (l7 l_1 k_3 x_5 s_8) (fG l_1 k_3 x_5 s_8):=by
 unfold l7 fG
 repeat' (with_reducible first|exact Le.refl _|exact zb _|refine Le.cond ?_ ?_|refine Le.bind ?_ (λ_=>?_))
def oK (l_1:(List Alert)):Option (Int) :=
 bif (decide ((l_1.length:Int)>300))then some 2 else (forL l_1 () (λk x s=>l7 l_1 k x s)).bind λo_11=>thenC o_11 (λs_8=>(forL l_1 ([]:List (ByteArray×Bool)) (λk x s=>fE k x s)).bind λo_34=>thenC o_34 (λs_31=>some 0) (λr=>some r)) (λr=>some r)
theorem yw (l_1:(List Alert)):Le (oK l_1) (bW l_1):=by
 unfold oK bW
 repeat' (with_reducible first|exact Le.refl _|exact vU _ _ _ _|refine Le.forL (λ_ _ _=>?_)|refine Le.thenC (λ_=>?_) (λ_=>?_)|refine Le.cond ?_ ?_|refine Le.bind ?_ (λ_=>?_))
def mW (l_1:(List Post)) (k_3:Nat) (x_5:Post) (s_8:Unit):Option (Ctl (Unit) (Int)) :=
 (iM x_5.Player).bind λr_14=>bif (!r_14)then some (.ret 5)else ((aQ x_5.X (-100000) 100000).bind λr_19=>bif r_19 then some true else (aQ x_5.Y (-100000) 100000).bind λr_22=>some r_22).bind λv_17=>bif v_17 then some (.ret 1)else (bif (decide ((k_3:Int)>0))then (idx l_1 (w64 ((k_3:Int)-1))).bind λy_28=>some (sLe x_5.Player y_28.Player)else some false).bind λv_25=>bif v_25 then some (.ret 7)else some (.go ())
theorem wJ (l_1:(List Post)) (k_3:Nat) (x_5:Post) (s_8:Unit):Le (mW l_1 k_3 x_5 s_8) (jh l_1 k_3 x_5 s_8):=by
 unfold mW jh
 repeat' (with_reducible first|exact Le.refl _|exact jU _|refine Le.cond ?_ ?_|refine Le.bind ?_ (λ_=>?_))
def pO (l_1:(List Post)):Option (Int) :=
 bif (decide ((l_1.length:Int)>500))then some 2 else (forL l_1 () (λk x s=>mW l_1 k x s)).bind λo_11=>thenC o_11 (λs_8=>some 0) (λr=>some r)
theorem zm (l_1:(List Post)):Le (pO l_1) (lh l_1):=by
 unfold pO lh
 repeat' (with_reducible first|exact Le.refl _|exact wJ _ _ _ _|refine Le.forL (λ_ _ _=>?_)|refine Le.thenC (λ_=>?_) (λ_=>?_)|refine Le.cond ?_ ?_|refine Le.bind ?_ (λ_=>?_))
def qa (l_1:(List Alert)) (posts_2:(List Post)):Option (Int) :=
 (oK l_1).bind λr_3=>bif (r_3 != 0)then some r_3 else (pO posts_2).bind λr_6=>some r_6
theorem zM (l_1:(List Alert)) (posts_2:(List Post)):Le (qa l_1 posts_2) (lX l_1 posts_2):=by
 unfold qa lX
 repeat' (with_reducible first|exact Le.refl _|exact yw _|exact zm _|refine Le.cond ?_ ?_|refine Le.bind ?_ (λ_=>?_))
def ug (a_1:Alert) (p_2:Post):Option (Bool×Int) :=
 (qa ([a_1]:List Alert) ([p_2]:List Post)).bind λr_5=>bif (r_5 != 0)then some (false,r_5)else (qC a_1 p_2).bind λr_8=>some (r_8,0)
theorem BQ (a_1:Alert) (p_2:Post):Le (ug a_1 p_2) (nX a_1 p_2):=by
 unfold ug nX
 repeat' (with_reducible first|exact Le.refl _|exact zM _ _|refine Le.cond ?_ ?_|refine Le.bind ?_ (λ_=>?_))
def yj  : Option (Bool) :=
 (wF ([(⟨0,0,2,2⟩:Rect),(⟨1,1,2,2⟩:Rect)]:List Rect)).bind λr_1=>(ry (⟨(⟨#[97]⟩:ByteArray),(⟨#[98]⟩:ByteArray),0,0,0,1,127,([]:List Int),1,2,0,([]:List ByteArray),false⟩:Entry) 0 (⟨0,86400000⟩:Window)).bind λr_3=>(xg (⟨(⟨#[97]⟩:ByteArray),(⟨#[]⟩:ByteArray),(⟨0,100⟩:Window),([]:List ByteArray),10,0,0⟩:Campaign) 50).bind λr_5=>(wN ([(⟨(⟨#[112]⟩:ByteArray),0,100⟩:Beat),(⟨(⟨#[112]⟩:ByteArray),1000,1300⟩:Beat)]:List Beat) (⟨#[112]⟩:ByteArray) 700).bind λr_7=>(ug (⟨(⟨#[97]⟩:ByteArray),(⟨#[115]⟩:ByteArray),1,([]:List ByteArray),0,5,1,([(⟨0,0,2,2⟩:Rect)]:List Rect),(⟨#[120]⟩:ByteArray)⟩:Alert) (⟨(⟨#[112]⟩:ByteArray),1,1⟩:Post)).bind λr_10=>((p9 ([r_1.2,r_3.2,r_5.2,r_7.2,r_10.2]:List Int)).bind λr_14=>bif (r_14==0)then bif (r_1.1==7)then bif ((r_3.1.length:Int)==1)then bif (r_5.1==5)then bif (r_7.1==500)then some r_10.1 else some false else some false else some false else some false else some false).bind λv_12=>some v_12
theorem Gm  : Le (yj) (qg):=by
 unfold yj qg
 repeat' (with_reducible first|exact Le.refl _|exact Es _|exact Bc _ _ _|exact ET _ _|exact Ec _ _ _|exact BQ _ _|refine Le.cond ?_ ?_|refine Le.bind ?_ (λ_=>?_))
end Go.Proofs.YtkjlhdminmpmkabGreatDoor.Law

open Go Go.Eng
namespace Go.Proofs.YtkjlhdminmpmkabGreatDoor.Law
set_option linter.unusedVariables false
set_option maxRecDepth 100000
theorem ready_F:yj=some true:=by kernel_rfl
theorem Qw:qg=some true:=Gm _ ready_F
end Go.Proofs.YtkjlhdminmpmkabGreatDoor.Law


open Go Go.Eng
namespace Go.Proofs.YtkjlhdminmpmkabGreatDoor.Law
set_option linter.unusedVariables false
set_option linter.unusedSimpArgs false
def Az (k:ByteArray):List Alert->Option Nat
 | []=>none
 | x::xs=>if k=x.Id then some 0 else (Az k xs).map (· + 1)
theorem Jc {k:ByteArray}:∀{l:List Alert} {i:Nat},Az k l=some i->∃h:i<l.length,l[i].Id=k
 | [],_,h=>by cases h
 | x::xs,i,h=>by
  unfold Az at h
  split at h
  ·rename_i e
   simp only [so_]at h
   subst h
   exact⟨by simp,e.symm⟩
  ·obtain ⟨j,hj,rfl⟩:=Option.map_eq_some_iff.1 h
   obtain ⟨h1,h2⟩:=Jc hj
   exact⟨by simpa using h1,by simpa using h2⟩
theorem BX {k:ByteArray}:∀{l:List Alert},Az k l=none->∀x∈l,x.Id≠k
 | [],_,_,hx=>by cases hx
 | y::ys,h,x,hx=>by
  unfold Az at h
  split at h
  ·cases h
  ·rename_i e
   rcases List.mem_cons.1 hx with rfl|hx
   ·exact λhh=>e hh.symm
   ·exact BX (Option.map_eq_none_iff.1 h) x hx
def JI (out:List Alert) (x:Alert):Option (List Alert):=match Az x.Id out with
 | none=>some (out++[x])
 | some i=>if out[i]? = some x then some out else none
def JP:List Alert->List Alert->Option (List Alert)
 | out,[]=>some out
 | out,x::xs=>(JI out x).bind λo=>JP o xs
def zu (a:Alert):ByteArray×Alert:=(a.Id,a)
theorem mGetA (k:ByteArray):∀out:List Alert,kw eqS (out.map zu) k=(Az k out).bind λi=>out[i]?
 | []=>rfl
 | x::xs=>by
  rw [List.map_cons,vT,Az,show (zu x).1=x.Id from rfl,show (zu x).2=x from rfl]
  by_cases h:k=x.Id
  ·rw [if_pos ((y5 _ _).2 h),if_pos h];rfl
  ·rw [if_neg (λq=>h ((y5 _ _).1 q)),if_neg h,mGetA k xs]
   cases Az k xs <;> simp
theorem mSetA (x:Alert):∀out:List Alert,Az x.Id out=none->pR eqS (out.map zu) x.Id x=(out++[x]).map zu
 | [],_=>rfl
 | y::ys,h=>by
  unfold Az at h
  split at h
  ·cases h
  ·rename_i e
   rw [List.map_cons,Hf,show (zu y).1=y.Id from rfl,if_neg (λq=>e ((y5 _ _).1 q)),mSetA x ys (Option.map_eq_none_iff.1 h)]
   rfl
def outA (o:Option (List Alert)) {σ:Type} (f:List Alert->σ):Ctl σ (List Alert×Int):=match o with
 | none => .ret ([],13)
 | some l => .go (f l)
theorem Oo {a:Alert} (h:GA a):qK a=some a:=by
 unfold qK iw fQ
 rw [kr _ _ (by have:=h.rlen;simp;omega),kr _ _ (by have:=h.alen;simp;omega)]
 simp
theorem progA {out:List Alert} {x:Alert} (hx:RA x) (ho:∀o∈out,RA o) (hl:out.length<=1000) (k:Nat):jD k x (out.map zu,out)=some (outA (JI out x) λl=>(l.map zu,l)):=by
 unfold jD JI
 simp only [mGetA]
 cases hk:Az x.Id out with
 | none =>
  have hs:=mSetA x out hk
  simp only [Option.bind_none,Option.isSome_none,Bool.not_false,cond_true,Oo hx.1,ob_,kr out [x] (by simp;omega),hs]
  rfl
 | some i =>
  obtain ⟨hi,hk2⟩:=Jc hk
  simp only [ob_,List.getElem?_eq_getElem hi,Option.isSome_some,Bool.not_true,cond_false,Option.getD_some,Oh (ho _ (List.getElem_mem hi)).1]
  by_cases he:out[i]=x
  ·simp only [decide_eq_true he,Bool.not_true,cond_false,he,if_true];rfl
  ·have:¬(some out[i]=some x):=λh=>he (Option.some.inj h)
   simp only [decide_eq_false he,Bool.not_false,cond_true,if_neg this];rfl
def KA (l:List Alert):Prop:=(l.map (·.Id)).Nodup
theorem addA_ok {out:List Alert} {x:Alert} (hx:RA x) (ho:∀o∈out,RA o) (hn:KA out) {r:List Alert} (h:JI out x=some r):(∀o∈r,RA o)/\r.length<=out.length+1/\KA r:=by
 unfold JI at h
 cases hk:Az x.Id out with
 | none =>
  rw [hk]at h
  simp only [so_]at h
  subst h
  refine⟨λo ho' => ?_,by simp,?_⟩
  ·rcases List.mem_append.1 ho' with h1|h1
   ·exact ho o h1
   ·simp only [List.mem_singleton]at h1;rw [h1];exact hx
  ·unfold KA
   rw [List.map_append,List.nodup_append]
   refine⟨hn,by simp,λa ha b hb => ?_⟩
   simp only [List.map_cons,List.map_nil,List.mem_singleton]at hb
   obtain ⟨y,hy,rfl⟩:=List.mem_map.1 ha
   rw [hb]
   exact BX hk y hy
 | some i =>
  rw [hk]at h
  simp only at h
  split at h
  ·simp only [so_]at h
   subst h
   exact⟨ho,by omega,hn⟩
  ·cases h
theorem Hd {σ:Type} {B:Nat->Alert->σ->Option (Ctl σ (List Alert×Int))} (f:List Alert->σ) (hB:∀k x out,RA x->(∀o∈out,RA o)->out.length<=1000->B k x (f out)=some (outA (JI out x) f)):∀(xs:List Alert) (k:Nat) (out:List Alert),(∀x∈xs,RA x)->(∀o∈out,RA o)->KA out->out.length+xs.length<=1000 ->
  forR B xs k (f out)=some (outA (JP out xs) f)
 | [],k,out,_,_,_,_=>rfl
 | x::xs,k,out,hx,ho,hn,hl=>by
  simp only [List.length_cons]at hl
  simp only [forR,hB k x out (hx x (by simp)) ho (by omega),ob_,JP]
  cases ha:JI out x with
  | none=>rfl
  | some o1 =>
   obtain ⟨k1,k2,k3⟩:=addA_ok (hx x (by simp)) ho hn ha
   simp only [outA,ob_]
   exact Hd f hB xs (k+1) o1 (λy hy=>hx y (List.mem_cons_of_mem _ hy)) k1 k3 (by omega)
theorem LG (a b:List Alert) (ha:a.length<=1000) (hb:b.length<=1000):dF [a,b]=some (a++b):=by
 unfold dF
 have e1:forL [a,b] 0 (λk x s=>bv k x s)=some (.go (((a.length+b.length:Nat)):Int)):=by
  rw [iX (by simp)]
  have q1:∀k,bv k a 0=some (.go (a.length:Int)):=λk=>by
   unfold bv
   rw [show (0:Int)+(a.length:Int)=(a.length:Int) by omega,jl (by omega),decide_eq_false (by omega)];rfl
  have q2:∀k,bv k b (a.length:Int)=some (.go ((a.length+b.length:Nat):Int)):=λk=>by
   unfold bv
   rw [jl (by omega),decide_eq_false (by omega)]
   simp
  simp only [forR,q1,q2,ob_]
 have e2:∃g,dG (((a.length+b.length:Nat)):Int)=some g:=by
  unfold dG
  have q:w64 ((((a.length+b.length:Nat)):Int)-w64 (0-0))=((a.length+b.length:Nat):Int):=by
   rw [jl (n:=0-0) (by decide),jl (by omega)];omega
  rw [decide_eq_false (by omega),cond_false,q]
  by_cases h:(((a.length+b.length:Nat)):Int)>0
  ·rw [decide_eq_true h,cond_true]
   unfold zN
   rw [if_pos ⟨h,by omega,by omega⟩];exact⟨_,rfl⟩
  ·rw [decide_eq_false h];exact⟨_,rfl⟩
 obtain ⟨g,e2⟩:=e2
 have e3:forL [a,b] ([]:List Alert) (λk x s=>bu k x s)=some (.go (a++b)):=by
  rw [iX (by simp)]
  have q1:∀k,bu k a []=some (.go a):=λk=>by
   unfold bu
   rw [kr _ _ (by simp;omega)];rfl
  have q2:∀k,bu k b a=some (.go (a++b)):=λk=>by
   unfold bu
   rw [kr _ _ (by omega)];rfl
  simp only [forR,q1,q2,ob_]
 simp only [e1,e2,e3,ob_,lU]
theorem sort12r {α:Type} {cmp:α->α->Option Int} {S:List α->Option (List α)} (hS:∀x,S x=(gJ (IntKind.u64.wrap (x.length:Int))).bind λr_3=>(Cc cmp x 0 (x.length:Int) r_3).bind λr_5=>(iR r_5 x).bind λ_=>some r_5)
  {xs:List α} (hl:xs.length<=12) {R:α->α->Prop} (hF:∀a∈xs,∀b∈xs,∃n,cmp a b=some n/\(n<0↔R a b)) (has:∀a b,R a b->¬R b a) (hn:∀a b d,¬R a b->¬R b d->¬R a d) :
  ∃r,S xs=some r/\r.Perm xs/\r.Pairwise (λa b=>¬R b a):=by
 obtain ⟨k,hk⟩:=Lg xs.length hl
 obtain ⟨s,h1,h2,h3⟩:=Mo (cmp:=cmp) (le:=λa b=>¬R b a) (p:=(· ∈ xs)) (λa b ha hb=>by
  obtain ⟨n,n1,n2⟩:=hF a ha b hb
  exact⟨n,n1,λh=>has a b (n2.1 h),λh=>λq=>h (n2.2 q)⟩) (λa b d h k=>hn d b a k h) xs hl (λx hx=>hx) k
 refine⟨s,?_,h2,h3⟩
 have hsm:iR s xs=some ():=by unfold iR;rw [if_pos h2.length_eq]
 rw [hS,hk,ob_,h1,ob_,hsm];rfl
theorem IX {r:List Alert} (h:∀x∈r,RA x) (hl:r.length<=1000):aO r r=some true:=by
 unfold aO
 have e1:((r.length:Int) != (r.length:Int))=false:=by simp
 obtain ⟨s,s1,_⟩:=pq (body:=λk x s=>aY r k x s) (ρ:=Bool) (λ_ _=>True) (xs:=r) (s:=()) (by omega) (λk x s hx _=>by
  refine⟨(),?_,trivial⟩
  unfold aY
  have hx':=List.mem_of_getElem? hx
  rw [wG,hx,ob_,sameRA (h x hx') (h x hx')]
  simp) trivial
 rw [e1,cond_false,s1];rfl
end Go.Proofs.YtkjlhdminmpmkabGreatDoor.Law

open Go Go.Eng
namespace Go.Proofs.YtkjlhdminmpmkabGreatDoor.Law
set_option linter.unusedVariables false
set_option linter.unusedSimpArgs false
set_option maxRecDepth 100000
theorem PI (l:List ByteArray) (v:ByteArray) (hl:l.length<=1000000):cO l v=some (decide (v∈l)):=by
 unfold cO iq
 rw [iX (by omega)]
 rcases xY (f:=λx=>some (sEq v x)) (p:=λx=>sEq v x) (B:=λk x s=>gq v k x s) (λk x=>rfl) l 0 (λx _=>rfl)with⟨h1,h2⟩|⟨j,x,h1,h2,_,h4,_⟩
 ·rw [h2]
  have:v∉l:=λhm=>by
   have:l.any (λx=>sEq v x)=true:=List.any_eq_true.2 ⟨v,hm,(wC v v).2 rfl⟩
   rw [h1]at this;cases this
  rw [decide_eq_false this];rfl
 ·rw [h4]
  have:v∈l:=by rw [(wC _ _).1 h2];exact List.mem_of_getElem? h1
  rw [decide_eq_true this]
  simp only [ob_,thenC]
  rw [decide_eq_true (by omega)]
end Go.Proofs.YtkjlhdminmpmkabGreatDoor.Law

open Go Go.Eng Go.Flow
namespace Go.Proofs.YtkjlhdminmpmkabGreatDoor.Law
set_option linter.unusedVariables false
set_option linter.unusedSimpArgs false
set_option linter.unusedSectionVars false
section
variable {l:List Alert} {f:Nat}
theorem Rc.trans {i j:Nat} (h:Rc l f i) (k:Rc l i j):Rc l f j:=by
 induction k with
 | base=>exact h
 | step _ e ih=>exact ih.step e
theorem Rc.symm {i:Nat} (h:Rc l f i):Rc l i f:=by
 induction h with
 | base=>exact .base
 | step _ e ih=>exact (Rc.base.step e.symm).trans ih
theorem MM (hca:CA l) (hc:bW l=some 0) (hf:f<l.length):∃T,lK l (idOf l f)=some (T,0)/\T.Nodup/\T.Pairwise (λa b=>¬lt b a)/\T.length<=12/\∀y,y∈T↔∃i,Rc l f i/\idOf l i=y:=by
 have hlen:=hca.len
 obtain ⟨rows,n1,n2⟩:=near_ok hca
 obtain ⟨s',b1,done,b2,b3,b4⟩:=bfs_ok hca hf n2
 have hnd:(done.map (idOf l)).Nodup:=by
  refine List.pairwise_map.2 (b3.imp_of_mem (λ{i j} hi hj h e=>h ?_))
  exact PM hca.ids (((b4 i).1 hi).lt hf) (((b4 j).1 hj).lt hf) e
 have hdl:done.length<=l.length:=by
  have h1:done.length<=(List.range l.length).length:=List.Nodup.length_le_of_subset b3 (λi hi=>List.mem_range.2 (((b4 i).1 hi).lt hf))
  rwa [List.length_range]at h1
 have hLs:s'.2.2.1.length<=12:=by rw [b2,List.length_map];omega
 obtain ⟨T,t1,t2,t3⟩:=sortSt (xs:=s'.2.2.1) hLs
 have hidx:bf l (λx0=>kW x0 (idOf l f))=some (f:Int):=by
  unfold bf
  rw [iX (by omega)]
  have hfl:=List.getElem?_eq_getElem hf
  rcases xY (f:=λx0=>kW x0 (idOf l f)) (p:=λo=>sEq o.Id (idOf l f)) (B:=λk x s=>bD (λx0=>kW x0 (idOf l f)) k x s) (λk x=>rfl) l 0 (λx _=>rfl)with⟨h1,h2⟩|⟨j,x,h1,h2,_,h4,_⟩
  ·have:(l.any λo=>sEq o.Id (idOf l f))=true:=List.any_eq_true.2 ⟨l[f],List.getElem_mem hf,(wC _ _).2 (wu hfl).symm⟩
   rw [h1]at this;cases this
  ·have hj:j=f:=tF hca.ids h1 hfl (by rw [(wC _ _).1 h2,wu hfl])
   rw [h4,<- hj]
   simp only [ob_,thenC,Nat.zero_add]
 have hmk:mkN (l.length:Int) 24=some l.length:=by
  unfold mkN
  rw [if_pos (by omega)];simp
 have hnz:nzI (l.length:Int)=some ():=by unfold nzI;rw [if_pos (by omega)]
 refine⟨T,?_,t2.nodup_iff.2 (by rw [b2];exact hnd),t3,by rw [t2.length_eq];exact hLs,λy => ?_⟩
 ·unfold lK
  simp only [hc,ob_,bne_self_eq_false,cond_false,hidx,decide_eq_false (show ¬((f:Int)<0) by omega),hmk,hnz,n1,lU,b1,t1,KM t2.length_eq]
 ·rw [t2.mem_iff,b2,List.mem_map]
  exact⟨fun⟨i,h1,h2⟩=>⟨i,(b4 i).1 h1,h2⟩,fun⟨i,h1,h2⟩=>⟨i,(b4 i).2 h1,h2⟩⟩
theorem Mk (hca:CA l) (hc:bW l=some 0) (hf:f<l.length) {T:List ByteArray} (h1:T.Nodup) (h2:T.Pairwise (λa b=>¬lt b a)) (h3:∀y,y∈T↔∃i,Rc l f i/\idOf l i=y) {y:ByteArray} (hy:y∈T):lK l y=some (T,0):=by
 obtain ⟨i,hi,rfl⟩:=(h3 y).1 hy
 obtain ⟨T',t1,t2,t3,_,t5⟩:=MM hca hc (hi.lt hf)
 have hp:T'.Perm T:=(List.perm_ext_iff_of_nodup t2 h1).2 (λy=>by
  rw [t5,h3]
  exact⟨fun⟨j,q1,q2⟩=>⟨j,hi.trans q1,q2⟩,fun⟨j,q1,q2⟩=>⟨j,hi.symm.trans q1,q2⟩⟩)
 rw [t1,NC hp t3 h2]
theorem BL (hid:(l.map (·.Id)).Nodup):∀(xs out:List Alert),(∀x∈xs,x∈l)->(∀x∈out,x∈l)->KA out->∃u,JP out xs=some u/\KA u/\(∀x,x∈u↔x∈out\/x∈xs)
 | [],out,_,_,hn=>⟨out,rfl,hn,λx=>by simp⟩
 | x::xs,out,hx,ho,hn=>by
  have hxl:=hx x (by simp)
  unfold JP JI
  cases hk:Az x.Id out with
  | none =>
   have hno:=BX hk
   obtain ⟨u,u1,u2,u3⟩:=BL hid xs (out++[x]) (λy hy=>hx y (List.mem_cons_of_mem _ hy)) (λy hy=>by
    rcases List.mem_append.1 hy with hy|hy
    ·exact ho y hy
    ·rw [List.mem_singleton.1 hy];exact hxl) (by
    unfold KA at hn ⊢
    rw [List.map_append]
    exact List.nodup_append.2 ⟨hn,by simp,λa ha b hb e=>by
     obtain ⟨y,hy,rfl⟩:=List.mem_map.1 ha
     have:b=x.Id:=by simpa using hb
     exact hno y hy (e.trans this)⟩)
   refine⟨u,u1,u2,λy => ?_⟩
   rw [u3,List.mem_append,List.mem_singleton,List.mem_cons,or_assoc]
  | some i =>
   obtain ⟨hi,hk2⟩:=Jc hk
   have hmo:=List.getElem_mem hi
   obtain ⟨m,hm⟩:=List.getElem?_of_mem (ho _ hmo)
   obtain ⟨m',hm'⟩:=List.getElem?_of_mem hxl
   have e:out[i]=x:=by
    have:=tF hid hm hm' hk2
    subst this
    rw [hm]at hm'
    exact Option.some.inj hm'
   simp only [List.getElem?_eq_getElem hi,e,if_true,ob_]
   obtain ⟨u,u1,u2,u3⟩:=BL hid xs out (λy hy=>hx y (List.mem_cons_of_mem _ hy)) ho hn
   refine⟨u,u1,u2,λy => ?_⟩
   rw [u3]
   constructor
   ·rintro (h|h)
    ·exact .inl h
    ·exact .inr (List.mem_cons_of_mem _ h)
   ·rintro (h|h)
    ·exact .inl h
    ·rcases List.mem_cons.1 h with h|h
     ·rw [h,<- e];exact .inl hmo
     ·exact .inr h
theorem RAlerts.sub {n:Nat} (h:RAlerts l n) {p:List Alert} (hp:p.Sublist l):RAlerts p n :=
 ⟨λx hx=>h.right x (hp.subset hx),h.rise.sublist hp,h.ids.sublist (hp.map _),Nat.le_trans hp.length_le h.len⟩
theorem Ki {x:Alert} (h:RightA x):RA x:=by
 refine⟨h.ga,?_⟩
 have h1:=alF_K h.ga
 rw [Bn h]at h1
 exact (Option.some.inj h1).symm
theorem GL (h:RAlerts l 6) {p q:List Alert} (hp:p.Sublist l) (hq:q.Sublist l) (ha:∀x∈l,x∈p\/x∈q):oQ p q=some (l,0):=by
 have hll:=h.len
 have hpl:=hp.length_le
 have hql:=hq.length_le
 have cp:=uZ (h.sub hp) (by omega)
 have cq:=uZ (h.sub hq) (by omega)
 have hchk:forL (List.range (2:Int).toNat) () (λk x s=>iQ p q k x s)=some (.go ()):=by
  have q1:∀x,iQ p q 0 x ()=some (.go ()):=λx=>by
   unfold iQ
   have:idx ([p,q]:List (List Alert)) ((0:Nat):Int)=some p:=rfl
   rw [this,ob_,cp];rfl
  have q2:∀x,iQ p q (0+1) x ()=some (.go ()):=λx=>by
   unfold iQ
   have:idx ([p,q]:List (List Alert)) ((0+1:Nat):Int)=some q:=rfl
   rw [this,ob_,cq];rfl
  have er:List.range (2:Int).toNat=[0,1]:=rfl
  rw [er,iX (by simp)]
  simp only [forR,q1,q2,ob_]
 have hm:∀e∈p++q,RA e:=λe he=>Ki (h.right e ((List.mem_append.1 he).elim (λk=>hp.subset k) (λk=>hq.subset k)))
 obtain ⟨u,u1,u2,u3⟩:=BL h.ids (p++q) [] (λx hx=>(List.mem_append.1 hx).elim (λk=>hp.subset k) (λk=>hq.subset k)) (by simp) (by simp [KA])
 have hP:=Hd (B:=λk x s=>jD k x s) (λl=>(l.map zu,l)) (λk x out hx ho hl=>progA hx ho hl k) (p++q) 0 [] hm (by simp) (by simp [KA]) (by simp;omega)
 rw [u1]at hP
 have hP':forL (p++q) (([]:List (ByteArray×Alert)),([]:List Alert)) (λk x s=>jD k x s)=some (.go (u.map zu,u)):=by
  rw [iX (by simp;omega)];exact hP
 have nd:∀{m:List Alert},KA m->m.Nodup:=λhk=>(List.pairwise_map.1 hk).imp (λk e=>k (by rw [e]))
 have hperm:u.Perm l:=(List.perm_ext_iff_of_nodup (nd u2) (nd h.ids)).2 (λx=>by
  rw [u3]
  constructor
  ·rintro (k|k)
   ·cases k
   ·exact (List.mem_append.1 k).elim (λk=>hp.subset k) (λk=>hq.subset k)
  ·exact λk => .inr (List.mem_append.2 (ha x k)))
 have has:∀a b:Alert,befA a b->¬befA b a:=λa b h k=>E8 _ (Fg h k)
 obtain ⟨r,r1,r2,r3⟩:=sort12r (cmp:=gL) (S:=dL) (λ_=>rfl) (xs:=u) (by rw [hperm.length_eq];omega) (R:=befA) (λa _ b _=>C8 a b) has (λa b d h k=>C9 h k)
 have hrl:r=l:=List.Perm.eq_of_pairwise (le:=λa b=>¬befA b a) (λx y hx hy h1 h2=>by
  obtain ⟨m,hm⟩:=List.getElem?_of_mem (hperm.mem_iff.1 (r2.mem_iff.1 hx))
  obtain ⟨m',hm'⟩:=List.getElem?_of_mem hy
  by_cases e:x.Id=y.Id
  ·have:=tF h.ids hm hm' e
   subst this
   rw [hm]at hm'
   exact Option.some.inj hm'
  ·rcases KC x y e with k|k
   ·exact absurd k h2
   ·exact absurd k h1) r3 (h.rise.imp (λk=>has _ _ k)) (r2.trans hperm)
 subst hrl
 have hsm:iR r u=some ():=KM r2.length_eq
 have hul:=hperm.length_eq
 have e1:decide (((u.length:Nat):Int)>300)=false:=decide_eq_false (by omega)
 unfold oQ
 simp only [hchk,ob_,lU,LG p q (by omega) (by omega),hP',e1,cond_false,r1,hsm]
theorem MK (z:Alert) (t:Int):∀(l:List Alert) (m:Int),(t<l.foldl (λm a=>bif J3 a z then min m a.At else m) m↔t<m/\∀o∈l,J3 o z=true->t<o.At)
 | [],m=>by simp
 | a::l,m=>by
  rw [List.foldl_cons,MK z t l]
  cases hc:J3 a z with
  | true =>
   simp only [cond_true,List.forall_mem_cons,hc]
   constructor
   ·rintro ⟨h1,h2⟩;exact⟨by omega,λ_=>by omega,h2⟩
   ·rintro ⟨h1,h2,h3⟩;exact⟨by have:=h2 trivial;omega,h3⟩
  | false =>
   simp only [cond_false,List.forall_mem_cons,hc]
   constructor
   ·rintro ⟨h1,h2⟩;exact⟨h1,λk=>Bool.noConfusion k,h2⟩
   ·rintro ⟨h1,_,h3⟩;exact⟨h1,h3⟩
def Ld (z:Alert) (t:Int) (o:Alert):Bool:=J3 o z&&decide (o.At<=t)
theorem O3 (o z:Alert) (t:Int) (ho:o.Refs.length<=1000):ib o z t=some (Ld z t o):=by
 unfold ib Ld J3
 rw [PI o.Refs z.Id (by omega)]
 have hb:(bif (decide (z.At<o.At))then some true else bif (z.At==o.At)then some (sLt z.Id o.Id)else some false)=some (decide (befA z o)):=by
  by_cases h1:z.At<o.At
  ·rw [decide_eq_true h1,decide_eq_true (show befA z o from .inl h1)];rfl
  ·rw [decide_eq_false h1,cond_false]
   by_cases h2:z.At=o.At
   ·have e:(z.At==o.At)=true:=by simp [h2]
    rw [e,cond_true]
    congr 1
    rw [Bool.eq_iff_iff,wD,decide_eq_true_eq]
    exact⟨λk => .inr ⟨h2,k⟩,λk=>k.elim (λq=>absurd q h1) (λq=>q.2)⟩
   ·have e:(z.At==o.At)=false:=by simp [h2]
    have:¬befA z o:=λk=>k.elim h1 (λq=>h2 q.1)
    rw [e,cond_false,decide_eq_false this]
 rw [hb,ob_]
 have hs:sEq o.Sender z.Sender=decide (z.Sender=o.Sender):=by
  rw [Bool.eq_iff_iff,wC,decide_eq_true_eq];exact eq_comm
 rw [hs]
 cases decide (befA z o) <;> cases decide (z.Sender=o.Sender) <;> cases decide (z.Id∈o.Refs) <;> cases decide (o.At<=t) <;> rfl
theorem onB_eq (z:Alert) (t:Int):onB l t z=(decide (z.Kind≠3)&&(decide (z.At<=t)&&(decide (t<z.Until) && !(l.any (Ld z t))))):=by
 unfold onB
 congr 1
 congr 1
 rw [Bool.eq_iff_iff,decide_eq_true_eq,Bool.and_eq_true,decide_eq_true_eq,Bool.not_eq_true',List.any_eq_false]
 show t<l.foldl _ z.Until↔_
 rw [MK]
 unfold Ld
 constructor
 ·rintro ⟨h1,h2⟩
  refine⟨h1,λo ho k => ?_⟩
  rw [Bool.and_eq_true,decide_eq_true_eq]at k
  have:=h2 o ho k.1
  omega
 ·rintro ⟨h1,h2⟩
  refine⟨h1,λo ho k => ?_⟩
  have:=h2 o ho
  rw [k,Bool.true_and,decide_eq_true_eq]at this
  omega
theorem Lb (xs:List Alert) (f:Alert->Option Bool) (p:Alert->Bool) (hf:∀x∈xs,f x=some (p x)) (hl:xs.length<=1000000):bE xs f=some (xs.any p):=by
 unfold bE bf
 rw [iX (by omega)]
 rcases xY (f:=f) (p:=p) (B:=λk x s=>bD f k x s) (λk x=>rfl) xs 0 (λx hx=>hf x hx)with⟨h1,h2⟩|⟨j,x,h1,h2,_,h4,h5⟩
 ·rw [h2,h1];rfl
 ·rw [h4,h5]
  simp only [ob_,thenC]
  rw [decide_eq_true (by omega)]
theorem eqStrs (l:List ByteArray) (hl:l.length<=1000000):cK l l=some true:=by
 unfold cK
 obtain ⟨s,r1,_⟩:=w9 (body:=λk x s=>bN l k x s) (ρ:=Bool) (λ_ _=>True) (xs:=l) (s:=()) (by omega) (λk x s hk _=>by
  refine⟨(),?_,trivial⟩
  unfold bN
  rw [wG,hk];simp [sNe,sEq]) trivial
 have e:((l.length:Int) != (l.length:Int))=false:=by simp
 rw [e,cond_false,r1];rfl
theorem way_L3 (hca:CA l) (hc:bW l=some 0) (s1 s2:Stream) (t:Int) {k:Nat} {z:Alert} (hk:l[k]? = some z):gy ((l.filter (onB l t)).map (·.Id),0) (l,s1) (t,s2) k z ()=some (.go ()):=by
 have hlen:=hca.len
 have hz:=List.mem_of_getElem? hk
 have hkl:k<l.length:=(List.getElem?_eq_some_iff.1 hk).1
 obtain ⟨T,t1,t2,t3,t4,t5⟩:=MM hca hc hkl
 rw [wu hk]at t1
 have hown:z.Id∈T:=(t5 z.Id).2 ⟨k,.base,wu hk⟩
 have hin:decide (z.Id∈(l.filter (onB l t)).map (·.Id))=onB l t z:=by
  rw [Bool.eq_iff_iff,decide_eq_true_eq,List.mem_map]
  constructor
  ·rintro ⟨y,hy,e⟩
   obtain ⟨q1,q2⟩:=List.mem_filter.1 hy
   obtain ⟨m,hm⟩:=List.getElem?_of_mem q1
   have:=tF hca.ids hm hk e
   subst this
   rw [hk]at hm
   rw [Option.some.inj hm];exact q2
  ·exact λq=>⟨z,List.mem_filter.2 ⟨hz,q⟩,rfl⟩
 have hfl:((l.filter (onB l t)).map (·.Id)).length<=1000:=by
  rw [List.length_map];have:=List.length_filter_le (onB l t) l;omega
 have hcf:bE l (λx0=>ib x0 z t)=some (l.any (Ld z t)):=Lb l _ _ (λo ho=>O3 o z t (hca.refs o ho)) (by omega)
 have hloop:forL T () (λk x s=>gD (l,s1) (T,0) k x s)=some (.go ()):=by
  obtain ⟨u,r1,_⟩:=w9 (body:=λk x s=>gD (l,s1) (T,0) k x s) (ρ:=Bool) (λ_ _=>True) (xs:=T) (s:=()) (by omega) (λk y s hy _=>by
   refine⟨(),?_,trivial⟩
   unfold gD
   simp only [Mk hca hc hkl t2 t3 t5 (List.mem_of_getElem? hy),ob_,bne_self_eq_false,cond_false,eqStrs T (by omega),Bool.not_true]) trivial
  exact r1
 have hdec:(bif (z.Kind != 3)then bif (decide (z.At<=t))then bif (decide (t<z.Until))then some (!(onB l t z==(!(l.any (Ld z t)))))else some (!(onB l t z==false))else some (!(onB l t z==false))else some (!(onB l t z==false)))=some false:=by
  rw [onB_eq]
  have hk3:(z.Kind != 3)=decide (z.Kind≠3):=by rw [Bool.eq_iff_iff];simp
  rw [hk3]
  cases decide (z.Kind≠3) <;> cases decide (z.At<=t) <;> cases decide (t<z.Until) <;> cases (l.any (Ld z t)) <;> rfl
 unfold gy
 simp only [PI _ z.Id (show ((l.filter (onB l t)).map (·.Id)).length<=1000000 by omega),hin,hcf,ob_,hdec,cond_false,t1,bne_self_eq_false,PI T z.Id (by omega),decide_eq_true hown,Bool.not_true,hloop,lU]
end
theorem alertsGiveWay (l:List Int):lH l=some true:=by
 obtain ⟨a,s1,a1,a2,a3⟩:=KT 6 (by decide) ⟨l,0⟩ (b:=0) ⟨Int.le_refl _,Int.le_refl _⟩ (by decide)
 have hr:RAlerts a 6:=a2
 have hal:=hr.len
 obtain ⟨t,s2,b1,b2,b3,b4⟩:=qP s1 0 60 a3 (by decide) (by decide) (by decide) (by decide)
 have hca:=hr.ca (by decide)
 have hc:=uZ hr (by decide)
 have hm:zS t=true:=by
  unfold zS o6
  rw [decide_eq_false (show ¬t<0 by omega),decide_eq_false (show ¬t>345686399999 by omega)];rfl
 obtain ⟨u,r1,r2,r3,r4,r5⟩:=w9 (body:=λk x s=>iI k x s) (λk s=>s.1.Sublist (a.take k)/\s.2.1.Sublist (a.take k)/\(∀x∈a.take k,x∈s.1\/x∈s.2.1)/\Ok ⟨s.2.2.1,s.2.2.2⟩ (1000+k)) (xs:=a) (s:=(([]:List Alert),([]:List Alert),s2.L,s2.f_at)) (by omega) (λk x s hk ⟨i1,i2,i3,i4⟩=>by
  have hkl:k<a.length:=(List.getElem?_eq_some_iff.1 hk).1
  have l1:=i1.length_le
  have l2:=i2.length_le
  rw [List.length_take]at l1 l2
  obtain ⟨n,s3,n1,n2,n3,n4⟩:=Am ⟨s.2.2.1,s.2.2.2⟩ 3 i4 (by omega) (by decide) (by decide)
  have e1:jc s.1 [x]=some (s.1++[x]):=kr _ _ (by simp;omega)
  have e2:jc s.2.1 [x]=some (s.2.1++[x]):=kr _ _ (by simp;omega)
  have ht:a.take (k+1)=a.take k++[x]:=by rw [List.take_add_one,hk];rfl
  have w:∀{m:List Alert},m.Sublist (a.take k)->m.Sublist (a.take (k+1)):=λh=>by rw [ht];exact h.trans (List.sublist_append_left _ _)
  have w1:∀{m:List Alert},m.Sublist (a.take k)->(m++[x]).Sublist (a.take (k+1)):=λh=>by rw [ht];exact h.append (List.Sublist.refl _)
  have o4:Ok ⟨s3.L,s3.f_at⟩ (1000+((k+1:Nat):Int)):=by
   have e:(1000:Int)+((k+1:Nat):Int)=1000+(k:Int)+1:=by omega
   rw [e];exact n4
  unfold iI
  rw [n1,ob_]
  by_cases h0:n=0
  ·have g0:(n==0)=true:=by simp [h0]
   simp only [g0,cond_true,e1,ob_]
   refine⟨_,rfl,w1 i1,w i2,λy hy => ?_,o4⟩
   rw [ht]at hy
   rcases List.mem_append.1 hy with hy|hy
   ·exact (i3 y hy).imp (λq=>List.mem_append_left _ q) id
   ·exact .inl (List.mem_append_right _ hy)
  ·have g0:(n==0)=false:=by simp [h0]
   by_cases h1:n=1
   ·have g1:(n==1)=true:=by simp [h1]
    simp only [g0,g1,cond_true,cond_false,e2,ob_]
    refine⟨_,rfl,w i1,w1 i2,λy hy => ?_,o4⟩
    rw [ht]at hy
    rcases List.mem_append.1 hy with hy|hy
    ·exact (i3 y hy).imp id (λq=>List.mem_append_left _ q)
    ·exact .inr (List.mem_append_right _ hy)
   ·have g1:(n==1)=false:=by simp [h1]
    simp only [g0,g1,cond_false,e1,e2,ob_]
    refine⟨_,rfl,w1 i1,w1 i2,λy hy => ?_,o4⟩
    rw [ht]at hy
    rcases List.mem_append.1 hy with hy|hy
    ·exact (i3 y hy).imp (λq=>List.mem_append_left _ q) (λq=>List.mem_append_left _ q)
    ·exact .inl (List.mem_append_right _ hy)) ⟨List.Sublist.refl _,List.Sublist.refl _,λx hx=>by simp at hx,by
  show Ok s2 (1000+((0:Nat):Int))
  exact b4.mono (by omega)⟩
 rw [List.take_length]at r2 r3 r4
 have m1:=GL hr r2 r3 r4
 have m2:=GL hr r3 r2 (λx hx=>(r4 x hx).symm)
 have heq:aO a a=some true:=IX (λx hx=>Ki (hr.right x hx)) (by omega)
 have herr:p9 [0,0,0]=some 0:=by
  unfold p9
  rw [iX (by simp)]
  rfl
 obtain ⟨v,v1,_⟩:=w9 (body:=λk x s=>gy ((a.filter (onB a t)).map (·.Id),0) (a,s1) (t,s2) k x s) (ρ:=Bool) (λ_ _=>True) (xs:=a) (s:=()) (by omega) (λk x s hk _=>by
  cases s
  exact⟨(),way_L3 hca hc s1 s2 t hk,trivial⟩) trivial
 unfold lH
 simp only [a1,b1,r1,ob_,lU,m1,m2,L9 hca hc hm,herr,bne_self_eq_false,cond_false,heq,Bool.not_true,v1,Qw]
end Go.Proofs.YtkjlhdminmpmkabGreatDoor.Law

