/-
  THE PLAIN LAW (part 6).
-/
import Derived.Test.YticmkhcacamhkaaGreatDoorPl5
import Derived.Test.YticmkhcacamhkaaGreatDoorDefs
open Go Go.Eng
namespace Go.Proofs.YticmkhcacamhkaaGreatDoor.Law
set_option linter.unusedVariables false
set_option linter.unusedSimpArgs false
set_option maxRecDepth 100000
def lU (s_1:ByteArray):Option (Bool) :=
 (p9 0 (λs=>kv s_1 s)).bind λo_10=>thenC o_10 (λs_7=>(bif (sNe s_1 (⟨#[]⟩:ByteArray))then some (decide ((s_1.size:Int)<=40))else some false).bind λv_30=>some v_30) (λr=>some r)
theorem pW (s_1:ByteArray):Le (lU s_1) (kit_IsKey s_1):=by
 unfold lU kit_IsKey
 repeat' (with_reducible first | exact Le.refl _ | refine Le.loop (λ_ => ?_) | refine Le.forL (λ_ _ _ => ?_) | refine Le.thenC (λ_ => ?_) (λ_ => ?_) | refine Le.cond ?_ ?_ | refine Le.bind ?_ (λ_ => ?_))
def jc (s_1:(List Int)) (s_8:Int):Option (Ctl (Int) ((List Int))) :=
 bif (decide (s_8<(s_1.length:Int)))then (inR s_8 s_1).bind λ_=>(s_1[(0+(s_8).toNat)]?).bind λe_15=>(inR (w64 (s_8-1)) s_1).bind λ_=>(s_1[(0+((w64 (s_8-1))).toNat)]?).bind λe_18=>bif (e_15==e_18)then (neL s_1).bind λ_=>(qY s_1 s_8 (s_1.length:Int)).bind λ_=>(p9 (s_1,s_8,1) (λs=>bU s_1 s_8 s)).bind λo_31=>thenC o_31 (λs_28=>(qY s_28.1 s_28.2.1 (s_28.1.length:Int)).bind λ_=>(qY (s_28.1.take ((s_28.2.1).toNat)++List.replicate (((s_28.1.length:Int)).toNat-(s_28.2.1).toNat) 0++s_28.1.drop (((s_28.2.1).toNat)+(((s_28.1.length:Int)).toNat-(s_28.2.1).toNat))) 0 s_28.2.1).bind λ_=>some (.ret (cutL (s_28.1.take ((s_28.2.1).toNat)++List.replicate (((s_28.1.length:Int)).toNat-(s_28.2.1).toNat) 0++s_28.1.drop (((s_28.2.1).toNat)+(((s_28.1.length:Int)).toNat-(s_28.2.1).toNat))) 0 ((s_28.2.1).toNat)))) (λ_=>none)else some (.go (w64 (s_8+1)))else some (.brk s_8)
theorem qi (s_1:(List Int)) (s_8:Int):Le (jc s_1 s_8) (aY s_1 s_8):=by
 unfold jc aY
 repeat' (with_reducible first | exact Le.refl _ | refine Le.loop (λ_ => ?_) | refine Le.forL (λ_ _ _ => ?_) | refine Le.thenC (λ_ => ?_) (λ_ => ?_) | refine Le.cond ?_ ?_ | refine Le.bind ?_ (λ_ => ?_))
def jR (s_1:(List Int)):Option ((List Int)) :=
 bif (decide ((s_1.length:Int)<2))then some s_1 else (p9 1 (λs=>jc s_1 s)).bind λo_11=>thenC o_11 (λs_8=>some s_1) (λr=>some r)
theorem rH (s_1:(List Int)):Le (jR s_1) (bO s_1):=by
 unfold jR bO
 repeat' (with_reducible first | exact Le.refl _ | exact qi _ _ | refine Le.loop (λ_ => ?_) | refine Le.forL (λ_ _ _ => ?_) | refine Le.thenC (λ_ => ?_) (λ_ => ?_) | refine Le.cond ?_ ?_ | refine Le.bind ?_ (λ_ => ?_))
def nU (l_1:(List ByteArray)) (k_2:Nat) (x_4:ByteArray) (s_7:Unit):Option (Ctl (Unit) (Int)) :=
 (lU x_4).bind λr_12=>bif (!r_12)then some (.ret 5)else (bif (decide ((k_2:Int)>0))then (idx l_1 (w64 ((k_2:Int)-1))).bind λy_18=>some (sLe x_4 y_18)else some false).bind λv_15=>bif v_15 then some (.ret 7)else some (.go ())
theorem xC (l_1:(List ByteArray)) (k_2:Nat) (x_4:ByteArray) (s_7:Unit):Le (nU l_1 k_2 x_4 s_7) (iX l_1 k_2 x_4 s_7):=by
 unfold nU iX
 repeat' (with_reducible first | exact Le.refl _ | exact pW _ | refine Le.loop (λ_ => ?_) | refine Le.forL (λ_ _ _ => ?_) | refine Le.thenC (λ_ => ?_) (λ_ => ?_) | refine Le.cond ?_ ?_ | refine Le.bind ?_ (λ_ => ?_))
def nJ (l_1:(List ByteArray)):Option (Int) :=
 (forL l_1 () (λk x s=>nU l_1 k x s)).bind λo_10=>thenC o_10 (λs_7=>some 0) (λr=>some r)
theorem sN (l_1:(List ByteArray)):Le (nJ l_1) (jq l_1):=by
 unfold nJ jq
 repeat' (with_reducible first | exact Le.refl _ | exact xC _ _ _ _ | refine Le.loop (λ_ => ?_) | refine Le.forL (λ_ _ _ => ?_) | refine Le.thenC (λ_ => ?_) (λ_ => ?_) | refine Le.cond ?_ ?_ | refine Le.bind ?_ (λ_ => ?_))
def nW (l_1:(List ByteArray)):Option (Int) :=
 bif (decide ((l_1.length:Int)>20))then some 2 else (nJ l_1).bind λr_3=>some r_3
theorem xx (l_1:(List ByteArray)):Le (nW l_1) (fM l_1):=by
 unfold nW fM
 repeat' (with_reducible first | exact Le.refl _ | exact sN _ | refine Le.loop (λ_ => ?_) | refine Le.forL (λ_ _ _ => ?_) | refine Le.thenC (λ_ => ?_) (λ_ => ?_) | refine Le.cond ?_ ?_ | refine Le.bind ?_ (λ_ => ?_))
def nk (e_1:Entry):Option (Int) :=
 ((lU e_1.Key).bind λr_5=>bif (!r_5)then some true else (lU e_1.Item).bind λr_8=>some (!r_8)).bind λv_3=>bif v_3 then some 5 else ((aQ e_1.Version 0 1000000).bind λr_13=>bif r_13 then some true else (aQ e_1.First 0 e_1.Last).bind λr_16=>bif r_16 then some true else bif (decide (e_1.Last>4000))then some true else (aQ e_1.Every 1 400).bind λr_20=>bif r_20 then some true else (aQ e_1.Days 1 127).bind λr_23=>some r_23).bind λv_11=>bif v_11 then some 1 else (gW e_1.Except).bind λr_26=>bif (r_26 != 0)then some r_26 else ((aQ e_1.From 0 1439).bind λr_31=>bif r_31 then some true else (aQ e_1.To 0 1439).bind λr_34=>bif r_34 then some true else (aQ e_1.Prio 0 9).bind λr_37=>some r_37).bind λv_29=>bif v_29 then some 1 else (nW e_1.Tags).bind λr_40=>some r_40
theorem wT (e_1:Entry):Le (nk e_1) (fZ e_1):=by
 unfold nk fZ
 repeat' (with_reducible first | exact Le.refl _ | exact pW _ | exact xx _ | refine Le.loop (λ_ => ?_) | refine Le.forL (λ_ _ _ => ?_) | refine Le.thenC (λ_ => ?_) (λ_ => ?_) | refine Le.cond ?_ ?_ | refine Le.bind ?_ (λ_ => ?_))
def ko (l_1:(List Entry)) (k_3:Nat) (x_5:Entry) (s_8:Unit):Option (Ctl (Unit) (Int)) :=
 (nk x_5).bind λr_14=>bif (r_14 != 0)then some (.ret r_14)else (bif (decide ((k_3:Int)>0))then (idx l_1 (w64 ((k_3:Int)-1))).bind λy_20=>some (sLe x_5.Key y_20.Key)else some false).bind λv_17=>bif v_17 then some (.ret 7)else some (.go ())
theorem su (l_1:(List Entry)) (k_3:Nat) (x_5:Entry) (s_8:Unit):Le (ko l_1 k_3 x_5 s_8) (fB l_1 k_3 x_5 s_8):=by
 unfold ko fB
 repeat' (with_reducible first | exact Le.refl _ | exact wT _ | refine Le.loop (λ_ => ?_) | refine Le.forL (λ_ _ _ => ?_) | refine Le.thenC (λ_ => ?_) (λ_ => ?_) | refine Le.cond ?_ ?_ | refine Le.bind ?_ (λ_ => ?_))
def lW (l_1:(List Entry)):Option (Int) :=
 bif (decide ((l_1.length:Int)>200))then some 2 else (forL l_1 () (λk x s=>ko l_1 k x s)).bind λo_11=>thenC o_11 (λs_8=>some 0) (λr=>some r)
theorem uV (l_1:(List Entry)):Le (lW l_1) (eF l_1):=by
 unfold lW eF
 repeat' (with_reducible first | exact Le.refl _ | exact su _ _ _ _ | refine Le.loop (λ_ => ?_) | refine Le.forL (λ_ _ _ => ?_) | refine Le.thenC (λ_ => ?_) (λ_ => ?_) | refine Le.cond ?_ ?_ | refine Le.bind ?_ (λ_ => ?_))
def jv (x_1:(List Int)) (target_2:Int):Option (Int×Bool) :=
 (p9 (0,(x_1.length:Int)) (λs=>bu x_1 target_2 s)).bind λo_11=>thenC o_11 (λs_8=>(bif (decide (s_8.1<(x_1.length:Int)))then (idx x_1 s_8.1).bind λy_24=>bif (y_24==target_2)then some true else (idx x_1 s_8.1).bind λy_27=>(gX y_27).bind λr_29=>bif r_29 then (gX target_2).bind λr_32=>some r_32 else some false else some false).bind λv_21=>some (s_8.1,v_21)) (λ_=>none)
theorem qG (x_1:(List Int)) (target_2:Int):Le (jv x_1 target_2) (dA x_1 target_2):=by
 unfold jv dA
 repeat' (with_reducible first | exact Le.refl _ | refine Le.loop (λ_ => ?_) | refine Le.forL (λ_ _ _ => ?_) | refine Le.thenC (λ_ => ?_) (λ_ => ?_) | refine Le.cond ?_ ?_ | refine Le.bind ?_ (λ_ => ?_))
def rT (e_1:Entry) (d_2:Int):Option (Bool) :=
 ((aQ d_2 e_1.First e_1.Last).bind λr_6=>bif r_6 then some true else (IJ .i64 (w64 (d_2-e_1.First)) e_1.Every).bind λq_9=>bif (q_9 != 0)then some true else (AZ .i64 1 (d_2.tmod 7)).bind λq_12=>some ((ru .i64 e_1.Days q_12)==0)).bind λv_4=>bif v_4 then some false else (jv e_1.Except d_2).bind λr_15=>some (!r_15.2)
theorem Aq (e_1:Entry) (d_2:Int):Le (rT e_1 d_2) (jT e_1 d_2):=by
 unfold rT jT
 repeat' (with_reducible first | exact Le.refl _ | exact qG _ _ | refine Le.loop (λ_ => ?_) | refine Le.forL (λ_ _ _ => ?_) | refine Le.thenC (λ_ => ?_) (λ_ => ?_) | refine Le.cond ?_ ?_ | refine Le.bind ?_ (λ_ => ?_))
def oJ (wv_3:Window) (zone_2:Int) (e_1:Entry) (s_15:(List Window)×Int):Option (Ctl ((List Window)×Int) (Unit)) :=
 bif (decide (s_15.2<=(lD (w64 ((w64 ((w64 (wv_3.To+(w64 (zone_2*60000)))).tdiv 86400000))+1)) e_1.Last)))then (rT e_1 s_15.2).bind λr_24=>bif (!r_24)then some (.go (s_15.1,(w64 (s_15.2+1))))else (kr e_1 zone_2 s_15.2).bind λr_27=>(bif (decide (r_27.From<wv_3.To))then some (decide (r_27.To>wv_3.From))else some false).bind λv_30=>(bif v_30 then (lX s_15.1 ([r_27]:List Window)).bind λa_37=>some a_37 else some s_15.1).bind λv_33=>some (.go (v_33,(w64 (s_15.2+1))))else some (.brk (s_15.1,s_15.2))
theorem xH (wv_3:Window) (zone_2:Int) (e_1:Entry) (s_15:(List Window)×Int):Le (oJ wv_3 zone_2 e_1 s_15) (eH wv_3 zone_2 e_1 s_15):=by
 unfold oJ eH
 repeat' (with_reducible first | exact Le.refl _ | exact Aq _ _ | refine Le.loop (λ_ => ?_) | refine Le.forL (λ_ _ _ => ?_) | refine Le.thenC (λ_ => ?_) (λ_ => ?_) | refine Le.cond ?_ ?_ | refine Le.bind ?_ (λ_ => ?_))
def rF (e_1:Entry) (zone_2:Int) (wv_3:Window):Option ((List Window)) :=
 (bif e_1.Gone then some true else some (decide (wv_3.From>=wv_3.To))).bind λv_6=>bif v_6 then some ([]:(List Window))else (p9 (([]:List Window),(jE (w64 ((w64 ((w64 (wv_3.From+(w64 (zone_2*60000)))).tdiv 86400000))-2)) e_1.First)) (λs=>oJ wv_3 zone_2 e_1 s)).bind λo_21=>thenC o_21 (λs_15=>some s_15.1) (λ_=>none)
theorem A9 (e_1:Entry) (zone_2:Int) (wv_3:Window):Le (rF e_1 zone_2 wv_3) (gD e_1 zone_2 wv_3):=by
 unfold rF gD
 repeat' (with_reducible first | exact Le.refl _ | exact xH _ _ _ _ | refine Le.loop (λ_ => ?_) | refine Le.forL (λ_ _ _ => ?_) | refine Le.thenC (λ_ => ?_) (λ_ => ?_) | refine Le.cond ?_ ?_ | refine Le.bind ?_ (λ_ => ?_))
def eu (b_3:Int) (a_2:Int) (s_10:(List Run)×Int):Option (Ctl ((List Run)×Int) (Unit)) :=
 bif (decide (s_10.2<b_3))then (p9 (s_10.1,s_10.2) (λs=>dw a_2 s)).bind λo_24=>thenC o_24 (λs_21=>some (.go (s_21.1,(w64 (s_10.2+1))))) (λ_=>none)else some (.brk (s_10.1,s_10.2))
theorem kG (b_3:Int) (a_2:Int) (s_10:(List Run)×Int):Le (eu b_3 a_2 s_10) (bQ b_3 a_2 s_10):=by
 unfold eu bQ
 repeat' (with_reducible first | exact Le.refl _ | refine Le.loop (λ_ => ?_) | refine Le.forL (λ_ _ _ => ?_) | refine Le.thenC (λ_ => ?_) (λ_ => ?_) | refine Le.cond ?_ ?_ | refine Le.bind ?_ (λ_ => ?_))
def fe (data_1:(List Run)) (a_2:Int) (b_3:Int):Option ((List Run)) :=
 (p9 (data_1,(w64 (a_2+1))) (λs=>eu b_3 a_2 s)).bind λo_13=>thenC o_13 (λs_10=>some s_10.1) (λ_=>none)
theorem kQ (data_1:(List Run)) (a_2:Int) (b_3:Int):Le (fe data_1 a_2 b_3) (bX data_1 a_2 b_3):=by
 unfold fe bX
 repeat' (with_reducible first | exact Le.refl _ | exact kG _ _ _ | refine Le.loop (λ_ => ?_) | refine Le.forL (λ_ _ _ => ?_) | refine Le.thenC (λ_ => ?_) (λ_ => ?_) | refine Le.cond ?_ ?_ | refine Le.bind ?_ (λ_ => ?_))
def fH (b_3:Int) (a_2:Int) (data_1:(List Run)) (limit_4:Int) (s_11:Unit):Option (Ctl (Unit) ((List Run))) :=
 bif (decide ((w64 (b_3-a_2))<=12))then (fe data_1 a_2 b_3).bind λr_17=>(iJ r_17 data_1).bind λ_=>some (.ret r_17)else bif (limit_4==0)then none else none
theorem l6 (b_3:Int) (a_2:Int) (data_1:(List Run)) (limit_4:Int) (s_11:Unit):Le (fH b_3 a_2 data_1 limit_4 s_11) (dh b_3 a_2 data_1 limit_4 s_11):=by
 unfold fH dh
 repeat' (with_reducible first | exact Le.refl _ | exact kQ _ _ _ | refine Le.loop (λ_ => ?_) | refine Le.forL (λ_ _ _ => ?_) | refine Le.thenC (λ_ => ?_) (λ_ => ?_) | refine Le.cond ?_ ?_ | refine Le.bind ?_ (λ_ => ?_))
def gp (data_1:(List Run)) (a_2:Int) (b_3:Int) (limit_4:Int):Option ((List Run)) :=
 (p9 () (λs=>fH b_3 a_2 data_1 limit_4 s)).bind λo_14=>thenC o_14 (λs_11=>some data_1) (λr=>some r)
theorem nz (data_1:(List Run)) (a_2:Int) (b_3:Int) (limit_4:Int):Le (gp data_1 a_2 b_3 limit_4) (dD data_1 a_2 b_3 limit_4):=by
 unfold gp dD
 repeat' (with_reducible first | exact Le.refl _ | exact l6 _ _ _ _ _ | refine Le.loop (λ_ => ?_) | refine Le.forL (λ_ _ _ => ?_) | refine Le.thenC (λ_ => ?_) (λ_ => ?_) | refine Le.cond ?_ ?_ | refine Le.bind ?_ (λ_ => ?_))
def fw (x_1:(List Run)):Option ((List Run)) :=
 (fO (IntKind.u64.wrap (x_1.length:Int))).bind λr_3=>(gp x_1 0 (x_1.length:Int) r_3).bind λr_5=>(iJ r_5 x_1).bind λ_=>some r_5
theorem lw (x_1:(List Run)):Le (fw x_1) (cz x_1):=by
 unfold fw cz
 repeat' (with_reducible first | exact Le.refl _ | exact nz _ _ _ _ | refine Le.loop (λ_ => ?_) | refine Le.forL (λ_ _ _ => ?_) | refine Le.thenC (λ_ => ?_) (λ_ => ?_) | refine Le.cond ?_ ?_ | refine Le.bind ?_ (λ_ => ?_))
def sD (l_1:(List Rect)) (y_2:Int):Option ((List Run)) :=
 (forL l_1 ([]:List Run) (λk x s=>o7 y_2 k x s)).bind λo_14=>thenC o_14 (λs_8=>(fw s_8).bind λr_27=>(iJ r_27 s_8).bind λ_=>(forL r_27 ([]:List Run) (λk x s=>pq k x s)).bind λo_41=>thenC o_41 (λs_35=>some s_35) (λ_=>none)) (λ_=>none)
theorem FN (l_1:(List Rect)) (y_2:Int):Le (sD l_1 y_2) (oU l_1 y_2):=by
 unfold sD oU
 repeat' (with_reducible first | exact Le.refl _ | exact lw _ | refine Le.loop (λ_ => ?_) | refine Le.forL (λ_ _ _ => ?_) | refine Le.thenC (λ_ => ?_) (λ_ => ?_) | refine Le.cond ?_ ?_ | refine Le.bind ?_ (λ_ => ?_))
def rD (m_2:(List Run)) (k_3:Nat) (x_5:Run) (s_8:(List Run)×Int):Option (Ctl ((List Run)×Int) (Unit)) :=
 (p9 s_8.2 (λs=>pz m_2 x_5 s)).bind λo_25=>thenC o_25 (λs_22=>(p9 (s_8.1,s_22,x_5.f_from) (λs=>pJ m_2 x_5 s)).bind λo_43=>thenC o_43 (λs_38=>(bif (decide (s_38.2.2<x_5.f_to))then (lX s_38.1 ([(⟨s_38.2.2,x_5.f_to⟩:Run)]:List Run)).bind λa_68=>some a_68 else some s_38.1).bind λv_64=>some (.go (v_64,s_22))) (λ_=>none)) (λ_=>none)
theorem AQ (m_2:(List Run)) (k_3:Nat) (x_5:Run) (s_8:(List Run)×Int):Le (rD m_2 k_3 x_5 s_8) (nu m_2 k_3 x_5 s_8):=by
 unfold rD nu
 repeat' (with_reducible first | exact Le.refl _ | refine Le.loop (λ_ => ?_) | refine Le.forL (λ_ _ _ => ?_) | refine Le.thenC (λ_ => ?_) (λ_ => ?_) | refine Le.cond ?_ ?_ | refine Le.bind ?_ (λ_ => ?_))
def vW (l_1:(List Run)) (m_2:(List Run)):Option ((List Run)) :=
 (forL l_1 (([]:List Run),0) (λk x s=>rD m_2 k x s)).bind λo_14=>thenC o_14 (λs_8=>some s_8.1) (λ_=>none)
theorem D9 (l_1:(List Run)) (m_2:(List Run)):Le (vW l_1 m_2) (qO l_1 m_2):=by
 unfold vW qO
 repeat' (with_reducible first | exact Le.refl _ | exact AQ _ _ _ _ | refine Le.loop (λ_ => ?_) | refine Le.forL (λ_ _ _ => ?_) | refine Le.thenC (λ_ => ?_) (λ_ => ?_) | refine Le.cond ?_ ?_ | refine Le.bind ?_ (λ_ => ?_))
def pE (r_25:(List Int)) (l_1:(List Rect)) (m_2:(List Rect)) (k_27:Nat) (x_29:Int) (s_32:(List Rect)×(List Run)×Int):Option (Ctl ((List Rect)×(List Run)×Int) (Unit)) :=
 (bif (decide ((w64 ((k_27:Int)+1))<(r_25.length:Int)))then (sD l_1 x_29).bind λr_45=>(sD m_2 x_29).bind λr_47=>(vW r_45 r_47).bind λr_49=>some r_49 else some ([]:List Run)).bind λv_42=>(eZ s_32.2.1 v_42).bind λr_51=>bif r_51 then some (.go (s_32.1,s_32.2.1,s_32.2.2))else (forL s_32.2.1 s_32.1 (λk x s=>nI s_32 x_29 k x s)).bind λo_64=>thenC o_64 (λs_59=>some (.go (s_59,v_42,x_29))) (λ_=>none)
theorem zt (r_25:(List Int)) (l_1:(List Rect)) (m_2:(List Rect)) (k_27:Nat) (x_29:Int) (s_32:(List Rect)×(List Run)×Int):Le (pE r_25 l_1 m_2 k_27 x_29 s_32) (kZ r_25 l_1 m_2 k_27 x_29 s_32):=by
 unfold pE kZ
 repeat' (with_reducible first | exact Le.refl _ | exact FN _ _ | exact D9 _ _ | refine Le.loop (λ_ => ?_) | refine Le.forL (λ_ _ _ => ?_) | refine Le.thenC (λ_ => ?_) (λ_ => ?_) | refine Le.cond ?_ ?_ | refine Le.bind ?_ (λ_ => ?_))
def tO (l_1:(List Rect)) (m_2:(List Rect)):Option ((List Rect)) :=
 (fI ([l_1,m_2]:List (List Rect))).bind λr_3=>(forL r_3 ([]:List Int) (λk x s=>nK k x s)).bind λo_16=>thenC o_16 (λs_10=>(zu s_10).bind λr_22=>(iJ r_22 s_10).bind λ_=>(jR r_22).bind λr_25=>(forL r_25 (([]:List Rect),([]:List Run),0) (λk x s=>pE r_25 l_1 m_2 k x s)).bind λo_38=>thenC o_38 (λs_32=>some s_32.1) (λ_=>none)) (λ_=>none)
theorem BZ (l_1:(List Rect)) (m_2:(List Rect)):Le (tO l_1 m_2) (oD l_1 m_2):=by
 unfold tO oD
 repeat' (with_reducible first | exact Le.refl _ | exact rH _ | exact zt _ _ _ _ _ _ | exact O1 _ | refine Le.loop (λ_ => ?_) | refine Le.forL (λ_ _ _ => ?_) | refine Le.thenC (λ_ => ?_) (λ_ => ?_) | refine Le.cond ?_ ?_ | refine Le.bind ?_ (λ_ => ?_))
def wD (l_1:(List Rect)):Option (Int×Int) :=
 (mJ l_1).bind λr_2=>bif (r_2 != 0)then some (0,r_2)else (tO l_1 ([]:List Rect)).bind λr_5=>(uD r_5).bind λr_7=>some (r_7,0)
theorem D5 (l_1:(List Rect)):Le (wD l_1) (qW l_1):=by
 unfold wD qW
 repeat' (with_reducible first | exact Le.refl _ | exact BZ _ _ | refine Le.loop (λ_ => ?_) | refine Le.forL (λ_ _ _ => ?_) | refine Le.thenC (λ_ => ?_) (λ_ => ?_) | refine Le.cond ?_ ?_ | refine Le.bind ?_ (λ_ => ?_))
def oM (l_1:(List ByteArray)):Option (Int) :=
 bif (decide ((l_1.length:Int)>20))then some 2 else (nJ l_1).bind λr_3=>some r_3
theorem xN (l_1:(List ByteArray)):Le (oM l_1) (kH l_1):=by
 unfold oM kH
 repeat' (with_reducible first | exact Le.refl _ | exact sN _ | refine Le.loop (λ_ => ?_) | refine Le.forL (λ_ _ _ => ?_) | refine Le.thenC (λ_ => ?_) (λ_ => ?_) | refine Le.cond ?_ ?_ | refine Le.bind ?_ (λ_ => ?_))
def jU (l_1:(List Campaign)) (k_3:Nat) (x_5:Campaign) (s_8:Unit):Option (Ctl (Unit) (Int)) :=
 ((lU x_5.Key).bind λr_16=>bif (!r_16)then some true else bif (sNe x_5.Class (⟨#[]⟩:ByteArray))then (lU x_5.Class).bind λr_20=>some (!r_20)else some false).bind λv_14=>bif v_14 then some (.ret 5)else (bif (decide ((k_3:Int)>0))then (idx l_1 (w64 ((k_3:Int)-1))).bind λy_26=>some (sLe x_5.Key y_26.Key)else some false).bind λv_23=>bif v_23 then some (.ret 7)else ((qb x_5.Time).bind λr_31=>bif (!r_31)then some true else (aQ x_5.Goal 0 1000000).bind λr_34=>bif r_34 then some true else (aQ x_5.Most 0 1000000).bind λr_37=>bif r_37 then some true else (aQ x_5.Cents 0 1000000000).bind λr_40=>some r_40).bind λv_29=>bif v_29 then some (.ret 1)else (oM x_5.Tags).bind λr_43=>bif (r_43 != 0)then some (.ret r_43)else some (.go ())
theorem rz (l_1:(List Campaign)) (k_3:Nat) (x_5:Campaign) (s_8:Unit):Le (jU l_1 k_3 x_5 s_8) (fV l_1 k_3 x_5 s_8):=by
 unfold jU fV
 repeat' (with_reducible first | exact Le.refl _ | exact pW _ | exact xN _ | refine Le.loop (λ_ => ?_) | refine Le.forL (λ_ _ _ => ?_) | refine Le.thenC (λ_ => ?_) (λ_ => ?_) | refine Le.cond ?_ ?_ | refine Le.bind ?_ (λ_ => ?_))
def lh (l_1:(List Campaign)):Option (Int) :=
 bif (decide ((l_1.length:Int)>30))then some 2 else (forL l_1 () (λk x s=>jU l_1 k x s)).bind λo_11=>thenC o_11 (λs_8=>some 0) (λr=>some r)
theorem uu (l_1:(List Campaign)):Le (lh l_1) (iB l_1):=by
 unfold lh iB
 repeat' (with_reducible first | exact Le.refl _ | exact rz _ _ _ _ | refine Le.loop (λ_ => ?_) | refine Le.forL (λ_ _ _ => ?_) | refine Le.thenC (λ_ => ?_) (λ_ => ?_) | refine Le.cond ?_ ?_ | refine Le.bind ?_ (λ_ => ?_))
def wN (c_1:Campaign) (atv_2:Int):Option (Int×Int) :=
 (lh ([c_1]:List Campaign)).bind λr_4=>bif (r_4 != 0)then some (0,r_4)else (dS atv_2).bind λr_7=>bif (!r_7)then some (0,1)else (uI c_1 atv_2).bind λr_10=>some (r_10,0)
theorem FH (c_1:Campaign) (atv_2:Int):Le (wN c_1 atv_2) (qP c_1 atv_2):=by
 unfold wN qP
 repeat' (with_reducible first | exact Le.refl _ | exact uu _ | refine Le.loop (λ_ => ?_) | refine Le.forL (λ_ _ _ => ?_) | refine Le.thenC (λ_ => ?_) (λ_ => ?_) | refine Le.cond ?_ ?_ | refine Le.bind ?_ (λ_ => ?_))
def mX (l_1:(List Beat)) (k_3:Nat) (x_5:Beat) (s_8:Unit):Option (Ctl (Unit) (Int)) :=
 (lU x_5.Player).bind λr_14=>bif (!r_14)then some (.ret 5)else ((dS x_5.At).bind λr_19=>bif (!r_19)then some true else (aQ x_5.Clock 0 345686399999).bind λr_22=>some r_22).bind λv_17=>bif v_17 then some (.ret 1)else (bif (decide ((k_3:Int)>0))then (idx l_1 (w64 ((k_3:Int)-1))).bind λy_28=>(lM y_28 x_5).bind λr_30=>some (decide (r_30>=0))else some false).bind λv_25=>bif v_25 then some (.ret 7)else (bif (decide ((k_3:Int)>0))then (idx l_1 (w64 ((k_3:Int)-1))).bind λy_36=>bif (sEq x_5.Player y_36.Player)then (idx l_1 (w64 ((k_3:Int)-1))).bind λy_39=>some (decide (x_5.Clock<=y_39.Clock))else some false else some false).bind λv_33=>bif v_33 then some (.ret 16)else some (.go ())
theorem wG (l_1:(List Beat)) (k_3:Nat) (x_5:Beat) (s_8:Unit):Le (mX l_1 k_3 x_5 s_8) (jB l_1 k_3 x_5 s_8):=by
 unfold mX jB
 repeat' (with_reducible first | exact Le.refl _ | exact pW _ | refine Le.loop (λ_ => ?_) | refine Le.forL (λ_ _ _ => ?_) | refine Le.thenC (λ_ => ?_) (λ_ => ?_) | refine Le.cond ?_ ?_ | refine Le.bind ?_ (λ_ => ?_))
def pU (l_1:(List Beat)):Option (Int) :=
 bif (decide ((l_1.length:Int)>500))then some 2 else (forL l_1 () (λk x s=>mX l_1 k x s)).bind λo_11=>thenC o_11 (λs_8=>some 0) (λr=>some r)
theorem zh (l_1:(List Beat)):Le (pU l_1) (kM l_1):=by
 unfold pU kM
 repeat' (with_reducible first | exact Le.refl _ | exact wG _ _ _ _ | refine Le.loop (λ_ => ?_) | refine Le.forL (λ_ _ _ => ?_) | refine Le.thenC (λ_ => ?_) (λ_ => ?_) | refine Le.cond ?_ ?_ | refine Le.bind ?_ (λ_ => ?_))
def uW (l_1:(List Beat_)) (n_2:Int):Option (Int×Int) :=
 bif ((l_1.length:Int)==0)then some (0,8)else (p9 0 (λs=>oG l_1 n_2 s)).bind λo_12=>thenC o_12 (λs_9=>bif (s_9==0)then (idx l_1 0).bind λy_21=>(idx l_1 0).bind λy_23=>(dS (w64 (y_21.f_to-(w64 (y_23.f_from-n_2))))).bind λr_25=>bif (!r_25)then some (0,11)else some ((w64 (y_21.f_to-(w64 (y_23.f_from-n_2)))),0)else bif (s_9==(l_1.length:Int))then (idx l_1 (w64 (s_9-1))).bind λy_29=>(idx l_1 (w64 (s_9-1))).bind λy_31=>(dS (w64 ((w64 (y_29.f_to+n_2))-y_31.f_from))).bind λr_33=>bif (!r_33)then some (0,11)else some ((w64 ((w64 (y_29.f_to+n_2))-y_31.f_from)),0)else (idx l_1 (w64 (s_9-1))).bind λy_36=>(idx l_1 s_9).bind λy_38=>(bif (decide ((w64 (y_38.f_from-y_36.f_from))>2592000000))then some true else some (decide ((w64 (y_38.f_to-y_36.f_to))>2592000000))).bind λv_42=>bif v_42 then some (0,2)else (Lc .i64 (w64 ((w64 (n_2-y_36.f_from))*(w64 (y_38.f_to-y_36.f_to)))) (w64 (y_38.f_from-y_36.f_from))).bind λq_46=>(dS (w64 (y_36.f_to+q_46))).bind λr_48=>bif (!r_48)then some (0,11)else some ((w64 (y_36.f_to+q_46)),0)) (λ_=>none)
theorem Dt (l_1:(List Beat_)) (n_2:Int):Le (uW l_1 n_2) (pu l_1 n_2):=by
 unfold uW pu
 repeat' (with_reducible first | exact Le.refl _ | refine Le.loop (λ_ => ?_) | refine Le.forL (λ_ _ _ => ?_) | refine Le.thenC (λ_ => ?_) (λ_ => ?_) | refine Le.cond ?_ ?_ | refine Le.bind ?_ (λ_ => ?_))
def wQ (l_1:(List Beat)) (player_2:ByteArray) (n_3:Int) (back_4:Bool):Option (Int×Int) :=
 (pU l_1).bind λr_5=>bif (r_5 != 0)then some (0,r_5)else (lU player_2).bind λr_8=>bif (!r_8)then some (0,5)else (dS n_3).bind λr_11=>bif (!r_11)then some (0,1)else (qM l_1 player_2 back_4).bind λr_14=>(uW r_14 n_3).bind λr_16=>some (r_16.1,r_16.2)
theorem FE (l_1:(List Beat)) (player_2:ByteArray) (n_3:Int) (back_4:Bool):Le (wQ l_1 player_2 n_3 back_4) (rq l_1 player_2 n_3 back_4):=by
 unfold wQ rq
 repeat' (with_reducible first | exact Le.refl _ | exact pW _ | exact zh _ | exact Dt _ _ | refine Le.loop (λ_ => ?_) | refine Le.forL (λ_ _ _ => ?_) | refine Le.thenC (λ_ => ?_) (λ_ => ?_) | refine Le.cond ?_ ?_ | refine Le.bind ?_ (λ_ => ?_))
def wS (l_1:(List Beat)) (player_2:ByteArray) (clock_3:Int):Option (Int×Int) :=
 (wQ l_1 player_2 clock_3 false).bind λr_4=>some (r_4.1,r_4.2)
theorem ET (l_1:(List Beat)) (player_2:ByteArray) (clock_3:Int):Le (wS l_1 player_2 clock_3) (qR l_1 player_2 clock_3):=by
 unfold wS qR
 repeat' (with_reducible first | exact Le.refl _ | exact FE _ _ _ _ | refine Le.loop (λ_ => ?_) | refine Le.forL (λ_ _ _ => ?_) | refine Le.thenC (λ_ => ?_) (λ_ => ?_) | refine Le.cond ?_ ?_ | refine Le.bind ?_ (λ_ => ?_))
def rG (e_1:Entry) (zone_2:Int) (wv_3:Window):Option ((List Window)×Int) :=
 (lW ([e_1]:List Entry)).bind λr_6=>bif (r_6 != 0)then some (([]:(List Window)),r_6)else (aQ zone_2 (-1440) 1440).bind λr_9=>bif r_9 then some (([]:(List Window)),1)else (fJ wv_3).bind λr_12=>bif (r_12 != 0)then some (([]:(List Window)),r_12)else (rF e_1 zone_2 wv_3).bind λr_15=>(forL (List.range ((r_15.length:Int)).toNat) r_15 (λk x s=>mI wv_3 k x s)).bind λo_27=>thenC o_27 (λs_24=>some (s_24,0)) (λ_=>none)
theorem AJ (e_1:Entry) (zone_2:Int) (wv_3:Window):Le (rG e_1 zone_2 wv_3) (nA e_1 zone_2 wv_3):=by
 unfold rG nA
 repeat' (with_reducible first | exact Le.refl _ | exact uV _ | exact A9 _ _ _ | refine Le.loop (λ_ => ?_) | refine Le.forL (λ_ _ _ => ?_) | refine Le.thenC (λ_ => ?_) (λ_ => ?_) | refine Le.cond ?_ ?_ | refine Le.bind ?_ (λ_ => ?_))
def o8  : Option (Bool) :=
 (wD ([(⟨0,0,2,2⟩:Rect),(⟨1,1,2,2⟩:Rect)]:List Rect)).bind λr_1=>(wN (⟨(⟨#[97]⟩:ByteArray),(⟨#[]⟩:ByteArray),(⟨0,100⟩:Window),([]:List ByteArray),10,0,0⟩:Campaign) 50).bind λr_3=>(wS ([(⟨(⟨#[112]⟩:ByteArray),0,100⟩:Beat),(⟨(⟨#[112]⟩:ByteArray),1000,1300⟩:Beat)]:List Beat) (⟨#[112]⟩:ByteArray) 700).bind λr_5=>(rG (⟨(⟨#[97]⟩:ByteArray),(⟨#[98]⟩:ByteArray),0,0,0,1,127,([]:List Int),1,2,0,([]:List ByteArray),false⟩:Entry) 0 (⟨0,86400000⟩:Window)).bind λr_7=>(bif (r_1.2==0)then bif (r_3.2==0)then bif (r_5.2==0)then bif (r_7.2==0)then bif (r_1.1==7)then bif (r_3.1==5)then bif (r_5.1==500)then some ((r_7.1.length:Int)==1)else some false else some false else some false else some false else some false else some false else some false).bind λv_9=>some v_9
theorem y8  : Le (o8) (jM):=by
 unfold o8 jM
 repeat' (with_reducible first | exact Le.refl _ | exact D5 _ | exact FH _ _ | exact ET _ _ _ | exact AJ _ _ _ | refine Le.loop (λ_ => ?_) | refine Le.forL (λ_ _ _ => ?_) | refine Le.thenC (λ_ => ?_) (λ_ => ?_) | refine Le.cond ?_ ?_ | refine Le.bind ?_ (λ_ => ?_))
theorem facts_F:o8=some true:=by kernel_rfl
theorem Pe:jM=some true:=y8 _ facts_F
theorem over_in (x:Slot_) {F T:Int} (hF:0<=F) (hT:T<=1000000) (hx:F<=x.Time.From/\x.Time.From<x.Time.To/\x.Time.To<=T) {u:List Slot_} (hu:∀y∈u,F<=y.Time.From/\y.Time.From<y.Time.To/\y.Time.To<=T) (hl:u.length<=1000000) {s:Int} (hs:0<=s) (hb:s+ovL x u<=1000000) :
  forL u s (λk y s=>ek x k y s)=some (.go (s+ovL x u)):=by
 obtain ⟨v,v1,v2⟩:=jW (body:=λk y s=>ek x k y s) (λk v=>v=s+ovL x (u.take k)) (xs:=u) (s:=s) (by omega) (λk y v hy hv=>by
  have et:u.take (k+1)=u.take k++[y]:=by rw [List.take_add_one,hy];rfl
  obtain ⟨y1,y2,y3⟩:=hu y (List.mem_of_getElem? hy)
  have h1:=Jt x u k
  have h2:=Jt x u (k+1)
  rw [et,Jf]at h2
  have h3:=KO x y
  unfold ek
  have e1:jE 0 (w64 ((lD x.Time.To y.Time.To)-(jE x.Time.From y.Time.From)))=ovS x y:=by
   unfold ovS
   rw [Bf,yC,yC,bD (by omega)]
  rw [e1,et,Jf,hv,bD (by omega)]
  exact⟨_,rfl,by omega⟩) (by unfold ovL;simp [wR])
 rw [v1,v2,List.take_length]
theorem Qc {f g:Int->ByteArray} {F T:Int} (hF:0<=F) (hT:T<=1000000) {t u:List Slot_} (ht:ik f T F t) (hu:ik g T F u) (hlt:t.length<=1000000) (hlu:u.length<=1000000) (e:Int) :
  forL t 0 (λk x s=>d9 (u,e) k x s)=some (.go (T-F)):=by
 have hA:=Gz hu (Int.le_refl _) ht
 have ha:=ht.at.1
 have hb:=hu.at.1
 obtain ⟨v,v1,v2⟩:=jW (body:=λk x s=>d9 (u,e) k x s) (λk v=>v=ovA (t.take k) u) (xs:=t) (s:=0) (by omega) (λk x v hx hv=>by
  have et:t.take (k+1)=t.take k++[x]:=by rw [List.take_add_one,hx];rfl
  obtain ⟨x1,x2,x3,_⟩:=ha x (List.mem_of_getElem? hx)
  have h1:=JR t u k
  have h2:=JR t u (k+1)
  rw [et,Jg]at h2
  unfold d9
  simp only []
  rw [over_in x hF hT ⟨x1,x2,x3⟩ (λy hy=>by
   obtain ⟨y1,y2,y3,_⟩:=hb y hy
   exact⟨y1,y2,y3⟩) hlu (by omega) (by omega)]
  exact⟨_,rfl,by rw [et,Jg,hv]⟩) rfl
 rw [v1,v2,List.take_length,hA]
theorem topAlertsOverAll (l:List Int):ja l=some true:=by
 have h0:Ok (⟨l,0⟩:Stream) 0:=⟨Int.le_refl _,Int.le_refl _⟩
 obtain ⟨al,s1,a1,a2,a3⟩:=AlN.rightAlerts 5 (by decide) _ h0 (by decide)
 obtain ⟨px,s2,b1,b2,b3,b4⟩:=l8 s1 (-2) 8 a3 (by decide) (by decide) (by decide) (by decide)
 obtain ⟨py,s3,c1,c2,c3,c4⟩:=l8 s2 (-2) 8 b4 (by decide) (by decide) (by decide) (by decide)
 obtain ⟨xs,s4,d1,d2,d3,d4,d5⟩:=rightE s3 c4 (by decide)
 obtain ⟨F,s5,f1,f2,f3,f4⟩:=l8 s4 0 20 d2 (by decide) (by decide) (by decide) (by decide)
 obtain ⟨T,s6,g1,g2,g3,g4⟩:=l8 s5 20 100 f4 (by decide) (by decide) (by decide) (by decide)
 obtain ⟨p,s7,p1,p2,p3,p4⟩:=rightP s6 g4 (by decide)
 have hn:(5:Int).toNat<=12:=by decide
 have hp:AlN.RightPo ⟨⟨#[112,97]⟩,px,py⟩:=AlN.paP_right (by omega) (by omega)
 obtain ⟨t,t1,t2,t3⟩:=AlN.through_ok (a2.ca hn) ⟨⟨#[112,97]⟩,px,py⟩ (w:=⟨F,T⟩) (by simp only [];omega) (by simp only [];omega)
 have hth:oq al ⟨⟨#[112,97]⟩,px,py⟩ ⟨F,T⟩=some (t,0):=by
  unfold oq
  rw [AlN.checkBoth_0 a2 (by decide) hp,ob_,bne_self_eq_false,cond_false,lQ,lG (by simp only [];omega)]
  simp only [ob_,cond_false]
  rw [decide_eq_false (by omega),cond_false,t1];rfl
 have hc:=ce_of d4 d3 d5 p4
 obtain ⟨u,u1,u2,u3⟩:=Lh hc (w:=⟨F,T⟩) ⟨by simp only [];omega,by simp only [];omega,by simp only [];omega⟩ (by simp only [];omega)
 have hsc:kP xs p ⟨F,T⟩=some (u,0):=by
  unfold kP lN
  have hw:winF ⟨F,T⟩=0:=by
   unfold winF
   simp only []
   rw [lG (by omega),decide_eq_false (by omega),bD (by omega),decide_eq_false (by omega)];rfl
  rw [entsK d4 (by omega),d5,ob_,bne_self_eq_false,cond_false,playK p p3,p4,ob_,bne_self_eq_false,cond_false,winK,hw,ob_,ob_,bne_self_eq_false,cond_false,u1];rfl
 unfold ja
 rw [a1,ob_]
 simp only []
 rw [b1,ob_]
 simp only []
 rw [c1,ob_]
 simp only []
 rw [d1,ob_]
 simp only []
 rw [f1,ob_]
 simp only []
 rw [g1,ob_]
 simp only []
 rw [hth,ob_,p1,ob_]
 simp only []
 rw [hsc,ob_]
 simp only [bne_self_eq_false,cond_false,ob_]
 have hTb:T<=1000000:=by omega
 rw [Qc f2 hTb t2 u2 (by omega) (by omega),bD (by omega)]
 simp only [ob_,thenC,beq_self_eq_true,cond_true,Pe]
end Go.Proofs.YticmkhcacamhkaaGreatDoor.Law

