/-
  THE PLAIN LAW (part 6).
-/
import Derived.Test.YtmkljmjhcegapaaGreatDoorPl5
import Derived.Test.YtmkljmjhcegapaaGreatDoorDefs
open Go Go.Eng
namespace Go.Proofs.YtmkljmjhcegapaaGreatDoor.Law
set_option linter.unusedVariables false
set_option linter.unusedSimpArgs false
def O5 (x:Int):List Int->List Int
 | []=>[x]
 | y::l=>bif decide (x<=y)then x::y::l else y::O5 x l
def EH:List Int->List Int
 | []=>[]
 | x::l=>O5 x (EH l)
theorem Cx (x:Int):∀l,(O5 x l).Perm (x::l)
 | [] => .refl _
 | y::l=>by
  unfold O5
  cases decide (x<=y)with
  | true=>exact .refl _
  | false=>exact ((Cx x l).cons y).trans (List.Perm.swap x y l)
theorem Db:∀l,(EH l).Perm l
 | [] => .refl _
 | x::l=>(Cx x _).trans ((Db l).cons x)
theorem De (x:Int):∀l:List Int,l.Pairwise (· <= ·)->(O5 x l).Pairwise (· <= ·)
 | [],_=>List.pairwise_singleton _ _
 | y::l,h=>by
  obtain ⟨h1,h2⟩:=List.pairwise_cons.1 h
  unfold O5
  by_cases hx:x<=y
  ·rw [decide_eq_true hx,cond_true]
   exact List.pairwise_cons.2 ⟨λz hz=>by
    rcases List.mem_cons.1 hz with rfl|hz
    ·exact hx
    ·exact Int.le_trans hx (h1 z hz),h⟩
  ·rw [decide_eq_false hx,cond_false]
   exact List.pairwise_cons.2 ⟨λz hz=>by
    rcases List.mem_cons.1 ((Cx x l).mem_iff.1 hz)with rfl|hz
    ·omega
    ·exact h1 z hz,De x l h2⟩
theorem zu:∀l,(EH l).Pairwise (· <= ·)
 | [] => .nil
 | x::l=>De x _ (zu l)
theorem O7 (l:List Int):l.mergeSort (λx y=>decide (x<=y))=EH l:=by
 refine List.Perm.eq_of_pairwise (le:=(· <= ·)) (λa b _ _ h1 h2=>Int.le_antisymm h1 h2) ?_ (zu l) ((List.mergeSort_perm l _).trans (Db l).symm)
 have:=List.pairwise_mergeSort (le:=λ(x y:Int)=>decide (x<=y)) (λa b c=>by simp;omega) (λa b=>by simp;omega) l
 exact this.imp (by simp)
def yB (l:List Int):Option (List Int):=bif Nat.ble l.length 1000 then some (EH l)else none
theorem RI (l:List Int):Le (yB l) (bJ l):=λr h=>by
 unfold yB at h
 cases hb:Nat.ble l.length 1000 with
 | false=>rw [hb]at h;cases h
 | true =>
  rw [hb,cond_true]at h
  have:=Nat.le_of_ble_eq_true hb
  unfold bJ Fb
  rw [if_pos (by omega),O7];exact h
set_option maxRecDepth 100000
def lG (s_1:ByteArray):Option (Bool) :=
 (xu 0 (λs=>kz s_1 s)).bind λo_10=>thenC o_10 (λs_7=>(bif (sNe s_1 (⟨#[]⟩:ByteArray))then some (decide ((s_1.size:Int)<=40))else some false).bind λv_30=>some v_30) (λr=>some r)
theorem o7 (s_1:ByteArray):Le (lG s_1) (dQ s_1):=by
 unfold lG dQ
 repeat' (with_reducible first | exact Le.refl _ | refine Le.loop (λ_ => ?_) | refine Le.forL (λ_ _ _ => ?_) | refine Le.thenC (λ_ => ?_) (λ_ => ?_) | refine Le.cond ?_ ?_ | refine Le.bind ?_ (λ_ => ?_))
def nR (l_1:(List ByteArray)) (k_2:Nat) (x_4:ByteArray) (s_7:Unit):Option (Ctl (Unit) (Int)) :=
 (lG x_4).bind λr_12=>bif (!r_12)then some (.ret 5)else (bif (decide ((k_2:Int)>0))then (idx l_1 (w64 ((k_2:Int)-1))).bind λy_18=>some (sLe x_4 y_18)else some false).bind λv_15=>bif v_15 then some (.ret 7)else some (.go ())
theorem xJ (l_1:(List ByteArray)) (k_2:Nat) (x_4:ByteArray) (s_7:Unit):Le (nR l_1 k_2 x_4 s_7) (jg l_1 k_2 x_4 s_7):=by
 unfold nR jg
 repeat' (with_reducible first | exact Le.refl _ | exact o7 _ | refine Le.loop (λ_ => ?_) | refine Le.forL (λ_ _ _ => ?_) | refine Le.thenC (λ_ => ?_) (λ_ => ?_) | refine Le.cond ?_ ?_ | refine Le.bind ?_ (λ_ => ?_))
def nI (l_1:(List ByteArray)):Option (Int) :=
 (forL l_1 () (λk x s=>nR l_1 k x s)).bind λo_10=>thenC o_10 (λs_7=>some 0) (λr=>some r)
theorem sW (l_1:(List ByteArray)):Le (nI l_1) (jD l_1):=by
 unfold nI jD
 repeat' (with_reducible first | exact Le.refl _ | exact xJ _ _ _ _ | refine Le.loop (λ_ => ?_) | refine Le.forL (λ_ _ _ => ?_) | refine Le.thenC (λ_ => ?_) (λ_ => ?_) | refine Le.cond ?_ ?_ | refine Le.bind ?_ (λ_ => ?_))
def nQ (l_1:(List ByteArray)):Option (Int) :=
 bif (decide ((l_1.length:Int)>20))then some 2 else (nI l_1).bind λr_3=>some r_3
theorem xH (l_1:(List ByteArray)):Le (nQ l_1) (fK l_1):=by
 unfold nQ fK
 repeat' (with_reducible first | exact Le.refl _ | exact sW _ | refine Le.loop (λ_ => ?_) | refine Le.forL (λ_ _ _ => ?_) | refine Le.thenC (λ_ => ?_) (λ_ => ?_) | refine Le.cond ?_ ?_ | refine Le.bind ?_ (λ_ => ?_))
def mP (e_1:Entry):Option (Int) :=
 ((lG e_1.Key).bind λr_5=>bif (!r_5)then some true else (lG e_1.Item).bind λr_8=>some (!r_8)).bind λv_3=>bif v_3 then some 5 else ((aU e_1.Version 0 1000000).bind λr_13=>bif r_13 then some true else (aU e_1.First 0 e_1.Last).bind λr_16=>bif r_16 then some true else bif (decide (e_1.Last>4000))then some true else (aU e_1.Every 1 400).bind λr_20=>bif r_20 then some true else (aU e_1.Days 1 127).bind λr_23=>some r_23).bind λv_11=>bif v_11 then some 1 else (iE e_1.Except).bind λr_26=>bif (r_26 != 0)then some r_26 else ((aU e_1.From 0 1439).bind λr_31=>bif r_31 then some true else (aU e_1.To 0 1439).bind λr_34=>bif r_34 then some true else (aU e_1.Prio 0 9).bind λr_37=>some r_37).bind λv_29=>bif v_29 then some 1 else (nQ e_1.Tags).bind λr_40=>some r_40
theorem wh (e_1:Entry):Le (mP e_1) (gu e_1):=by
 unfold mP gu
 repeat' (with_reducible first | exact Le.refl _ | exact o7 _ | exact xH _ | refine Le.loop (λ_ => ?_) | refine Le.forL (λ_ _ _ => ?_) | refine Le.thenC (λ_ => ?_) (λ_ => ?_) | refine Le.cond ?_ ?_ | refine Le.bind ?_ (λ_ => ?_))
def j5 (l_1:(List Entry)) (k_3:Nat) (x_5:Entry) (s_8:Unit):Option (Ctl (Unit) (Int)) :=
 (mP x_5).bind λr_14=>bif (r_14 != 0)then some (.ret r_14)else (bif (decide ((k_3:Int)>0))then (idx l_1 (w64 ((k_3:Int)-1))).bind λy_20=>some (sLe x_5.Key y_20.Key)else some false).bind λv_17=>bif v_17 then some (.ret 7)else some (.go ())
theorem rR (l_1:(List Entry)) (k_3:Nat) (x_5:Entry) (s_8:Unit):Le (j5 l_1 k_3 x_5 s_8) (fe l_1 k_3 x_5 s_8):=by
 unfold j5 fe
 repeat' (with_reducible first | exact Le.refl _ | exact wh _ | refine Le.loop (λ_ => ?_) | refine Le.forL (λ_ _ _ => ?_) | refine Le.thenC (λ_ => ?_) (λ_ => ?_) | refine Le.cond ?_ ?_ | refine Le.bind ?_ (λ_ => ?_))
def lM (l_1:(List Entry)):Option (Int) :=
 bif (decide ((l_1.length:Int)>200))then some 2 else (forL l_1 () (λk x s=>j5 l_1 k x s)).bind λo_11=>thenC o_11 (λs_8=>some 0) (λr=>some r)
theorem uK (l_1:(List Entry)):Le (lM l_1) (dL l_1):=by
 unfold lM dL
 repeat' (with_reducible first | exact Le.refl _ | exact rR _ _ _ _ | refine Le.loop (λ_ => ?_) | refine Le.forL (λ_ _ _ => ?_) | refine Le.thenC (λ_ => ?_) (λ_ => ?_) | refine Le.cond ?_ ?_ | refine Le.bind ?_ (λ_ => ?_))
def jB (x_1:(List Int)) (target_2:Int):Option (Int×Bool) :=
 (xu (0,(x_1.length:Int)) (λs=>bv x_1 target_2 s)).bind λo_11=>thenC o_11 (λs_8=>(bif (decide (s_8.1<(x_1.length:Int)))then (idx x_1 s_8.1).bind λy_24=>bif (y_24==target_2)then some true else (idx x_1 s_8.1).bind λy_27=>(iB y_27).bind λr_29=>bif r_29 then (iB target_2).bind λr_32=>some r_32 else some false else some false).bind λv_21=>some (s_8.1,v_21)) (λ_=>none)
theorem pU (x_1:(List Int)) (target_2:Int):Le (jB x_1 target_2) (dE x_1 target_2):=by
 unfold jB dE
 repeat' (with_reducible first | exact Le.refl _ | refine Le.loop (λ_ => ?_) | refine Le.forL (λ_ _ _ => ?_) | refine Le.thenC (λ_ => ?_) (λ_ => ?_) | refine Le.cond ?_ ?_ | refine Le.bind ?_ (λ_ => ?_))
def rA (e_1:Entry) (d_2:Int):Option (Bool) :=
 ((aU d_2 e_1.First e_1.Last).bind λr_6=>bif r_6 then some true else (Jb .i64 (w64 (d_2-e_1.First)) e_1.Every).bind λq_9=>bif (q_9 != 0)then some true else (Ml .i64 1 (d_2.tmod 7)).bind λq_12=>some ((vM .i64 e_1.Days q_12)==0)).bind λv_4=>bif v_4 then some false else (jB e_1.Except d_2).bind λr_15=>some (!r_15.2)
theorem Bp (e_1:Entry) (d_2:Int):Le (rA e_1 d_2) (jQ e_1 d_2):=by
 unfold rA jQ
 repeat' (with_reducible first | exact Le.refl _ | exact pU _ _ | refine Le.loop (λ_ => ?_) | refine Le.forL (λ_ _ _ => ?_) | refine Le.thenC (λ_ => ?_) (λ_ => ?_) | refine Le.cond ?_ ?_ | refine Le.bind ?_ (λ_ => ?_))
def oz (wv_3:Window) (zone_2:Int) (e_1:Entry) (s_15:(List Window)×Int):Option (Ctl ((List Window)×Int) (Unit)) :=
 bif (decide (s_15.2<=(nP (w64 ((w64 ((w64 (wv_3.To+(w64 (zone_2*60000)))).tdiv 86400000))+1)) e_1.Last)))then (rA e_1 s_15.2).bind λr_24=>bif (!r_24)then some (.go (s_15.1,(w64 (s_15.2+1))))else (kv e_1 zone_2 s_15.2).bind λr_27=>(bif (decide (r_27.From<wv_3.To))then some (decide (r_27.To>wv_3.From))else some false).bind λv_30=>(bif v_30 then (jv s_15.1 ([r_27]:List Window)).bind λa_37=>some a_37 else some s_15.1).bind λv_33=>some (.go (v_33,(w64 (s_15.2+1))))else some (.brk (s_15.1,s_15.2))
theorem yz (wv_3:Window) (zone_2:Int) (e_1:Entry) (s_15:(List Window)×Int):Le (oz wv_3 zone_2 e_1 s_15) (eB wv_3 zone_2 e_1 s_15):=by
 unfold oz eB
 repeat' (with_reducible first | exact Le.refl _ | exact Bp _ _ | refine Le.loop (λ_ => ?_) | refine Le.forL (λ_ _ _ => ?_) | refine Le.thenC (λ_ => ?_) (λ_ => ?_) | refine Le.cond ?_ ?_ | refine Le.bind ?_ (λ_ => ?_))
def qN (e_1:Entry) (zone_2:Int) (wv_3:Window):Option ((List Window)) :=
 (bif e_1.Gone then some true else some (decide (wv_3.From>=wv_3.To))).bind λv_6=>bif v_6 then some ([]:(List Window))else (xu (([]:List Window),(fZ (w64 ((w64 ((w64 (wv_3.From+(w64 (zone_2*60000)))).tdiv 86400000))-2)) e_1.First)) (λs=>oz wv_3 zone_2 e_1 s)).bind λo_21=>thenC o_21 (λs_15=>some s_15.1) (λ_=>none)
theorem BA (e_1:Entry) (zone_2:Int) (wv_3:Window):Le (qN e_1 zone_2 wv_3) (gQ e_1 zone_2 wv_3):=by
 unfold qN gQ
 repeat' (with_reducible first | exact Le.refl _ | exact yz _ _ _ _ | refine Le.loop (λ_ => ?_) | refine Le.forL (λ_ _ _ => ?_) | refine Le.thenC (λ_ => ?_) (λ_ => ?_) | refine Le.cond ?_ ?_ | refine Le.bind ?_ (λ_ => ?_))
def jl (s_1:(List Int)) (s_8:Int):Option (Ctl (Int) ((List Int))) :=
 bif (decide (s_8<(s_1.length:Int)))then (inR s_8 s_1).bind λ_=>(s_1[(0+(s_8).toNat)]?).bind λe_15=>(inR (w64 (s_8-1)) s_1).bind λ_=>(s_1[(0+((w64 (s_8-1))).toNat)]?).bind λe_18=>bif (e_15==e_18)then (neL s_1).bind λ_=>(oh s_1 s_8 (s_1.length:Int)).bind λ_=>(xu (s_1,s_8,1) (λs=>cB s_1 s_8 s)).bind λo_31=>thenC o_31 (λs_28=>(oh s_28.1 s_28.2.1 (s_28.1.length:Int)).bind λ_=>(oh (s_28.1.take ((s_28.2.1).toNat)++List.replicate (((s_28.1.length:Int)).toNat-(s_28.2.1).toNat) 0++s_28.1.drop (((s_28.2.1).toNat)+(((s_28.1.length:Int)).toNat-(s_28.2.1).toNat))) 0 s_28.2.1).bind λ_=>some (.ret (DI (s_28.1.take ((s_28.2.1).toNat)++List.replicate (((s_28.1.length:Int)).toNat-(s_28.2.1).toNat) 0++s_28.1.drop (((s_28.2.1).toNat)+(((s_28.1.length:Int)).toNat-(s_28.2.1).toNat))) 0 ((s_28.2.1).toNat)))) (λ_=>none)else some (.go (w64 (s_8+1)))else some (.brk s_8)
theorem pI (s_1:(List Int)) (s_8:Int):Le (jl s_1 s_8) (bg s_1 s_8):=by
 unfold jl bg
 repeat' (with_reducible first | exact Le.refl _ | refine Le.loop (λ_ => ?_) | refine Le.forL (λ_ _ _ => ?_) | refine Le.thenC (λ_ => ?_) (λ_ => ?_) | refine Le.cond ?_ ?_ | refine Le.bind ?_ (λ_ => ?_))
def jU (s_1:(List Int)):Option ((List Int)) :=
 bif (decide ((s_1.length:Int)<2))then some s_1 else (xu 1 (λs=>jl s_1 s)).bind λo_11=>thenC o_11 (λs_8=>some s_1) (λr=>some r)
theorem ry (s_1:(List Int)):Le (jU s_1) (cZ s_1):=by
 unfold jU cZ
 repeat' (with_reducible first | exact Le.refl _ | exact pI _ _ | refine Le.loop (λ_ => ?_) | refine Le.forL (λ_ _ _ => ?_) | refine Le.thenC (λ_ => ?_) (λ_ => ?_) | refine Le.cond ?_ ?_ | refine Le.bind ?_ (λ_ => ?_))
def mJ (l_1:(List Beat)) (k_3:Nat) (x_5:Beat) (s_8:Unit):Option (Ctl (Unit) (Int)) :=
 (lG x_5.Player).bind λr_14=>bif (!r_14)then some (.ret 5)else ((cO x_5.At).bind λr_19=>bif (!r_19)then some true else (aU x_5.Clock 0 345686399999).bind λr_22=>some r_22).bind λv_17=>bif v_17 then some (.ret 1)else (bif (decide ((k_3:Int)>0))then (idx l_1 (w64 ((k_3:Int)-1))).bind λy_28=>(jc y_28 x_5).bind λr_30=>some (decide (r_30>=0))else some false).bind λv_25=>bif v_25 then some (.ret 7)else (bif (decide ((k_3:Int)>0))then (idx l_1 (w64 ((k_3:Int)-1))).bind λy_36=>bif (sEq x_5.Player y_36.Player)then (idx l_1 (w64 ((k_3:Int)-1))).bind λy_39=>some (decide (x_5.Clock<=y_39.Clock))else some false else some false).bind λv_33=>bif v_33 then some (.ret 16)else some (.go ())
theorem wE (l_1:(List Beat)) (k_3:Nat) (x_5:Beat) (s_8:Unit):Le (mJ l_1 k_3 x_5 s_8) (iU l_1 k_3 x_5 s_8):=by
 unfold mJ iU
 repeat' (with_reducible first | exact Le.refl _ | exact o7 _ | refine Le.loop (λ_ => ?_) | refine Le.forL (λ_ _ _ => ?_) | refine Le.thenC (λ_ => ?_) (λ_ => ?_) | refine Le.cond ?_ ?_ | refine Le.bind ?_ (λ_ => ?_))
def pE (l_1:(List Beat)):Option (Int) :=
 bif (decide ((l_1.length:Int)>500))then some 2 else (forL l_1 () (λk x s=>mJ l_1 k x s)).bind λo_11=>thenC o_11 (λs_8=>some 0) (λr=>some r)
theorem zf (l_1:(List Beat)):Le (pE l_1) (fT l_1):=by
 unfold pE fT
 repeat' (with_reducible first | exact Le.refl _ | exact wE _ _ _ _ | refine Le.loop (λ_ => ?_) | refine Le.forL (λ_ _ _ => ?_) | refine Le.thenC (λ_ => ?_) (λ_ => ?_) | refine Le.cond ?_ ?_ | refine Le.bind ?_ (λ_ => ?_))
def uD (l_1:(List Beat_)) (n_2:Int):Option (Int×Int) :=
 bif ((l_1.length:Int)==0)then some (0,8)else (xu 0 (λs=>gX l_1 n_2 s)).bind λo_12=>thenC o_12 (λs_9=>bif (s_9==0)then (idx l_1 0).bind λy_21=>(idx l_1 0).bind λy_23=>(cO (w64 (y_21.f_to-(w64 (y_23.f_from-n_2))))).bind λr_25=>bif (!r_25)then some (0,11)else some ((w64 (y_21.f_to-(w64 (y_23.f_from-n_2)))),0)else bif (s_9==(l_1.length:Int))then (idx l_1 (w64 (s_9-1))).bind λy_29=>(idx l_1 (w64 (s_9-1))).bind λy_31=>(cO (w64 ((w64 (y_29.f_to+n_2))-y_31.f_from))).bind λr_33=>bif (!r_33)then some (0,11)else some ((w64 ((w64 (y_29.f_to+n_2))-y_31.f_from)),0)else (idx l_1 (w64 (s_9-1))).bind λy_36=>(idx l_1 s_9).bind λy_38=>(bif (decide ((w64 (y_38.f_from-y_36.f_from))>2592000000))then some true else some (decide ((w64 (y_38.f_to-y_36.f_to))>2592000000))).bind λv_42=>bif v_42 then some (0,2)else (Jr .i64 (w64 ((w64 (n_2-y_36.f_from))*(w64 (y_38.f_to-y_36.f_to)))) (w64 (y_38.f_from-y_36.f_from))).bind λq_46=>(cO (w64 (y_36.f_to+q_46))).bind λr_48=>bif (!r_48)then some (0,11)else some ((w64 (y_36.f_to+q_46)),0)) (λ_=>none)
theorem DT (l_1:(List Beat_)) (n_2:Int):Le (uD l_1 n_2) (ji l_1 n_2):=by
 unfold uD ji
 repeat' (with_reducible first | exact Le.refl _ | refine Le.loop (λ_ => ?_) | refine Le.forL (λ_ _ _ => ?_) | refine Le.thenC (λ_ => ?_) (λ_ => ?_) | refine Le.cond ?_ ?_ | refine Le.bind ?_ (λ_ => ?_))
def dZ (b_3:Int) (a_2:Int) (s_10:(List Run)×Int):Option (Ctl ((List Run)×Int) (Unit)) :=
 bif (decide (s_10.2<b_3))then (xu (s_10.1,s_10.2) (λs=>dB a_2 s)).bind λo_24=>thenC o_24 (λs_21=>some (.go (s_21.1,(w64 (s_10.2+1))))) (λ_=>none)else some (.brk (s_10.1,s_10.2))
theorem kI (b_3:Int) (a_2:Int) (s_10:(List Run)×Int):Le (dZ b_3 a_2 s_10) (bR b_3 a_2 s_10):=by
 unfold dZ bR
 repeat' (with_reducible first | exact Le.refl _ | refine Le.loop (λ_ => ?_) | refine Le.forL (λ_ _ _ => ?_) | refine Le.thenC (λ_ => ?_) (λ_ => ?_) | refine Le.cond ?_ ?_ | refine Le.bind ?_ (λ_ => ?_))
def eO (data_1:(List Run)) (a_2:Int) (b_3:Int):Option ((List Run)) :=
 (xu (data_1,(w64 (a_2+1))) (λs=>dZ b_3 a_2 s)).bind λo_13=>thenC o_13 (λs_10=>some s_10.1) (λ_=>none)
theorem lm (data_1:(List Run)) (a_2:Int) (b_3:Int):Le (eO data_1 a_2 b_3) (cz data_1 a_2 b_3):=by
 unfold eO cz
 repeat' (with_reducible first | exact Le.refl _ | exact kI _ _ _ | refine Le.loop (λ_ => ?_) | refine Le.forL (λ_ _ _ => ?_) | refine Le.thenC (λ_ => ?_) (λ_ => ?_) | refine Le.cond ?_ ?_ | refine Le.bind ?_ (λ_ => ?_))
def fF (b_3:Int) (a_2:Int) (data_1:(List Run)) (limit_4:Int) (s_11:Unit):Option (Ctl (Unit) ((List Run))) :=
 bif (decide ((w64 (b_3-a_2))<=12))then (eO data_1 a_2 b_3).bind λr_17=>(jS r_17 data_1).bind λ_=>some (.ret r_17)else bif (limit_4==0)then none else none
theorem lU (b_3:Int) (a_2:Int) (data_1:(List Run)) (limit_4:Int) (s_11:Unit):Le (fF b_3 a_2 data_1 limit_4 s_11) (dz b_3 a_2 data_1 limit_4 s_11):=by
 unfold fF dz
 repeat' (with_reducible first | exact Le.refl _ | exact lm _ _ _ | refine Le.loop (λ_ => ?_) | refine Le.forL (λ_ _ _ => ?_) | refine Le.thenC (λ_ => ?_) (λ_ => ?_) | refine Le.cond ?_ ?_ | refine Le.bind ?_ (λ_ => ?_))
def gp (data_1:(List Run)) (a_2:Int) (b_3:Int) (limit_4:Int):Option ((List Run)) :=
 (xu () (λs=>fF b_3 a_2 data_1 limit_4 s)).bind λo_14=>thenC o_14 (λs_11=>some data_1) (λr=>some r)
theorem mG (data_1:(List Run)) (a_2:Int) (b_3:Int) (limit_4:Int):Le (gp data_1 a_2 b_3 limit_4) (dF data_1 a_2 b_3 limit_4):=by
 unfold gp dF
 repeat' (with_reducible first | exact Le.refl _ | exact lU _ _ _ _ _ | refine Le.loop (λ_ => ?_) | refine Le.forL (λ_ _ _ => ?_) | refine Le.thenC (λ_ => ?_) (λ_ => ?_) | refine Le.cond ?_ ?_ | refine Le.bind ?_ (λ_ => ?_))
def eY (x_1:(List Run)):Option ((List Run)) :=
 (qo (IntKind.u64.wrap (x_1.length:Int))).bind λr_3=>(gp x_1 0 (x_1.length:Int) r_3).bind λr_5=>(jS r_5 x_1).bind λ_=>some r_5
theorem lD (x_1:(List Run)):Le (eY x_1) (dh x_1):=by
 unfold eY dh
 repeat' (with_reducible first | exact Le.refl _ | exact mG _ _ _ _ | refine Le.loop (λ_ => ?_) | refine Le.forL (λ_ _ _ => ?_) | refine Le.thenC (λ_ => ?_) (λ_ => ?_) | refine Le.cond ?_ ?_ | refine Le.bind ?_ (λ_ => ?_))
def rP (l_1:(List Rect)) (y_2:Int):Option ((List Run)) :=
 (forL l_1 ([]:List Run) (λk x s=>oU y_2 k x s)).bind λo_14=>thenC o_14 (λs_8=>(eY s_8).bind λr_27=>(jS r_27 s_8).bind λ_=>(forL r_27 ([]:List Run) (λk x s=>oW k x s)).bind λo_41=>thenC o_41 (λs_35=>some s_35) (λ_=>none)) (λ_=>none)
theorem EE (l_1:(List Rect)) (y_2:Int):Le (rP l_1 y_2) (oK l_1 y_2):=by
 unfold rP oK
 repeat' (with_reducible first | exact Le.refl _ | exact lD _ | refine Le.loop (λ_ => ?_) | refine Le.forL (λ_ _ _ => ?_) | refine Le.thenC (λ_ => ?_) (λ_ => ?_) | refine Le.cond ?_ ?_ | refine Le.bind ?_ (λ_ => ?_))
def rf (m_2:(List Run)) (k_3:Nat) (x_5:Run) (s_8:(List Run)×Int):Option (Ctl ((List Run)×Int) (Unit)) :=
 (xu s_8.2 (λs=>pg m_2 x_5 s)).bind λo_25=>thenC o_25 (λs_22=>(xu (s_8.1,s_22,x_5.f_from) (λs=>o8 m_2 x_5 s)).bind λo_43=>thenC o_43 (λs_38=>(bif (decide (s_38.2.2<x_5.f_to))then (jv s_38.1 ([(⟨s_38.2.2,x_5.f_to⟩:Run)]:List Run)).bind λa_68=>some a_68 else some s_38.1).bind λv_64=>some (.go (v_64,s_22))) (λ_=>none)) (λ_=>none)
theorem BC (m_2:(List Run)) (k_3:Nat) (x_5:Run) (s_8:(List Run)×Int):Le (rf m_2 k_3 x_5 s_8) (mQ m_2 k_3 x_5 s_8):=by
 unfold rf mQ
 repeat' (with_reducible first | exact Le.refl _ | refine Le.loop (λ_ => ?_) | refine Le.forL (λ_ _ _ => ?_) | refine Le.thenC (λ_ => ?_) (λ_ => ?_) | refine Le.cond ?_ ?_ | refine Le.bind ?_ (λ_ => ?_))
def vW (l_1:(List Run)) (m_2:(List Run)):Option ((List Run)) :=
 (forL l_1 (([]:List Run),0) (λk x s=>rf m_2 k x s)).bind λo_14=>thenC o_14 (λs_8=>some s_8.1) (λ_=>none)
theorem EL (l_1:(List Run)) (m_2:(List Run)):Le (vW l_1 m_2) (qE l_1 m_2):=by
 unfold vW qE
 repeat' (with_reducible first | exact Le.refl _ | exact BC _ _ _ _ | refine Le.loop (λ_ => ?_) | refine Le.forL (λ_ _ _ => ?_) | refine Le.thenC (λ_ => ?_) (λ_ => ?_) | refine Le.cond ?_ ?_ | refine Le.bind ?_ (λ_ => ?_))
def pz (r_25:(List Int)) (l_1:(List Rect)) (m_2:(List Rect)) (k_27:Nat) (x_29:Int) (s_32:(List Rect)×(List Run)×Int):Option (Ctl ((List Rect)×(List Run)×Int) (Unit)) :=
 (bif (decide ((w64 ((k_27:Int)+1))<(r_25.length:Int)))then (rP l_1 x_29).bind λr_45=>(rP m_2 x_29).bind λr_47=>(vW r_45 r_47).bind λr_49=>some r_49 else some ([]:List Run)).bind λv_42=>(eP s_32.2.1 v_42).bind λr_51=>bif r_51 then some (.go (s_32.1,s_32.2.1,s_32.2.2))else (forL s_32.2.1 s_32.1 (λk x s=>nA s_32 x_29 k x s)).bind λo_64=>thenC o_64 (λs_59=>some (.go (s_59,v_42,x_29))) (λ_=>none)
theorem zb (r_25:(List Int)) (l_1:(List Rect)) (m_2:(List Rect)) (k_27:Nat) (x_29:Int) (s_32:(List Rect)×(List Run)×Int):Le (pz r_25 l_1 m_2 k_27 x_29 s_32) (lc r_25 l_1 m_2 k_27 x_29 s_32):=by
 unfold pz lc
 repeat' (with_reducible first | exact Le.refl _ | exact EE _ _ | exact EL _ _ | refine Le.loop (λ_ => ?_) | refine Le.forL (λ_ _ _ => ?_) | refine Le.thenC (λ_ => ?_) (λ_ => ?_) | refine Le.cond ?_ ?_ | refine Le.bind ?_ (λ_ => ?_))
def sI (l_1:(List Rect)) (m_2:(List Rect)):Option ((List Rect)) :=
 (fI ([l_1,m_2]:List (List Rect))).bind λr_3=>(forL r_3 ([]:List Int) (λk x s=>nC k x s)).bind λo_16=>thenC o_16 (λs_10=>(yB s_10).bind λr_22=>(jS r_22 s_10).bind λ_=>(jU r_22).bind λr_25=>(forL r_25 (([]:List Rect),([]:List Run),0) (λk x s=>pz r_25 l_1 m_2 k x s)).bind λo_38=>thenC o_38 (λs_32=>some s_32.1) (λ_=>none)) (λ_=>none)
theorem BJ (l_1:(List Rect)) (m_2:(List Rect)):Le (sI l_1 m_2) (nT l_1 m_2):=by
 unfold sI nT
 repeat' (with_reducible first | exact Le.refl _ | exact ry _ | exact zb _ _ _ _ _ _ | exact RI _ | refine Le.loop (λ_ => ?_) | refine Le.forL (λ_ _ _ => ?_) | refine Le.thenC (λ_ => ?_) (λ_ => ?_) | refine Le.cond ?_ ?_ | refine Le.bind ?_ (λ_ => ?_))
def wG (l_1:(List Rect)):Option (Int×Int) :=
 (mh l_1).bind λr_2=>bif (r_2 != 0)then some (0,r_2)else (sI l_1 ([]:List Rect)).bind λr_5=>(uj r_5).bind λr_7=>some (r_7,0)
theorem FU (l_1:(List Rect)):Le (wG l_1) (qF l_1):=by
 unfold wG qF
 repeat' (with_reducible first | exact Le.refl _ | exact BJ _ _ | refine Le.loop (λ_ => ?_) | refine Le.forL (λ_ _ _ => ?_) | refine Le.thenC (λ_ => ?_) (λ_ => ?_) | refine Le.cond ?_ ?_ | refine Le.bind ?_ (λ_ => ?_))
def oq (l_1:(List ByteArray)):Option (Int) :=
 bif (decide ((l_1.length:Int)>20))then some 2 else (nI l_1).bind λr_3=>some r_3
theorem yD (l_1:(List ByteArray)):Le (oq l_1) (kD l_1):=by
 unfold oq kD
 repeat' (with_reducible first | exact Le.refl _ | exact sW _ | refine Le.loop (λ_ => ?_) | refine Le.forL (λ_ _ _ => ?_) | refine Le.thenC (λ_ => ?_) (λ_ => ?_) | refine Le.cond ?_ ?_ | refine Le.bind ?_ (λ_ => ?_))
def jR (l_1:(List Campaign)) (k_3:Nat) (x_5:Campaign) (s_8:Unit):Option (Ctl (Unit) (Int)) :=
 ((lG x_5.Key).bind λr_16=>bif (!r_16)then some true else bif (sNe x_5.Class (⟨#[]⟩:ByteArray))then (lG x_5.Class).bind λr_20=>some (!r_20)else some false).bind λv_14=>bif v_14 then some (.ret 5)else (bif (decide ((k_3:Int)>0))then (idx l_1 (w64 ((k_3:Int)-1))).bind λy_26=>some (sLe x_5.Key y_26.Key)else some false).bind λv_23=>bif v_23 then some (.ret 7)else ((o5 x_5.Time).bind λr_31=>bif (!r_31)then some true else (aU x_5.Goal 0 1000000).bind λr_34=>bif r_34 then some true else (aU x_5.Most 0 1000000).bind λr_37=>bif r_37 then some true else (aU x_5.Cents 0 1000000000).bind λr_40=>some r_40).bind λv_29=>bif v_29 then some (.ret 1)else (oq x_5.Tags).bind λr_43=>bif (r_43 != 0)then some (.ret r_43)else some (.go ())
theorem qR (l_1:(List Campaign)) (k_3:Nat) (x_5:Campaign) (s_8:Unit):Le (jR l_1 k_3 x_5 s_8) (gm l_1 k_3 x_5 s_8):=by
 unfold jR gm
 repeat' (with_reducible first | exact Le.refl _ | exact o7 _ | exact yD _ | refine Le.loop (λ_ => ?_) | refine Le.forL (λ_ _ _ => ?_) | refine Le.thenC (λ_ => ?_) (λ_ => ?_) | refine Le.cond ?_ ?_ | refine Le.bind ?_ (λ_ => ?_))
def lh (l_1:(List Campaign)):Option (Int) :=
 bif (decide ((l_1.length:Int)>30))then some 2 else (forL l_1 () (λk x s=>jR l_1 k x s)).bind λo_11=>thenC o_11 (λs_8=>some 0) (λr=>some r)
theorem tO (l_1:(List Campaign)):Le (lh l_1) (iT l_1):=by
 unfold lh iT
 repeat' (with_reducible first | exact Le.refl _ | exact qR _ _ _ _ | refine Le.loop (λ_ => ?_) | refine Le.forL (λ_ _ _ => ?_) | refine Le.thenC (λ_ => ?_) (λ_ => ?_) | refine Le.cond ?_ ?_ | refine Le.bind ?_ (λ_ => ?_))
def wM (c_1:Campaign) (atv_2:Int):Option (Int×Int) :=
 (lh ([c_1]:List Campaign)).bind λr_4=>bif (r_4 != 0)then some (0,r_4)else (cO atv_2).bind λr_7=>bif (!r_7)then some (0,1)else (uA c_1 atv_2).bind λr_10=>some (r_10,0)
theorem Fw (c_1:Campaign) (atv_2:Int):Le (wM c_1 atv_2) (qJ c_1 atv_2):=by
 unfold wM qJ
 repeat' (with_reducible first | exact Le.refl _ | exact tO _ | refine Le.loop (λ_ => ?_) | refine Le.forL (λ_ _ _ => ?_) | refine Le.thenC (λ_ => ?_) (λ_ => ?_) | refine Le.cond ?_ ?_ | refine Le.bind ?_ (λ_ => ?_))
def wC (l_1:(List Beat)) (player_2:ByteArray) (n_3:Int) (back_4:Bool):Option (Int×Int) :=
 (pE l_1).bind λr_5=>bif (r_5 != 0)then some (0,r_5)else (lG player_2).bind λr_8=>bif (!r_8)then some (0,5)else (cO n_3).bind λr_11=>bif (!r_11)then some (0,1)else (kN l_1 player_2 back_4).bind λr_14=>(uD r_14 n_3).bind λr_16=>some (r_16.1,r_16.2)
theorem Fa (l_1:(List Beat)) (player_2:ByteArray) (n_3:Int) (back_4:Bool):Le (wC l_1 player_2 n_3 back_4) (qy l_1 player_2 n_3 back_4):=by
 unfold wC qy
 repeat' (with_reducible first | exact Le.refl _ | exact o7 _ | exact zf _ | exact DT _ _ | refine Le.loop (λ_ => ?_) | refine Le.forL (λ_ _ _ => ?_) | refine Le.thenC (λ_ => ?_) (λ_ => ?_) | refine Le.cond ?_ ?_ | refine Le.bind ?_ (λ_ => ?_))
def wB (l_1:(List Beat)) (player_2:ByteArray) (clock_3:Int):Option (Int×Int) :=
 (wC l_1 player_2 clock_3 false).bind λr_4=>some (r_4.1,r_4.2)
theorem FD (l_1:(List Beat)) (player_2:ByteArray) (clock_3:Int):Le (wB l_1 player_2 clock_3) (qH l_1 player_2 clock_3):=by
 unfold wB qH
 repeat' (with_reducible first | exact Le.refl _ | exact Fa _ _ _ _ | refine Le.loop (λ_ => ?_) | refine Le.forL (λ_ _ _ => ?_) | refine Le.thenC (λ_ => ?_) (λ_ => ?_) | refine Le.cond ?_ ?_ | refine Le.bind ?_ (λ_ => ?_))
def qU (e_1:Entry) (zone_2:Int) (wv_3:Window):Option ((List Window)×Int) :=
 (lM ([e_1]:List Entry)).bind λr_6=>bif (r_6 != 0)then some (([]:(List Window)),r_6)else (aU zone_2 (-1440) 1440).bind λr_9=>bif r_9 then some (([]:(List Window)),1)else (fP wv_3).bind λr_12=>bif (r_12 != 0)then some (([]:(List Window)),r_12)else (qN e_1 zone_2 wv_3).bind λr_15=>(forL (List.range ((r_15.length:Int)).toNat) r_15 (λk x s=>mq wv_3 k x s)).bind λo_27=>thenC o_27 (λs_24=>some (s_24,0)) (λ_=>none)
theorem Bc (e_1:Entry) (zone_2:Int) (wv_3:Window):Le (qU e_1 zone_2 wv_3) (mV e_1 zone_2 wv_3):=by
 unfold qU mV
 repeat' (with_reducible first | exact Le.refl _ | exact uK _ | exact BA _ _ _ | refine Le.loop (λ_ => ?_) | refine Le.forL (λ_ _ _ => ?_) | refine Le.thenC (λ_ => ?_) (λ_ => ?_) | refine Le.cond ?_ ?_ | refine Le.bind ?_ (λ_ => ?_))
def o6  : Option (Bool) :=
 (wG ([(⟨0,0,2,2⟩:Rect),(⟨1,1,2,2⟩:Rect)]:List Rect)).bind λr_1=>(wM (⟨(⟨#[97]⟩:ByteArray),(⟨#[]⟩:ByteArray),(⟨0,100⟩:Window),([]:List ByteArray),10,0,0⟩:Campaign) 50).bind λr_3=>(wB ([(⟨(⟨#[112]⟩:ByteArray),0,100⟩:Beat),(⟨(⟨#[112]⟩:ByteArray),1000,1300⟩:Beat)]:List Beat) (⟨#[112]⟩:ByteArray) 700).bind λr_5=>(qU (⟨(⟨#[97]⟩:ByteArray),(⟨#[98]⟩:ByteArray),0,0,0,1,127,([]:List Int),1,2,0,([]:List ByteArray),false⟩:Entry) 0 (⟨0,86400000⟩:Window)).bind λr_7=>(bif (r_1.2==0)then bif (r_3.2==0)then bif (r_5.2==0)then bif (r_7.2==0)then bif (r_1.1==7)then bif (r_3.1==5)then bif (r_5.1==500)then some ((r_7.1.length:Int)==1)else some false else some false else some false else some false else some false else some false else some false).bind λv_9=>some v_9
theorem zg  : Le (o6) (jJ):=by
 unfold o6 jJ
 repeat' (with_reducible first | exact Le.refl _ | exact FU _ | exact Fw _ _ | exact FD _ _ _ | exact Bc _ _ _ | refine Le.loop (λ_ => ?_) | refine Le.forL (λ_ _ _ => ?_) | refine Le.thenC (λ_ => ?_) (λ_ => ?_) | refine Le.cond ?_ ?_ | refine Le.bind ?_ (λ_ => ?_))
theorem facts_F:o6=some true:=by kernel_rfl
theorem Re:jJ=some true:=zg _ facts_F
open Go Go.Eng
theorem entF_kB {e:Entry} (h:uX e=0):keyB e.Key=true:=by
 unfold uX at h
 cases hk:keyB e.Key with
 | true=>rfl
 | false=>rw [hk]at h;cases h
theorem Ri {p:Player} (h:vG p=0):vG ⟨paT,p.Screen,p.Zone,p.Tags⟩=0:=by
 unfold vG at h ⊢
 rw [FB]
 cases h1:keyB p.Key with
 | false=>rw [h1]at h;cases h
 | true=>rw [h1]at h;exact h
theorem key_in {xs:List Entry} {p:Player} {a:Int} (h:jk xs p a≠emT):∃e∈xs,jk xs p a=e.Key:=by
 unfold jk at h ⊢
 cases hc:xB xs p a with
 | nil=>rw [hc]at h;exact absurd rfl h
 | cons x r =>
  have hx:x∈kY xs p a:=(vv tV (kY xs p a)).mem_iff.1 (by
   have:x∈xB xs p a:=by rw [hc];exact List.mem_cons_self
   exact this)
  exact⟨x.1,(BS.1 hx).1,rfl⟩
theorem Q3 {s:ByteArray} (h:sNe s emT=true):s≠emT:=λe=>by
 have:sNe s emT = !sEq s emT:=rfl
 rw [this,(ql _ _).2 e]at h;cases h
theorem M4 {xs:List Entry} {p:Player} (hE:∀e∈xs,Gb e) (h0:∀e∈xs,uX e=0) {t:List Slot_} (ht:iy (jk xs p) 172800000 86400000 t):∀x∈t.filter onT,GoodT x/\jk xs p x.Time.From=x.Entry:=λx hx=>by
 obtain ⟨h1,h2⟩:=List.mem_filter.1 hx
 obtain ⟨x1,x2,x3,x4⟩:=ht.at.1 x h1
 have hk:=x4 x.Time.From (Int.le_refl _) x2
 have hn:jk xs p x.Time.From≠emT:=by rw [hk];exact Q3 h2
 obtain ⟨e,e1,e2⟩:=key_in hn
 have he:x.Entry=e.Key:=by rw [<- hk,e2]
 exact⟨⟨by rw [he];exact entF_kB (h0 e e1),by rw [he];exact (hE e e1).1,x1,x2,x3⟩,hk⟩
theorem Pm {a b:Play} (h:a.Player=b.Player) (h2:a.At<b.At):∃n,jX a b=some n/\n<0:=by
 refine⟨_,by simp only [jX,xX,wP,Mf,ob_];rfl,?_⟩
 rw [h,yN]
 unfold JD xZ
 rw [if_pos h2]
 show (-1:Int)<0
 omega
theorem JS:∀{ts:List Slot_} {E:Int},Asc E ts->∀(i:Nat) (x y:Slot_),ts[i]? = some x->ts[i+1]? = some y->x.Time.From<y.Time.From
 | [],_,_,i,x,y,h1,h2=>by simp at h1
 | z::r,E,h,0,x,y,h1,h2=>by
  obtain ⟨a1,a2,a3,a4⟩:=h
  rw [List.getElem?_cons_zero,so_]at h1
  subst h1
  cases r with
  | nil=>simp at h2
  | cons w r =>
   obtain ⟨b1,_⟩:=a4
   simp only [List.getElem?_cons_succ,List.getElem?_cons_zero,so_]at h2
   subst h2
   omega
 | z::r,E,h,i+1,x,y,h1,h2=>by
  obtain ⟨a1,a2,a3,a4⟩:=h
  exact JS a4 i x y (by simpa using h1) (by simpa using h2)
theorem JX {ts:List Slot_} (hx:∀x∈ts,GoodT x) (ha:Asc 86400000 ts) (hl:ts.length<=19):jN (ts.map uL)=some 0:=by
 unfold jN
 have hlen:(ts.map uL).length=ts.length:=List.length_map _
 rw [decide_eq_false (by omega),cond_false]
 obtain ⟨u,e,_⟩:=wT (body:=λk x s=>jF (ts.map uL) k x s) (λ_ _=>True) (xs:=ts.map uL) (s:=()) (by omega) (λk x s hk _=>by
  refine⟨(),?_,trivial⟩
  rw [List.getElem?_map]at hk
  cases hz:ts[k]? with
  | none=>rw [hz]at hk;cases hk
  | some z =>
  rw [hz,Option.map_some,so_]at hk
  obtain ⟨z1,z2,z3,z4,z5⟩:=hx z (List.mem_of_getElem? hz)
  have k1:dQ x.Player=some true:=by
   rw [<- hk]
   show dQ paT=some true
   rw [ng _ (by decide),FB]
  have k2:dQ x.Item=some true:=by
   rw [<- hk]
   show dQ z.Entry=some true
   rw [ng _ (by unfold ShortK at z2;omega),z1]
  have k3:momB x.At=true:=by
   rw [<- hk]
   exact oQ (by show 0<=z.Time.From/\z.Time.From<=345686399999;omega)
  have k4:1<=x.Long/\x.Long<=86400000:=by
   rw [<- hk]
   show 1<=z.Time.To-z.Time.From/\z.Time.To-z.Time.From<=86400000
   omega
  unfold jF
  simp only [k1,k2,ob_,Bool.not_true,cond_false,uB,k3,uq,vO k4]
  rcases Nat.eq_zero_or_pos k with h0|h0
  ·rw [decide_eq_false (by omega)];rfl
  ·obtain ⟨j,rfl⟩:∃j,k=j+1:=⟨k-1,by omega⟩
   have hlt:=(List.getElem?_eq_some_iff.1 hz).1
   have hj:ts[j]? = some (ts[j]'(by omega)):=List.getElem?_eq_getElem _
   have hi:idx (ts.map uL) (w64 (((j+1:Nat):Int)-1))=some (uL (ts[j]'(by omega))):=by
    rw [aZ (by omega),show (((j+1:Nat):Int)-1)=(j:Int) by omega,iH,List.getElem?_map,hj];rfl
   obtain ⟨n,n1,n2⟩:=Pm (a:=uL (ts[j]'(by omega))) (b:=x) (by rw [<- hk];rfl) (by rw [<- hk];exact JS ha j _ _ hj hz)
   rw [decide_eq_true (by omega),cond_true,hi,ob_,n1,ob_,decide_eq_false (by omega)];rfl) trivial
 rw [e];rfl
theorem Gl (l2:List Window):∀(xs:List Window) (k:Nat),l2.drop k=xs->forR (λk x s=>bW l2 k x s) xs k ()=some (.go ())
 | [],k,h=>rfl
 | x::xs,k,h=>by
  have hstep:bW l2 k x ()=some (.go ()):=by
   unfold bW
   rw [bU h]
   simp
  simp only [forR,hstep,ob_]
  exact Gl l2 xs (k+1) (aW h)
theorem J7 (l:List Window) (hl:l.length<=1000000000):dJ l l=some true:=by
 unfold dJ
 have e:((l.length:Int) != (l.length:Int))=false:=by simp
 rw [e,cond_false,jG (by omega),Gl l l 0 rfl]
 rfl
theorem idle_ts {f:Int->ByteArray} {t:List Slot_} (ht:iy f 172800000 86400000 t) (hl:t.length<=19) (hc:jN ((t.filter onT).map uL)=some 0):tK ((t.filter onT).map uL) paT ⟨86400000,172800000⟩=some ((t.filter (λx => !onT x)).map (·.Time),0):=by
 obtain ⟨D',a,e1,e2,e3⟩:=Au (F0:=86400000) (by omega) t 86400000 86400000 [] 0 ht (by omega) (Int.le_refl _) (λh=>absurd h (Int.lt_irrefl _)) (by simp only [List.length_nil];omega)
 rw [if_neg (Int.lt_irrefl _),List.append_nil,List.nil_append]at e3
 have hfl:(t.filter onT).length<=t.length:=List.length_filter_le _ _
 have k1:dQ paT=some true:=by rw [ng _ (by decide),FB]
 unfold tK
 rw [hc,ob_]
 simp only [bne_self_eq_false,cond_false,k1,ob_,Bool.not_true,uq,vO (show (0:Int)<=86400000/\(86400000:Int)<=172800000 by omega)]
 rw [decide_eq_false (by omega),cond_false,jG (by rw [List.length_map];omega),e1,ob_,gN]
 simp only []
 by_cases hat:a<172800000
 ·rw [if_pos hat]at e3
  rw [decide_eq_true hat,cond_true,oP _ _ (by simp only [List.length_cons,List.length_nil]at e2 ⊢;omega),ob_,ob_,e3]
 ·rw [if_neg hat]at e3
  rw [decide_eq_false hat,cond_false,ob_,e3]
theorem topSlotsAreLogged (l:List Int):iZ l=some true:=by
 obtain ⟨xs,s1,a1,a2,a3,a4,a5⟩:=rightE ⟨l,0⟩ (b:=0) ⟨Int.le_refl _,Int.le_refl _⟩ (by decide)
 obtain ⟨p0,s2,b1,b2,b3,b4⟩:=rightP s1 a2 (by omega)
 obtain ⟨off,s3,c1,c2,c3,c4⟩:=KW s2 0 1000000 b2 (by omega) (by decide) (by decide) (by decide)
 have ho:0<=off/\off<=1000000:=⟨c2,c3⟩
 have b4':=Ri b4
 have b3':NZ (⟨paT,p0.Screen,p0.Zone,p0.Tags⟩:Player):=⟨rV rfl,b3.2.1,b3.2.2.1,b3.2.2.2⟩
 generalize hp:(⟨paT,p0.Screen,p0.Zone,p0.Tags⟩:Player)=p at b3' b4'
 have hc:=ce_of a4 a3 a5 b4'
 have hm:∀t,0<=t->t<345686400000->eG xs p t=some 0:=λt t1 t2=>by
  rw [momentK a4 (by omega) b3']
  unfold faV moF
  rw [a5,b4',DZ (by omega)];rfl
 obtain ⟨t,e1,e2,e3⟩:=Mg hc (w:=⟨86400000,172800000⟩) ⟨by simp only [];omega,by simp only [];omega,by simp only [];omega⟩ (by simp only [];omega)
 have hsf:jb xs p ⟨86400000,172800000⟩=some 0:=by
  unfold jb
  have hw:winF ⟨86400000,172800000⟩=0:=by
   unfold winF
   simp only []
   rw [DZ (by omega),decide_eq_false (by omega),aZ (by omega),decide_eq_false (by omega)];rfl
  rw [entsK a4 (by omega),a5,ob_,bne_self_eq_false,cond_false,playK p b3',b4',ob_,bne_self_eq_false,cond_false,winK,hw,ob_]
 have hth:kS xs p ⟨86400000,172800000⟩=some (t,0):=by
  unfold kS
  rw [hsf,ob_,bne_self_eq_false,cond_false,e1];rfl
 have htl:t.length<=9:=OM hc (by simp only [];omega) e2
 have hb:∀x∈t,0<=x.Time.From/\x.Time.From<x.Time.To/\x.Time.To<=1000000000000:=λx hx=>by
  obtain ⟨x1,x2,x3,_⟩:=e2.at.1 x hx
  exact⟨by simp only []at x1;omega,x2,by simp only []at x3;omega⟩
 have hlg:=E5 (off,s3) ho t 0 [] hb (by simp only [List.length_nil];omega)
 rw [List.nil_append]at hlg
 have h0:∀e∈xs,uX e=0:=λe he=>((Cm xs Cj a5).1 e he).1
 have hgood:=M4 a4 h0 e2
 have hg:∀x∈t.filter onT,GoodT x:=λx hx=>(hgood x hx).1
 have hfl:(t.filter onT).length<=19:=Nat.le_trans (List.length_filter_le _ _) (by omega)
 have hasc:=Hz (T:=172800000) (Int.le_refl _) t 86400000 e2
 have hch:=OZ ho hg hfl
 have hpl:=QS ho hg hasc hfl
 have hck:=JX hg hasc hfl
 have hid:=idle_ts e2 (by omega) hck
 have hfr:nY xs p ⟨86400000,172800000⟩=some ((t.filter (λx => !onT x)).map (·.Time),0):=by
  unfold nY
  rw [hsf,ob_,bne_self_eq_false,cond_false,e1,ob_,jG (by omega),Gn t 0 [] (by simp only [List.length_nil];omega),ob_,gN,List.nil_append]
 have hnl:((t.filter (λx => !onT x)).map (·.Time)).length<=9:=by rw [List.length_map];exact Nat.le_trans (List.length_filter_le _ _) htl
 have hw1:w64 (86400000+off)=86400000+off:=aZ (by omega)
 have hw2:w64 (172800000+off)=172800000+off:=aZ (by omega)
 have hpa:(⟨(⟨#[112,97]⟩:ByteArray),p0.Screen,p0.Zone,p0.Tags⟩:Player)=p:=hp
 unfold iZ
 rw [a1,ob_]
 simp only []
 rw [b1,ob_]
 simp only [hpa]
 rw [hth,ob_,c1,ob_]
 simp only []
 rw [jG (by omega),hlg,ob_,gN]
 rw [show (([]:List Log_).length)=0 from rfl,hch,ob_]
 simp only [hw1,hw2]
 rw [show ([(⟨(⟨#[112,97]⟩:ByteArray),86400000,86400000+off⟩:Beat),(⟨(⟨#[112,97]⟩:ByteArray),172800000,172800000+off⟩:Beat)]:List Beat)=bts off from rfl,hpl,ob_]
 simp only []
 rw [show (⟨#[112,97]⟩:ByteArray)=paT from rfl,hid,ob_,hfr,ob_]
 simp only [bne_self_eq_false,cond_false,List.length_nil]
 rw [show (((0:Nat):Int) != 0)=false from rfl,cond_false,J7 _ (by omega),ob_,ob_]
 simp only [Bool.not_true,cond_false]
 obtain ⟨u,u1,_⟩:=wT (body:=λk x s=>eU (xs,s1) (p0,s2) k x s) (λ_ _=>True) (xs:=(t.filter onT).map uL) (s:=()) (by rw [List.length_map];omega) (λk x s hk _=>by
  refine⟨(),?_,trivial⟩
  obtain ⟨z,z1,z2⟩:=List.mem_map.1 (List.mem_of_getElem? hk)
  obtain ⟨g1,g2⟩:=hgood z z1
  have hk0:jk xs p z.Time.From≠emT:=by rw [g2];exact Q3 (List.mem_filter.1 z1).2
  have hr:0<=z.Time.From/\z.Time.From<345686400000:=by
   have:=g1.from_;have:=g1.lt;have:=g1.to_
   omega
  have hon:=on_ts hc hr (hm _ hr.1 hr.2) hk0
  have hx1:x.At=z.Time.From:=by rw [<- z2];rfl
  have hx2:x.Item=z.Entry:=by rw [<- z2];rfl
  unfold eU
  simp only [hpa]
  rw [hx1,hon,ob_]
  simp only [bne_self_eq_false,cond_false,Bool.not_true]
  have hse:sNe (jk xs p z.Time.From) x.Item=false:=by
   have e:sNe (jk xs p z.Time.From) x.Item = !sEq (jk xs p z.Time.From) x.Item:=rfl
   rw [e,(ql _ _).2 (by rw [hx2,g2])];rfl
  rw [hse];rfl) trivial
 rw [u1,ob_,gN,Re];rfl
end Go.Proofs.YtmkljmjhcegapaaGreatDoor.Law

