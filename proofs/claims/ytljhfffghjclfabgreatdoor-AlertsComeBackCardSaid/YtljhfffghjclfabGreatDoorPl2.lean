/-
  THE PLAIN LAW (part 2).
-/
import Derived.Test.YtljhfffghjclfabGreatDoorPl1
import Derived.Test.YtljhfffghjclfabGreatDoorDefs
import Derived.Laws.RangeString
open Go Go.Eng
namespace Go.Proofs.YtljhfffghjclfabGreatDoor.Law
set_option linter.unusedVariables false
set_option linter.unusedSimpArgs false
set_option maxRecDepth 100000
def gU (h:ByteArray):Option (Bool) :=
 (uW 0 (λs=>jC h s)).bind λA=>thenC A (λB=>(bif (sNe h (⟨#[]⟩:ByteArray))then some (decide ((h.size:Int)<=40))else some false).bind λo=>some o) (λr=>some r)
theorem jB (h:ByteArray):Le (gU h) (kit_IsKey h):=by
 unfold gU kit_IsKey
 repeat' (with_reducible first | exact Le.refl _ | refine Le.loop (λ_ => ?_) | refine Le.forL (λ_ _ _ => ?_) | refine Le.thenC (λ_ => ?_) (λ_ => ?_) | refine Le.cond ?_ ?_ | refine Le.bind ?_ (λ_ => ?_))
def mX (I:Alert) (A:Nat) (h:ByteArray) (J:Unit):Option (Ctl (Unit) (Int)) :=
 (gU h).bind λF=>bif (!F)then some (.ret 5)else (bif (decide ((A:Int)>0))then (idx I.Refs (w64 ((A:Int)-1))).bind λo=>some (sLe h o)else some false).bind λB=>bif B then some (.ret 7)else bif (sEq h I.Id)then some (.ret 14)else some (.go ())
theorem wU (B:Alert) (A:Nat) (h:ByteArray) (o:Unit):Le (mX B A h o) (dx B A h o):=by
 unfold mX dx
 repeat' (with_reducible first | exact Le.refl _ | exact jB _ | refine Le.loop (λ_ => ?_) | refine Le.forL (λ_ _ _ => ?_) | refine Le.thenC (λ_ => ?_) (λ_ => ?_) | refine Le.cond ?_ ?_ | refine Le.bind ?_ (λ_ => ?_))
def pF (h:Alert):Option (Int) :=
 bif (decide ((h.Refs.length:Int)>20))then some 2 else (forL h.Refs () (λk x s=>mX h k x s)).bind λo=>thenC o (λA=>bif (!((h.Kind==1)==((h.Refs.length:Int)==0)))then some 3 else some 0) (λr=>some r)
theorem zP (h:Alert):Le (pF h) (fF h):=by
 unfold pF fF
 repeat' (with_reducible first | exact Le.refl _ | exact wU _ _ _ _ | refine Le.loop (λ_ => ?_) | refine Le.forL (λ_ _ _ => ?_) | refine Le.thenC (λ_ => ?_) (λ_ => ?_) | refine Le.cond ?_ ?_ | refine Le.bind ?_ (λ_ => ?_))
def kE (h:ByteArray):Option (Bool) :=
 (uW 0 (λs=>fD h s)).bind λF=>thenC F (λJ=>((gX h).bind λI=>bif I then (qW h (⟨#[32]⟩:ByteArray)).bind λB=>bif (sEq B h)then (strings_Contains h (⟨#[32,32]⟩:ByteArray)).bind λA=>some (!A)else some false else some false).bind λo=>some o) (λr=>some r)
theorem lS (h:ByteArray):Le (kE h) (iX h):=by
 unfold kE iX
 repeat' (with_reducible first | exact Le.refl _ | refine Le.loop (λ_ => ?_) | refine Le.forL (λ_ _ _ => ?_) | refine Le.thenC (λ_ => ?_) (λ_ => ?_) | refine Le.cond ?_ ?_ | refine Le.bind ?_ (λ_ => ?_))
def oU (h:Alert):Option (Int) :=
 ((gU h.Id).bind λR=>bif (!R)then some true else (gU h.Sender).bind λO=>some (!O)).bind λW=>bif W then some 5 else (aQ h.Kind 1 3).bind λF=>bif F then some 4 else (pF h).bind λo=>bif (o != 0)then some o else ((cZ h.At).bind λA=>bif (!A)then some true else (aQ h.Until (w64 (h.At+1)) (w64 (h.At+2592000000))).bind λB=>bif B then some true else (aQ h.Weight 1 9).bind λN=>some N).bind λL=>bif L then some 1 else bif (decide ((h.Areas.length:Int)>20))then some 2 else (forL h.Areas () (λk x s=>dF k x s)).bind λM=>thenC M (λX=>bif (!((h.Kind==3)==((h.Areas.length:Int)==0)))then some 3 else bif (decide ((h.Text.size:Int)>500))then some 2 else ((kE h.Text).bind λJ=>bif (!J)then some true else bif (sEq h.Text (⟨#[]⟩:ByteArray))then some (!(h.Kind==3))else some false).bind λI=>bif I then some 3 else some 0) (λr=>some r)
theorem yU (h:Alert):Le (oU h) (eQ h):=by
 unfold oU eQ
 repeat' (with_reducible first | exact Le.refl _ | exact jB _ | exact zP _ | exact lS _ | refine Le.loop (λ_ => ?_) | refine Le.forL (λ_ _ _ => ?_) | refine Le.thenC (λ_ => ?_) (λ_ => ?_) | refine Le.cond ?_ ?_ | refine Le.bind ?_ (λ_ => ?_))
def lh (J:(List Alert)) (I:Nat) (F:Alert) (L:Unit):Option (Ctl (Unit) (Int)) :=
 (oU F).bind λh=>bif (h != 0)then some (.ret h)else (bif (decide ((I:Int)>0))then (idx J (w64 ((I:Int)-1))).bind λo=>(ic o F).bind λA=>some (decide (A>=0))else some false).bind λB=>bif B then some (.ret 7)else some (.go ())
theorem uF (h:(List Alert)) (A:Nat) (o:Alert) (B:Unit):Le (lh h A o B) (cK h A o B):=by
 unfold lh cK
 repeat' (with_reducible first | exact Le.refl _ | exact yU _ | refine Le.loop (λ_ => ?_) | refine Le.forL (λ_ _ _ => ?_) | refine Le.thenC (λ_ => ?_) (λ_ => ?_) | refine Le.cond ?_ ?_ | refine Le.bind ?_ (λ_ => ?_))
def nN (h:(List Alert)):Option (Int) :=
 bif (decide ((h.length:Int)>300))then some 2 else (forL h () (λk x s=>lh h k x s)).bind λo=>thenC o (λF=>(forL h ([]:List (ByteArray×Bool)) (λk x s=>bH k x s)).bind λA=>thenC A (λB=>some 0) (λr=>some r)) (λr=>some r)
theorem xL (h:(List Alert)):Le (nN h) (bO h):=by
 unfold nN bO
 repeat' (with_reducible first | exact Le.refl _ | exact uF _ _ _ _ | refine Le.loop (λ_ => ?_) | refine Le.forL (λ_ _ _ => ?_) | refine Le.thenC (λ_ => ?_) (λ_ => ?_) | refine Le.cond ?_ ?_ | refine Le.bind ?_ (λ_ => ?_))
def ik (o:(List Int)) (A:Int):Option (Ctl (Int) ((List Int))) :=
 bif (decide (A<(o.length:Int)))then (inR A o).bind λ_=>(o[(0+(A).toNat)]?).bind λF=>(inR (w64 (A-1)) o).bind λ_=>(o[(0+((w64 (A-1))).toNat)]?).bind λB=>bif (F==B)then (neL o).bind λ_=>(Dp o A (o.length:Int)).bind λ_=>(uW (o,A,1) (λs=>fE o A s)).bind λI=>thenC I (λh=>(Dp h.1 h.2.1 (h.1.length:Int)).bind λ_=>(Dp (h.1.take ((h.2.1).toNat)++List.replicate (((h.1.length:Int)).toNat-(h.2.1).toNat) 0++h.1.drop (((h.2.1).toNat)+(((h.1.length:Int)).toNat-(h.2.1).toNat))) 0 h.2.1).bind λ_=>some (.ret (cutL (h.1.take ((h.2.1).toNat)++List.replicate (((h.1.length:Int)).toNat-(h.2.1).toNat) 0++h.1.drop (((h.2.1).toNat)+(((h.1.length:Int)).toNat-(h.2.1).toNat))) 0 ((h.2.1).toNat)))) (λ_=>none)else some (.go (w64 (A+1)))else some (.brk A)
theorem o6 (h:(List Int)) (o:Int):Le (ik h o) (dM h o):=by
 unfold ik dM
 repeat' (with_reducible first | exact Le.refl _ | refine Le.loop (λ_ => ?_) | refine Le.forL (λ_ _ _ => ?_) | refine Le.thenC (λ_ => ?_) (λ_ => ?_) | refine Le.cond ?_ ?_ | refine Le.bind ?_ (λ_ => ?_))
def jg (h:(List Int)):Option ((List Int)) :=
 bif (decide ((h.length:Int)<2))then some h else (uW 1 (λs=>ik h s)).bind λo=>thenC o (λA=>some h) (λr=>some r)
theorem qM (h:(List Int)):Le (jg h) (eZ h):=by
 unfold jg eZ
 repeat' (with_reducible first | exact Le.refl _ | exact o6 _ _ | refine Le.loop (λ_ => ?_) | refine Le.forL (λ_ _ _ => ?_) | refine Le.thenC (λ_ => ?_) (λ_ => ?_) | refine Le.cond ?_ ?_ | refine Le.bind ?_ (λ_ => ?_))
def dD (B:Int) (F:Int) (h:(List Run)×Int):Option (Ctl ((List Run)×Int) (Unit)) :=
 bif (decide (h.2<B))then (uW (h.1,h.2) (λs=>bX F s)).bind λA=>thenC A (λo=>some (.go (o.1,(w64 (h.2+1))))) (λ_=>none)else some (.brk (h.1,h.2))
theorem jA (o:Int) (A:Int) (h:(List Run)×Int):Le (dD o A h) (bE o A h):=by
 unfold dD bE
 repeat' (with_reducible first | exact Le.refl _ | refine Le.loop (λ_ => ?_) | refine Le.forL (λ_ _ _ => ?_) | refine Le.thenC (λ_ => ?_) (λ_ => ?_) | refine Le.cond ?_ ?_ | refine Le.bind ?_ (λ_ => ?_))
def dK (h:(List Run)) (o:Int) (F:Int):Option ((List Run)) :=
 (uW (h,(w64 (o+1))) (λs=>dD F o s)).bind λA=>thenC A (λB=>some B.1) (λ_=>none)
theorem jT (h:(List Run)) (o:Int) (A:Int):Le (dK h o A) (bJ h o A):=by
 unfold dK bJ
 repeat' (with_reducible first | exact Le.refl _ | exact jA _ _ _ | refine Le.loop (λ_ => ?_) | refine Le.forL (λ_ _ _ => ?_) | refine Le.thenC (λ_ => ?_) (λ_ => ?_) | refine Le.cond ?_ ?_ | refine Le.bind ?_ (λ_ => ?_))
def dY (B:Int) (F:Int) (h:(List Run)) (o:Int) (I:Unit):Option (Ctl (Unit) ((List Run))) :=
 bif (decide ((w64 (B-F))<=12))then (dK h F B).bind λA=>(ni A h).bind λ_=>some (.ret A)else bif (o==0)then none else none
theorem kJ (B:Int) (F:Int) (o:(List Run)) (h:Int) (A:Unit):Le (dY B F o h A) (bW B F o h A):=by
 unfold dY bW
 repeat' (with_reducible first | exact Le.refl _ | exact jT _ _ _ | refine Le.loop (λ_ => ?_) | refine Le.forL (λ_ _ _ => ?_) | refine Le.thenC (λ_ => ?_) (λ_ => ?_) | refine Le.cond ?_ ?_ | refine Le.bind ?_ (λ_ => ?_))
def fo (h:(List Run)) (B:Int) (F:Int) (o:Int):Option ((List Run)) :=
 (uW () (λs=>dY F B h o s)).bind λA=>thenC A (λI=>some h) (λr=>some r)
theorem lM (o:(List Run)) (A:Int) (B:Int) (h:Int):Le (fo o A B h) (cO o A B h):=by
 unfold fo cO
 repeat' (with_reducible first | exact Le.refl _ | exact kJ _ _ _ _ _ | refine Le.loop (λ_ => ?_) | refine Le.forL (λ_ _ _ => ?_) | refine Le.thenC (λ_ => ?_) (λ_ => ?_) | refine Le.cond ?_ ?_ | refine Le.bind ?_ (λ_ => ?_))
def dN (h:(List Run)):Option ((List Run)) :=
 (iV (IntKind.u64.wrap (h.length:Int))).bind λA=>(fo h 0 (h.length:Int) A).bind λo=>(ni o h).bind λ_=>some o
theorem jZ (h:(List Run)):Le (dN h) (bK h):=by
 unfold dN bK
 repeat' (with_reducible first | exact Le.refl _ | exact lM _ _ _ _ | refine Le.loop (λ_ => ?_) | refine Le.forL (λ_ _ _ => ?_) | refine Le.thenC (λ_ => ?_) (λ_ => ?_) | refine Le.cond ?_ ?_ | refine Le.bind ?_ (λ_ => ?_))
def qY (I:(List Rect)) (J:Int):Option ((List Run)) :=
 (forL I ([]:List Run) (λk x s=>oW J k x s)).bind λB=>thenC B (λF=>(dN F).bind λh=>(ni h F).bind λ_=>(forL h ([]:List Run) (λk x s=>ow k x s)).bind λA=>thenC A (λo=>some o) (λ_=>none)) (λ_=>none)
theorem EA (h:(List Rect)) (o:Int):Le (qY h o) (nW h o):=by
 unfold qY nW
 repeat' (with_reducible first | exact Le.refl _ | exact jZ _ | refine Le.loop (λ_ => ?_) | refine Le.forL (λ_ _ _ => ?_) | refine Le.thenC (λ_ => ?_) (λ_ => ?_) | refine Le.cond ?_ ?_ | refine Le.bind ?_ (λ_ => ?_))
def qp (B:(List Run)) (N:Nat) (o:Run) (M:(List Run)×Int):Option (Ctl ((List Run)×Int) (Unit)) :=
 (uW M.2 (λs=>oq B o s)).bind λL=>thenC L (λA=>(uW (M.1,A,o.f_from) (λs=>oQ B o s)).bind λI=>thenC I (λh=>(bif (decide (h.2.2<o.f_to))then (jE h.1 ([(⟨h.2.2,o.f_to⟩:Run)]:List Run)).bind λJ=>some J else some h.1).bind λF=>some (.go (F,A))) (λ_=>none)) (λ_=>none)
theorem Aq (h:(List Run)) (A:Nat) (o:Run) (B:(List Run)×Int):Le (qp h A o B) (lW h A o B):=by
 unfold qp lW
 repeat' (with_reducible first | exact Le.refl _ | refine Le.loop (λ_ => ?_) | refine Le.forL (λ_ _ _ => ?_) | refine Le.thenC (λ_ => ?_) (λ_ => ?_) | refine Le.cond ?_ ?_ | refine Le.bind ?_ (λ_ => ?_))
def vK (o:(List Run)) (A:(List Run)):Option ((List Run)) :=
 (forL o (([]:List Run),0) (λk x s=>qp A k x s)).bind λh=>thenC h (λB=>some B.1) (λ_=>none)
theorem F9 (h:(List Run)) (o:(List Run)):Le (vK h o) (qg h o):=by
 unfold vK qg
 repeat' (with_reducible first | exact Le.refl _ | exact Aq _ _ _ _ | refine Le.loop (λ_ => ?_) | refine Le.forL (λ_ _ _ => ?_) | refine Le.thenC (λ_ => ?_) (λ_ => ?_) | refine Le.cond ?_ ?_ | refine Le.bind ?_ (λ_ => ?_))
def oM (O:(List Int)) (W:(List Rect)) (R:(List Rect)) (J:Nat) (o:Int) (h:(List Rect)×(List Run)×Int):Option (Ctl ((List Rect)×(List Run)×Int) (Unit)) :=
 (bif (decide ((w64 ((J:Int)+1))<(O.length:Int)))then (qY W o).bind λB=>(qY R o).bind λL=>(vK B L).bind λN=>some N else some ([]:List Run)).bind λA=>(dL h.2.1 A).bind λF=>bif F then some (.go (h.1,h.2.1,h.2.2))else (forL h.2.1 h.1 (λk x s=>mE h o k x s)).bind λM=>thenC M (λI=>some (.go (I,A,o))) (λ_=>none)
theorem yZ (B:(List Int)) (F:(List Rect)) (I:(List Rect)) (A:Nat) (h:Int) (o:(List Rect)×(List Run)×Int):Le (oM B F I A h o) (jP B F I A h o):=by
 unfold oM jP
 repeat' (with_reducible first | exact Le.refl _ | exact EA _ _ | exact F9 _ _ | refine Le.loop (λ_ => ?_) | refine Le.forL (λ_ _ _ => ?_) | refine Le.thenC (λ_ => ?_) (λ_ => ?_) | refine Le.cond ?_ ?_ | refine Le.bind ?_ (λ_ => ?_))
def rV (I:(List Rect)) (F:(List Rect)):Option ((List Rect)) :=
 (eu ([I,F]:List (List Rect))).bind λM=>(forL M ([]:List Int) (λk x s=>mK k x s)).bind λL=>thenC L (λo=>(Ru o).bind λh=>(ni h o).bind λ_=>(jg h).bind λA=>(forL A (([]:List Rect),([]:List Run),0) (λk x s=>oM A I F k x s)).bind λB=>thenC B (λJ=>some J.1) (λ_=>none)) (λ_=>none)
theorem Bt (h:(List Rect)) (o:(List Rect)):Le (rV h o) (nu h o):=by
 unfold rV nu
 repeat' (with_reducible first | exact Le.refl _ | exact qM _ | exact yZ _ _ _ _ _ _ | exact Rw _ | refine Le.loop (λ_ => ?_) | refine Le.forL (λ_ _ _ => ?_) | refine Le.thenC (λ_ => ?_) (λ_ => ?_) | refine Le.cond ?_ ?_ | refine Le.bind ?_ (λ_ => ?_))
def vN (h:(List Rect)):Option (Int×Int) :=
 (lF h).bind λo=>bif (o != 0)then some (0,o)else (rV h ([]:List Rect)).bind λA=>(tL A).bind λB=>some (B,0)
theorem Fb (h:(List Rect)):Le (vN h) (qo h):=by
 unfold vN qo
 repeat' (with_reducible first | exact Le.refl _ | exact Bt _ _ | refine Le.loop (λ_ => ?_) | refine Le.forL (λ_ _ _ => ?_) | refine Le.thenC (λ_ => ?_) (λ_ => ?_) | refine Le.cond ?_ ?_ | refine Le.bind ?_ (λ_ => ?_))
def mU (I:(List ByteArray)) (B:Nat) (A:ByteArray) (J:Unit):Option (Ctl (Unit) (Int)) :=
 (gU A).bind λF=>bif (!F)then some (.ret 5)else (bif (decide ((B:Int)>0))then (idx I (w64 ((B:Int)-1))).bind λh=>some (sLe A h)else some false).bind λo=>bif o then some (.ret 7)else some (.go ())
theorem xe (h:(List ByteArray)) (B:Nat) (o:ByteArray) (A:Unit):Le (mU h B o A) (jh h B o A):=by
 unfold mU jh
 repeat' (with_reducible first | exact Le.refl _ | exact jB _ | refine Le.loop (λ_ => ?_) | refine Le.forL (λ_ _ _ => ?_) | refine Le.thenC (λ_ => ?_) (λ_ => ?_) | refine Le.cond ?_ ?_ | refine Le.bind ?_ (λ_ => ?_))
def mD (h:(List ByteArray)):Option (Int) :=
 (forL h () (λk x s=>mU h k x s)).bind λo=>thenC o (λA=>some 0) (λr=>some r)
theorem rQ (h:(List ByteArray)):Le (mD h) (jv h):=by
 unfold mD jv
 repeat' (with_reducible first | exact Le.refl _ | exact xe _ _ _ _ | refine Le.loop (λ_ => ?_) | refine Le.forL (λ_ _ _ => ?_) | refine Le.thenC (λ_ => ?_) (λ_ => ?_) | refine Le.cond ?_ ?_ | refine Le.bind ?_ (λ_ => ?_))
def mW (h:(List ByteArray)):Option (Int) :=
 bif (decide ((h.length:Int)>20))then some 2 else (mD h).bind λo=>some o
theorem wV (h:(List ByteArray)):Le (mW h) (jd h):=by
 unfold mW jd
 repeat' (with_reducible first | exact Le.refl _ | exact rQ _ | refine Le.loop (λ_ => ?_) | refine Le.forL (λ_ _ _ => ?_) | refine Le.thenC (λ_ => ?_) (λ_ => ?_) | refine Le.cond ?_ ?_ | refine Le.bind ?_ (λ_ => ?_))
def mg (h:Entry):Option (Int) :=
 ((gU h.Key).bind λX=>bif (!X)then some true else (gU h.Item).bind λW=>some (!W)).bind λY=>bif Y then some 5 else ((aQ h.Version 0 1000000).bind λF=>bif F then some true else (aQ h.First 0 h.Last).bind λB=>bif B then some true else bif (decide (h.Last>4000))then some true else (aQ h.Every 1 400).bind λM=>bif M then some true else (aQ h.Days 1 127).bind λO=>some O).bind λR=>bif R then some 1 else (jF h.Except).bind λo=>bif (o != 0)then some o else ((aQ h.From 0 1439).bind λI=>bif I then some true else (aQ h.To 0 1439).bind λA=>bif A then some true else (aQ h.Prio 0 9).bind λL=>some L).bind λJ=>bif J then some 1 else (mW h.Tags).bind λN=>some N
theorem vC (h:Entry):Le (mg h) (iL h):=by
 unfold mg iL
 repeat' (with_reducible first | exact Le.refl _ | exact jB _ | exact wV _ | refine Le.loop (λ_ => ?_) | refine Le.forL (λ_ _ _ => ?_) | refine Le.thenC (λ_ => ?_) (λ_ => ?_) | refine Le.cond ?_ ?_ | refine Le.bind ?_ (λ_ => ?_))
def jr (I:(List Entry)) (F:Nat) (B:Entry) (J:Unit):Option (Ctl (Unit) (Int)) :=
 (mg B).bind λh=>bif (h != 0)then some (.ret h)else (bif (decide ((F:Int)>0))then (idx I (w64 ((F:Int)-1))).bind λo=>some (sLe B.Key o.Key)else some false).bind λA=>bif A then some (.ret 7)else some (.go ())
theorem ry (h:(List Entry)) (A:Nat) (o:Entry) (B:Unit):Le (jr h A o B) (fB h A o B):=by
 unfold jr fB
 repeat' (with_reducible first | exact Le.refl _ | exact vC _ | refine Le.loop (λ_ => ?_) | refine Le.forL (λ_ _ _ => ?_) | refine Le.thenC (λ_ => ?_) (λ_ => ?_) | refine Le.cond ?_ ?_ | refine Le.bind ?_ (λ_ => ?_))
def kH (h:(List Entry)):Option (Int) :=
 bif (decide ((h.length:Int)>200))then some 2 else (forL h () (λk x s=>jr h k x s)).bind λo=>thenC o (λA=>some 0) (λr=>some r)
theorem uj (h:(List Entry)):Le (kH h) (gL h):=by
 unfold kH gL
 repeat' (with_reducible first | exact Le.refl _ | exact ry _ _ _ _ | refine Le.loop (λ_ => ?_) | refine Le.forL (λ_ _ _ => ?_) | refine Le.thenC (λ_ => ?_) (λ_ => ?_) | refine Le.cond ?_ ?_ | refine Le.bind ?_ (λ_ => ?_))
def iH (o:(List Int)) (h:Int):Option (Int×Bool) :=
 (uW (0,(o.length:Int)) (λs=>eP o h s)).bind λB=>thenC B (λA=>(bif (decide (A.1<(o.length:Int)))then (idx o A.1).bind λJ=>bif (J==h)then some true else (idx o A.1).bind λF=>(iZ F).bind λL=>bif L then (iZ h).bind λM=>some M else some false else some false).bind λI=>some (A.1,I)) (λ_=>none)
theorem pQ (o:(List Int)) (h:Int):Le (iH o h) (dX o h):=by
 unfold iH dX
 repeat' (with_reducible first | exact Le.refl _ | refine Le.loop (λ_ => ?_) | refine Le.forL (λ_ _ _ => ?_) | refine Le.thenC (λ_ => ?_) (λ_ => ?_) | refine Le.cond ?_ ?_ | refine Le.bind ?_ (λ_ => ?_))
def qC (h:Entry) (o:Int):Option (Bool) :=
 ((aQ o h.First h.Last).bind λJ=>bif J then some true else (KN .i64 (w64 (o-h.First)) h.Every).bind λI=>bif (I != 0)then some true else (shlO .i64 1 (o.tmod 7)).bind λA=>some ((PK .i64 h.Days A)==0)).bind λF=>bif F then some false else (iH h.Except o).bind λB=>some (!B.2)
theorem AY (h:Entry) (o:Int):Le (qC h o) (l5 h o):=by
 unfold qC l5
 repeat' (with_reducible first | exact Le.refl _ | exact pQ _ _ | refine Le.loop (λ_ => ?_) | refine Le.forL (λ_ _ _ => ?_) | refine Le.thenC (λ_ => ?_) (λ_ => ?_) | refine Le.cond ?_ ?_ | refine Le.bind ?_ (λ_ => ?_))
def nQ (A:Window) (o:Int) (F:Entry) (h:(List Window)×Int):Option (Ctl ((List Window)×Int) (Unit)) :=
 bif (decide (h.2<=(JL (w64 ((w64 ((w64 (A.To+(w64 (o*60000)))).tdiv 86400000))+1)) F.Last)))then (qC F h.2).bind λJ=>bif (!J)then some (.go (h.1,(w64 (h.2+1))))else (nG F o h.2).bind λB=>(bif (decide (B.From<A.To))then some (decide (B.To>A.From))else some false).bind λI=>(bif I then (jE h.1 ([B]:List Window)).bind λM=>some M else some h.1).bind λL=>some (.go (L,(w64 (h.2+1))))else some (.brk (h.1,h.2))
theorem xz (A:Window) (h:Int) (B:Entry) (o:(List Window)×Int):Le (nQ A h B o) (jD A h B o):=by
 unfold nQ jD
 repeat' (with_reducible first | exact Le.refl _ | exact AY _ _ | refine Le.loop (λ_ => ?_) | refine Le.forL (λ_ _ _ => ?_) | refine Le.thenC (λ_ => ?_) (λ_ => ?_) | refine Le.cond ?_ ?_ | refine Le.bind ?_ (λ_ => ?_))
def qH (A:Entry) (o:Int) (h:Window):Option ((List Window)) :=
 (bif A.Gone then some true else some (decide (h.From>=h.To))).bind λI=>bif I then some ([]:(List Window))else (uW (([]:List Window),(uQ (w64 ((w64 ((w64 (h.From+(w64 (o*60000)))).tdiv 86400000))-2)) A.First)) (λs=>nQ h o A s)).bind λF=>thenC F (λB=>some B.1) (λ_=>none)
theorem Bi (A:Entry) (h:Int) (o:Window):Le (qH A h o) (l8 A h o):=by
 unfold qH l8
 repeat' (with_reducible first | exact Le.refl _ | exact xz _ _ _ _ | refine Le.loop (λ_ => ?_) | refine Le.forL (λ_ _ _ => ?_) | refine Le.thenC (λ_ => ?_) (λ_ => ?_) | refine Le.cond ?_ ?_ | refine Le.bind ?_ (λ_ => ?_))
def qE (J:Entry) (h:Int) (o:Window):Option ((List Window)×Int) :=
 (kH ([J]:List Entry)).bind λI=>bif (I != 0)then some (([]:(List Window)),I)else (aQ h (-1440) 1440).bind λM=>bif M then some (([]:(List Window)),1)else (jG o).bind λA=>bif (A != 0)then some (([]:(List Window)),A)else (qH J h o).bind λB=>(forL (List.range ((B.length:Int)).toNat) B (λk x s=>lq o k x s)).bind λL=>thenC L (λF=>some (F,0)) (λ_=>none)
theorem Bd (A:Entry) (h:Int) (o:Window):Le (qE A h o) (lI A h o):=by
 unfold qE lI
 repeat' (with_reducible first | exact Le.refl _ | exact uj _ | exact Bi _ _ _ | refine Le.loop (λ_ => ?_) | refine Le.forL (λ_ _ _ => ?_) | refine Le.thenC (λ_ => ?_) (λ_ => ?_) | refine Le.cond ?_ ?_ | refine Le.bind ?_ (λ_ => ?_))
def nP (h:(List ByteArray)):Option (Int) :=
 bif (decide ((h.length:Int)>20))then some 2 else (mD h).bind λo=>some o
theorem xy (h:(List ByteArray)):Le (nP h) (jI h):=by
 unfold nP jI
 repeat' (with_reducible first | exact Le.refl _ | exact rQ _ | refine Le.loop (λ_ => ?_) | refine Le.forL (λ_ _ _ => ?_) | refine Le.thenC (λ_ => ?_) (λ_ => ?_) | refine Le.cond ?_ ?_ | refine Le.bind ?_ (λ_ => ?_))
def jb (X:(List Campaign)) (W:Nat) (h:Campaign) (Y:Unit):Option (Ctl (Unit) (Int)) :=
 ((gU h.Key).bind λI=>bif (!I)then some true else bif (sNe h.Class (⟨#[]⟩:ByteArray))then (gU h.Class).bind λN=>some (!N)else some false).bind λO=>bif O then some (.ret 5)else (bif (decide ((W:Int)>0))then (idx X (w64 ((W:Int)-1))).bind λB=>some (sLe h.Key B.Key)else some false).bind λA=>bif A then some (.ret 7)else ((o5 h.Time).bind λJ=>bif (!J)then some true else (aQ h.Goal 0 1000000).bind λF=>bif F then some true else (aQ h.Most 0 1000000).bind λM=>bif M then some true else (aQ h.Cents 0 1000000000).bind λR=>some R).bind λL=>bif L then some (.ret 1)else (nP h.Tags).bind λo=>bif (o != 0)then some (.ret o)else some (.go ())
theorem qx (h:(List Campaign)) (A:Nat) (o:Campaign) (B:Unit):Le (jb h A o B) (eY h A o B):=by
 unfold jb eY
 repeat' (with_reducible first | exact Le.refl _ | exact jB _ | exact xy _ | refine Le.loop (λ_ => ?_) | refine Le.forL (λ_ _ _ => ?_) | refine Le.thenC (λ_ => ?_) (λ_ => ?_) | refine Le.cond ?_ ?_ | refine Le.bind ?_ (λ_ => ?_))
def jQ (h:(List Campaign)):Option (Int) :=
 bif (decide ((h.length:Int)>30))then some 2 else (forL h () (λk x s=>jb h k x s)).bind λo=>thenC o (λA=>some 0) (λr=>some r)
theorem tC (h:(List Campaign)):Le (jQ h) (fQ h):=by
 unfold jQ fQ
 repeat' (with_reducible first | exact Le.refl _ | exact qx _ _ _ _ | refine Le.loop (λ_ => ?_) | refine Le.forL (λ_ _ _ => ?_) | refine Le.thenC (λ_ => ?_) (λ_ => ?_) | refine Le.cond ?_ ?_ | refine Le.bind ?_ (λ_ => ?_))
def wI (A:Campaign) (h:Int):Option (Int×Int) :=
 (jQ ([A]:List Campaign)).bind λo=>bif (o != 0)then some (0,o)else (cZ h).bind λF=>bif (!F)then some (0,1)else (tJ A h).bind λB=>some (B,0)
theorem Eo (o:Campaign) (h:Int):Le (wI o h) (qi o h):=by
 unfold wI qi
 repeat' (with_reducible first | exact Le.refl _ | exact tC _ | refine Le.loop (λ_ => ?_) | refine Le.forL (λ_ _ _ => ?_) | refine Le.thenC (λ_ => ?_) (λ_ => ?_) | refine Le.cond ?_ ?_ | refine Le.bind ?_ (λ_ => ?_))
def lN (A:(List Beat)) (o:Nat) (h:Beat) (X:Unit):Option (Ctl (Unit) (Int)) :=
 (gU h.Player).bind λN=>bif (!N)then some (.ret 5)else ((cZ h.At).bind λB=>bif (!B)then some true else (aQ h.Clock 0 345686399999).bind λF=>some F).bind λR=>bif R then some (.ret 1)else (bif (decide ((o:Int)>0))then (idx A (w64 ((o:Int)-1))).bind λI=>(kw I h).bind λL=>some (decide (L>=0))else some false).bind λJ=>bif J then some (.ret 7)else (bif (decide ((o:Int)>0))then (idx A (w64 ((o:Int)-1))).bind λM=>bif (sEq h.Player M.Player)then (idx A (w64 ((o:Int)-1))).bind λO=>some (decide (h.Clock<=O.Clock))else some false else some false).bind λW=>bif W then some (.ret 16)else some (.go ())
theorem u6 (h:(List Beat)) (A:Nat) (o:Beat) (B:Unit):Le (lN h A o B) (iO h A o B):=by
 unfold lN iO
 repeat' (with_reducible first | exact Le.refl _ | exact jB _ | refine Le.loop (λ_ => ?_) | refine Le.forL (λ_ _ _ => ?_) | refine Le.thenC (λ_ => ?_) (λ_ => ?_) | refine Le.cond ?_ ?_ | refine Le.bind ?_ (λ_ => ?_))
def oJ (h:(List Beat)):Option (Int) :=
 bif (decide ((h.length:Int)>500))then some 2 else (forL h () (λk x s=>lN h k x s)).bind λo=>thenC o (λA=>some 0) (λr=>some r)
theorem yR (h:(List Beat)):Le (oJ h) (jO h):=by
 unfold oJ jO
 repeat' (with_reducible first | exact Le.refl _ | exact u6 _ _ _ _ | refine Le.loop (λ_ => ?_) | refine Le.forL (λ_ _ _ => ?_) | refine Le.thenC (λ_ => ?_) (λ_ => ?_) | refine Le.cond ?_ ?_ | refine Le.bind ?_ (λ_ => ?_))
def ut (o:(List Beat_)) (F:Int):Option (Int×Int) :=
 bif ((o.length:Int)==0)then some (0,8)else (uW 0 (λs=>nE o F s)).bind λR=>thenC R (λB=>bif (B==0)then (idx o 0).bind λJ=>(idx o 0).bind λI=>(cZ (w64 (J.f_to-(w64 (I.f_from-F))))).bind λY=>bif (!Y)then some (0,11)else some ((w64 (J.f_to-(w64 (I.f_from-F)))),0)else bif (B==(o.length:Int))then (idx o (w64 (B-1))).bind λM=>(idx o (w64 (B-1))).bind λN=>(cZ (w64 ((w64 (M.f_to+F))-N.f_from))).bind λW=>bif (!W)then some (0,11)else some ((w64 ((w64 (M.f_to+F))-N.f_from)),0)else (idx o (w64 (B-1))).bind λh=>(idx o B).bind λA=>(bif (decide ((w64 (A.f_from-h.f_from))>2592000000))then some true else some (decide ((w64 (A.f_to-h.f_to))>2592000000))).bind λX=>bif X then some (0,2)else (MP .i64 (w64 ((w64 (F-h.f_from))*(w64 (A.f_to-h.f_to)))) (w64 (A.f_from-h.f_from))).bind λL=>(cZ (w64 (h.f_to+L))).bind λO=>bif (!O)then some (0,11)else some ((w64 (h.f_to+L)),0)) (λ_=>none)
theorem Dq (h:(List Beat_)) (o:Int):Le (ut h o) (oO h o):=by
 unfold ut oO
 repeat' (with_reducible first | exact Le.refl _ | refine Le.loop (λ_ => ?_) | refine Le.forL (λ_ _ _ => ?_) | refine Le.thenC (λ_ => ?_) (λ_ => ?_) | refine Le.cond ?_ ?_ | refine Le.bind ?_ (λ_ => ?_))
def vw (I:(List Beat)) (h:ByteArray) (J:Int) (o:Bool):Option (Int×Int) :=
 (oJ I).bind λL=>bif (L != 0)then some (0,L)else (gU h).bind λM=>bif (!M)then some (0,5)else (cZ J).bind λB=>bif (!B)then some (0,1)else (p9 I h o).bind λF=>(ut F J).bind λA=>some (A.1,A.2)
theorem Ee (A:(List Beat)) (h:ByteArray) (B:Int) (o:Bool):Le (vw A h B o) (qm A h B o):=by
 unfold vw qm
 repeat' (with_reducible first | exact Le.refl _ | exact jB _ | exact yR _ | exact Dq _ _ | refine Le.loop (λ_ => ?_) | refine Le.forL (λ_ _ _ => ?_) | refine Le.thenC (λ_ => ?_) (λ_ => ?_) | refine Le.cond ?_ ?_ | refine Le.bind ?_ (λ_ => ?_))
def vg (B:(List Beat)) (h:ByteArray) (o:Int):Option (Int×Int) :=
 (vw B h o false).bind λA=>some (A.1,A.2)
theorem Em (A:(List Beat)) (h:ByteArray) (o:Int):Le (vg A h o) (qd A h o):=by
 unfold vg qd
 repeat' (with_reducible first | exact Le.refl _ | exact Ee _ _ _ _ | refine Le.loop (λ_ => ?_) | refine Le.forL (λ_ _ _ => ?_) | refine Le.thenC (λ_ => ?_) (λ_ => ?_) | refine Le.cond ?_ ?_ | refine Le.bind ?_ (λ_ => ?_))
def lU (M:(List Post)) (L:Nat) (h:Post) (N:Unit):Option (Ctl (Unit) (Int)) :=
 (gU h.Player).bind λI=>bif (!I)then some (.ret 5)else ((aQ h.X (-100000) 100000).bind λo=>bif o then some true else (aQ h.Y (-100000) 100000).bind λA=>some A).bind λJ=>bif J then some (.ret 1)else (bif (decide ((L:Int)>0))then (idx M (w64 ((L:Int)-1))).bind λB=>some (sLe h.Player B.Player)else some false).bind λF=>bif F then some (.ret 7)else some (.go ())
theorem ww (h:(List Post)) (A:Nat) (o:Post) (B:Unit):Le (lU h A o B) (iQ h A o B):=by
 unfold lU iQ
 repeat' (with_reducible first | exact Le.refl _ | exact jB _ | refine Le.loop (λ_ => ?_) | refine Le.forL (λ_ _ _ => ?_) | refine Le.thenC (λ_ => ?_) (λ_ => ?_) | refine Le.cond ?_ ?_ | refine Le.bind ?_ (λ_ => ?_))
def oL (h:(List Post)):Option (Int) :=
 bif (decide ((h.length:Int)>500))then some 2 else (forL h () (λk x s=>lU h k x s)).bind λo=>thenC o (λA=>some 0) (λr=>some r)
theorem yP (h:(List Post)):Le (oL h) (jW h):=by
 unfold oL jW
 repeat' (with_reducible first | exact Le.refl _ | exact ww _ _ _ _ | refine Le.loop (λ_ => ?_) | refine Le.forL (λ_ _ _ => ?_) | refine Le.thenC (λ_ => ?_) (λ_ => ?_) | refine Le.cond ?_ ?_ | refine Le.bind ?_ (λ_ => ?_))
def o9 (A:(List Alert)) (h:(List Post)):Option (Int) :=
 (nN A).bind λo=>bif (o != 0)then some o else (oL h).bind λB=>some B
theorem zT (o:(List Alert)) (h:(List Post)):Le (o9 o h) (kI o h):=by
 unfold o9 kI
 repeat' (with_reducible first | exact Le.refl _ | exact xL _ | exact yP _ | refine Le.loop (λ_ => ?_) | refine Le.forL (λ_ _ _ => ?_) | refine Le.thenC (λ_ => ?_) (λ_ => ?_) | refine Le.cond ?_ ?_ | refine Le.bind ?_ (λ_ => ?_))
def sj (A:Alert) (o:Post):Option (Bool×Int) :=
 (o9 ([A]:List Alert) ([o]:List Post)).bind λh=>bif (h != 0)then some (false,h)else (pY A o).bind λB=>some (B,0)
theorem BL (o:Alert) (h:Post):Le (sj o h) (ny o h):=by
 unfold sj ny
 repeat' (with_reducible first | exact Le.refl _ | exact zT _ _ | refine Le.loop (λ_ => ?_) | refine Le.forL (λ_ _ _ => ?_) | refine Le.thenC (λ_ => ?_) (λ_ => ?_) | refine Le.cond ?_ ?_ | refine Le.bind ?_ (λ_ => ?_))
def xn  : Option (Bool) :=
 (vN ([(⟨0,0,2,2⟩:Rect),(⟨1,1,2,2⟩:Rect)]:List Rect)).bind λA=>(qE (⟨(⟨#[97]⟩:ByteArray),(⟨#[98]⟩:ByteArray),0,0,0,1,127,([]:List Int),1,2,0,([]:List ByteArray),false⟩:Entry) 0 (⟨0,86400000⟩:Window)).bind λJ=>(wI (⟨(⟨#[97]⟩:ByteArray),(⟨#[]⟩:ByteArray),(⟨0,100⟩:Window),([]:List ByteArray),10,0,0⟩:Campaign) 50).bind λB=>(vg ([(⟨(⟨#[112]⟩:ByteArray),0,100⟩:Beat),(⟨(⟨#[112]⟩:ByteArray),1000,1300⟩:Beat)]:List Beat) (⟨#[112]⟩:ByteArray) 700).bind λI=>(sj (⟨(⟨#[97]⟩:ByteArray),(⟨#[115]⟩:ByteArray),1,([]:List ByteArray),0,5,1,([(⟨0,0,2,2⟩:Rect)]:List Rect),(⟨#[120]⟩:ByteArray)⟩:Alert) (⟨(⟨#[112]⟩:ByteArray),1,1⟩:Post)).bind λh=>((yx ([A.2,J.2,B.2,I.2,h.2]:List Int)).bind λF=>bif (F==0)then bif (A.1==7)then bif ((J.1.length:Int)==1)then bif (B.1==5)then bif (I.1==500)then some h.1 else some false else some false else some false else some false else some false).bind λo=>some o
theorem Gp  : Le (xn) (nH):=by
 unfold xn nH
 repeat' (with_reducible first | exact Le.refl _ | exact Fb _ | exact Bd _ _ _ | exact Eo _ _ | exact Em _ _ _ | exact BL _ _ | refine Le.loop (λ_ => ?_) | refine Le.forL (λ_ _ _ => ?_) | refine Le.thenC (λ_ => ?_) (λ_ => ?_) | refine Le.cond ?_ ?_ | refine Le.bind ?_ (λ_ => ?_))
end Go.Proofs.YtljhfffghjclfabGreatDoor.Law

open Go Go.Eng
namespace Go.Proofs.YtljhfffghjclfabGreatDoor.Law
set_option linter.unusedVariables false
set_option linter.unusedSimpArgs false
set_option maxRecDepth 100000
def idL:List ByteArray:=[⟨#[97,97]⟩,⟨#[97,98]⟩,⟨#[97,99]⟩,⟨#[97,100]⟩,⟨#[97,101]⟩,⟨#[97,102]⟩]
def refL:List ByteArray:=[⟨#[97,97]⟩,⟨#[97,98]⟩,⟨#[97,99]⟩,⟨#[97,100]⟩,⟨#[122,122]⟩]
def zyS:ByteArray:=⟨#[122,121]⟩
def wxS:ByteArray:=⟨#[119,120]⟩
def fireS:ByteArray:=⟨#[102,105,114,101]⟩
def floodS:ByteArray:=⟨#[102,108,111,111,100]⟩
def mallS:ByteArray:=⟨#[102,105,114,101,32,105,110,32,116,104,101,32,109,97,108,108]⟩
def overS:ByteArray:=⟨#[111,118,101,114]⟩
theorem O6:kE ⟨#[]⟩=some true/\kE floodS=some true/\kE mallS=some true/\kE overS=some true :=
 ⟨by kernel_rfl,by kernel_rfl,by kernel_rfl,by kernel_rfl⟩
def SmallR (r:Rect):Prop:=Fine r/\(-2<=r.X/\r.X<=8 /\ -2<=r.Y/\r.Y<=8/\r.W<=5/\r.H<=5)
structure RightA (x:Alert):Prop where
 id:x.Id∈idL
 sender:x.Sender=wxS\/x.Sender=fireS
 kind:1<=x.Kind/\x.Kind<=3
 refs:x.Refs.Sublist refL\/x.Refs=[zyS]
 noId:∀r∈x.Refs,r≠x.Id
 new:x.Kind=1↔x.Refs=[]
 at_:0<=x.At/\x.At<=30
 until_:x.At+1<=x.Until/\x.Until<=x.At+50
 weight:1<=x.Weight/\x.Weight<=9
 areas:∀r∈x.Areas,SmallR r
 alen:x.Areas.length<=2
 cancel:x.Kind=3↔x.Areas=[]
 text:x.Text=floodS\/x.Text=mallS\/x.Kind=3/\(x.Text=⟨#[]⟩\/x.Text=overS)
theorem JG:∀k∈idL,keyB k=true/\Nat.ble k.size 1000=true:=by
 intro k h
 simp only [idL,List.mem_cons,List.not_mem_nil,or_false]at h
 rcases h with rfl|rfl|rfl|rfl|rfl|rfl <;> exact⟨by kernel_rfl,rfl⟩
theorem Rv:∀k∈idL,kZ k 0=97:=by
 intro k h
 simp only [idL,List.mem_cons,List.not_mem_nil,or_false]at h
 rcases h with rfl|rfl|rfl|rfl|rfl|rfl <;> rfl
theorem Fy:∀k∈refL,keyB k=true/\Nat.ble k.size 1000=true:=by
 intro k h
 simp only [refL,List.mem_cons,List.not_mem_nil,or_false]at h
 rcases h with rfl|rfl|rfl|rfl|rfl <;> exact⟨by kernel_rfl,rfl⟩
theorem OZ:refL.Pairwise lt:=by
 unfold refL
 simp only [List.pairwise_cons,List.mem_cons,List.not_mem_nil,or_false,forall_eq_or_imp,forall_eq]
 refine⟨⟨gG (by kernel_rfl),gG (by kernel_rfl),gG (by kernel_rfl),gG (by kernel_rfl)⟩,⟨gG (by kernel_rfl),gG (by kernel_rfl),gG (by kernel_rfl)⟩,⟨gG (by kernel_rfl),gG (by kernel_rfl)⟩,gG (by kernel_rfl),λa h=>(by cases h),List.Pairwise.nil⟩
theorem Qn:idL.Pairwise lt:=by
 unfold idL
 simp only [List.pairwise_cons,List.mem_cons,List.not_mem_nil,or_false,forall_eq_or_imp,forall_eq]
 refine⟨⟨gG (by kernel_rfl),gG (by kernel_rfl),gG (by kernel_rfl),gG (by kernel_rfl),gG (by kernel_rfl)⟩,⟨gG (by kernel_rfl),gG (by kernel_rfl),gG (by kernel_rfl),gG (by kernel_rfl)⟩,⟨gG (by kernel_rfl),gG (by kernel_rfl),gG (by kernel_rfl)⟩,⟨gG (by kernel_rfl),gG (by kernel_rfl)⟩,gG (by kernel_rfl),λa h=>(by cases h),List.Pairwise.nil⟩
theorem RightA.refsKey {x:Alert} (h:RightA x):∀r∈x.Refs,kit_IsKey r=some true:=λr o=>by
 have:keyB r=true/\Nat.ble r.size 1000=true:=by
  rcases h.refs with hs|hs
  ·exact Fy r (hs.subset o)
  ·rw [hs]at o
   rw [List.mem_singleton.1 o];exact⟨by kernel_rfl,rfl⟩
 rw [uT r (by have:=Nat.le_of_ble_eq_true this.2;omega),this.1]
theorem RightA.refsRise {x:Alert} (h:RightA x):x.Refs.Pairwise lt:=by
 rcases h.refs with hs|hs
 ·exact OZ.sublist hs
 ·rw [hs];exact List.pairwise_singleton _ _
theorem RightA.refsLen {x:Alert} (h:RightA x):x.Refs.length<=5:=by
 rcases h.refs with hs|hs
 ·exact hs.length_le
 ·rw [hs];decide
theorem RightA.plain {x:Alert} (h:RightA x):iX x.Text=some true:=by
 obtain ⟨B,A,o,F⟩:=O6
 rcases h.text with e|e|⟨_,e|e⟩ <;> rw [e]
 ·exact lS _ _ A
 ·exact lS _ _ o
 ·exact lS _ _ B
 ·exact lS _ _ F
theorem Kl {x:Alert} (h:RightA x):fF x=some 0:=by
 have hl:=h.refsLen
 unfold fF
 rw [decide_eq_false (by omega),cond_false]
 obtain ⟨u,e,_⟩:=yo (body:=λk y s=>dx x k y s) (λ_ _=>True) (xs:=x.Refs) (s:=()) (by omega) (λk y s A _=>by
  refine⟨(),?_,trivial⟩
  have hm:=List.mem_of_getElem? A
  unfold dx
  rw [h.refsKey y hm]
  simp only [ob_,Bool.not_true,cond_false]
  have o:sEq y x.Id=false:=by rw [Io];exact decide_eq_false (h.noId y hm)
  rcases Nat.eq_zero_or_pos k with F|F
  ·rw [decide_eq_false (by omega),cond_false,ob_,cond_false,o];rfl
  ·rw [decide_eq_true (by omega),cond_true]
   obtain ⟨z,O,J⟩:=Bb A F (by omega)
   have M:lt z y:=by
    obtain ⟨I,N⟩:=List.getElem?_eq_some_iff.1 J
    obtain ⟨R,L⟩:=List.getElem?_eq_some_iff.1 A
    rw [<- N,<- L]
    exact List.pairwise_iff_getElem.1 h.refsRise _ _ I R (by omega)
   have B:sLe y z=false:=by rw [<- Bool.not_eq_true,sLe_iff];exact λk=>k M
   rw [O,ob_,B,ob_,cond_false,o];rfl) trivial
 rw [e]
 simp only [ob_,thenC]
 have:((x.Kind==1)==((x.Refs.length:Int)==0))=true:=by
  rw [beq_iff_eq,Bool.eq_iff_iff,beq_iff_eq,beq_iff_eq,h.new]
  constructor
  ·intro e;rw [e];rfl
  ·intro e;exact List.eq_nil_of_length_eq_zero (by omega)
 rw [this];rfl
theorem Mw {r:Rect} (h:Fine r):gP r=some 0:=by rw [AJ,Oy h];rfl
theorem JF {x:Alert} (h:RightA x):eQ x=some 0:=by
 have o:=JG _ h.id
 have M:kit_IsKey x.Id=some true:=by rw [uT _ (by have:=Nat.le_of_ble_eq_true o.2;omega),o.1]
 have F:kit_IsKey x.Sender=some true:=by
  rcases h.sender with e|e <;> rw [e,uT _ (by decide)] <;> exact congrArg some (by kernel_rfl)
 have h1:=h.at_
 have h2:=h.until_
 have L:=h.weight
 have N:=h.alen
 have B:KC x.At=true:=by unfold KC;rw [tX (by omega)];rfl
 unfold eQ
 rw [M,F,Kl h]
 simp only [ob_,Bool.not_true,cond_false,sH,tX h.kind,bne_self_eq_false,CU,B,gM (n:=x.At+1) (by omega),gM (n:=x.At+2592000000) (by omega),tX (show x.At+1<=x.Until/\x.Until<=x.At+2592000000 by omega),tX L,decide_eq_false (show ¬(x.Areas.length:Int)>20 by omega)]
 obtain ⟨u,e,_⟩:=yo (body:=λk y s=>dF k y s) (λ_ _=>True) (xs:=x.Areas) (s:=()) (by omega) (λk y s A _=>by
  refine⟨(),?_,trivial⟩
  unfold dF
  rw [Mw (h.areas y (List.mem_of_getElem? A)).1];rfl) trivial
 rw [e]
 simp only [ob_,thenC,h.plain,Bool.not_true,cond_false]
 have J:((x.Kind==3)==((x.Areas.length:Int)==0))=true:=by
  rw [beq_iff_eq,Bool.eq_iff_iff,beq_iff_eq,beq_iff_eq,h.cancel]
  constructor
  ·intro e;rw [e];rfl
  ·intro e;exact List.eq_nil_of_length_eq_zero (by omega)
 rw [J]
 have O:x.Text.size<=16:=by
  rcases h.text with e|e|⟨_,e|e⟩ <;> rw [e] <;> decide
 rw [decide_eq_false (show ¬(x.Text.size:Int)>500 by omega)]
 have I:(bif sEq x.Text ⟨#[]⟩then some (!(x.Kind==3))else some false)=some false:=by
  rw [Io]
  rcases h.text with e|e|⟨k,_⟩
  ·rw [e,decide_eq_false (by decide)];rfl
  ·rw [e,decide_eq_false (by decide)];rfl
  ·rw [k]
   cases decide (x.Text=⟨#[]⟩) <;> rfl
 rw [I];rfl
theorem PN (id:ByteArray) (s:Stream) {b:Int} (hs:Ok s b) (hb:b<=800000) :
  ∃l A,forL ([(⟨#[97,97]⟩:ByteArray),(⟨#[97,98]⟩:ByteArray),(⟨#[97,99]⟩:ByteArray),(⟨#[97,100]⟩:ByteArray),(⟨#[122,122]⟩:ByteArray)]:List ByteArray) (([]:List ByteArray),s.L,s.f_at) (λk x s=>dz id k x s)=some (.go (l,A.L,A.f_at))/\l.Sublist refL/\(∀r∈l,r≠id)/\Ok A (b+10):=by
 obtain ⟨t,O,t2,t3,t4⟩:=yo (body:=λk x s=>dz id k x s) (xs:=refL) (s:=(([]:List ByteArray),s.L,s.f_at)) (λk t=>t.1.Sublist (refL.take k)/\(∀r∈t.1,r≠id)/\Ok ⟨t.2.1,t.2.2⟩ (b+k)) (by decide) (λk x t B ⟨o,i2,i3⟩=>by
  have N:k<refL.length:=(List.getElem?_eq_some_iff.1 B).1
  have J:k<5:=N
  have et:refL.take (k+1)=refL.take k++[x]:=by rw [List.take_add_one,B];rfl
  have F:t.1.length<=5:=Nat.le_trans o.length_le (by rw [List.length_take];exact Nat.min_le_right _ _)
  unfold dz
  rw [yg]
  by_cases he:x=id
  ·rw [decide_eq_true he]
   exact⟨_,rfl,by rw [et];exact o.trans (List.sublist_append_left _ _),i2,i3.mono (by omega)⟩
  ·obtain ⟨f,s1,M,I⟩:=Ns _ 3 i3 (by omega) (by decide) (by decide)
   rw [decide_eq_false he]
   simp only [Bool.not_false,cond_true,M,ob_]
   cases f with
   | true =>
    rw [cond_true,nD _ _ (by simp;omega)]
    refine⟨_,rfl,by rw [et];exact o.append (List.Sublist.refl _),λr h => ?_,I.mono (by omega)⟩
    rcases List.mem_append.1 h with h|h
    ·exact i2 r h
    ·rw [List.mem_singleton.1 h];exact he
   | false=>exact⟨_,rfl,by rw [et];exact o.trans (List.sublist_append_left _ _),i2,I.mono (by omega)⟩) ⟨List.Sublist.refl _,λr h=>(by cases h),hs.mono (by omega)⟩
 exact⟨t.1,⟨t.2.1,t.2.2⟩,O,by simpa using t2,t3,t4.mono (by show b+((5:Nat):Int)<=b+10;omega)⟩
theorem O9 (n:Int) (R:1<=n/\n<=2) (s:Stream) {b:Int} (hs:Ok s b) (hb:b<=800000) :
  ∃l o,forL (List.range n.toNat) (([]:List Rect),s.L,s.f_at) (λk x s=>dA k x s)=some (.go (l,o.L,o.f_at))/\(l.length:Int)=n/\(∀r∈l,SmallR r)/\Ok o (b+10):=by
 obtain ⟨t,M,t2,t3,t4⟩:=KA (body:=λk x s=>dA k x s) (s:=(([]:List Rect),s.L,s.f_at)) (xs:=List.range n.toNat) (λj t=>t.1.length=j/\(∀r∈t.1,SmallR r)/\Ok ⟨t.2.1,t.2.2⟩ (b+4*j)) (by simp;omega) (λj x t O hj ⟨I,i2,i3⟩=>by
  simp only [List.length_range]at hj
  obtain ⟨r,s1,F,J,A,N⟩:=L6 _ i3 (by omega)
  unfold dA
  rw [F,ob_,nD _ _ (by simp;omega)]
  refine⟨_,rfl,by simp [I],λq h => ?_,N.mono (by omega)⟩
  rcases List.mem_append.1 h with h|h
  ·exact i2 q h
  ·rw [List.mem_singleton.1 h];exact⟨J,A⟩) ⟨rfl,λr B=>(by cases B),hs.mono (by omega)⟩
 rw [List.length_range]at t2 t4
 exact⟨t.1,⟨t.2.1,t.2.2⟩,M,by omega,t3,t4.mono (by omega)⟩
theorem OI (id:ByteArray) (R:id∈idL) (k:Nat) (l0:List Alert) (hl:l0.length<=100) (s:Stream) {b:Int} (hs:Ok s b) (hb:b<=700000) :
  ∃x s',dR k id (l0,s.L,s.f_at)=some (.go (l0++[x],s'.L,s'.f_at))/\RightA x/\x.Id=id/\Ok s' (b+40):=by
 obtain ⟨sd,s1,a1,a2,a3⟩:=D8 s [(⟨#[119,120]⟩:ByteArray),(⟨#[119,120]⟩:ByteArray),(⟨#[102,105,114,101]⟩:ByteArray)] hs (by omega) (by simp) (by simp)
 obtain ⟨F,s2,b1,b2,b3⟩:=D5 s1 [1,1,2,2,3] a3 (by omega) (by simp) (by simp)
 obtain ⟨n5,s3,c1,c2,c3,c4⟩:=oZ s2 0 6 b3 (by omega) (by decide) (by decide) (by decide)
 obtain ⟨wt,s4,d1,d2,d3⟩:=D5 s3 [1,5,5,9] c4 (by omega) (by simp) (by simp)
 obtain ⟨tx,s5,e1,e2,e3⟩:=D8 s4 [(⟨#[102,108,111,111,100]⟩:ByteArray),(⟨#[102,105,114,101,32,105,110,32,116,104,101,32,109,97,108,108]⟩:ByteArray)] d3 (by omega) (by simp) (by simp)
 obtain ⟨un,W,f1,f2,f3⟩:=D5 s5 [1,10,20,50] e3 (by omega) (by simp) (by simp)
 have hsd:sd=wxS\/sd=fireS:=by
  simp only [List.mem_cons,List.not_mem_nil,or_false]at a2
  rcases a2 with h|h|h
  ·exact .inl h
  ·exact .inl h
  ·exact .inr h
 have hkd:F=1\/F=2\/F=3:=by
  simp only [List.mem_cons,List.not_mem_nil,or_false]at b2;omega
 have hwt:1<=wt/\wt<=9:=by
  simp only [List.mem_cons,List.not_mem_nil,or_false]at d2;omega
 have hun:1<=un/\un<=50:=by
  simp only [List.mem_cons,List.not_mem_nil,or_false]at f2;omega
 have htx:tx=floodS\/tx=mallS:=by
  simp only [List.mem_cons,List.not_mem_nil,or_false]at e2;exact e2
 obtain ⟨rf,A,g1,g2,g3,g4,g5⟩:∃rf A,(bif F != 1 then (forL ([(⟨#[97,97]⟩:ByteArray),(⟨#[97,98]⟩:ByteArray),(⟨#[97,99]⟩:ByteArray),(⟨#[97,100]⟩:ByteArray),(⟨#[122,122]⟩:ByteArray)]:List ByteArray) (([]:List ByteArray),W.L,W.f_at) (λk x s=>dz id k x s)).bind λZ=>thenC Z (λo=>bif ((o.1.length:Int)==0)then some (o.2.1,o.2.2,([(⟨#[122,121]⟩:ByteArray)]:List ByteArray))else some (o.2.1,o.2.2,o.1)) (λ_=>none)else some (W.L,W.f_at,([]:List ByteArray)))=some (Stream.L A,Stream.f_at A,rf)/\(rf.Sublist refL\/rf=[zyS])/\(∀r∈rf,r≠id)/\(F=1↔rf=[])/\Ok A (b+20):=by
  by_cases h1:F=1
  ·rw [h1]
   exact⟨[],W,rfl,.inl (List.nil_sublist _),λr X=>(by cases X),⟨λ_=>rfl,λ_=>rfl⟩,f3.mono (by omega)⟩
  ·have:(F != 1)=true:=by simpa using h1
   rw [this,cond_true]
   obtain ⟨l,A,g1,g2,g3,g4⟩:=PN id W f3 (by omega)
   rw [g1]
   simp only [ob_,thenC]
   by_cases hl0:l=[]
   ·subst hl0
    refine⟨[zyS],A,rfl,.inr rfl,λr X e => ?_,⟨λh=>absurd h h1,λh=>(by cases h)⟩,g4.mono (by omega)⟩
    rw [List.mem_singleton.1 X]at e
    rw [<- e]at R
    have:=Rv _ R
    exact absurd this (by decide)
   ·have:((l.length:Int)==0)=false:=by
     rw [beq_eq_false_iff_ne]
     intro e;exact hl0 (List.eq_nil_of_length_eq_zero (by omega))
    rw [this,cond_false]
    exact⟨l,A,rfl,.inl g2,g3,⟨λh=>absurd h h1,λh=>absurd h hl0⟩,g4.mono (by omega)⟩
 obtain ⟨O,B,N,j1,j2,j3,j4,j5,j6⟩:∃O B N,(bif F==3 then (gp (⟨Stream.L A,Stream.f_at A⟩:Stream) ([(⟨#[]⟩:ByteArray),(⟨#[111,118,101,114]⟩:ByteArray)]:List ByteArray)).bind λM=>some (([]:List Rect),M.2.L,M.2.f_at,M.1)else (dG (⟨Stream.L A,Stream.f_at A⟩:Stream) 1 2).bind λI=>(forL (List.range (I.1).toNat) (([]:List Rect),I.2.L,I.2.f_at) (λk x s=>dA k x s)).bind λY=>thenC Y (λJ=>some (J.1,J.2.1,J.2.2,tx)) (λ_=>none))=some (O,Stream.L N,Stream.f_at N,B)/\(∀r∈O,SmallR r)/\O.length<=2/\(F=3↔O=[])/\(B=floodS\/B=mallS\/F=3/\(B=⟨#[]⟩\/B=overS))/\Ok N (b+40):=by
  have e7:(⟨Stream.L A,Stream.f_at A⟩:Stream)=A:=rfl
  rw [e7]
  by_cases h3:F=3
  ·have:(F==3)=true:=by simpa using h3
   rw [this,cond_true]
   obtain ⟨t2,N,q1,q2,q3⟩:=D8 A [(⟨#[]⟩:ByteArray),(⟨#[111,118,101,114]⟩:ByteArray)] g5 (by omega) (by simp) (by simp)
   rw [q1]
   simp only [List.mem_cons,List.not_mem_nil,or_false]at q2
   exact⟨[],t2,N,rfl,λr X=>(by cases X),by decide,⟨λ_=>rfl,λ_=>h3⟩,.inr (.inr ⟨h3,q2⟩),q3.mono (by omega)⟩
  ·have:(F==3)=false:=by simpa using h3
   rw [this,cond_false]
   obtain ⟨m,N,q1,q2,q3,q4⟩:=oZ A 1 2 g5 (by omega) (by decide) (by decide) (by decide)
   obtain ⟨O,s9,r1,r2,r3,r4⟩:=O9 m ⟨q2,q3⟩ N q4 (by omega)
   rw [q1,ob_,r1]
   refine⟨O,tx,s9,rfl,r3,by omega,⟨λh=>absurd h h3,λh => ?_⟩,htx.imp (λh=>h) .inl,r4.mono (by omega)⟩
   rw [h]at r2;simp at r2;omega
 refine⟨⟨id,sd,F,rf,n5*5,n5*5+un,wt,O,B⟩,N,?_,⟨R,hsd,by simp only [];omega,g2,g3,g4,by simp only [];omega,by simp only [];omega,hwt,j2,j3,j4,j5⟩,rfl,j6⟩
 unfold dR
 have e0:(⟨s.L,s.f_at⟩:Stream)=s:=rfl
 simp only [e0,a1,b1,c1,d1,e1,f1,g1,j1,ob_]
 rw [nD _ _ (by simp;omega),gM (n:=n5*5) (by omega),gM (n:=n5*5+un) (by omega)];rfl
def befA (a b:Alert):Prop:=a.At<b.At\/a.At=b.At/\lt a.Id b.Id
open Classical in
theorem Qt {a b:Alert} (h:RightA a) (hb:RightA b):kR a b=some (bif a.At != b.At then a.At-b.At else bif sLt a.Id b.Id then -1 else 1):=by
 have h1:=h.at_
 have h2:=hb.at_
 unfold kR
 cases a.At != b.At with
 | true=>rw [cond_true,cond_true,gM (by omega)]
 | false =>
  rw [cond_false,cond_false]
  cases sLt a.Id b.Id <;> rfl
theorem rA {a b:Alert}:(bif a.At != b.At then a.At-b.At else bif sLt a.Id b.Id then (-1:Int)else 1)<0↔befA a b:=by
 unfold befA
 by_cases h:a.At=b.At
 ·have:(a.At != b.At)=false:=by simpa using h
  rw [this,cond_false]
  cases hl:sLt a.Id b.Id with
  | true =>
   rw [cond_true]
   exact⟨λ_ => .inr ⟨h,(DI _ _).1 hl⟩,λ_=>by decide⟩
  | false =>
   rw [cond_false]
   refine⟨λh=>absurd h (by decide),λhb => ?_⟩
   rcases hb with hb|hb
   ·omega
   ·rw [(DI _ _).2 hb.2]at hl;cases hl
 ·have:(a.At != b.At)=true:=by simpa using h
  rw [this,cond_true]
  refine⟨λk => .inl (by omega),λhb => ?_⟩
  rcases hb with hb|hb
  ·omega
  ·exact absurd hb.1 h
theorem Ro (a:Alert):¬befA a a:=λh=>by
 rcases h with h|h
 ·omega
 ·exact vz _ h.2
theorem ML {a b c:Alert} (h:befA a b) (k:befA b c):befA a c:=by
 rcases h with h|h <;> rcases k with k|k
 ·exact .inl (by omega)
 ·exact .inl (by omega)
 ·exact .inl (by omega)
 ·exact .inr ⟨h.1.trans k.1,lt_trans h.2 k.2⟩
theorem RO (a b:Alert) (o:a.Id≠b.Id):befA a b\/befA b a:=by
 rcases Int.lt_trichotomy a.At b.At with h|h|h
 ·exact .inl (.inl h)
 ·rcases Je a.Id b.Id with k|k|k
  ·exact .inl (.inr ⟨h,k⟩)
  ·exact absurd k o
  ·exact .inr (.inr ⟨h.symm,k⟩)
 ·exact .inr (.inl h)
theorem KV {a b c:Alert} (h:¬befA a b) (k:¬befA b c):¬befA a c:=λhc=>by
 unfold befA at *
 simp only [not_or,not_and]at h k
 rcases hc with hc|hc
 ·rcases Int.lt_trichotomy a.At b.At with q|q|q
  ·exact h.1 q
  ·rcases Int.lt_trichotomy b.At c.At with r|r|r
   ·exact k.1 r
   ·omega
   ·omega
  ·have:=k.1;omega
 ·have h1:=h.1
  have A:=k.1
  have e1:a.At=b.At:=by omega
  have e2:b.At=c.At:=by omega
  have h2:=h.2 e1
  have o:=k.2 e2
  rcases Je a.Id b.Id with q|q|q
  ·exact h2 q
  ·rw [q]at hc;exact o hc.2
  ·rcases Je b.Id c.Id with r|r|r
   ·exact o r
   ·rw [<- r]at hc;exact h2 hc.2
   ·exact vz _ (lt_trans (lt_trans hc.2 r) q)
structure RAlerts (l:List Alert) (n:Nat):Prop where
 right:∀x∈l,RightA x
 rise:l.Pairwise befA
 ids:(l.map (·.Id)).Nodup
 len:l.length<=n
theorem JA (o:Int) (hm:0<=o/\o<=6) (s:Stream) {b:Int} (hs:Ok s b) (hb:b<=600000):∃l Y,dU s o=some (l,Y)/\(RAlerts l o.toNat/\∀x∈l,x.Id∈idL.take o.toNat)/\Ok Y (b+250):=by
 obtain ⟨n,s1,a1,a2,a3,a4⟩:=oZ s 0 o hs (by omega) (by omega) (by decide) (by omega)
 have I:uw idL 0 n=some (idL.take n.toNat):=by
  unfold uw
  have h6:idL.length=6:=rfl
  rw [if_pos (by rw [h6];omega)]
  simp
 obtain ⟨t,t1,t2,t3,t4⟩:=yo (body:=λk x s=>dR k x s) (xs:=idL.take n.toNat) (s:=(([]:List Alert),s1.L,s1.f_at)) (λk t=>t.1.map (·.Id)=idL.take k/\(∀x∈t.1,RightA x)/\Ok ⟨t.2.1,t.2.2⟩ (b+1+40*k)) (by rw [List.length_take];show min n.toNat 6<=_;omega) (λk x t A ⟨X,i2,i3⟩=>by
  have hk:k<(idL.take n.toNat).length:=(List.getElem?_eq_some_iff.1 A).1
  rw [List.length_take]at hk
  have hk6:k<6:=by have:idL.length=6:=rfl;omega
  have F:idL[k]? = some x:=by rw [List.getElem?_take_of_lt (by omega)]at A;exact A
  have J:t.1.length<=6:=by
   have:=congrArg List.length X
   rw [List.length_map,List.length_take]at this
   omega
  obtain ⟨y,s2,c1,c2,c3,c4⟩:=OI x (List.mem_of_getElem? F) k t.1 (by omega) ⟨t.2.1,t.2.2⟩ i3 (by omega)
  refine⟨_,c1,?_,λz M => ?_,c4.mono (by omega)⟩
  ·rw [List.map_append,X,List.take_add_one,F]
   simp [c3]
  ·rcases List.mem_append.1 M with M|M
   ·exact i2 z M
   ·rw [List.mem_singleton.1 M];exact c2) ⟨rfl,λx A=>(by cases A),a4.mono (by omega)⟩
 have W:(t.1.map (·.Id)).Nodup:=by
  rw [t2]
  exact (Qn.sublist (List.take_sublist _ _)).imp (λh e=>by rw [e]at h;exact vz _ h)
 have J:t.1.length<=o.toNat:=by
  have:=congrArg List.length t2
  rw [List.length_map,List.length_take,List.length_take]at this
  omega
 obtain ⟨r,r1,r2,r3⟩:=sort12 (cmp:=kR) (S:=bS) (λa b=>bif a.At != b.At then a.At-b.At else bif sLt a.Id b.Id then -1 else 1) (λ_=>rfl) (xs:=t.1) (by omega) (λx A y hy=>Qt (t3 x A) (t3 y hy))
  (λx y h k=>Ro x (ML (rA.1 h) (rA.1 k))) (λx y z h k q=>KV (λe=>h (rA.2 e)) (λe=>k (rA.2 e)) (rA.1 q))
 have O:r.length=t.1.length:=r2.length_eq
 have B:(r.map (·.Id)).Nodup:=(r2.map (·.Id)).nodup_iff.2 W
 have R:∀x∈r,x.Id∈idL.take o.toNat:=λx A=>by
  have h1:x.Id∈t.1.map (·.Id):=List.mem_map.2 ⟨x,r2.mem_iff.1 A,rfl⟩
  rw [t2]at h1
  have h2:(idL.take n.toNat).length<=o.toNat:=by rw [List.length_take];omega
  have Z:idL.take (idL.take n.toNat).length=(idL.take o.toNat).take (idL.take n.toNat).length:=by rw [List.take_take,Nat.min_eq_left h2]
  rw [Z]at h1
  exact List.mem_of_mem_take h1
 refine⟨r,⟨t.2.1,t.2.2⟩,?_,⟨⟨λx A=>t3 x (r2.mem_iff.1 A),?_,B,by omega⟩,R⟩,t4.mono (by
  have:(idL.take n.toNat).length<=6:=by rw [List.length_take];exact Nat.min_le_right _ _
  omega)⟩
 ·unfold dU
  have e1:uw ([(⟨#[97,97]⟩:ByteArray),(⟨#[97,98]⟩:ByteArray),(⟨#[97,99]⟩:ByteArray),(⟨#[97,100]⟩:ByteArray),(⟨#[97,101]⟩:ByteArray),(⟨#[97,102]⟩:ByteArray)]:List ByteArray) 0 n=some (idL.take n.toNat):=I
  simp only [a1,ob_,e1,t1,thenC]
  have e2:bS t.1=some r:=r1
  have e3:ni r t.1=some ():=by unfold ni;rw [if_pos O]
  rw [e2,ob_,e3];rfl
 ·refine List.pairwise_iff_getElem.2 (λi j hi hj N => ?_)
  have h1:=List.pairwise_iff_getElem.1 r3 i j hi hj N
  have h2:r[i].Id≠r[j].Id:=λe=>by
   have:=List.pairwise_iff_getElem.1 B i j (by simpa using hi) (by simpa using hj) N
   rw [List.getElem_map,List.getElem_map]at this
   exact this e
  rcases RO r[i] r[j] h2 with h|h
  ·exact h
  ·exact absurd (rA.2 h) h1
theorem CR (h:Int) (hm:0<=h/\h<=6) (s:Stream) {b:Int} (hs:Ok s b) (hb:b<=600000):∃l o,dU s h=some (l,o)/\RAlerts l h.toNat/\Ok o (b+250):=by
 obtain ⟨l,o,h1,h2,A⟩:=JA h hm s hs hb
 exact⟨l,o,h1,h2.1,A⟩
theorem Jn {a b:Alert} (h:befA a b):∃n,ic a b=some n/\n<0:=by
 refine⟨_,by simp only [ic,Ex,Hr,RN,ob_];rfl,?_⟩
 unfold or0 MF
 rcases h with h|⟨h,k⟩
 ·simp [h]
 ·rw [h]
  rcases Ib a.Id b.Id with⟨_,e⟩|⟨e,_⟩|⟨e,_⟩
  ·rw [e];simp
  ·rw [e]at k;exact absurd k (vz _)
  ·exact absurd (lt_trans k e) (vz _)
end Go.Proofs.YtljhfffghjclfabGreatDoor.Law

open Go Go.Eng
namespace Go.Proofs.YtljhfffghjclfabGreatDoor.Law
set_option linter.unusedVariables false
set_option linter.unusedSimpArgs false
theorem H8 {K T:Type} {eq:K->K->Bool} {k:K}:∀{es:List (K×T)},(∀e∈es,eq k e.1=false)->yQ eq k es=none
 | [],_=>rfl
 | e::es,h=>by
  have h1:=h e (by simp)
  have h2:=H8 (es:=es) (λx o=>h x (by simp [o]))
  rw [yQ,h1,h2];rfl
theorem PU {a b:ByteArray} (h:(a==b)=true):a=b:=by
 obtain ⟨x⟩:=a
 obtain ⟨y⟩:=b
 have h1:(x==y)=true:=h
 rw [eq_of_beq h1]
theorem idsLoop (l:List Alert) (o:(l.map (·.Id)).Nodup) (hl:l.length<=1000):∃s,forL l ([]:List (ByteArray×Bool)) (λk x s=>bH k x s)=some (.go s):=by
 obtain ⟨s,e,_⟩:=yo (body:=λk x s=>bH k x s) (λk s=>s=(l.take k).map λa=>(a.Id,true)) (xs:=l) (s:=([]:List (ByteArray×Bool))) (by omega) (λk x s A hs=>by
  have et:l.take (k+1)=l.take k++[x]:=by rw [List.take_add_one,A];rfl
  have B:yQ eqS x.Id s=none:=H8 (λe he=>by
   rw [hs]at he
   obtain ⟨a,F,rfl⟩:=List.mem_map.1 he
   obtain ⟨i,hi,rfl⟩:=List.getElem_of_mem F
   rw [List.length_take]at hi
   obtain ⟨I,h⟩:=List.getElem?_eq_some_iff.1 A
   rw [<- Bool.not_eq_true]
   intro e
   replace e:=PU e
   have:=List.pairwise_iff_getElem.1 o i k (by simp;omega) (by simpa using I) (by omega)
   rw [List.getElem_map,List.getElem_map,h]at this
   rw [List.getElem_take]at e
   exact this e.symm)
  unfold bH zH BO
  rw [B]
  refine⟨_,rfl,?_⟩
  rw [et,List.map_append,hs];rfl) rfl
 exact⟨s,e⟩
theorem Gw {l:List Alert} {n:Nat} (h:RAlerts l n) (N:n<=300):bO l=some 0:=by
 have hl:=h.len
 unfold bO
 rw [decide_eq_false (by omega),cond_false]
 obtain ⟨u,e,_⟩:=yo (body:=λk x s=>cK l k x s) (λ_ _=>True) (xs:=l) (s:=()) (by omega) (λk x s o _=>by
  refine⟨(),?_,trivial⟩
  have hm:=List.mem_of_getElem? o
  unfold cK
  rw [JF (h.right x hm)]
  simp only [ob_,bne_self_eq_false,cond_false]
  rcases Nat.eq_zero_or_pos k with B|B
  ·rw [decide_eq_false (by omega)];rfl
  ·rw [decide_eq_true (by omega),cond_true]
   obtain ⟨y,J,L⟩:=Bb o B (by omega)
   have hb:befA y x:=by
    obtain ⟨I,A⟩:=List.getElem?_eq_some_iff.1 L
    obtain ⟨M,F⟩:=List.getElem?_eq_some_iff.1 o
    rw [<- A,<- F]
    exact List.pairwise_iff_getElem.1 h.rise _ _ I M (by omega)
   obtain ⟨m,A,F⟩:=Jn hb
   rw [J,ob_,A,ob_,decide_eq_false (by omega)];rfl) trivial
 rw [e]
 simp only [ob_,thenC]
 obtain ⟨s,e2⟩:=idsLoop l h.ids (by omega)
 rw [e2];rfl
structure RightPo (p:Post):Prop where
 key:kit_IsKey p.Player=some true
 x : -1000<=p.X/\p.X<=1000
 y : -1000<=p.Y/\p.Y<=1000
end Go.Proofs.YtljhfffghjclfabGreatDoor.Law

open Go Go.Eng
namespace Go.Proofs.YtljhfffghjclfabGreatDoor.Law
set_option linter.unusedVariables false
set_option linter.unusedSimpArgs false
set_option maxRecDepth 100000
def poL:List ByteArray:=[⟨#[112,97]⟩,⟨#[112,98]⟩,⟨#[112,99]⟩]
theorem QF:poL.Pairwise lt:=by
 unfold poL
 simp only [List.pairwise_cons,List.mem_cons,List.not_mem_nil,or_false,forall_eq_or_imp,forall_eq]
 exact⟨⟨gG (by kernel_rfl),gG (by kernel_rfl)⟩,gG (by kernel_rfl),λa h=>(by cases h),List.Pairwise.nil⟩
structure RPosts (l:List Post):Prop where
 right:∀p∈l,RightPo p
 sub:(l.map (·.Player)).Sublist poL
theorem RPosts.rise {l:List Post} (h:RPosts l):(l.map (·.Player)).Pairwise lt:=QF.sublist h.sub
theorem RPosts.len {l:List Post} (h:RPosts l):l.length<=3:=by
 have h1:=h.sub.length_le
 rw [List.length_map]at h1
 exact h1
end Go.Proofs.YtljhfffghjclfabGreatDoor.Law

open Go Go.Eng
namespace Go.Proofs.YtljhfffghjclfabGreatDoor.Law
set_option linter.unusedVariables false
set_option linter.unusedSimpArgs false
end Go.Proofs.YtljhfffghjclfabGreatDoor.Law

open Go Go.Eng
namespace Go.Proofs.YtljhfffghjclfabGreatDoor.Law
set_option linter.unusedVariables false
set_option linter.unusedSimpArgs false
set_option maxRecDepth 100000
def ShA (s:ByteArray):Prop:=s.size<=1000
theorem DV {s:ByteArray} (h:Nat.ble s.size 1000=true):ShA s:=Nat.le_of_ble_eq_true h
def txtL:List ByteArray:=[⟨#[]⟩,overS,floodS,mallS,⟨#[32,120]⟩,⟨#[97,32,32,98]⟩,⟨#[10]⟩,⟨#[255]⟩]
structure GA (x:Alert):Prop where
 id:ShA x.Id
 sender:ShA x.Sender
 refs:∀r∈x.Refs,ShA r
 rlen:x.Refs.length<=5
 alen:x.Areas.length<=2
 at_ : -1100000000000<=x.At/\x.At<=1100000000000
 until_ : -1100000000000<=x.Until/\x.Until<=1100000000000
 text:x.Text∈txtL
structure GP (p:Post):Prop where
 player:ShA p.Player
end Go.Proofs.YtljhfffghjclfabGreatDoor.Law

open Go Go.Eng
namespace Go.Proofs.YtljhfffghjclfabGreatDoor.Law
set_option linter.unusedVariables false
set_option linter.unusedSimpArgs false
end Go.Proofs.YtljhfffghjclfabGreatDoor.Law

open Go Go.Eng
namespace Go.Proofs.YtljhfffghjclfabGreatDoor.Law
set_option linter.unusedVariables false
set_option linter.unusedSimpArgs false
end Go.Proofs.YtljhfffghjclfabGreatDoor.Law

open Go Go.Eng
namespace Go.Proofs.YtljhfffghjclfabGreatDoor.Law
set_option linter.unusedVariables false
set_option linter.unusedSimpArgs false
instance (a b:Alert):Decidable (lt a.Id b.Id):=by unfold lt;exact inferInstance
instance (a b:Alert):Decidable (befA a b):=by unfold befA;exact inferInstance
instance (v:ByteArray) (l:List ByteArray):Decidable (v∈l):=decidable_of_iff (l.any (λx=>decide (v=x))=true) (by simp)
end Go.Proofs.YtljhfffghjclfabGreatDoor.Law

open Go Go.Eng
namespace Go.Proofs.YtljhfffghjclfabGreatDoor.Law
set_option linter.unusedVariables false
set_option linter.unusedSimpArgs false
structure CA (l:List Alert):Prop where
 ids:(l.map (·.Id)).Nodup
 len:l.length<=12
 refs:∀x∈l,x.Refs.length<=1000
 alen:∀x∈l,x.Areas.length<=1000
 areas:∀x∈l,∀r∈x.Areas,Fine r
 at_:∀x∈l,0<=x.At/\x.At<=1000000000000
 until_:∀x∈l,0<=x.Until/\x.Until<=2000000000000
theorem Lh (a b:Alert):∃n,ic a b=some n/\(n<0↔befA a b):=by
 refine⟨_,by simp only [ic,Ex,Hr,RN,ob_];rfl,?_⟩
 rw [or0_neg,Q9,Ot,Q3];rfl
end Go.Proofs.YtljhfffghjclfabGreatDoor.Law

open Go Go.Eng
namespace Go.Proofs.YtljhfffghjclfabGreatDoor.Law
set_option linter.unusedVariables false
set_option linter.unusedSimpArgs false
set_option maxRecDepth 100000
def chA {α:Type} (stp:Option α->α->Int):Option α->List α->Int
 | _,[]=>0
 | p,x::l=>bif stp p x==0 then chA stp (some x) l else stp p x
def o7 {α:Type} (l:List α) (k:Nat):Option α:=if k=0 then none else l[k-1]?
theorem KD {α:Type} {stp:Option α->α->Int} {body:Nat->α->Unit->Option (Ctl Unit Int)} (l:List α):∀(xs:List α) (k:Nat),l.drop k=xs->(∀k x,l[k]? = some x->body k x ()=some (zA (stp (o7 l k) x)))->forR body xs k ()=some (zA (chA stp (o7 l k) xs))
 | [],k,_,_=>rfl
 | x::xs,k,A,h=>by
  have o:=JV A
  have hp:o7 l (k+1)=some x:=by unfold o7;rw [if_neg (by omega)];exact o
  rw [forR,h k x o,ob_,chA]
  cases hs:stp (o7 l k) x==0 with
  | true =>
   have e:zA (stp (o7 l k) x) = .go ():=by unfold zA;rw [hs];rfl
   rw [e,cond_true,<- hp]
   exact KD l xs (k+1) (aW A) h
  | false =>
   have e:zA (stp (o7 l k) x) = .ret (stp (o7 l k) x):=by unfold zA;rw [hs];rfl
   rw [e,cond_false,e]
theorem Jj {α:Type} {stp:Option α->α->Int} {body:Nat->α->Unit->Option (Ctl Unit Int)} {l:List α} (hl:l.length<=1000000) (h:∀k x,l[k]? = some x->body k x ()=some (zA (stp (o7 l k) x))):forL l () body=some (zA (chA stp none l)):=by
 rw [gJ (by omega)]
 exact KD l l 0 rfl h
theorem NV {α:Type} {stp:Option α->α->Int}:∀{l:List α} {p:Option α},chA stp p l=0->∀(i:Nat) (x:α),l[i]? = some x->∃q,stp q x=0/\(i=0->q=p)/\(0<i->q=l[i-1]?)
 | [],p,_,i,x,o=>by simp at o
 | y::l,p,h,i,x,o=>by
  rw [chA]at h
  cases hs:stp p y==0 with
  | false=>rw [hs,cond_false]at h;rw [h]at hs;exact absurd hs (by decide)
  | true =>
   rw [hs,cond_true]at h
   cases i with
   | zero =>
    rw [List.getElem?_cons_zero,so_]at o
    exact⟨p,by rw [<- o];exact eq_of_beq hs,λ_=>rfl,λh=>absurd h (Nat.lt_irrefl _)⟩
   | succ i =>
    rw [List.getElem?_cons_succ]at o
    obtain ⟨q,B,F,A⟩:=NV h i x o
    refine⟨q,B,λh=>absurd h (by omega),λ_ => ?_⟩
    cases i with
    | zero=>rw [F rfl];rfl
    | succ i=>rw [A (by omega)];simp
theorem zF (e:Int):(e=0/\zA e = .go ())\/(e≠0/\zA e = .ret e):=by
 unfold zA
 by_cases h:e=0
 ·subst h;exact .inl ⟨rfl,rfl⟩
 ·have:(e==0)=false:=by simpa using h
  rw [this];exact .inr ⟨h,rfl⟩
def Im {α:Type} (f:α->Bool):Option α->Bool
 | some y=>f y
 | none=>false
def zW (id:ByteArray) (p:Option ByteArray) (r:ByteArray):Int:=bif !keyB r then 5 else bif Im (λq=>sLe r q) p then 7 else bif sEq r id then 14 else 0
def wu (_:Option Rect) (r:Rect):Int:=bif EO r then 1 else 0
theorem Pk {α β:Type} {l:List α} {k:Nat} {x:α} (h:l[k]? = some x) (hl:l.length<=1000000) (g:α->Option Bool) (f:α->Bool) (F:∀y,g y=some (f y)):(bif (decide ((k:Int)>0))then (idx l (w64 ((k:Int)-1))).bind g else some false)=some (Im f (o7 l k)):=by
 rcases Nat.eq_zero_or_pos k with o|o
 ·subst o
  rw [decide_eq_false (by omega)];rfl
 ·obtain ⟨y,A,B⟩:=Bb h o (by omega)
  rw [decide_eq_true (by omega),cond_true,A,ob_,F]
  unfold o7
  rw [if_neg (by omega),B];rfl
theorem MZ (x:Alert):∀k r,x.Areas[k]? = some r->dF k r ()=some (zA (wu (o7 x.Areas k) r)):=λk r h=>by
 unfold dF wu
 rw [AJ]
 cases EO r <;> rfl
def rfV (x:Alert):Int:=chA (zW x.Id) none x.Refs
def arV (x:Alert):Int:=chA wu none x.Areas
def fmV (x:Alert):Bool := !((x.Kind==1)==((x.Refs.length:Int)==0))
def agV (x:Alert):Bool := !KC x.At||(pJ x.Until (x.At+1) (x.At+2592000000)||pJ x.Weight 1 9)
def cnV (x:Alert):Bool := !((x.Kind==3)==((x.Areas.length:Int)==0))
end Go.Proofs.YtljhfffghjclfabGreatDoor.Law

open Go Go.Eng
namespace Go.Proofs.YtljhfffghjclfabGreatDoor.Law
set_option linter.unusedVariables false
set_option linter.unusedSimpArgs false
section
variable {K T:Type} {eq:K->K->Bool}
theorem RB (k:K):zH eq ([]:List (K×T)) k=none:=rfl
theorem yn (e:K×T) (es:List (K×T)) (k:K):zH eq (e::es) k=if eq k e.1=true then some e.2 else zH eq es k:=by
 unfold zH
 rw [yQ]
 by_cases h:eq k e.1=true
 ·rw [if_pos h,if_pos h];rfl
 ·rw [if_neg h,if_neg h]
  cases yQ eq k es with
  | none=>rfl
  | some j=>rfl
theorem Ry (k:K) (v:T):BO eq ([]:List (K×T)) k v=[(k,v)]:=rfl
theorem OM (e:K×T) (es:List (K×T)) (k:K) (v:T):BO eq (e::es) k v=if eq k e.1=true then (k,v)::es else e::BO eq es k v:=by
 unfold BO
 rw [yQ]
 by_cases h:eq k e.1=true
 ·rw [if_pos h,if_pos h];rfl
 ·rw [if_neg h,if_neg h]
  cases yQ eq k es with
  | none=>rfl
  | some j=>rfl
theorem H5 (he:∀a b,eq a b=true↔a=b) (k k':K) (v:T):∀es:List (K×T),zH eq (BO eq es k v) k'=if eq k' k=true then some v else zH eq es k'
 | []=>by rw [Ry,yn]
 | e::es=>by
  rw [OM,yn]
  by_cases h:eq k e.1=true
  ·rw [if_pos h,yn]
   have h1:=(he _ _).1 h
   rw [<- h1]
   by_cases h2:eq k' k=true
   ·rw [if_pos h2,if_pos h2]
   ·rw [if_neg h2,if_neg h2,if_neg h2]
  ·rw [if_neg h,yn,H5 he k k' v es]
   by_cases h2:eq k' e.1=true
   ·have o:=(he _ _).1 h2
    have:¬eq k' k=true:=λq=>h (by rw [<- (he _ _).1 q];exact h2)
    rw [if_pos h2,if_neg this,if_pos h2]
   ·rw [if_neg h2,if_neg h2]
end
theorem I7 (a b:ByteArray):eqS a b=true↔a=b:=⟨PU,λh=>by
 subst h
 obtain ⟨x⟩:=a
 show (x==x)=true
 exact beq_self_eq_true x⟩
def ER (s:List (ByteArray×Bool)) (h:List ByteArray):Prop:=∀k,zH eqS s k=if k∈h then some true else none
theorem ER.nil:ER [] []:=λk=>by rw [RB,if_neg (by simp)]
theorem ER.set {s:List (ByteArray×Bool)} {o:List ByteArray} (h:ER s o) (id:ByteArray):ER (BO eqS s id true) (o++[id]):=λk=>by
 rw [H5 I7,h k]
 by_cases h1:eqS k id=true
 ·rw [if_pos h1,if_pos (by rw [(I7 _ _).1 h1];simp)]
 ·rw [if_neg h1]
  have:k∈o++[id]↔k∈o:=by
   rw [List.mem_append,List.mem_singleton]
   exact⟨λq=>q.resolve_right (λe=>h1 ((I7 _ _).2 e)),.inl⟩
  by_cases h2:k∈o
  ·rw [if_pos h2,if_pos (this.2 h2)]
  ·rw [if_neg h2,if_neg (λq=>h2 (this.1 q))]
def OX:List ByteArray->List ByteArray->Bool
 | _,[]=>false
 | sn,x::l=>if x∈sn then true else OX (sn++[x]) l
theorem NQ:∀(xs:List Alert) (k:Nat) (s:List (ByteArray×Bool)) (o:List ByteArray),ER s o->(OX o (xs.map (·.Id))=false/\∃B,forR (λk x s=>bH k x s) xs k s=some (.go B))\/(OX o (xs.map (·.Id))=true/\forR (λk x s=>bH k x s) xs k s=some (.ret 6))
 | [],k,s,o,h => .inl ⟨rfl,s,rfl⟩
 | x::xs,k,s,o,h=>by
  have A:=h x.Id
  rw [List.map_cons]
  by_cases hm:x.Id∈o
  ·rw [if_pos hm]at A
   have e:bH k x s=some (.ret 6):=by unfold bH;rw [A];rfl
   exact .inr ⟨by rw [OX,if_pos hm],by rw [forR,e];rfl⟩
  ·rw [if_neg hm]at A
   have e:bH k x s=some (.go (BO eqS s x.Id true)):=by unfold bH;rw [A];rfl
   rw [OX,if_neg hm,forR,e,ob_]
   exact NQ xs (k+1) _ _ (h.set x.Id)
end Go.Proofs.YtljhfffghjclfabGreatDoor.Law

open Go Go.Eng
namespace Go.Proofs.YtljhfffghjclfabGreatDoor.Law
set_option linter.unusedVariables false
set_option linter.unusedSimpArgs false
end Go.Proofs.YtljhfffghjclfabGreatDoor.Law

open Go Go.Eng
namespace Go.Proofs.YtljhfffghjclfabGreatDoor.Law
set_option linter.unusedVariables false
set_option linter.unusedSimpArgs false
set_option maxRecDepth 100000
theorem ge_of {n:Int} {P:Prop} [Decidable P] (h:n<0↔P):decide (n>=0) = !decide P:=by
 by_cases hp:P
 ·rw [decide_eq_true hp,decide_eq_false (by have:=h.2 hp;omega)];rfl
 ·rw [decide_eq_false hp,decide_eq_true (by
   rcases Int.lt_or_le n 0 with q|q
   ·exact absurd (h.1 q) hp
   ·exact q)];rfl
theorem Mm {α:Type} {l:List α} {k:Nat} {x:α} (h:l[k]? = some x) (hl:l.length<=1000000) (g:α->Option Bool) (f:α->Bool) (F:∀y∈l,g y=some (f y)):(bif (decide ((k:Int)>0))then (idx l (w64 ((k:Int)-1))).bind g else some false)=some (Im f (o7 l k)):=by
 rcases Nat.eq_zero_or_pos k with o|o
 ·subst o
  rw [decide_eq_false (by omega)];rfl
 ·obtain ⟨y,B,A⟩:=Bb h o (by omega)
  rw [decide_eq_true (by omega),cond_true,B,ob_,F y (List.mem_of_getElem? A)]
  unfold o7
  rw [if_neg (by omega),A];rfl
end Go.Proofs.YtljhfffghjclfabGreatDoor.Law

open Go Go.Eng
namespace Go.Proofs.YtljhfffghjclfabGreatDoor.Law
set_option linter.unusedVariables false
set_option linter.unusedSimpArgs false
structure RF (x:Alert):Prop where
 id:keyB x.Id=true
 sender:keyB x.Sender=true
 kind:1<=x.Kind/\x.Kind<=3
 refs:∀r∈x.Refs,keyB r=true
 weight:1<=x.Weight/\x.Weight<=9
def nZ (k:Int):List UInt8:=if k=1 then [110,101,119]else if k=2 then [117,112,100,97,116,101]else [99,97,110,99,101,108]
def lu:List ByteArray->List UInt8
 | []=>[]
 | r::l=>[114,101,102,32]++r.data.toList++[10]++lu l
def numR (r:Rect):List Int:=[r.X,r.Y,r.W,r.H]
def iU:List Rect->List UInt8
 | []=>[]
 | r::l=>[97,114,101,97,32]++Go.Lib.join ((numR r).map Go.Lib.itoa) [32]++[10]++iU l
def qQ (t:ByteArray):List UInt8:=if t=⟨#[]⟩then []else [116,101,120,116,32]++t.data.toList++[10]
def jw (x:Alert):List UInt8:=[97,108,101,114,116,32]++x.Id.data.toList++[32]++x.Sender.data.toList++[32]++nZ x.Kind++[32]++Go.Lib.join (([x.At,x.Until,x.Weight]:List Int).map Go.Lib.itoa) [32]++[10]
def jJ (x:Alert):List UInt8:=jw x++lu x.Refs++iU x.Areas++qQ x.Text
theorem NS {k:Int} {c:UInt8} (hc:c=32\/c=10):c∉nZ k:=by
 unfold nZ
 split
 ·rcases hc with rfl|rfl <;> decide
 ·split
  ·rcases hc with rfl|rfl <;> decide
  ·rcases hc with rfl|rfl <;> decide
end Go.Proofs.YtljhfffghjclfabGreatDoor.Law

open Go Go.Eng
namespace Go.Proofs.YtljhfffghjclfabGreatDoor.Law
set_option linter.unusedVariables false
set_option linter.unusedSimpArgs false
abbrev vX:ByteArray:=⟨#[97,108,101,114,116]⟩
abbrev Cw:ByteArray:=⟨#[114,101,102]⟩
abbrev wS:ByteArray:=⟨#[97,114,101,97]⟩
abbrev C8:ByteArray:=⟨#[116,101,120,116,32]⟩
theorem cutp (x:List UInt8) (B:x.length<=1000000):∃(t:List UInt8) (b:Bool),strings_CutPrefix (SB x) C8=some (SB t,b)/\t.length<=x.length/\(∀c∈t,c∈x)/\(b=true->x=[116,101,120,116,32]++t)/\(b=false->x.take 5 ≠ [116,101,120,116,32]):=by
 unfold strings_CutPrefix eG bQ
 have A:((C8.size:Nat):Int)=((5:Nat):Int):=rfl
 rw [A,fG]
 by_cases h5:5<=x.length
 ·have e1:=A8 x 0 5 (by omega) h5
  rw [show ((0:Nat):Int)=0 from rfl]at e1
  rw [decide_eq_true (by omega),cond_true,e1,ob_,ob_,ob_]
  have e2:sEq (SB ((x.take 5).drop 0)) C8=decide (x.take 5=[116,101,120,116,32]):=by
   rw [Bool.eq_iff_iff,gY,List.drop_zero]
   simp only [decide_eq_true_eq]
   exact⟨λh=>IB (m:=[116,101,120,116,32]) h,λh=>by rw [h]⟩
  rw [e2]
  by_cases he:x.take 5=[116,101,120,116,32]
  ·rw [decide_eq_true he]
   have o:=A8 x 5 x.length h5 (Nat.le_refl _)
   rw [List.take_length]at o
   simp only [Bool.not_true,cond_false]
   rw [o]
   refine⟨x.drop 5,true,rfl,by simp,λc hc=>List.mem_of_mem_drop hc,λ_ => ?_,λh=>by cases h⟩
   rw [<- he,List.take_append_drop]
  ·rw [decide_eq_false he]
   exact⟨x,false,rfl,Nat.le_refl _,λc hc=>hc,(λh=>by cases h),λ_=>he⟩
 ·rw [decide_eq_false (by omega),cond_false,ob_]
  exact⟨x,false,rfl,Nat.le_refl _,λc hc=>hc,(λh=>by cases h),λ_ e=>by
   have:=congrArg List.length e
   simp only [List.length_take,List.length_cons,List.length_nil]at this;omega⟩
theorem last_at {l0:List Alert} {a:Alert} (hl:l0.length<=1000000):inR (w64 (((l0++[a]).length:Int)-1)) (l0++[a])=some ()/\mQ (l0++[a]) (w64 (((l0++[a]).length:Int)-1))=some a:=by
 have h:w64 (((l0++[a]).length:Int)-1)=(l0.length:Int):=by
  rw [List.length_append,List.length_cons,List.length_nil,gM (by omega)];omega
 rw [h]
 constructor
 ·unfold inR;rw [if_pos (by simp)]
 ·unfold mQ;rw [if_pos (by simp)];simp
structure LA (m c:Nat) (a:Alert):Prop where
 id:a.Id.size<=m
 sender:a.Sender.size<=m
 kind:1<=a.Kind/\a.Kind<=3
 refs:∀r∈a.Refs,r.size<=m
 refsN:a.Refs.length<=c
 at_:Med a.At
 until_:Med a.Until
 weight:Med a.Weight
 areas:∀r∈a.Areas,∀n∈numR r,Med n
 areasN:a.Areas.length<=c
 text:a.Text.size<=m
 asc:∀b∈a.Text.data.toList,b.toNat<128
theorem DJ {m c d:Nat} {a:Alert} (h:LA m c a) (o:c<=d):LA m d a := { h with refsN:=Nat.le_trans h.refsN o,areasN:=Nat.le_trans h.areasN o }
end Go.Proofs.YtljhfffghjclfabGreatDoor.Law

open Go Go.Eng
namespace Go.Proofs.YtljhfffghjclfabGreatDoor.Law
set_option linter.unusedVariables false
set_option linter.unusedSimpArgs false
theorem oF (s:ByteArray):sNe s (⟨#[]⟩:ByteArray)=decide (s≠⟨#[]⟩):=by
 show (!sEq s (⟨#[]⟩:ByteArray))=_
 by_cases h:s=⟨#[]⟩
 ·rw [(gY _ _).2 h];simp [h]
 ·have:sEq s (⟨#[]⟩:ByteArray)=false:=by
   cases hs:sEq s (⟨#[]⟩:ByteArray)with
   | false=>rfl
   | true=>exact absurd ((gY _ _).1 hs) h
  rw [this];simp [h]
theorem FE {l0:List Alert} {a b:Alert} {m c:Nat} (h:∀y∈l0++[a],LA m c y) (hb:LA m c a->LA m (c+1) b):∀y∈l0++[b],LA m (c+1) y:=λy o=>by
 rcases List.mem_append.1 o with o|o
 ·exact DJ (h y (List.mem_append_left _ o)) (Nat.le_succ c)
 ·rw [List.mem_singleton]at o;subst o
  exact hb (h a (by simp))
theorem wo (l0:List Alert) (a:Alert):(((l0++[a]).length:Int)==0)=false:=by
 rw [beq_eq_false_iff_ne];simp;omega
theorem Jt:sEq vX Cw=false/\sEq vX wS=false/\sEq Cw vX=false/\sEq Cw wS=false/\sEq wS vX=false/\sEq wS Cw=false/\sEq vX vX=true/\sEq Cw Cw=true/\sEq wS wS=true:=by decide +kernel
noncomputable def zo (l:List Alert) (ws:List ByteArray):Option (List Alert×Bool) :=
 (bif ((l.length:Int)==0)then some true else (inR (w64 ((l.length:Int)-1)) l).bind λ_=>(mQ l (w64 ((l.length:Int)-1))).bind λe_57=>some (sNe e_57.Text (⟨#[]⟩:ByteArray))).bind λR=>bif R then some (l,false)else (inR (w64 ((l.length:Int)-1)) l).bind λ_=>((idx ws 0).bind λN=>bif (sEq N Cw)then bif ((ws.length:Int)==2)then (mQ l (w64 ((l.length:Int)-1))).bind λe_67=>some (((dw Alert.Areas l).length:Int)==0)else some false else some false).bind λM=>bif M then (mQ l (w64 ((l.length:Int)-1))).bind λe_70=>(idx ws 1).bind λW=>(jE (dw Alert.Refs l) ([W]:List ByteArray)).bind λZ=>(mQ l (w64 ((l.length:Int)-1))).bind λo=>some ((setLast l (⟨o.Id,o.Sender,o.Kind,Z,o.At,o.Until,o.Weight,o.Areas,o.Text⟩:Alert)),true)else ((idx ws 0).bind λL=>bif (sEq L wS)then some ((ws.length:Int)==5)else some false).bind λJ=>bif J then (uw ws 1 ws.length).bind λX=>(fP X).bind λA=>bif (!A.2)then some (l,false)else (mQ l (w64 ((l.length:Int)-1))).bind λe_90=>(idx A.1 0).bind λY=>(idx A.1 1).bind λF=>(idx A.1 2).bind λO=>(idx A.1 3).bind λI=>(jE (dw Alert.Areas l) ([(⟨Y,F,O,I⟩:Rect)]:List Rect)).bind λB=>(mQ l (w64 ((l.length:Int)-1))).bind λh=>some ((setLast l (⟨h.Id,h.Sender,h.Kind,h.Refs,h.At,h.Until,h.Weight,B,h.Text⟩:Alert)),true)else some (l,false)
noncomputable def Nb (l:List Alert) (ws:List ByteArray):Option (List Alert×Bool) :=
 (gz).bind λI=>(idx ws 3).bind λR=>(bu I R).bind λo=>(uw ws 4 ws.length).bind λB=>(fP B).bind λh=>(bif (!h.2)then some true else some (decide (o<1))).bind λO=>bif O then some (l,false)else (idx ws 1).bind λA=>(idx ws 2).bind λN=>(idx h.1 0).bind λM=>(idx h.1 1).bind λF=>(idx h.1 2).bind λL=>(jE l [(⟨A,N,o,[],M,F,L,[],(⟨#[]⟩:ByteArray)⟩:Alert)]).bind λJ=>some (J,true)
theorem Ed {l:List Alert} {x t:List UInt8} {ws:List ByteArray} {g:Bool} (hc:strings_CutPrefix (SB x) C8=some (SB t,false)) (A:nY (SB x)=some (ws,g)) :
  alert_readLine l (SB x)=bif (!g)then some (l,false)else ((idx ws 0).bind λo=>bif (sEq o vX)then some ((ws.length:Int)==7)else some false).bind λh=>bif h then Nb l ws else zo l ws:=by
 unfold alert_readLine Nb zo
 rw [hc,ob_]
 simp only [cond_false]
 rw [A,ob_]
end Go.Proofs.YtljhfffghjclfabGreatDoor.Law

open Go Go.Eng
namespace Go.Proofs.YtljhfffghjclfabGreatDoor.Law
set_option linter.unusedVariables false
set_option linter.unusedSimpArgs false
theorem list7 {α:Type} {l:List α} (h:l.length=7):∃a b c d e f g,l=[a,b,c,d,e,f,g]:=by
 match l,h with
 | [a,b,c,d,e,f,g],_=>exact⟨a,b,c,d,e,f,g,rfl⟩
theorem list5 {α:Type} {l:List α} (h:l.length=5):∃a b c d e,l=[a,b,c,d,e]:=by
 match l,h with
 | [a,b,c,d,e],_=>exact⟨a,b,c,d,e,rfl⟩
theorem list4 {α:Type} {l:List α} (h:l.length=4):∃a b c d,l=[a,b,c,d]:=by
 match l,h with
 | [a,b,c,d],_=>exact⟨a,b,c,d,rfl⟩
theorem list3 {α:Type} {l:List α} (h:l.length=3):∃a b c,l=[a,b,c]:=by
 match l,h with
 | [a,b,c],_=>exact⟨a,b,c,rfl⟩
theorem list2 {α:Type} {l:List α} (h:l.length=2):∃a b,l=[a,b]:=by
 match l,h with
 | [a,b],_=>exact⟨a,b,rfl⟩
theorem I1 {ws:List (List UInt8)} (n:Nat):(((ws.map SB).length:Int)==(n:Int))=decide (ws.length=n):=by
 rw [List.length_map,Bool.eq_iff_iff,beq_iff_eq,decide_eq_true_eq];omega
theorem xq {l:List Alert} {ws:List ByteArray} {y:ByteArray} (hl:l.length<=1000000) (B:idx ws 0=some y) (h1:sEq y Cw=false\/((ws.length:Int)==2)=false\/dw Alert.Areas l ≠ []) (h2:sEq y wS=false\/((ws.length:Int)==5)=false):zo l ws=some (l,false):=by
 unfold zo
 rcases List.eq_nil_or_concat l with rfl|⟨l0,a,rfl⟩
 ·rfl
 ·rw [List.concat_eq_append]at *
  have o:l0.length<=1000000:=by simp at hl;omega
  obtain ⟨A,i2⟩:=last_at (l0:=l0) (a:=a) o
  rw [wo,cond_false]
  simp only [A,i2,ob_,oF,B]
  by_cases hT:a.Text=⟨#[]⟩
  ·rw [decide_eq_false (by simp [hT])]
   simp only [cond_false]
   have e1:(bif sEq y Cw then bif ((ws.length:Int)==2)then some (((dw Alert.Areas (l0++[a])).length:Int)==0)else some false else some false)=some false:=by
    rcases h1 with h|h|h
    ·rw [h];rfl
    ·rw [h];cases sEq y Cw <;> rfl
    ·have:(((dw Alert.Areas (l0++[a])).length:Int)==0)=false:=by
      rw [beq_eq_false_iff_ne]
      have:=List.length_pos_iff.2 h
      omega
     rw [this]
     cases sEq y Cw <;> cases ((ws.length:Int)==2) <;> rfl
   have e2:(bif sEq y wS then some ((ws.length:Int)==5)else some false)=some false:=by
    rcases h2 with h|h
    ·rw [h];rfl
    ·rw [h];cases sEq y wS <;> rfl
   rw [e1]
   simp only [ob_,cond_false]
   rw [e2];rfl
  ·rw [decide_eq_true hT];rfl
end Go.Proofs.YtljhfffghjclfabGreatDoor.Law

open Go Go.Eng
namespace Go.Proofs.YtljhfffghjclfabGreatDoor.Law
set_option linter.unusedVariables false
set_option linter.unusedSimpArgs false
def Mg (n:Nat):Bool:=decide ((n:Int)<32)||((n:Int)==127)
theorem Mc (s:ByteArray) (hs:s.size<=1000000):jH 0 (λt=>fD s t)=some (bif s.data.toList.any (λb=>Mg b.toNat)then .ret false else .go (s.size:Int)):=by
 have hsz:s.size=s.data.toList.length:=Go.Lib.size_eq s
 have I:∀(d j:Nat),j+d=s.size->∃n,iterN (λt=>fD s t) n (j:Int)=some (bif (s.data.toList.drop j).any (λb=>Mg b.toNat)then .ret false else .go (s.size:Int)):=by
  intro d
  induction d with
  | zero =>
   intro j hj
   refine⟨1,?_⟩
   simp only [iterN,fD]
   rw [decide_eq_false (by omega),List.drop_of_length_le (by omega),show (j:Int)=(s.size:Int) by omega];rfl
  | succ d L =>
   intro j hj
   have B:j<s.data.toList.length:=by omega
   have hc:yV s (j:Int)=some s.data.toList[j]:=by
    rw [uO s j (by omega)]
    have:=zX (s:=s) (k:=j) (by omega)
    rw [List.getElem?_eq_getElem B]at this
    exact this.symm
   rw [List.drop_eq_getElem_cons B,List.any_cons]
   have h:((some s.data.toList[j]).bind λA=>bif (decide ((A.toNat:Int)<32))then some true else (some s.data.toList[j]).bind λF=>some ((F.toNat:Int)==127))=some (Mg (s.data.toList[j]).toNat):=by
    unfold Mg
    simp only [ob_]
    cases decide (((s.data.toList[j]).toNat:Int)<32) <;> rfl
   cases hd:Mg (s.data.toList[j]).toNat with
   | true =>
    refine⟨1,?_⟩
    simp only [iterN,fD]
    rw [decide_eq_true (by omega),cond_true,hc,h,hd];rfl
   | false =>
    obtain ⟨n,J⟩:=L (j+1) (by omega)
    refine⟨n+1,?_⟩
    have o:fD s (j:Int)=some (.go ((j+1:Nat):Int)):=by
     unfold fD
     rw [decide_eq_true (by omega),cond_true,hc,h,hd,ob_,cond_false,gM (by omega)];rfl
    rw [iterN,o,ob_,Bool.false_or]
    exact J
 obtain ⟨n,J⟩:=I s.size 0 (by omega)
 exact lZ J
def PV (s:ByteArray):Bool := !s.data.toList.any (λb=>Mg b.toNat)&&(Lib.validD s.data.toList&&(sEq ⟨(Lib.trimS s.data.toList [32]).toArray⟩ s && !Lib.contains s.data.toList [32,32]))
theorem OH (s:ByteArray) (hs:s.size<=1000000):iX s=some (PV s):=by
 have o:gX s=some (Lib.validD s.data.toList):=by
  show FU s=_
  unfold FU
  rw [if_pos (by omega)]
 have ht:qW s (⟨#[32]⟩:ByteArray)=some ⟨(Lib.trimS s.data.toList [32]).toArray⟩:=by
  show Fj s _=_
  unfold Fj
  rw [if_pos ⟨by omega,by decide,by decide⟩]
 have h:strings_Contains s (⟨#[32,32]⟩:ByteArray)=some (Lib.contains s.data.toList [32,32]):=by
  show uX s _=_
  unfold uX
  rw [if_pos (by omega)]
 unfold PV
 unfold iX
 rw [Mc s hs,o,ht,h]
 cases s.data.toList.any (λb=>Mg b.toNat)with
 | true=>rfl
 | false =>
  cases Lib.validD s.data.toList with
  | false=>rfl
  | true =>
   simp only [cond_false,cond_true,ob_,thenC,Bool.not_false]
   cases sEq ⟨(Lib.trimS s.data.toList [32]).toArray⟩ s <;> rfl
end Go.Proofs.YtljhfffghjclfabGreatDoor.Law

open Go Go.Eng
namespace Go.Proofs.YtljhfffghjclfabGreatDoor.Law
set_option linter.unusedVariables false
set_option linter.unusedSimpArgs false
set_option maxRecDepth 100000
structure GB (x:Alert):Prop where
 id:x.Id.size<=100000
 sender:x.Sender.size<=100000
 refs:∀r∈x.Refs,r.size<=100000
 rlen:x.Refs.length<=900000
 alen:x.Areas.length<=900000
 at_:Med x.At
 tsize:x.Text.size<=100000
theorem gb_la {m c:Nat} {x:Alert} (h:LA m c x) (hm:m<=100000) (hc:c<=900000):GB x :=
 ⟨Nat.le_trans h.id hm,Nat.le_trans h.sender hm,λr o=>Nat.le_trans (h.refs r o) hm,Nat.le_trans h.refsN hc,Nat.le_trans h.areasN hc,h.at_,Nat.le_trans h.text hm⟩
noncomputable def plG (s:ByteArray):Bool:=(iX s).getD false
theorem plG_eq {x:Alert} (h:GB x):iX x.Text=some (plG x.Text):=by
 unfold plG
 rw [OH x.Text (by have:=h.tsize;omega)];rfl
noncomputable def txG (x:Alert):Bool := !plG x.Text||(sEq x.Text ⟨#[]⟩ && !(x.Kind==3))
def rfG (x:Alert):Int:=bif decide ((x.Refs.length:Int)>20)then 2 else bif rfV x==0 then (bif fmV x then 3 else 0)else rfV x
noncomputable def alG (x:Alert):Int:=bif !keyB x.Id || !keyB x.Sender then 5 else bif pJ x.Kind 1 3 then 4 else bif rfG x==0 then (bif agV x then 1 else bif decide ((x.Areas.length:Int)>20)then 2 else bif arV x==0 then (bif cnV x then 3 else bif decide ((x.Text.size:Int)>500)then 2 else bif txG x then 3 else 0)else arV x)else rfG x
theorem KX (x:Alert) (h:GB x):∀k r,x.Refs[k]? = some r->dx x k r ()=some (zA (zW x.Id (o7 x.Refs k) r)):=λk r A=>by
 have hl:=h.rlen
 have hs:=h.refs r (List.mem_of_getElem? A)
 unfold dx
 rw [uT r (by omega),Pk (β:=Unit) A (by omega) (λo=>some (sLe r o)) (λy=>sLe r y) (λ_=>rfl),ob_,ob_]
 unfold zW
 cases keyB r with
 | false=>rfl
 | true =>
  cases Im (λq=>sLe r q) (o7 x.Refs k)with
  | true=>rfl
  | false=>cases sEq r x.Id <;> rfl
theorem alG_K {x:Alert} (h:GB x):eQ x=some (alG x):=by
 have h1:=h.id
 have h2:=h.sender
 have N:=h.at_
 have O:=h.rlen
 have R:=h.alen
 unfold Med at N
 have I:fF x=some (rfG x):=by
  unfold fF rfG
  cases decide ((x.Refs.length:Int)>20)with
  | true=>rfl
  | false =>
  rw [cond_false,cond_false,Jj (stp:=zW x.Id) (body:=λk r s=>dx x k r s) (by omega) (KX x h)]
  unfold rfV fmV
  rcases zF (chA (zW x.Id) none x.Refs)with⟨e1,e2⟩|⟨e1,e2⟩
  ·rw [e2,e1]
   simp only [ob_,thenC]
   cases (!((x.Kind==1)==((x.Refs.length:Int)==0))) <;> rfl
  ·have:(chA (zW x.Id) none x.Refs==0)=false:=by simpa using e1
   rw [e2,this];rfl
 unfold eQ alG
 rw [uT _ (by omega),uT _ (by omega),I,sH,CU,gM (n:=x.At+1) (by omega),gM (n:=x.At+2592000000) (by omega),sH,sH,(plG_eq h)]
 rw [Jj (stp:=wu) (body:=λk r s=>dF k r s) (by omega) (MZ x)]
 have L:(bif !keyB x.Id then some true else some (!keyB x.Sender))=some (!keyB x.Id || !keyB x.Sender):=by cases keyB x.Id <;> rfl
 have J:((some (KC x.At)).bind λo=>bif (!o)then some true else (some (pJ x.Until (x.At+1) (x.At+2592000000))).bind λB=>bif B then some true else (some (pJ x.Weight 1 9)).bind λA=>some A)=some (agV x):=by
  unfold agV
  cases KC x.At <;> cases pJ x.Until (x.At+1) (x.At+2592000000) <;> rfl
 have et:((some (plG x.Text)).bind λF=>bif (!F)then some true else bif (sEq x.Text (⟨#[]⟩:ByteArray))then some (!(x.Kind==3))else some false)=some (txG x):=by
  unfold txG
  cases plG x.Text <;> cases sEq x.Text ⟨#[]⟩ <;> rfl
 have M:(!((x.Kind==3)==((x.Areas.length:Int)==0)))=cnV x:=rfl
 rw [J,et,M]
 simp only [ob_]
 rw [L]
 simp only [ob_]
 cases (!keyB x.Id || !keyB x.Sender)with
 | true=>rfl
 | false =>
 cases pJ x.Kind 1 3 with
 | true=>rfl
 | false =>
 simp only [cond_false]
 cases hr:rfG x==0 with
 | false =>
  have:(rfG x != 0)=true:=by simp [bne,hr]
  simp only [cond_false,this,cond_true]
 | true =>
  have:(rfG x != 0)=false:=by simp [bne,hr]
  simp only [this,cond_true,cond_false]
  cases agV x with
  | true=>rfl
  | false =>
   simp only [cond_false]
   cases decide ((x.Areas.length:Int)>20)with
   | true=>rfl
   | false =>
   simp only [cond_false]
   unfold arV
   rcases zF (chA wu none x.Areas)with⟨e1,e2⟩|⟨e1,e2⟩
   ·rw [e2,e1]
    simp only [thenC]
    cases cnV x with
    | true=>rfl
    | false =>
     cases decide ((x.Text.size:Int)>500)with
     | true=>rfl
     | false=>cases txG x <;> rfl
   ·have:(chA wu none x.Areas==0)=false:=by simpa using e1
    rw [e2,this];rfl
end Go.Proofs.YtljhfffghjclfabGreatDoor.Law

open Go Go.Eng
namespace Go.Proofs.YtljhfffghjclfabGreatDoor.Law
set_option linter.unusedVariables false
set_option linter.unusedSimpArgs false
set_option maxRecDepth 100000
def GBs (l:List Alert):Prop:=(∀x∈l,GB x)/\l.length<=900000
noncomputable def IA (p:Option Alert) (x:Alert):Int:=bif alG x==0 then (bif Im (λy => !decide (befA y x)) p then 7 else 0)else alG x
noncomputable def vG (l:List Alert):Int:=bif decide ((l.length:Int)>300)then 2 else bif chA IA none l==0 then (bif OX [] (l.map (·.Id))then 6 else 0)else chA IA none l
theorem gK_body {l:List Alert} (h:GBs l):∀k x,l[k]? = some x->cK l k x ()=some (zA (IA (o7 l k) x)):=λk x B=>by
 have hl:=h.2
 unfold cK IA
 rw [alG_K (h.1 x (List.mem_of_getElem? B)),Mm B (by omega) (λA=>(ic A x).bind λo=>some (decide (o>=0))) (λy => !decide (befA y x)) (λy _=>by
  obtain ⟨n,n1,n2⟩:=Lh y x
  rw [n1,ob_,ge_of n2])]
 simp only [ob_]
 by_cases h0:alG x=0
 ·rw [h0]
  cases Im (λy => !decide (befA y x)) (o7 l k) <;> rfl
 ·have e1:(alG x==0)=false:=by simpa using h0
  have e2:(alG x != 0)=true:=by simp [bne,e1]
  rw [e1,e2]
  unfold zA
  rw [cond_false,e1];rfl
theorem vG_K {l:List Alert} (h:GBs l):bO l=some (vG l):=by
 have hl:=h.2
 unfold bO vG
 cases decide ((l.length:Int)>300)with
 | true=>rfl
 | false =>
 rw [cond_false,cond_false,Jj (stp:=IA) (body:=λk x s=>cK l k x s) (by omega) (gK_body h)]
 rcases zF (chA IA none l)with⟨e1,e2⟩|⟨e1,e2⟩
 ·rw [e2,e1]
  simp only [ob_,thenC]
  rw [gJ (by omega)]
  rcases NQ l 0 [] [] ER.nil with⟨d,o,f⟩|⟨d,f⟩
  ·rw [f,d];rfl
  ·rw [f,d];rfl
 ·have:(chA IA none l==0)=false:=by simpa using e1
  rw [e2,this];rfl
end Go.Proofs.YtljhfffghjclfabGreatDoor.Law

