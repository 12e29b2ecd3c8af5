/-
  THE PLAIN LAW (part 5).
-/
import Derived.Test.YtadpbmfnnlkdlacGreatDoorPl4
import Derived.Test.YtadpbmfnnlkdlacGreatDoorDefs
import Derived.Test.YtadpbmfnnlkdlacGreatDoorEng5
open Go Go.Eng
namespace Go.Proofs.YtadpbmfnnlkdlacGreatDoor.Law
set_option linter.unusedVariables false
set_option linter.unusedSimpArgs false
set_option maxRecDepth 100000
def jG (h:ByteArray):Option (Bool) :=
 (vO 0 (λs=>lQ h s)).bind λo=>thenC o (λB=>(bif (sNe h (⟨#[]⟩:ByteArray))then some (decide ((h.size:Int)<=40))else some false).bind λA=>some A) (λr=>some r)
theorem lN (h:ByteArray):Le (jG h) (kit_IsKey h):=by
 unfold jG kit_IsKey
 repeat' (with_reducible first|exact Le.refl _|refine Le.loop (λ_=>?_)|refine Le.thenC (λ_=>?_) (λ_=>?_)|refine Le.cond ?_ ?_|refine Le.bind ?_ (λ_=>?_))
def jR (o:(List Int)) (A:Int):Option (Ctl (Int) ((List Int))) :=
 bif (decide (A<(o.length:Int)))then (inR A o).bind λ_=>(o[(0+(A).toNat)]?).bind λF=>(inR (w64 (A-1)) o).bind λ_=>(o[(0+((w64 (A-1))).toNat)]?).bind λB=>bif (F==B)then (neL o).bind λ_=>(rY o A (o.length:Int)).bind λ_=>(vO (o,A,1) (λs=>bX o A s)).bind λI=>thenC I (λh=>(rY h.1 h.2.1 (h.1.length:Int)).bind λ_=>(rY (h.1.take ((h.2.1).toNat)++List.replicate (((h.1.length:Int)).toNat-(h.2.1).toNat) 0++h.1.drop (((h.2.1).toNat)+(((h.1.length:Int)).toNat-(h.2.1).toNat))) 0 h.2.1).bind λ_=>some (.ret (I9 (h.1.take ((h.2.1).toNat)++List.replicate (((h.1.length:Int)).toNat-(h.2.1).toNat) 0++h.1.drop (((h.2.1).toNat)+(((h.1.length:Int)).toNat-(h.2.1).toNat))) 0 ((h.2.1).toNat)))) (λ_=>none)else some (.go (w64 (A+1)))else some (.brk A)
theorem rM (h:(List Int)) (o:Int):Le (jR h o) (bz h o):=by
 unfold jR bz
 repeat' (with_reducible first|exact Le.refl _|refine Le.loop (λ_=>?_)|refine Le.thenC (λ_=>?_) (λ_=>?_)|refine Le.cond ?_ ?_|refine Le.bind ?_ (λ_=>?_))
def kR (h:(List Int)):Option ((List Int)) :=
 bif (decide ((h.length:Int)<2))then some h else (vO 1 (λs=>jR h s)).bind λo=>thenC o (λA=>some h) (λr=>some r)
theorem uy (h:(List Int)):Le (kR h) (dJ h):=by
 unfold kR dJ
 repeat' (with_reducible first|exact Le.refl _|exact rM _ _|refine Le.loop (λ_=>?_)|refine Le.thenC (λ_=>?_) (λ_=>?_)|refine Le.cond ?_ ?_|refine Le.bind ?_ (λ_=>?_))
def eP (F:Int) (B:Int) (h:(List Run)×Int):Option (Ctl ((List Run)×Int) (Unit)) :=
 bif (decide (h.2<F))then (vO (h.1,h.2) (λs=>dD B s)).bind λA=>thenC A (λo=>some (.go (o.1,(w64 (h.2+1))))) (λ_=>none)else some (.brk (h.1,h.2))
theorem lK (A:Int) (o:Int) (h:(List Run)×Int):Le (eP A o h) (bS A o h):=by
 unfold eP bS
 repeat' (with_reducible first|exact Le.refl _|refine Le.loop (λ_=>?_)|refine Le.thenC (λ_=>?_) (λ_=>?_)|refine Le.cond ?_ ?_|refine Le.bind ?_ (λ_=>?_))
def fJ (h:(List Run)) (A:Int) (F:Int):Option ((List Run)) :=
 (vO (h,(w64 (A+1))) (λs=>eP F A s)).bind λo=>thenC o (λB=>some B.1) (λ_=>none)
theorem ma (h:(List Run)) (o:Int) (A:Int):Le (fJ h o A) (bZ h o A):=by
 unfold fJ bZ
 repeat' (with_reducible first|exact Le.refl _|exact lK _ _ _|refine Le.loop (λ_=>?_)|refine Le.thenC (λ_=>?_) (λ_=>?_)|refine Le.bind ?_ (λ_=>?_))
def gH (F:Int) (B:Int) (h:(List Run)) (o:Int) (I:Unit):Option (Ctl (Unit) ((List Run))) :=
 bif (decide ((w64 (F-B))<=12))then (fJ h B F).bind λA=>(iQ A h).bind λ_=>some (.ret A)else bif (o==0)then none else none
theorem nH (F:Int) (B:Int) (o:(List Run)) (h:Int) (A:Unit):Le (gH F B o h A) (dz F B o h A):=by
 unfold gH dz
 repeat' (with_reducible first|exact Le.refl _|exact ma _ _ _|refine Le.cond ?_ ?_|refine Le.bind ?_ (λ_=>?_))
def iA (h:(List Run)) (B:Int) (F:Int) (o:Int):Option ((List Run)) :=
 (vO () (λs=>gH F B h o s)).bind λA=>thenC A (λI=>some h) (λr=>some r)
theorem oI (o:(List Run)) (A:Int) (B:Int) (h:Int):Le (iA o A B h) (dN o A B h):=by
 unfold iA dN
 repeat' (with_reducible first|exact Le.refl _|exact nH _ _ _ _ _|refine Le.loop (λ_=>?_)|refine Le.thenC (λ_=>?_) (λ_=>?_)|refine Le.bind ?_ (λ_=>?_))
def fP (h:(List Run)):Option ((List Run)) :=
 (iK (IntKind.u64.wrap (h.length:Int))).bind λA=>(iA h 0 (h.length:Int) A).bind λo=>(iQ o h).bind λ_=>some o
theorem mQ (h:(List Run)):Le (fP h) (cO h):=by
 unfold fP cO
 repeat' (with_reducible first|exact Le.refl _|exact oI _ _ _ _|refine Le.bind ?_ (λ_=>?_))
def uS (I:(List Rect)) (J:Int):Option ((List Run)) :=
 (forL I ([]:List Run) (λk x s=>rH J k x s)).bind λo=>thenC o (λF=>(fP F).bind λh=>(iQ h F).bind λ_=>(forL h ([]:List Run) (λk x s=>qY k x s)).bind λA=>thenC A (λB=>some B) (λ_=>none)) (λ_=>none)
theorem Ib (h:(List Rect)) (o:Int):Le (uS h o) (qI h o):=by
 unfold uS qI
 repeat' (with_reducible first|exact Le.refl _|exact mQ _|refine Le.forL (λ_ _ _=>?_)|refine Le.thenC (λ_=>?_) (λ_=>?_)|refine Le.bind ?_ (λ_=>?_))
def uz (B:(List Run)) (N:Nat) (o:Run) (M:(List Run)×Int):Option (Ctl ((List Run)×Int) (Unit)) :=
 (vO M.2 (λs=>rz B o s)).bind λI=>thenC I (λA=>(vO (M.1,A,o.f_from) (λs=>qR B o s)).bind λF=>thenC F (λh=>(bif (decide (h.2.2<o.f_to))then (mJ h.1 ([(⟨h.2.2,o.f_to⟩:Run)]:List Run)).bind λL=>some L else some h.1).bind λJ=>some (.go (J,A))) (λ_=>none)) (λ_=>none)
theorem CS (h:(List Run)) (A:Nat) (o:Run) (B:(List Run)×Int):Le (uz h A o B) (om h A o B):=by
 unfold uz om
 repeat' (with_reducible first|exact Le.refl _|refine Le.loop (λ_=>?_)|refine Le.thenC (λ_=>?_) (λ_=>?_)|refine Le.cond ?_ ?_|refine Le.bind ?_ (λ_=>?_))
def y9 (o:(List Run)) (A:(List Run)):Option ((List Run)) :=
 (forL o (([]:List Run),0) (λk x s=>uz A k x s)).bind λh=>thenC h (λB=>some B.1) (λ_=>none)
theorem Ip (h:(List Run)) (o:(List Run)):Le (y9 h o) (uj h o):=by
 unfold y9 uj
 repeat' (with_reducible first|exact Le.refl _|exact CS _ _ _ _|refine Le.forL (λ_ _ _=>?_)|refine Le.thenC (λ_=>?_) (λ_=>?_)|refine Le.bind ?_ (λ_=>?_))
def rE (F:(List Int)) (R:(List Rect)) (W:(List Rect)) (O:Nat) (o:Int) (h:(List Rect)×(List Run)×Int):Option (Ctl ((List Rect)×(List Run)×Int) (Unit)) :=
 (bif (decide ((w64 ((O:Int)+1))<(F.length:Int)))then (uS R o).bind λN=>(uS W o).bind λL=>(y9 N L).bind λB=>some B else some ([]:List Run)).bind λA=>(fK h.2.1 A).bind λJ=>bif J then some (.go (h.1,h.2.1,h.2.2))else (forL h.2.1 h.1 (λk x s=>oW h o k x s)).bind λM=>thenC M (λI=>some (.go (I,A,o))) (λ_=>none)
theorem A8 (o:(List Int)) (F:(List Rect)) (I:(List Rect)) (A:Nat) (h:Int) (B:(List Rect)×(List Run)×Int):Le (rE o F I A h B) (mo o F I A h B):=by
 unfold rE mo
 repeat' (with_reducible first|exact Le.refl _|exact Ib _ _|exact Ip _ _|refine Le.forL (λ_ _ _=>?_)|refine Le.thenC (λ_=>?_) (λ_=>?_)|refine Le.cond ?_ ?_|refine Le.bind ?_ (λ_=>?_))
def wB (F:(List Rect)) (I:(List Rect)):Option ((List Rect)) :=
 (gK ([F,I]:List (List Rect))).bind λM=>(forL M ([]:List Int) (λk x s=>o7 k x s)).bind λB=>thenC B (λA=>(zS A).bind λh=>(iQ h A).bind λ_=>(kR h).bind λo=>(forL o (([]:List Rect),([]:List Run),0) (λk x s=>rE o F I k x s)).bind λL=>thenC L (λJ=>some J.1) (λ_=>none)) (λ_=>none)
theorem Eu (h:(List Rect)) (o:(List Rect)):Le (wB h o) (pW h o):=by
 unfold wB pW
 repeat' (with_reducible first|exact Le.refl _|exact uy _|exact A8 _ _ _ _ _ _|exact SN _|refine Le.forL (λ_ _ _=>?_)|refine Le.thenC (λ_=>?_) (λ_=>?_)|refine Le.bind ?_ (λ_=>?_))
def yB (h:(List Rect)):Option (Int×Int) :=
 (nS h).bind λo=>bif (o != 0)then some (0,o)else (wB h ([]:List Rect)).bind λB=>(wU B).bind λA=>some (A,0)
theorem Hw (h:(List Rect)):Le (yB h) (tT h):=by
 unfold yB tT
 repeat' (with_reducible first|exact Le.refl _|exact Eu _ _|refine Le.cond ?_ ?_|refine Le.bind ?_ (λ_=>?_))
def pO (I:(List ByteArray)) (A:Nat) (B:ByteArray) (J:Unit):Option (Ctl (Unit) (Int)) :=
 (jG B).bind λF=>bif (!F)then some (.ret 5)else (bif (decide ((A:Int)>0))then (idx I (w64 ((A:Int)-1))).bind λh=>some (sLe B h)else some false).bind λo=>bif o then some (.ret 7)else some (.go ())
theorem zy (h:(List ByteArray)) (o:Nat) (A:ByteArray) (B:Unit):Le (pO h o A B) (kS h o A B):=by
 unfold pO kS
 repeat' (with_reducible first|exact Le.refl _|exact lN _|refine Le.cond ?_ ?_|refine Le.bind ?_ (λ_=>?_))
def pq (h:(List ByteArray)):Option (Int) :=
 (forL h () (λk x s=>pO h k x s)).bind λo=>thenC o (λA=>some 0) (λr=>some r)
theorem vZ (h:(List ByteArray)):Le (pq h) (lu h):=by
 unfold pq lu
 repeat' (with_reducible first|exact Le.refl _|exact zy _ _ _ _|refine Le.forL (λ_ _ _=>?_)|refine Le.thenC (λ_=>?_) (λ_=>?_)|refine Le.bind ?_ (λ_=>?_))
def pU (h:(List ByteArray)):Option (Int) :=
 bif (decide ((h.length:Int)>20))then some 2 else (pq h).bind λo=>some o
theorem zz (h:(List ByteArray)):Le (pU h) (kN h):=by
 unfold pU kN
 repeat' (with_reducible first|exact Le.refl _|exact vZ _|refine Le.cond ?_ ?_|refine Le.bind ?_ (λ_=>?_))
def oz (h:Entry):Option (Int) :=
 ((jG h.Key).bind λX=>bif (!X)then some true else (jG h.Item).bind λW=>some (!W)).bind λY=>bif Y then some 5 else ((aY h.Version 0 1000000).bind λR=>bif R then some true else (aY h.First 0 h.Last).bind λA=>bif A then some true else bif (decide (h.Last>4000))then some true else (aY h.Every 1 400).bind λM=>bif M then some true else (aY h.Days 1 127).bind λF=>some F).bind λI=>bif I then some 1 else (lJ h.Except).bind λo=>bif (o != 0)then some o else ((aY h.From 0 1439).bind λB=>bif B then some true else (aY h.To 0 1439).bind λN=>bif N then some true else (aY h.Prio 0 9).bind λO=>some O).bind λJ=>bif J then some 1 else (pU h.Tags).bind λL=>some L
theorem yX (h:Entry):Le (oz h) (kr h):=by
 unfold oz kr
 repeat' (with_reducible first|exact Le.refl _|exact lN _|exact zz _|refine Le.cond ?_ ?_|refine Le.bind ?_ (λ_=>?_))
def lm (I:(List Entry)) (F:Nat) (A:Entry) (J:Unit):Option (Ctl (Unit) (Int)) :=
 (oz A).bind λh=>bif (h != 0)then some (.ret h)else (bif (decide ((F:Int)>0))then (idx I (w64 ((F:Int)-1))).bind λo=>some (sLe A.Key o.Key)else some false).bind λB=>bif B then some (.ret 7)else some (.go ())
theorem uX (h:(List Entry)) (A:Nat) (o:Entry) (B:Unit):Le (lm h A o B) (iI h A o B):=by
 unfold lm iI
 repeat' (with_reducible first|exact Le.refl _|exact yX _|refine Le.cond ?_ ?_|refine Le.bind ?_ (λ_=>?_))
def mY (h:(List Entry)):Option (Int) :=
 bif (decide ((h.length:Int)>200))then some 2 else (forL h () (λk x s=>lm h k x s)).bind λo=>thenC o (λA=>some 0) (λr=>some r)
theorem xB (h:(List Entry)):Le (mY h) (jA h):=by
 unfold mY jA
 repeat' (with_reducible first|exact Le.refl _|exact uX _ _ _ _|refine Le.forL (λ_ _ _=>?_)|refine Le.thenC (λ_=>?_) (λ_=>?_)|refine Le.cond ?_ ?_|refine Le.bind ?_ (λ_=>?_))
def kg (o:(List Int)) (h:Int):Option (Int×Bool) :=
 (vO (0,(o.length:Int)) (λs=>gW o h s)).bind λB=>thenC B (λA=>(bif (decide (A.1<(o.length:Int)))then (idx o A.1).bind λJ=>bif (J==h)then some true else (idx o A.1).bind λL=>(kK L).bind λI=>bif I then (kK h).bind λF=>some F else some false else some false).bind λM=>some (A.1,M)) (λ_=>none)
theorem sQ (o:(List Int)) (h:Int):Le (kg o h) (gz o h):=by
 unfold kg gz
 repeat' (with_reducible first|exact Le.refl _|refine Le.loop (λ_=>?_)|refine Le.thenC (λ_=>?_) (λ_=>?_)|refine Le.cond ?_ ?_|refine Le.bind ?_ (λ_=>?_))
def uA (h:Entry) (o:Int):Option (Bool) :=
 ((aY o h.First h.Last).bind λJ=>bif J then some true else (Nf .i64 (w64 (o-h.First)) h.Every).bind λI=>bif (I != 0)then some true else (shlO .i64 1 (o.tmod 7)).bind λA=>some ((Tg .i64 h.Days A)==0)).bind λF=>bif F then some false else (kg h.Except o).bind λB=>some (!B.2)
theorem Df (h:Entry) (o:Int):Le (uA h o) (oN h o):=by
 unfold uA oN
 repeat' (with_reducible first|exact Le.refl _|exact sQ _ _|refine Le.cond ?_ ?_|refine Le.bind ?_ (λ_=>?_))
def qE (B:Window) (o:Int) (F:Entry) (h:(List Window)×Int):Option (Ctl ((List Window)×Int) (Unit)) :=
 bif (decide (h.2<=(Aa (w64 ((w64 ((w64 (B.To+(w64 (o*60000)))).tdiv 86400000))+1)) F.Last)))then (uA F h.2).bind λL=>bif (!L)then some (.go (h.1,(w64 (h.2+1))))else (ql F o h.2).bind λA=>(bif (decide (A.From<B.To))then some (decide (A.To>B.From))else some false).bind λM=>(bif M then (mJ h.1 ([A]:List Window)).bind λI=>some I else some h.1).bind λJ=>some (.go (J,(w64 (h.2+1))))else some (.brk (h.1,h.2))
theorem zU (A:Window) (h:Int) (B:Entry) (o:(List Window)×Int):Le (qE A h B o) (lH A h B o):=by
 unfold qE lH
 repeat' (with_reducible first|exact Le.refl _|exact Df _ _|refine Le.cond ?_ ?_|refine Le.bind ?_ (λ_=>?_))
def ul (A:Entry) (h:Int) (o:Window):Option ((List Window)) :=
 (bif A.Gone then some true else some (decide (o.From>=o.To))).bind λI=>bif I then some ([]:(List Window))else (vO (([]:List Window),(xG (w64 ((w64 ((w64 (o.From+(w64 (h*60000)))).tdiv 86400000))-2)) A.First)) (λs=>qE o h A s)).bind λB=>thenC B (λF=>some F.1) (λ_=>none)
theorem CG (A:Entry) (h:Int) (o:Window):Le (ul A h o) (oG A h o):=by
 unfold ul oG
 repeat' (with_reducible first|exact Le.refl _|exact zU _ _ _ _|refine Le.loop (λ_=>?_)|refine Le.thenC (λ_=>?_) (λ_=>?_)|refine Le.cond ?_ ?_|refine Le.bind ?_ (λ_=>?_))
def uG (F:Entry) (h:Int) (o:Window):Option ((List Window)×Int) :=
 (mY ([F]:List Entry)).bind λJ=>bif (J != 0)then some (([]:(List Window)),J)else (aY h (-1440) 1440).bind λM=>bif M then some (([]:(List Window)),1)else (lC o).bind λA=>bif (A != 0)then some (([]:(List Window)),A)else (ul F h o).bind λB=>(forL (List.range ((B.length:Int)).toNat) B (λk x s=>nR o k x s)).bind λL=>thenC L (λI=>some (I,0)) (λ_=>none)
theorem CR (A:Entry) (h:Int) (o:Window):Le (uG A h o) (ow A h o):=by
 unfold uG ow
 repeat' (with_reducible first|exact Le.refl _|exact xB _|exact CG _ _ _|refine Le.forL (λ_ _ _=>?_)|refine Le.thenC (λ_=>?_) (λ_=>?_)|refine Le.cond ?_ ?_|refine Le.bind ?_ (λ_=>?_))
def qB (h:(List ByteArray)):Option (Int) :=
 bif (decide ((h.length:Int)>20))then some 2 else (pq h).bind λo=>some o
theorem zC (h:(List ByteArray)):Le (qB h) (lI h):=by
 unfold qB lI
 repeat' (with_reducible first|exact Le.refl _|exact vZ _|refine Le.cond ?_ ?_|refine Le.bind ?_ (λ_=>?_))
def kL (X:(List Campaign)) (M:Nat) (h:Campaign) (Y:Unit):Option (Ctl (Unit) (Int)) :=
 ((jG h.Key).bind λB=>bif (!B)then some true else bif (sNe h.Class (⟨#[]⟩:ByteArray))then (jG h.Class).bind λN=>some (!N)else some false).bind λR=>bif R then some (.ret 5)else (bif (decide ((M:Int)>0))then (idx X (w64 ((M:Int)-1))).bind λL=>some (sLe h.Key L.Key)else some false).bind λA=>bif A then some (.ret 7)else ((rC h.Time).bind λF=>bif (!F)then some true else (aY h.Goal 0 1000000).bind λO=>bif O then some true else (aY h.Most 0 1000000).bind λW=>bif W then some true else (aY h.Cents 0 1000000000).bind λI=>some I).bind λJ=>bif J then some (.ret 1)else (qB h.Tags).bind λo=>bif (o != 0)then some (.ret o)else some (.go ())
theorem uu (h:(List Campaign)) (A:Nat) (o:Campaign) (B:Unit):Le (kL h A o B) (iw h A o B):=by
 unfold kL iw
 repeat' (with_reducible first|exact Le.refl _|exact lN _|exact zC _|refine Le.cond ?_ ?_|refine Le.bind ?_ (λ_=>?_))
def mg (h:(List Campaign)):Option (Int) :=
 bif (decide ((h.length:Int)>30))then some 2 else (forL h () (λk x s=>kL h k x s)).bind λo=>thenC o (λA=>some 0) (λr=>some r)
theorem wJ (h:(List Campaign)):Le (mg h) (jg h):=by
 unfold mg jg
 repeat' (with_reducible first|exact Le.refl _|exact uu _ _ _ _|refine Le.forL (λ_ _ _=>?_)|refine Le.thenC (λ_=>?_) (λ_=>?_)|refine Le.cond ?_ ?_|refine Le.bind ?_ (λ_=>?_))
def yT (o:Campaign) (h:Int):Option (Int×Int) :=
 (mg ([o]:List Campaign)).bind λB=>bif (B != 0)then some (0,B)else (cB h).bind λF=>bif (!F)then some (0,1)else (wQ o h).bind λA=>some (A,0)
theorem F9 (o:Campaign) (h:Int):Le (yT o h) (tO o h):=by
 unfold yT tO
 repeat' (with_reducible first|exact Le.refl _|exact wJ _|refine Le.cond ?_ ?_|refine Le.bind ?_ (λ_=>?_))
def oq (A:(List Beat)) (o:Nat) (h:Beat) (X:Unit):Option (Ctl (Unit) (Int)) :=
 (jG h.Player).bind λL=>bif (!L)then some (.ret 5)else ((cB h.At).bind λJ=>bif (!J)then some true else (aY h.Clock 0 345686399999).bind λB=>some B).bind λF=>bif F then some (.ret 1)else (bif (decide ((o:Int)>0))then (idx A (w64 ((o:Int)-1))).bind λR=>(mZ R h).bind λI=>some (decide (I>=0))else some false).bind λM=>bif M then some (.ret 7)else (bif (decide ((o:Int)>0))then (idx A (w64 ((o:Int)-1))).bind λW=>bif (sEq h.Player W.Player)then (idx A (w64 ((o:Int)-1))).bind λO=>some (decide (h.Clock<=O.Clock))else some false else some false).bind λN=>bif N then some (.ret 16)else some (.go ())
theorem yz (h:(List Beat)) (A:Nat) (o:Beat) (B:Unit):Le (oq h A o B) (ku h A o B):=by
 unfold oq ku
 repeat' (with_reducible first|exact Le.refl _|exact lN _|refine Le.cond ?_ ?_|refine Le.bind ?_ (λ_=>?_))
def qZ (h:(List Beat)):Option (Int) :=
 bif (decide ((h.length:Int)>500))then some 2 else (forL h () (λk x s=>oq h k x s)).bind λo=>thenC o (λA=>some 0) (λr=>some r)
theorem AY (h:(List Beat)):Le (qZ h) (l5 h):=by
 unfold qZ l5
 repeat' (with_reducible first|exact Le.refl _|exact yz _ _ _ _|refine Le.forL (λ_ _ _=>?_)|refine Le.thenC (λ_=>?_) (λ_=>?_)|refine Le.cond ?_ ?_|refine Le.bind ?_ (λ_=>?_))
def xm (o:(List Beat_)) (F:Int):Option (Int×Int) :=
 bif ((o.length:Int)==0)then some (0,8)else (vO 0 (λs=>qi o F s)).bind λY=>thenC Y (λB=>bif (B==0)then (idx o 0).bind λI=>(idx o 0).bind λM=>(cB (w64 (I.f_to-(w64 (M.f_from-F))))).bind λR=>bif (!R)then some (0,11)else some ((w64 (I.f_to-(w64 (M.f_from-F)))),0)else bif (B==(o.length:Int))then (idx o (w64 (B-1))).bind λN=>(idx o (w64 (B-1))).bind λL=>(cB (w64 ((w64 (N.f_to+F))-L.f_from))).bind λO=>bif (!O)then some (0,11)else some ((w64 ((w64 (N.f_to+F))-L.f_from)),0)else (idx o (w64 (B-1))).bind λh=>(idx o B).bind λA=>(bif (decide ((w64 (A.f_from-h.f_from))>2592000000))then some true else some (decide ((w64 (A.f_to-h.f_to))>2592000000))).bind λX=>bif X then some (0,2)else (OD .i64 (w64 ((w64 (F-h.f_from))*(w64 (A.f_to-h.f_to)))) (w64 (A.f_from-h.f_from))).bind λJ=>(cB (w64 (h.f_to+J))).bind λW=>bif (!W)then some (0,11)else some ((w64 (h.f_to+J)),0)) (λ_=>none)
theorem FB (h:(List Beat_)) (o:Int):Le (xm h o) (rA h o):=by
 unfold xm rA
 repeat' (with_reducible first|exact Le.refl _|refine Le.loop (λ_=>?_)|refine Le.thenC (λ_=>?_) (λ_=>?_)|refine Le.cond ?_ ?_|refine Le.bind ?_ (λ_=>?_))
def yo (B:(List Beat)) (h:ByteArray) (L:Int) (o:Bool):Option (Int×Int) :=
 (qZ B).bind λJ=>bif (J != 0)then some (0,J)else (jG h).bind λM=>bif (!M)then some (0,5)else (cB L).bind λF=>bif (!F)then some (0,1)else (sW B h o).bind λI=>(xm I L).bind λA=>some (A.1,A.2)
theorem Ho (A:(List Beat)) (h:ByteArray) (B:Int) (o:Bool):Le (yo A h B o) (tC A h B o):=by
 unfold yo tC
 repeat' (with_reducible first|exact Le.refl _|exact lN _|exact AY _|exact FB _ _|refine Le.cond ?_ ?_|refine Le.bind ?_ (λ_=>?_))
def yL (B:(List Beat)) (h:ByteArray) (o:Int):Option (Int×Int) :=
 (yo B h o false).bind λA=>some (A.1,A.2)
theorem IP (A:(List Beat)) (h:ByteArray) (o:Int):Le (yL A h o) (tZ A h o):=by
 unfold yL tZ
 repeat' (with_reducible first|exact Le.refl _|exact Ho _ _ _ _|refine Le.bind ?_ (λ_=>?_))
def pQ (o:Alert) (F:Nat) (h:ByteArray) (J:Unit):Option (Ctl (Unit) (Int)) :=
 (jG h).bind λB=>bif (!B)then some (.ret 5)else (bif (decide ((F:Int)>0))then (idx o.Refs (w64 ((F:Int)-1))).bind λI=>some (sLe h I)else some false).bind λA=>bif A then some (.ret 7)else bif (sEq h o.Id)then some (.ret 14)else some (.go ())
theorem zx (o:Alert) (A:Nat) (B:ByteArray) (h:Unit):Le (pQ o A B h) (eO o A B h):=by
 unfold pQ eO
 repeat' (with_reducible first|exact Le.refl _|exact lN _|refine Le.cond ?_ ?_|refine Le.bind ?_ (λ_=>?_))
def sD (h:Alert):Option (Int) :=
 bif (decide ((h.Refs.length:Int)>20))then some 2 else (forL h.Refs () (λk x s=>pQ h k x s)).bind λo=>thenC o (λA=>bif (!((h.Kind==1)==((h.Refs.length:Int)==0)))then some 3 else some 0) (λr=>some r)
theorem Cn (h:Alert):Le (sD h) (iM h):=by
 unfold sD iM
 repeat' (with_reducible first|exact Le.refl _|exact zx _ _ _ _|refine Le.forL (λ_ _ _=>?_)|refine Le.thenC (λ_=>?_) (λ_=>?_)|refine Le.cond ?_ ?_|refine Le.bind ?_ (λ_=>?_))
def qU (h:Alert):Option (Int) :=
 ((jG h.Id).bind λO=>bif (!O)then some true else (jG h.Sender).bind λR=>some (!R)).bind λW=>bif W then some 5 else (aY h.Kind 1 3).bind λL=>bif L then some 4 else (sD h).bind λo=>bif (o != 0)then some o else ((cB h.At).bind λM=>bif (!M)then some true else (aY h.Until (w64 (h.At+1)) (w64 (h.At+2592000000))).bind λA=>bif A then some true else (aY h.Weight 1 9).bind λI=>some I).bind λF=>bif F then some 1 else bif (decide ((h.Areas.length:Int)>20))then some 2 else (forL h.Areas () (λk x s=>eZ k x s)).bind λJ=>thenC J (λX=>bif (!((h.Kind==3)==((h.Areas.length:Int)==0)))then some 3 else bif (decide ((h.Text.size:Int)>500))then some 2 else ((eU h.Text).bind λN=>bif (!N)then some true else bif (sEq h.Text (⟨#[]⟩:ByteArray))then some (!(h.Kind==3))else some false).bind λB=>bif B then some 3 else some 0) (λr=>some r)
theorem Bg (h:Alert):Le (qU h) (gX h):=by
 unfold qU gX
 repeat' (with_reducible first|exact Le.refl _|exact lN _|exact Cn _|exact eu _|exact FD _|refine Le.forL (λ_ _ _=>?_)|refine Le.thenC (λ_=>?_) (λ_=>?_)|refine Le.cond ?_ ?_|refine Le.bind ?_ (λ_=>?_))
def nN (J:(List Alert)) (I:Nat) (B:Alert) (L:Unit):Option (Ctl (Unit) (Int)) :=
 (qU B).bind λh=>bif (h != 0)then some (.ret h)else (bif (decide ((I:Int)>0))then (idx J (w64 ((I:Int)-1))).bind λA=>(jc A B).bind λo=>some (decide (o>=0))else some false).bind λF=>bif F then some (.ret 7)else some (.go ())
theorem xU (h:(List Alert)) (A:Nat) (o:Alert) (B:Unit):Le (nN h A o B) (gM h A o B):=by
 unfold nN gM
 repeat' (with_reducible first|exact Le.refl _|exact Bg _|refine Le.cond ?_ ?_|refine Le.bind ?_ (λ_=>?_))
def qA (h:(List Alert)):Option (Int) :=
 bif (decide ((h.length:Int)>300))then some 2 else (forL h () (λk x s=>nN h k x s)).bind λo=>thenC o (λF=>(forL h ([]:List (ByteArray×Bool)) (λk x s=>gN k x s)).bind λA=>thenC A (λB=>some 0) (λr=>some r)) (λr=>some r)
theorem zY (h:(List Alert)):Le (qA h) (iC h):=by
 unfold qA iC
 repeat' (with_reducible first|exact Le.refl _|exact xU _ _ _ _|refine Le.forL (λ_ _ _=>?_)|refine Le.thenC (λ_=>?_) (λ_=>?_)|refine Le.cond ?_ ?_|refine Le.bind ?_ (λ_=>?_))
def oM (M:(List Post)) (B:Nat) (h:Post) (N:Unit):Option (Ctl (Unit) (Int)) :=
 (jG h.Player).bind λI=>bif (!I)then some (.ret 5)else ((aY h.X (-100000) 100000).bind λF=>bif F then some true else (aY h.Y (-100000) 100000).bind λo=>some o).bind λA=>bif A then some (.ret 1)else (bif (decide ((B:Int)>0))then (idx M (w64 ((B:Int)-1))).bind λL=>some (sLe h.Player L.Player)else some false).bind λJ=>bif J then some (.ret 7)else some (.go ())
theorem zg (h:(List Post)) (A:Nat) (o:Post) (B:Unit):Le (oM h A o B) (iB h A o B):=by
 unfold oM iB
 repeat' (with_reducible first|exact Le.refl _|exact lN _|refine Le.cond ?_ ?_|refine Le.bind ?_ (λ_=>?_))
def rq (h:(List Post)):Option (Int) :=
 bif (decide ((h.length:Int)>500))then some 2 else (forL h () (λk x s=>oM h k x s)).bind λo=>thenC o (λA=>some 0) (λr=>some r)
theorem Be (h:(List Post)):Le (rq h) (jL h):=by
 unfold rq jL
 repeat' (with_reducible first|exact Le.refl _|exact zg _ _ _ _|refine Le.forL (λ_ _ _=>?_)|refine Le.thenC (λ_=>?_) (λ_=>?_)|refine Le.cond ?_ ?_|refine Le.bind ?_ (λ_=>?_))
def sw (B:(List Alert)) (h:(List Post)):Option (Int) :=
 (qA B).bind λo=>bif (o != 0)then some o else (rq h).bind λA=>some A
theorem Ch (o:(List Alert)) (h:(List Post)):Le (sw o h) (iL o h):=by
 unfold sw iL
 repeat' (with_reducible first|exact Le.refl _|exact zY _|exact Be _|refine Le.cond ?_ ?_|refine Le.bind ?_ (λ_=>?_))
def vP (A:Alert) (h:Post):Option (Bool×Int) :=
 (sw ([A]:List Alert) ([h]:List Post)).bind λo=>bif (o != 0)then some (false,o)else (kJ A h).bind λB=>some (B,0)
theorem Ei (o:Alert) (h:Post):Le (vP o h) (qf o h):=by
 unfold vP qf
 repeat' (with_reducible first|exact Le.refl _|exact Ch _ _|refine Le.cond ?_ ?_|refine Le.bind ?_ (λ_=>?_))
def zF  : Option (Bool) :=
 (yB ([(⟨0,0,2,2⟩:Rect),(⟨1,1,2,2⟩:Rect)]:List Rect)).bind λA=>(uG (⟨(⟨#[97]⟩:ByteArray),(⟨#[98]⟩:ByteArray),0,0,0,1,127,([]:List Int),1,2,0,([]:List ByteArray),false⟩:Entry) 0 (⟨0,86400000⟩:Window)).bind λI=>(yT (⟨(⟨#[97]⟩:ByteArray),(⟨#[]⟩:ByteArray),(⟨0,100⟩:Window),([]:List ByteArray),10,0,0⟩:Campaign) 50).bind λF=>(yL ([(⟨(⟨#[112]⟩:ByteArray),0,100⟩:Beat),(⟨(⟨#[112]⟩:ByteArray),1000,1300⟩:Beat)]:List Beat) (⟨#[112]⟩:ByteArray) 700).bind λo=>(vP (⟨(⟨#[97]⟩:ByteArray),(⟨#[115]⟩:ByteArray),1,([]:List ByteArray),0,5,1,([(⟨0,0,2,2⟩:Rect)]:List Rect),(⟨#[120]⟩:ByteArray)⟩:Alert) (⟨(⟨#[112]⟩:ByteArray),1,1⟩:Post)).bind λh=>((Ay ([A.2,I.2,F.2,o.2,h.2]:List Int)).bind λJ=>bif (J==0)then bif (A.1==7)then bif ((I.1.length:Int)==1)then bif (F.1==5)then bif (o.1==500)then some h.1 else some false else some false else some false else some false else some false).bind λB=>some B
theorem I6  : Le (zF) (sF):=by
 unfold zF sF
 repeat' (with_reducible first|exact Le.refl _|exact Hw _|exact CR _ _ _|exact F9 _ _|exact IP _ _ _|exact Ei _ _|refine Le.cond ?_ ?_|refine Le.bind ?_ (λ_=>?_))
theorem ready_F:zF=some true:=by kernel_rfl
theorem TA:sF=some true:=I6 _ ready_F
def CQ (k:ByteArray):List Alert->Option Nat
 | []=>none
 | x::xs=>if k=x.Id then some 0 else (CQ k xs).map (· + 1)
theorem Kh {k:ByteArray}:∀{l:List Alert} {i:Nat},CQ k l=some i->∃h:i<l.length,l[i].Id=k
 | [],_,h=>by cases h
 | x::xs,i,h=>by
  unfold CQ at h
  split at h
  ·rename_i e
   simp only [so_]at h
   subst h
   exact⟨by simp,e.symm⟩
  ·obtain ⟨j,hj,rfl⟩:=Option.map_eq_some_iff.1 h
   obtain ⟨h1,h2⟩:=Kh hj
   exact⟨by simpa using h1,by simpa using h2⟩
theorem EA {k:ByteArray}:∀{l:List Alert},CQ k l=none->∀x∈l,x.Id≠k
 | [],_,_,o=>by cases o
 | y::ys,h,x,o=>by
  unfold CQ at h
  split at h
  ·cases h
  ·rename_i e
   rcases List.mem_cons.1 o with rfl|o
   ·exact λA=>e A.symm
   ·exact EA (Option.map_eq_none_iff.1 h) x o
def MC (h:List Alert) (x:Alert):Option (List Alert):=match CQ x.Id h with
 | none=>some (h++[x])
 | some i=>if h[i]? = some x then some h else none
def MM:List Alert->List Alert->Option (List Alert)
 | out,[]=>some out
 | out,x::xs=>(MC out x).bind λo=>MM o xs
def Bh (a:Alert):ByteArray×Alert:=(a.Id,a)
theorem mGetA (k:ByteArray):∀o:List Alert,mGet eqS (o.map Bh) k=(CQ k o).bind λi=>o[i]?
 | []=>rfl
 | x::xs=>by
  rw [List.map_cons,xI,CQ,show (Bh x).1=x.Id from rfl,show (Bh x).2=x from rfl]
  by_cases h:k=x.Id
  ·rw [if_pos ((w9 _ _).2 h),if_pos h];rfl
  ·rw [if_neg (λq=>h ((w9 _ _).1 q)),if_neg h,mGetA k xs]
   cases CQ k xs <;> simp
theorem mSetA (x:Alert):∀o:List Alert,CQ x.Id o=none->zK eqS (o.map Bh) x.Id x=(o++[x]).map Bh
 | [],_=>rfl
 | y::ys,h=>by
  unfold CQ at h
  split at h
  ·cases h
  ·rename_i e
   rw [List.map_cons,Jy,show (Bh y).1=y.Id from rfl,if_neg (λq=>e ((w9 _ _).1 q)),mSetA x ys (Option.map_eq_none_iff.1 h)]
   rfl
def outA (o:Option (List Alert)) {σ:Type} (f:List Alert->σ):Ctl σ (List Alert×Int):=match o with
 | none => .ret ([],13)
 | some l => .go (f l)
theorem QA {a:Alert} (h:GA a):tN a=some a:=by
 unfold tN gL fo
 rw [kU _ _ (by have:=h.rlen;simp;omega),kU _ _ (by have:=h.alen;simp;omega)]
 simp
theorem progA {A:List Alert} {x:Alert} (B:RA x) (ho:∀o∈A,RA o) (hl:A.length<=1000) (k:Nat):kT k x (A.map Bh,A)=some (outA (MC A x) λl=>(l.map Bh,l)):=by
 unfold kT MC
 simp only [mGetA]
 cases hk:CQ x.Id A with
 | none =>
  have hs:=mSetA x A hk
  simp only [Option.bind_none,Option.isSome_none,Bool.not_false,cond_true,QA B.1,ob_,kU A [x] (by simp;omega),hs]
  rfl
 | some i =>
  obtain ⟨hi,F⟩:=Kh hk
  simp only [ob_,List.getElem?_eq_getElem hi,Option.isSome_some,Bool.not_true,cond_false,Option.getD_some,QD (ho _ (List.getElem_mem hi)).1]
  by_cases he:A[i]=x
  ·simp only [decide_eq_true he,Bool.not_true,cond_false,he,if_true];rfl
  ·have:¬(some A[i]=some x):=λh=>he (Option.some.inj h)
   simp only [decide_eq_false he,Bool.not_false,cond_true,if_neg this];rfl
def KA (l:List Alert):Prop:=(l.map (·.Id)).Nodup
theorem addA_ok {A:List Alert} {x:Alert} (J:RA x) (ho:∀o∈A,RA o) (F:KA A) {r:List Alert} (h:MC A x=some r):(∀o∈r,RA o)/\r.length<=A.length+1/\KA r:=by
 unfold MC at h
 cases hk:CQ x.Id A with
 | none =>
  rw [hk]at h
  simp only [so_]at h
  subst h
  refine⟨λo B => ?_,by simp,?_⟩
  ·rcases List.mem_append.1 B with h1|h1
   ·exact ho o h1
   ·simp only [List.mem_singleton]at h1;rw [h1];exact J
  ·unfold KA
   rw [List.map_append,List.nodup_append]
   refine⟨F,by simp,λa I b hb => ?_⟩
   simp only [List.map_cons,List.map_nil,List.mem_singleton]at hb
   obtain ⟨y,L,rfl⟩:=List.mem_map.1 I
   rw [hb]
   exact EA hk y L
 | some i =>
  rw [hk]at h
  simp only at h
  split at h
  ·simp only [so_]at h
   subst h
   exact⟨ho,by omega,F⟩
  ·cases h
theorem JR {σ:Type} {B:Nat->Alert->σ->Option (Ctl σ (List Alert×Int))} (f:List Alert->σ) (F:∀k x h,RA x->(∀o∈h,RA o)->h.length<=1000->B k x (f h)=some (outA (MC h x) f)):∀(xs:List Alert) (k:Nat) (h:List Alert),(∀x∈xs,RA x)->(∀o∈h,RA o)->KA h->h.length+xs.length<=1000 ->
  forR B xs k (f h)=some (outA (MM h xs) f)
 | [],k,h,_,_,_,_=>rfl
 | x::xs,k,h,A,ho,N,hl=>by
  simp only [List.length_cons]at hl
  simp only [forR,F k x h (A x (by simp)) ho (by omega),ob_,MM]
  cases ha:MC h x with
  | none=>rfl
  | some L =>
   obtain ⟨M,O,J⟩:=addA_ok (A x (by simp)) ho N ha
   simp only [outA,ob_]
   exact JR f F xs (k+1) L (λy I=>A y (List.mem_cons_of_mem _ I)) M J (by omega)
theorem NH (a b:List Alert) (J:a.length<=1000) (hb:b.length<=1000):dY [a,b]=some (a++b):=by
 unfold dY
 have I:forL [a,b] 0 (λk x s=>bD k x s)=some (.go (((a.length+b.length:Nat)):Int)):=by
  rw [ja (by simp)]
  have B:∀k,bD k a 0=some (.go (a.length:Int)):=λk=>by
   unfold bD
   rw [show (0:Int)+(a.length:Int)=(a.length:Int) by omega,eD (by omega),decide_eq_false (by omega)];rfl
  have o:∀k,bD k b (a.length:Int)=some (.go ((a.length+b.length:Nat):Int)):=λk=>by
   unfold bD
   rw [eD (by omega),decide_eq_false (by omega)]
   simp
  simp only [forR,B,o,ob_]
 have A:∃g,dX (((a.length+b.length:Nat)):Int)=some g:=by
  unfold dX
  have q:w64 ((((a.length+b.length:Nat)):Int)-w64 (0-0))=((a.length+b.length:Nat):Int):=by
   rw [eD (n:=0-0) (by decide),eD (by omega)];omega
  rw [decide_eq_false (by omega),cond_false,q]
  by_cases h:(((a.length+b.length:Nat)):Int)>0
  ·rw [decide_eq_true h,cond_true]
   unfold zN
   rw [if_pos ⟨h,by omega,by omega⟩];exact⟨_,rfl⟩
  ·rw [decide_eq_false h];exact⟨_,rfl⟩
 obtain ⟨g,A⟩:=A
 have F:forL [a,b] ([]:List Alert) (λk x s=>bE k x s)=some (.go (a++b)):=by
  rw [ja (by simp)]
  have B:∀k,bE k a []=some (.go a):=λk=>by
   unfold bE
   rw [kU _ _ (by simp;omega)];rfl
  have o:∀k,bE k b a=some (.go (a++b)):=λk=>by
   unfold bE
   rw [kU _ _ (by omega)];rfl
  simp only [forR,B,o,ob_]
 simp only [I,A,F,ob_,tY]
theorem sort12r {α:Type} {cmp:α->α->Option Int} {S:List α->Option (List α)} (N:∀x,S x=(iK (IntKind.u64.wrap (x.length:Int))).bind λF=>(J5 cmp x 0 (x.length:Int) F).bind λo=>(iQ o x).bind λ_=>some o)
  {xs:List α} (hl:xs.length<=12) {R:α->α->Prop} (M:∀a∈xs,∀b∈xs,∃n,cmp a b=some n/\(n<0↔R a b)) (A:∀a b,R a b->¬R b a) (Y:∀a b d,¬R a b->¬R b d->¬R a d) :
  ∃r,S xs=some r/\r.Perm xs/\r.Pairwise (λa b=>¬R b a):=by
 obtain ⟨k,O⟩:=Sj xs.length hl
 obtain ⟨s,h1,h2,X⟩:=Rz (cmp:=cmp) (le:=λa b=>¬R b a) (p:=(· ∈ xs)) (λa b J hb=>by
  obtain ⟨n,W,I⟩:=M a J b hb
  exact⟨n,W,λh=>A a b (I.1 h),λh=>λq=>h (I.2 q)⟩) (λa b d h k=>Y d b a k h) xs hl (λx L=>L) k
 refine⟨s,?_,h2,X⟩
 have B:iQ s xs=some ():=by unfold iQ;rw [if_pos h2.length_eq]
 rw [N,O,ob_,h1,ob_,B];rfl
structure GR (x:Receipt):Prop where
 player:ShA x.Player
 alert:ShA x.Alert
 at_ : -1100000000000<=x.At/\x.At<=1100000000000
def GRs (l:List Receipt):Prop:=(∀x∈l,GR x)/\l.length<=18
theorem Rm (p a:ByteArray) (O:ShA p) (J:ShA a) (X:Bool) (k:Nat) (l:List Receipt) (hl:l.length<=100) (I:∀x∈l,GR x) (s:Stream) {b:Int} (hs:Ok s b) (hb:b<=200000) :
  ∃o A,jB p a k X (l,s.L,s.f_at)=some (.go (o,Stream.L A,Stream.f_at A))/\(∀x∈o,GR x)/\o.length<=l.length+1/\Ok A (b+2):=by
 have R:(⟨s.L,s.f_at⟩:Stream)=s:=rfl
 obtain ⟨f,F,W,B⟩:=Dv s 3 hs (by omega) (by decide) (by decide)
 unfold jB
 simp only []
 rw [R,W,ob_]
 simp only []
 cases f with
 | false=>exact⟨l,F,rfl,I,by omega,B.mono (by omega)⟩
 | true =>
  obtain ⟨w,M,N,d2,Z,Y⟩:=mE F 0 50 B (by omega) (by decide) (by decide) (by decide)
  rw [cond_true,N,ob_]
  simp only []
  rw [kU _ _ (by simp only [List.length_cons,List.length_nil];omega)]
  refine⟨_,M,rfl,λx h => ?_,by simp,Y.mono (by omega)⟩
  rcases List.mem_append.1 h with h|h
  ·exact I x h
  ·rw [List.mem_singleton.1 h]
   exact⟨O,J,by simp only [];omega⟩
theorem Oz (p a:ByteArray) (B:ShA p) (A:ShA a) (k:Nat) (l:List Receipt) (hl:l.length<=90) (R:∀x∈l,GR x) (s:Stream) {b:Int} (hs:Ok s b) (hb:b<=190000) :
  ∃h o,jC p k a (l,s.L,s.f_at)=some (.go (h,Stream.L o,Stream.f_at o))/\(∀x∈h,GR x)/\h.length<=l.length+2/\Ok o (b+4):=by
 obtain ⟨W,M,X,a2,a3,a4⟩:=Rm p a B A false 0 l (by omega) R s hs (by omega)
 obtain ⟨F,J,O,N,Y,I⟩:=Rm p a B A true (0+1) W (by omega) a2 M a4 (by omega)
 refine⟨F,J,?_,N,by omega,I.mono (by omega)⟩
 unfold jC
 rw [ja (by simp)]
 simp only [forR,X,O,ob_,thenC]
theorem Ir (p:ByteArray) (h:ShA p) (k:Nat) (l:List Receipt) (hl:l.length<=50) (W:∀x∈l,GR x) (s:Stream) {b:Int} (hs:Ok s b) (hb:b<=180000) :
  ∃o A,jD k p (l,s.L,s.f_at)=some (.go (o,Stream.L A,Stream.f_at A))/\(∀x∈o,GR x)/\o.length<=l.length+6/\Ok A (b+12):=by
 obtain ⟨l1,M,a1,a2,a3,a4⟩:=Oz p ⟨#[97,97]⟩ h (o5 rfl) 0 l (by omega) W s hs (by omega)
 obtain ⟨B,I,R,N,b3,F⟩:=Oz p ⟨#[97,98]⟩ h (o5 rfl) (0+1) l1 (by omega) a2 M a4 (by omega)
 obtain ⟨Z,Y,X,J,c3,O⟩:=Oz p ⟨#[97,99]⟩ h (o5 rfl) (0+1+1) B (by omega) N I F (by omega)
 refine⟨Z,Y,?_,J,by omega,O.mono (by omega)⟩
 unfold jD
 rw [ja (by simp)]
 simp only [forR,a1,R,X,ob_,thenC]
theorem Kq (s:Stream) {b:Int} (hs:Ok s b) (hb:b<=100000):∃l R,jJ s=some (l,R)/\GRs l/\Ok R (b+50):=by
 obtain ⟨l1,s1,a1,a2,a3,a4⟩:=Ir ⟨#[112,97]⟩ (o5 rfl) 0 [] (by simp) (λx I=>by cases I) s hs (by omega)
 obtain ⟨l2,X,b1,Y,b3,W⟩:=Ir ⟨#[112,98]⟩ (o5 rfl) (0+1) l1 (by simp at a3;omega) a2 s1 a4 (by omega)
 obtain ⟨h,A,c1,F,c3,J⟩:=Ir ⟨#[112,99]⟩ (o5 rfl) (0+1+1) l2 (by simp at a3;omega) Y X W (by omega)
 have hl:h.length<=18:=by simp at a3;omega
 unfold jJ
 rw [ja (by simp)]
 simp only [forR,a1,b1,c1,ob_,thenC]
 have e0:(⟨A.L,A.f_at⟩:Stream)=A:=rfl
 by_cases h0:(h.length:Int)>0
 ·obtain ⟨f,B,Z,O⟩:=Dv A 15 J (by omega) (by decide) (by decide)
  rw [decide_eq_true h0,cond_true,e0,Z]
  simp only [ob_]
  cases f with
  | false=>exact⟨h,B,rfl,⟨F,hl⟩,O.mono (by omega)⟩
  | true =>
   rw [cond_true]
   obtain ⟨i,s5,g1,g2,g3,g4⟩:=yU B (h.length:Int) O (by omega) (by omega) (by omega)
   have e1:(⟨B.L,B.f_at⟩:Stream)=B:=rfl
   rw [e1,g1]
   simp only [ob_]
   rw [Ae (by omega) (by omega)]
   simp only [ob_]
   have hi:0+i.toNat<h.length:=by omega
   have I:h[0+i.toNat]? = some h[0+i.toNat]:=List.getElem?_eq_getElem hi
   have o:=F _ (List.getElem_mem hi)
   generalize h[0+i.toNat]=x at I o
   obtain ⟨u,s6,j1,M,j3⟩:=CB s5 [x.Player,(⟨#[]⟩:ByteArray),(⟨#[122,122]⟩:ByteArray)] g4 (by omega) (by simp) (by simp)
   obtain ⟨v,s7,k1,N,k3⟩:=CB s6 [x.Alert,(⟨#[65]⟩:ByteArray)] j3 (by omega) (by simp) (by simp)
   obtain ⟨w,s8,m1,m2,m3⟩:=odd_bd s7 0 50 k3 (by omega) (by decide) (by decide) (by decide)
   rw [I]
   simp only [ob_]
   rw [j1]
   simp only [ob_]
   rw [k1]
   simp only [ob_]
   rw [m1]
   simp only [ob_]
   rw [tu hi]
   simp only [ob_]
   rw [tu (by rw [List.length_set];exact hi)]
   simp only [ob_]
   refine⟨_,_,rfl,?_,m3.mono (by omega)⟩
   rw [List.set_set,List.set_set]
   refine⟨set_all F ⟨?_,?_,m2⟩,by rw [List.length_set];exact hl⟩
   ·simp only [List.mem_cons,List.not_mem_nil,or_false]at M
    rcases M with rfl|rfl|rfl
    ·exact o.player
    ·exact o5 rfl
    ·exact o5 rfl
   ·simp only [List.mem_cons,List.not_mem_nil,or_false]at N
    rcases N with rfl|rfl
    ·exact o.alert
    ·exact o5 rfl
 ·rw [decide_eq_false h0,cond_false,ob_]
  exact⟨h,A,rfl,⟨F,hl⟩,J.mono (by omega)⟩
def flV (b:Bool):Int:=bif b then 1 else 0
theorem flag_eq (b:Bool):mh b=some (flV b):=by cases b <;> rfl
def cmR (a b:Receipt):Int:=or0 (zt a.Player b.Player) (or0 (zt a.Alert b.Alert) (Fs (flV a.Seen) (flV b.Seen)))
theorem Dc (a b:Receipt):eT a b=some (cmR a b):=by
 unfold cmR
 simp only [eT,sH,flag_eq,yl,Rq,ob_]
def keyR (r:Receipt):List ByteArray:=[r.Player,r.Alert,bif r.Seen then⟨#[49]⟩else⟨#[48]⟩]
theorem Pw (r:Receipt):ref_receiptKey r=some (keyR r):=by
 unfold ref_receiptKey keyR
 cases r.Seen <;> rfl
theorem flS (a b:Bool):zt (bif a then⟨#[49]⟩else⟨#[48]⟩) (bif b then⟨#[49]⟩else⟨#[48]⟩)=Fs (flV a) (flV b):=by
 cases a <;> cases b <;> rfl
def Mj (p:Option Receipt) (x:Receipt):Int:=bif !keyB x.Player || !keyB x.Alert then 5 else bif !CP x.At then 1 else bif JP (λy=>decide (cmR y x>=0)) p then 7 else 0
def rcV (l:List Receipt):Int:=chA Mj none l
theorem Rf {l:List Receipt} (h:GRs l):∀k x,l[k]? = some x->gY l k x ()=some (Bd (Mj (rU l k) x)):=λk x B=>by
 have hl:=h.2
 have F:=h.1 x (List.mem_of_getElem? B)
 have h1:=F.player
 have h2:=F.alert
 unfold ShA at h1 h2
 unfold gY Mj
 rw [rD _ (by omega),rD _ (by omega),z8,Nu B (by omega) (λA=>(eT A x).bind λo=>some (decide (o>=0))) (λy=>decide (cmR y x>=0)) (λy _=>by rw [Dc];rfl)]
 simp only [ob_]
 cases keyB x.Player <;> cases keyB x.Alert <;> cases CP x.At <;> cases JP (λy=>decide (cmR y x>=0)) (rU l k) <;> rfl
theorem rcV_K {l:List Receipt} (h:GRs l):ji l=some (rcV l):=by
 have hl:=h.2
 unfold ji rcV
 rw [decide_eq_false (by omega),cond_false,Ke (stp:=Mj) (body:=λk x s=>gY l k x s) (by omega) (Rf h),ob_]
 exact Qp _
theorem rcV_0 {l:List Receipt} (A:rcV l=0):∀x∈l,0<=x.At/\x.At<=345686399999:=λx B=>by
 obtain ⟨i,hi⟩:=List.getElem?_of_mem B
 obtain ⟨q,h,_⟩:=Ps A i x hi
 unfold Mj at h
 cases e1:(!keyB x.Player || !keyB x.Alert)with
 | true=>rw [e1]at h;cases h
 | false =>
  rw [e1,cond_false]at h
  cases e2:CP x.At with
  | false=>rw [e2]at h;cases h
  | true =>
   unfold CP at e2
   have o:qo x.At 0 345686399999=false:=by cases hq:qo x.At 0 345686399999 with | false=>rfl | true=>rw [hq]at e2;cases e2
   exact BG o
def cmK (a b:Receipt):Int:=or0 (cmR a b) (Fs a.At b.At)
theorem kn1_eq (a b:Receipt):lS a b=some (cmK a b):=by
 unfold lS cmK
 rw [Dc,ob_,yl,ob_,Lb];rfl
theorem K5 {a b:Receipt}:cmR a b<0↔lt a.Player b.Player\/a.Player=b.Player/\(lt a.Alert b.Alert\/a.Alert=b.Alert/\flV a.Seen<flV b.Seen):=by
 unfold cmR
 rw [yn,yn,xC,vv,xC,vv,zL]
theorem GI {a b:Receipt}:cmR a b=0↔a.Player=b.Player/\a.Alert=b.Alert/\flV a.Seen=flV b.Seen:=by
 unfold cmR
 rw [Ml,Ml,vv,vv,xQ]
theorem KJ {a b:Receipt}:cmK a b<0↔cmR a b<0\/cmR a b=0/\a.At<b.At:=by
 unfold cmK
 rw [yn,zL]
theorem eqS3 (a b c d e f:ByteArray):dQ [a,b,c] [d,e,f]=some (!sNe a d&&(!sNe b e && !sNe c f)):=by
 unfold dQ
 have:(((3:Nat):Int) != ((3:Nat):Int))=false:=rfl
 show (bif (((3:Nat):Int) != ((3:Nat):Int))then _ else _)=_
 rw [this,cond_false,ja (by simp)]
 have o:∀(k:Nat) (x y:ByteArray),([d,e,f]:List ByteArray)[k]? = some y->bW [d,e,f] k x ()=some (bif sNe x y then .ret false else .go ()):=by
  intro k x y h
  unfold bW
  rw [uT,h]
  simp only [ob_]
  cases sNe x y <;> rfl
 have g1:=o 0 a d rfl
 have A:=o (0+1) b e rfl
 have g3:=o (0+1+1) c f rfl
 simp only [forR,g1,A,g3,ob_]
 cases sNe a d <;> cases sNe b e <;> cases sNe c f <;> rfl
theorem same_eq (a b:Receipt):kI a b=ref_ReceiptsOf_2 a b:=by
 unfold kI ref_ReceiptsOf_2
 rw [Dc,Pw,ob_,ob_,Pw,ob_]
 unfold keyR
 rw [eqS3,ob_,uY,uY,uY]
 congr 1
 have hf:((bif a.Seen then (⟨#[49]⟩:ByteArray)else⟨#[48]⟩)=(bif b.Seen then (⟨#[49]⟩:ByteArray)else⟨#[48]⟩))↔flV a.Seen=flV b.Seen:=by
  rw [<- vv,flS,xQ]
 rw [Bool.eq_iff_iff]
 simp only [Bool.not_not,Bool.and_eq_true,decide_eq_true_eq,beq_iff_eq]
 rw [hf,GI]
theorem O1 (a b:Receipt):kI a b=some (decide (cmR a b=0)):=by
 unfold kI
 rw [Dc];rfl
theorem sortK (s:List Receipt) (hl:s.length<=1000):∃r,iP s=some r/\r.Perm s:=by
 unfold iP
 obtain ⟨r,N,O,_⟩:=Gy (F:=λa b=>lS a b) cmK (xs:=s) (by omega) (λa _ b _=>kn1_eq a b)
  (λa _ h=>by
   rw [KJ,K5]at h
   rcases h with (h|⟨_,h|⟨_,h⟩⟩) | ⟨_,h⟩
   ·exact gG _ h
   ·exact gG _ h
   ·omega
   ·omega)
  (λa _ b _ c _ h k=>by
   rw [KJ,K5,GI]at *
   rcases h with (h|⟨h1,h|⟨h2,h⟩⟩) | ⟨⟨h1,h2,L⟩,h⟩ <;> rcases k with (k|⟨k1,k|⟨o,k⟩⟩) | ⟨⟨k1,o,J⟩,k⟩
   ·exact .inl (.inl (lt_trans h k))
   ·exact .inl (.inl (k1 ▸ h))
   ·exact .inl (.inl (k1 ▸ h))
   ·exact .inl (.inl (k1 ▸ h))
   ·exact .inl (.inl (h1 ▸ k))
   ·exact .inl (.inr ⟨h1.trans k1,.inl (lt_trans h k)⟩)
   ·exact .inl (.inr ⟨h1.trans k1,.inl (o ▸ h)⟩)
   ·exact .inl (.inr ⟨h1.trans k1,.inl (o ▸ h)⟩)
   ·exact .inl (.inl (h1 ▸ k))
   ·exact .inl (.inr ⟨h1.trans k1,.inl (h2 ▸ k)⟩)
   ·exact .inl (.inr ⟨h1.trans k1,.inr ⟨h2.trans o,by omega⟩⟩)
   ·exact .inl (.inr ⟨h1.trans k1,.inr ⟨h2.trans o,by omega⟩⟩)
   ·exact .inl (.inl (h1 ▸ k))
   ·exact .inl (.inr ⟨h1.trans k1,.inl (h2 ▸ k)⟩)
   ·exact .inl (.inr ⟨h1.trans k1,.inr ⟨h2.trans o,by omega⟩⟩)
   ·exact .inr ⟨⟨h1.trans k1,h2.trans o,L.trans J⟩,by omega⟩)
  (λa _ b _ c _ h k q=>by
   rw [KJ,K5,GI]at *
   have M:∀x y:Receipt,(¬((lt x.Player y.Player\/x.Player=y.Player/\(lt x.Alert y.Alert\/x.Alert=y.Alert/\flV x.Seen<flV y.Seen))\/(x.Player=y.Player/\x.Alert=y.Alert/\flV x.Seen=flV y.Seen)/\x.At<y.At))->lt y.Player x.Player\/x.Player=y.Player/\(lt y.Alert x.Alert\/x.Alert=y.Alert/\(flV y.Seen<flV x.Seen\/flV x.Seen=flV y.Seen/\y.At<=x.At)):=by
    intro x y I
    rcases vT x.Player y.Player with e|e|e
    ·exact absurd (.inl (.inl e)) I
    ·rcases vT x.Alert y.Alert with f|f|f
     ·exact absurd (.inl (.inr ⟨e,.inl f⟩)) I
     ·refine .inr ⟨e,.inr ⟨f,?_⟩⟩
      rcases Int.lt_trichotomy (flV x.Seen) (flV y.Seen)with g|g|g
      ·exact absurd (.inl (.inr ⟨e,.inr ⟨f,g⟩⟩)) I
      ·refine .inr ⟨g,?_⟩
       by_cases hh:x.At<y.At
       ·exact absurd (.inr ⟨⟨e,f,g⟩,hh⟩) I
       ·omega
      ·exact .inl g
     ·exact .inr ⟨e,.inl f⟩
    ·exact .inl e
   have A:=M a b h
   have k':=M b c k
   have key:a.Player=c.Player->(lt b.Alert a.Alert\/a.Alert=b.Alert/\(flV b.Seen<flV a.Seen\/flV a.Seen=flV b.Seen/\b.At<=a.At))/\(lt c.Alert b.Alert\/b.Alert=c.Alert/\(flV c.Seen<flV b.Seen\/flV b.Seen=flV c.Seen/\c.At<=b.At)):=by
    intro B
    rcases A with A|⟨A,h2⟩
    ·rcases k' with k'|⟨k',_⟩
     ·exact absurd (lt_trans k' A) (by rw [B];exact gG _)
     ·rw [B,<- k']at A;exact absurd A (gG _)
    ·rcases k' with k'|⟨_,o⟩
     ·rw [<- A,B]at k';exact absurd k' (gG _)
     ·exact⟨h2,o⟩
   rcases q with (q|⟨B,q|⟨q2,q⟩⟩) | ⟨⟨B,q2,q3⟩,q⟩
   ·rcases A with A|⟨A,_⟩ <;> rcases k' with k'|⟨k',_⟩
    ·exact gG _ (lt_trans q (lt_trans k' A))
    ·rw [k']at A;exact gG _ (lt_trans q A)
    ·rw [A]at q;exact gG _ (lt_trans q k')
    ·rw [A,k']at q;exact gG _ q
   ·obtain ⟨h2,o⟩:=key B
    rcases h2 with h2|⟨h2,_⟩ <;> rcases o with o|⟨o,_⟩
    ·exact gG _ (lt_trans q (lt_trans o h2))
    ·rw [o]at h2;exact gG _ (lt_trans q h2)
    ·rw [h2]at q;exact gG _ (lt_trans q o)
    ·rw [h2,o]at q;exact gG _ q
   ·obtain ⟨h2,o⟩:=key B
    rcases h2 with h2|⟨h2,L⟩
    ·rcases o with o|⟨o,_⟩
     ·exact gG _ (lt_trans (q2 ▸ o) h2)
     ·rw [q2,<- o]at h2;exact gG _ h2
    ·rcases o with o|⟨o,J⟩
     ·rw [<- h2,q2]at o;exact gG _ o
     ·omega
   ·obtain ⟨h2,o⟩:=key B
    rcases h2 with h2|⟨h2,L⟩
    ·rcases o with o|⟨o,_⟩
     ·exact gG _ (lt_trans (q2 ▸ o) h2)
     ·rw [q2,<- o]at h2;exact gG _ h2
    ·rcases o with o|⟨o,J⟩
     ·rw [<- h2,q2]at o;exact gG _ o
     ·omega)
 exact⟨r,N,O⟩
theorem PP {i:Int} {n:Nat} (h:0<=i) (h1:i<(n:Int)):inN i n=some ():=by
 unfold inN
 rw [if_pos ⟨h,by omega⟩]
theorem IK (s:List Receipt) (h:Nat) (L:s.length<=100000):∀(m i2 k:Nat) (data:List Receipt),h+i2+m=s.length->1<=i2->data.length=s.length->k<=h+i2-1 ->
  ∃(o:List Receipt) (k':Nat) (Y:Int),iterN (λt=>aW s (h:Int) t) (m+1) (data,(k:Int),(i2:Int))=some (.go (o,(k':Int),Y))/\o.length=s.length/\k'<=s.length
 | 0,i2,k,data,hm,h1,B,X=>by
  refine⟨data,k,(i2:Int),?_,B,by omega⟩
  have hc:decide ((i2:Int)<((((s.length:Int)).toNat-((h:Int)).toNat:Nat):Int))=false:=by simp;omega
  simp only [iterN,aW,hc,cond_false,ob_]
 | m+1,i2,k,data,hm,h1,B,X=>by
  have W:h+i2<data.length:=by omega
  have hc:decide ((i2:Int)<((((s.length:Int)).toNat-((h:Int)).toNat:Nat):Int))=true:=by simp;omega
  have M:w64 ((i2:Int)-1)=((i2-1:Nat):Int):=by rw [eD (by omega)];omega
  have A:w64 ((i2:Int)+1)=((i2+1:Nat):Int):=by rw [eD (by omega)];omega
  have F:w64 ((k:Int)+1)=((k+1:Nat):Int):=by rw [eD (by omega)];omega
  have J:((h:Int)).toNat+((i2:Int)).toNat=h+i2:=by omega
  have I:((h:Int)).toNat+(((i2-1:Nat):Int)).toNat=h+i2-1:=by omega
  have O:inN (i2:Int) (((s.length:Int)).toNat-((h:Int)).toNat)=some ():=PP (by omega) (by omega)
  have N:inN ((i2-1:Nat):Int) (((s.length:Int)).toNat-((h:Int)).toNat)=some ():=PP (by omega) (by omega)
  have g1:data[h+i2]? = some data[h+i2]:=List.getElem?_eq_getElem W
  have R:data[h+i2-1]? = some (data[h+i2-1]'(by omega)):=List.getElem?_eq_getElem (by omega)
  have g3:data[0+((k:Int)).toNat]? = some (data[0+((k:Int)).toNat]'(by omega)):=List.getElem?_eq_getElem (by omega)
  have Z:inR (k:Int) data=some ():=Ae (by omega) (by omega)
  rw [iterN]
  cases hx:decide (cmR data[h+i2] (data[h+i2-1]'(by omega))=0)with
  | true =>
   have:aW s (h:Int) (data,(k:Int),(i2:Int))=some (.go (data,(k:Int),((i2+1:Nat):Int))):=by
    unfold aW
    simp only [hc,cond_true,O,ob_,J,g1,M,N,I,R,O1,hx,Bool.not_true,cond_false,A]
   rw [this,ob_]
   exact IK s h L m (i2+1) k data (by omega) (by omega) B (by omega)
  | false =>
   have:aW s (h:Int) (data,(k:Int),(i2:Int))=some (.go (data.set (0+((k:Int)).toNat) data[h+i2],((k+1:Nat):Int),((i2+1:Nat):Int))):=by
    unfold aW
    simp only [hc,cond_true,O,ob_,J,g1,M,N,I,R,O1,hx,Bool.not_false,Z,g3,A,F]
   rw [this,ob_]
   exact IK s h L m (i2+1) (k+1) _ (by omega) (by omega) (by rw [List.length_set];exact B) (by omega)
theorem Ns (s:List Receipt) (X:s.length<=100000):∀(m i:Nat),i+m=s.length->1<=i ->
  (∃j,iterN (λt=>aO s t) (m+1) (i:Int)=some (.go j))\/∃r,iterN (λt=>aO s t) (m+1) (i:Int)=some (.ret r)/\r.length<=s.length
 | 0,i,hm,h1=>by
  refine .inl ⟨(i:Int),?_⟩
  have hc:decide ((i:Int)<(s.length:Int))=false:=by simp;omega
  simp only [iterN,aO,hc,cond_false,ob_]
 | m+1,i,hm,h1=>by
  have hi:i<s.length:=by omega
  have hc:decide ((i:Int)<(s.length:Int))=true:=by simp;omega
  have Y:w64 ((i:Int)-1)=((i-1:Nat):Int):=by rw [eD (by omega)];omega
  have M:w64 ((i:Int)+1)=((i+1:Nat):Int):=by rw [eD (by omega)];omega
  have W:0+(i:Int).toNat=i:=by omega
  have O:0+((i-1:Nat):Int).toNat=i-1:=by omega
  have F:s[i]? = some s[i]:=List.getElem?_eq_getElem hi
  have J:s[i-1]? = some (s[i-1]'(by omega)):=List.getElem?_eq_getElem (by omega)
  have R:inR (i:Int) s=some ():=Ae (by omega) (by omega)
  have i2:inR ((i-1:Nat):Int) s=some ():=Ae (by omega) (by omega)
  rw [iterN]
  cases hx:decide (cmR s[i] (s[i-1]'(by omega))=0)with
  | false =>
   have:aO s (i:Int)=some (.go ((i+1:Nat):Int)):=by
    unfold aO
    simp only [hc,cond_true,Y,M,W,O,R,i2,F,J,ob_,O1,hx,cond_false]
   rw [this,ob_]
   exact Ns s X m (i+1) (by omega) (by omega)
  | true =>
   right
   obtain ⟨h,k',i',Z,q2,q3⟩:=IK s i X (s.length-(i+1)) 1 i s (by omega) (by omega) rfl (by omega)
   have B:=jZ Z
   have one:((1:Nat):Int)=1:=rfl
   rw [one]at B
   have N:neL s=some ():=by
    cases s with
    | nil=>simp at hi
    | cons a l=>rfl
   have L:rY s (i:Int) (s.length:Int)=some ():=by unfold rY;rw [if_pos ⟨by omega,by omega,by omega,by omega⟩]
   have I:rY h (k':Int) (h.length:Int)=some ():=by unfold rY;rw [if_pos ⟨by omega,by omega,by omega,by omega⟩]
   have n1:((h.length:Int)).toNat=h.length:=by omega
   have n2:(k':Int).toNat=k':=by omega
   have o:∀z:Receipt,(h.take k'++List.replicate (h.length-k') z++h.drop (k'+(h.length-k'))).length=h.length:=λz=>by simp;omega
   have A:∀z:Receipt,rY (h.take k'++List.replicate (h.length-k') z++h.drop (k'+(h.length-k'))) 0 (k':Int)=some ():=λz=>by unfold rY;rw [if_pos ⟨by omega,by omega,by omega,by rw [o];omega⟩]
   refine⟨I9 (h.take k'++List.replicate (h.length-k') (⟨(⟨#[]⟩:ByteArray),(⟨#[]⟩:ByteArray),0,false⟩:Receipt)++h.drop (k'+(h.length-k'))) 0 k',?_,?_⟩
   ·have:aO s (i:Int)=some (.ret (I9 (h.take k'++List.replicate (h.length-k') (⟨(⟨#[]⟩:ByteArray),(⟨#[]⟩:ByteArray),0,false⟩:Receipt)++h.drop (k'+(h.length-k'))) 0 k')):=by
     unfold aO
     simp only [hc,cond_true,Y,W,O,R,i2,F,J,ob_,O1,hx,N,L,B,thenC,I,n1,n2,A]
    rw [this];rfl
   ·show (List.take (k'-0) (List.drop 0 _)).length<=_
    rw [List.length_take,List.length_drop,o]
    omega
theorem cf_ok (s:List Receipt) (o:s.length<=100000):∃r,bR s=some r/\r.length<=s.length:=by
 unfold bR
 by_cases h:(s.length:Int)<2
 ·rw [decide_eq_true h,cond_true]
  exact⟨s,rfl,Nat.le_refl _⟩
 ·rw [decide_eq_false h,cond_false]
  rcases Ns s o (s.length-1) 1 (by omega) (Nat.le_refl _)with⟨j,h2⟩|⟨r,h2,A⟩
  ·have:=jZ h2
   rw [show ((1:Nat):Int)=1 from rfl]at this
   rw [this]
   exact⟨s,rfl,Nat.le_refl _⟩
  ·have:=jZ h2
   rw [show ((1:Nat):Int)=1 from rfl]at this
   rw [this]
   exact⟨r,rfl,A⟩
theorem QY (a b:List Receipt) (N:a.length<=1000) (hb:b.length<=1000):di [a,b]=some (a++b):=by
 have A:bG 0 a 0=some (.go (a.length:Int)):=by
  unfold bG
  rw [eD (by omega),decide_eq_false (by omega)]
  show some (Ctl.go (0+(a.length:Int)))=_
  rw [Int.zero_add]
 have L:bG (0+1) b (a.length:Int)=some (.go ((a.length:Int)+(b.length:Int))):=by
  unfold bG
  rw [eD (by omega),decide_eq_false (by omega)];rfl
 have g1:bH 0 a []=some (.go a):=by
  unfold bH
  rw [kU _ _ (by simp;omega)];rfl
 have J:bH (0+1) b a=some (.go (a++b)):=by
  unfold bH
  rw [kU _ _ (by omega)];rfl
 have o:∃q,dG ((a.length:Int)+(b.length:Int))=some q/\kE q (a++b)=some ():=by
  unfold dG
  have F:w64 (0-0)=0:=rfl
  rw [F,decide_eq_false (by omega),cond_false,eD (by omega)]
  by_cases h:(a.length:Int)+(b.length:Int)-0>0
  ·rw [decide_eq_true h,cond_true]
   have I:zN ((a.length:Int)+(b.length:Int)-0) 48=some ():=by
    unfold zN
    first | rw [if_pos (by omega)] | rfl
   rw [I]
   refine⟨true,rfl,?_⟩
   cases hab:a++b with
   | nil =>
    have:=congrArg List.length hab
    simp at this
    rw [this.1,this.2]at h
    simp at h
   | cons x l=>rfl
  ·rw [decide_eq_false h,cond_false]
   exact⟨false,rfl,rfl⟩
 obtain ⟨q,B,M⟩:=o
 unfold di
 rw [ja (by simp)]
 simp only [forR,A,L,ob_,thenC]
 rw [B]
 simp only [ob_]
 rw [ja (by simp)]
 simp only [forR,g1,J,ob_,thenC,M]
def befRc (a b:Receipt):Prop:=lt a.Player b.Player\/a.Player=b.Player/\lt a.Alert b.Alert
structure RRc (l:List Receipt):Prop where
 rise:l.Pairwise befRc
 key:∀x∈l,kit_IsKey x.Player=some true/\kit_IsKey x.Alert=some true
 mom:∀x∈l,0<=x.At/\x.At<=1000
 len:l.length<=15
end Go.Proofs.YtadpbmfnnlkdlacGreatDoor.Law

