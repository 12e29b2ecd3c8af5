import Derived.Test.YtnjnggakgeommaaGreatDoorEpKey
import Derived.Test.YtnjnggakgeommaaGreatDoorEpGen
/-
  PLAIN LEMMAS: the checks of entries, players and windows.
-/
open Go Go.Eng
namespace Go.Proofs.YtnjnggakgeommaaGreatDoor.Law
set_option linter.unusedVariables false
set_option linter.unusedSimpArgs false
def BL:ByteArray:=⟨#[]⟩
def p8 {α:Type} (key:α->ByteArray) (l:List α) (k:Nat):ByteArray:=if k=0 then BL else match l[k-1]? with | some y=>key y | none=>BL
def chk {α:Type} (key:α->ByteArray) (stp:ByteArray->α->Int):ByteArray->List α->Int
 | _,[]=>0
 | last,x::xs=>bif stp last x==0 then chk key stp (key x) xs else stp last x
def uG (e:Int):Ctl Unit Int:=bif e==0 then .go ()else .ret e
theorem sQ {α:Type} {key:α->ByteArray} {stp:ByteArray->α->Int} {body:Nat->α->Unit->Option (Ctl Unit Int)} (l:List α):∀(xs:List α) (k:Nat),l.drop k=xs->(∀k x,l[k]? = some x->body k x ()=some (uG (stp (p8 key l k) x))) ->
  dR body xs k ()=some (uG (chk key stp (p8 key l k) xs))
 | [],k,h,hb=>rfl
 | x::xs,k,h,hb=>by
  have hg:=tY h
  rw [dR,hb k x hg,ob_,chk]
  cases he:stp (p8 key l k) x==0 with
  | true =>
   simp only [uG,he,cond_true]
   rw [sQ l xs (k+1) (bg h) hb]
   have:p8 key l (k+1)=key x:=by simp [p8,hg]
   rw [this];rfl
  | false=>simp only [uG,he,cond_false]
theorem BC {α:Type} {key:α->ByteArray} {stp:ByteArray->α->Int} {body:Nat->α->ByteArray->Option (Ctl ByteArray Int)}:∀(xs:List α) (k:Nat) (last:ByteArray),(∀k x last,x∈xs->body k x last=some (bif stp last x==0 then .go (key x)else .ret (stp last x))) ->
  ∃o,dR body xs k last=some o/\dz o (λ_=>some (0:Int)) (λr=>some r)=some (chk key stp last xs)
 | [],k,last,hb=>⟨_,rfl,rfl⟩
 | x::xs,k,last,hb=>by
  rw [dR,hb k x last (by simp),ob_,chk]
  cases he:stp last x==0 with
  | true=>exact BC xs (k+1) (key x) (λk y last hy=>hb k y last (by simp [hy]))
  | false=>exact⟨_,rfl,rfl⟩
theorem qA (e:Int):dz (uG e) (λ_=>some (0:Int)) (λr=>some r)=some e:=by
 unfold uG
 cases h:e==0 with
 | true=>simp only [cond_true,fZ];rw [eq_of_beq h]
 | false=>rfl
def qo (last x:ByteArray):Int:=bif !jk x then 5 else bif sLe x last then 7 else 0
def y5 (l:List ByteArray):Int:=bif decide (l.length>20)then 2 else chk id qo BL l
theorem A8 {α:Type} {l:List α} {k:Nat} {x:α} (h:l[k]? = some x) (hk:0<k) (hl:l.length<=1000000000):∃y,idx l (w64 ((k:Int)-1))=some y/\l[k-1]? = some y:=by
 have hlt:k<l.length:=(List.getElem?_eq_some_iff.1 h).1
 rw [bN (by omega),show (k:Int)-1=((k-1:Nat):Int) by omega,mM]
 exact⟨l[k-1],List.getElem?_eq_getElem (by omega),List.getElem?_eq_getElem (by omega)⟩
theorem uF {α:Type} {key:α->ByteArray} {l:List α} {k:Nat} {x:α} {s:ByteArray} (h:l[k]? = some x) (hl:l.length<=1000000000) (hs:s.size≠0) :
  (bif decide ((k:Int)>0)then (idx l (w64 ((k:Int)-1))).bind λy=>some (sLe s (key y))else some false)=some (sLe s (p8 key l k)):=by
 by_cases hk:0<k
 ·obtain ⟨y,h1,h2⟩:=A8 h hk hl
  have hd:decide ((k:Int)>0)=true:=by simp;omega
  simp only [hd,cond_true,h1,ob_,p8,if_neg (show ¬k=0 by omega),h2]
 ·have hk0:k=0:=by omega
  subst hk0
  simp only [p8,if_pos,BL,sLe_nil,decide_eq_false hs]
  rfl
theorem tagsK (l:List ByteArray) (hs:∀t∈l,jF t) (hl:l.length<=1000000000):fo l=some (y5 l):=by
 unfold fo y5
 have e:decide ((l.length:Int)>20)=decide (l.length>20):=decide_eq_decide.2 (by omega)
 rw [e]
 cases decide (l.length>20)with
 | true=>rfl
 | false =>
  simp only [cond_false]
  unfold jQ
  rw [fq (by omega),sQ (key:=id) (stp:=qo) l l 0 rfl (λk x hx => ?_)]
  ·simp only [ob_,qA];rfl
  ·have hxs:jF x:=hs x (List.mem_of_getElem? hx)
   simp only [ik,qb x (by unfold jF at hxs;omega),ob_,qo]
   cases hk:jk x with
   | false=>rfl
   | true =>
    simp only [Bool.not_true,cond_false]
    have:=uF (key:=id) hx hl (zY hk)
    simp only [id]at this
    rw [this,ob_]
    cases sLe x (p8 id l k) <;> rfl
theorem tagsR (l:List ByteArray) (hs:∀t∈l,jF t) (hl:l.length<=1000000000):iO l=some (y5 l):=by
 unfold iO y5
 have e:decide ((l.length:Int)>20)=decide (l.length>20):=decide_eq_decide.2 (by omega)
 rw [e]
 cases decide (l.length>20)with
 | true=>rfl
 | false =>
  simp only [cond_false]
  unfold jS
  rw [fq (by omega),sQ (key:=id) (stp:=qo) l l 0 rfl (λk x hx => ?_)]
  ·simp only [ob_,qA];rfl
  ·have hxs:jF x:=hs x (List.mem_of_getElem? hx)
   simp only [iB,oo x (by unfold jF at hxs;omega),ob_,qo]
   cases hk:jk x with
   | false=>rfl
   | true =>
    simp only [Bool.not_true,cond_false]
    have:=uF (key:=id) hx hl (zY hk)
    simp only [id]at this
    rw [this,ob_]
    cases sLe x (p8 id l k) <;> rfl
def BG {α:Type} (stp:Option α->α->Int):Option α->List α->Int
 | _,[]=>0
 | p,x::xs=>bif stp p x==0 then BG stp (some x) xs else stp p x
def tC {α:Type} (l:List α) (k:Nat):Option α:=if k=0 then none else l[k-1]?
theorem uu {α:Type} {stp:Option α->α->Int} {body:Nat->α->Unit->Option (Ctl Unit Int)} (l:List α):∀(xs:List α) (k:Nat),l.drop k=xs->(∀k x,l[k]? = some x->body k x ()=some (uG (stp (tC l k) x))) ->
  dR body xs k ()=some (uG (BG stp (tC l k) xs))
 | [],k,h,hb=>rfl
 | x::xs,k,h,hb=>by
  have hg:=tY h
  rw [dR,hb k x hg,ob_,BG]
  cases he:stp (tC l k) x==0 with
  | true =>
   simp only [uG,he,cond_true]
   rw [uu l xs (k+1) (bg h) hb]
   have:tC l (k+1)=some x:=by simp [tC,hg]
   rw [this];rfl
  | false=>simp only [uG,he,cond_false]
def eQ (n lo hi:Int):Bool:=decide (n<lo)||decide (n>hi)
theorem mJ (n lo hi:Int):dB n lo hi=some (eQ n lo hi):=by
 unfold dB eQ
 cases decide (n<lo) <;> cases decide (n>hi) <;> rfl
theorem FN (n lo hi:Int):jV n lo hi=some (!eQ n lo hi):=by
 unfold jV eQ
 have e1:decide (lo<=n) = !decide (n<lo):=by rw [Bool.eq_iff_iff];simp
 have e2:decide (n<=hi) = !decide (n>hi):=by rw [Bool.eq_iff_iff];simp
 rw [e1,e2]
 cases decide (n<lo) <;> cases decide (n>hi) <;> rfl
def leP (p:Option Int) (x:Int):Bool:=match p with
 | none=>false
 | some y=>decide (x<=y)
def qZ (p:Option Int) (x:Int):Int:=bif eQ x 0 4000 then 1 else bif leP p x then 7 else 0
def exF (l:List Int):Int:=bif decide (l.length>100)then 2 else BG qZ none l
theorem wJ {l:List Int} {k:Nat} {x:Int} (h:l[k]? = some x) (hl:l.length<=1000000000) :
  (bif decide ((k:Int)>0)then (idx l (w64 ((k:Int)-1))).bind λy=>some (decide (x<=y))else some false)=some (leP (tC l k) x):=by
 by_cases hk:0<k
 ·obtain ⟨y,h1,h2⟩:=A8 h hk hl
  have hd:decide ((k:Int)>0)=true:=by simp;omega
  simp only [hd,cond_true,h1,ob_,tC,if_neg (show ¬k=0 by omega),h2,leP]
 ·have hk0:k=0:=by omega
  subst hk0
  rfl
theorem E8 (n:Int):ou n=some (!eQ n 0 4000):=by
 unfold ou eQ
 have e1:decide (n>=0) = !decide (n<0):=by rw [Bool.eq_iff_iff];simp
 have e2:decide (n<=4000) = !decide (n>4000):=by rw [Bool.eq_iff_iff];simp
 rw [e1,e2]
 cases decide (n<0) <;> cases decide (n>4000) <;> rfl
theorem exK (l:List Int) (hl:l.length<=1000000000):fA l=some (exF l):=by
 unfold fA exF
 have e:decide ((l.length:Int)>100)=decide (l.length>100):=decide_eq_decide.2 (by omega)
 rw [e]
 cases decide (l.length>100)with
 | true=>rfl
 | false =>
  simp only [cond_false]
  rw [fq (by omega),uu (stp:=qZ) l l 0 rfl (λk x hx => ?_)]
  ·simp only [ob_,qA];rfl
  ·simp only [fI,E8,ob_,qZ]
   cases eQ x 0 4000 with
   | true=>rfl
   | false =>
    simp only [Bool.not_false,Bool.not_true,cond_false]
    rw [wJ hx hl,ob_]
    cases leP (tC l k) x <;> rfl
def jI (e:Entry):Int :=
 bif !jk e.Key || !jk e.Item then 5 else
 bif eQ e.Version 0 1000000||(eQ e.First 0 e.Last||(decide (e.Last>4000)||(eQ e.Every 1 400||eQ e.Days 1 127)))then 1 else
 bif exF e.Except==0 then (bif eQ e.From 0 1439||(eQ e.To 0 1439||eQ e.Prio 0 9)then 1 else y5 e.Tags)else exF e.Except
theorem entK (e:Entry) (h:jD e):fK e=some (jI e):=by
 obtain ⟨h1,h2,h3,h4,h5⟩:=h
 unfold jF at h1 h2
 unfold fK jI
 simp only [qb e.Key (by omega),qb e.Item (by omega),mJ,exK e.Except (by omega),tagsK e.Tags h5 (by omega),ob_]
 cases jk e.Key with
 | false=>rfl
 | true =>
 cases jk e.Item with
 | false=>rfl
 | true =>
 simp only [Bool.not_true,cond_false,ob_,Bool.or_self,Bool.false_or]
 cases eQ e.Version 0 1000000 with
 | true=>rfl
 | false =>
 cases eQ e.First 0 e.Last with
 | true=>rfl
 | false =>
 cases decide (e.Last>4000)with
 | true=>rfl
 | false =>
 cases eQ e.Every 1 400 with
 | true=>rfl
 | false =>
 cases eQ e.Days 1 127 with
 | true=>rfl
 | false =>
 simp only [cond_false,ob_,Bool.or_self]
 cases hx:exF e.Except==0 with
 | false =>
  have:(exF e.Except != 0)=true:=by simp [bne,hx]
  simp only [this,cond_true,cond_false]
 | true =>
  have:(exF e.Except != 0)=false:=by simp [bne,hx]
  simp only [this,cond_true,cond_false]
  cases eQ e.From 0 1439 with
  | true=>rfl
  | false =>
  cases eQ e.To 0 1439 with
  | true=>rfl
  | false =>
  cases eQ e.Prio 0 9 with
  | true=>rfl
  | false=>rfl
theorem entR (e:Entry) (h:jD e):jf e=some (jI e):=by
 obtain ⟨h1,h2,h3,h4,h5⟩:=h
 unfold jF at h1 h2
 unfold jf jI
 simp only [oo e.Key (by omega),oo e.Item (by omega),FN,tagsR e.Tags h5 (by omega),ob_,Bool.not_not]
 cases jk e.Key with
 | false=>rfl
 | true =>
 cases jk e.Item with
 | false=>rfl
 | true =>
 simp only [Bool.not_true,cond_false,ob_,Bool.or_self,Bool.false_or]
 cases eQ e.Version 0 1000000 with
 | true=>rfl
 | false =>
 cases eQ e.First 0 e.Last with
 | true=>rfl
 | false =>
 cases decide (e.Last>4000)with
 | true=>rfl
 | false =>
 cases eQ e.Every 1 400 with
 | true=>rfl
 | false =>
 cases eQ e.Days 1 127 with
 | true=>rfl
 | false =>
 simp only [cond_false,ob_,Bool.or_self]
 have el:decide ((e.Except.length:Int)>100)=decide (e.Except.length>100):=decide_eq_decide.2 (by omega)
 rw [el]
 unfold exF
 cases decide (e.Except.length>100)with
 | true=>rfl
 | false =>
 simp only [cond_false]
 rw [fq (by omega),uu (stp:=qZ) e.Except e.Except 0 rfl (λk x hx => ?_)]
 ·simp only [ob_]
  show dz (uG (BG qZ none e.Except)) _ _=_
  unfold uG
  cases hx:BG qZ none e.Except==0 with
  | false=>rfl
  | true =>
   simp only [cond_true,fZ]
   cases eQ e.From 0 1439 with
   | true=>rfl
   | false =>
   cases eQ e.To 0 1439 with
   | true=>rfl
   | false =>
   cases eQ e.Prio 0 9 with
   | true=>rfl
   | false=>rfl
 ·simp only [iV,FN,ob_,qZ]
  cases eQ x 0 4000 with
  | true=>rfl
  | false =>
   simp only [Bool.not_false,Bool.not_true,cond_false]
   rw [wJ hx (by omega),ob_]
   cases leP (tC e.Except k) x <;> rfl
theorem F7 {e:Entry} (h:jI e=0):e.Key.size≠0:=by
 unfold jI at h
 cases hk:jk e.Key with
 | false=>rw [hk]at h;cases h
 | true=>exact zY hk
theorem oneK (e:Entry) (h:jD e):bC [e]=some (jI e):=by
 unfold bC
 have:decide ((([e]:List Entry).length:Int)>200)=false:=rfl
 rw [this,cond_false,fq (by simp)]
 simp only [dR,dM,entK e h,ob_]
 cases hx:jI e==0 with
 | false =>
  have:(jI e != 0)=true:=by simp [bne,hx]
  simp only [this,cond_true,ob_,yX]
 | true =>
  have:(jI e != 0)=false:=by simp [bne,hx]
  rw [eq_of_beq hx]
  rfl
def yR (p:Player):Int:=bif !jk p.Key || !jk p.Screen then 5 else bif eQ p.Zone (-1440) 1440 then 1 else y5 p.Tags
theorem playK (p:Player) (h:Dc p):fB p=some (yR p):=by
 obtain ⟨h1,h2,h4,h5⟩:=h
 unfold jF at h1 h2
 unfold fB yR
 simp only [qb p.Key (by omega),qb p.Screen (by omega),mJ,tagsK p.Tags h5 (by omega),ob_]
 cases jk p.Key with
 | false=>rfl
 | true =>
 cases jk p.Screen with
 | false=>rfl
 | true=>cases eQ p.Zone (-1440) 1440 <;> rfl
theorem playR (p:Player) (h:Dc p):iK p=some (yR p):=by
 obtain ⟨h1,h2,h4,h5⟩:=h
 unfold jF at h1 h2
 unfold iK yR
 simp only [oo p.Key (by omega),oo p.Screen (by omega),FN,tagsR p.Tags h5 (by omega),ob_]
 cases jk p.Key with
 | false=>rfl
 | true =>
 cases jk p.Screen with
 | false=>rfl
 | true=>cases eQ p.Zone (-1440) 1440 <;> rfl
def rT (w:Window):Int:=bif eQ w.From 0 w.To||decide (w.To>345686400000)then 1 else bif decide (w64 (w.To-w.From)>34560000000)then 2 else 0
theorem winK (w:Window):fw w=some (rT w):=by
 unfold fw rT
 simp only [mJ,ob_]
 cases eQ w.From 0 w.To with
 | true=>rfl
 | false =>
 cases decide (w.To>345686400000)with
 | true=>rfl
 | false=>cases decide (w64 (w.To-w.From)>34560000000) <;> rfl
def or0 (a b:Int):Int:=bif a==0 then b else a
theorem errs2 (a b:Int):pG [a,b]=some (or0 a b):=by
 unfold pG or0
 rw [fq (by simp)]
 simp only [dR,mO]
 cases ha:a==0 with
 | false =>
  have:(a != 0)=true:=by simp [bne,ha]
  simp only [this,cond_true,cond_false,ob_,dz]
 | true =>
  have:(a != 0)=false:=by simp [bne,ha]
  simp only [this,cond_true,cond_false,ob_]
  cases hb:b==0 with
  | false =>
   have:(b != 0)=true:=by simp [bne,hb]
   simp only [this,cond_true,ob_,dz]
  | true =>
   have:(b != 0)=false:=by simp [bne,hb]
   simp only [this,cond_false,ob_,dz]
   rw [eq_of_beq hb]
end Go.Proofs.YtnjnggakgeommaaGreatDoor.Law

