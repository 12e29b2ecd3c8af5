/-
  THE PLAIN LAW (part 2).
-/
import Derived.Test.YtigdobmllbakiabGreatDoorPl1
import Derived.Test.YtigdobmllbakiabGreatDoorEng5
open Go Go.Eng
namespace Go.Proofs.YtigdobmllbakiabGreatDoor.Law
set_option linter.unusedVariables false
set_option linter.unusedSimpArgs false
def xy:ByteArray:=⟨#[]⟩
def qU {α:Type} (key:α->ByteArray) (l:List α) (k:Nat):ByteArray:=if k=0 then xy else match l[k-1]? with | some y=>key y | none=>xy
def chk {α:Type} (key:α->ByteArray) (stp:ByteArray->α->Int):ByteArray->List α->Int
 | _,[]=>0
 | last,x::xs=>bif stp last x==0 then chk key stp (key x) xs else stp last x
def vw (e:Int):Ctl Unit Int:=bif e==0 then .go ()else .ret e
theorem uu {α:Type} {key:α->ByteArray} {stp:ByteArray->α->Int} {body:Nat->α->Unit->Option (Ctl Unit Int)} (l:List α):∀(xs:List α) (k:Nat),l.drop k=xs->(∀k x,l[k]? = some x->body k x ()=some (vw (stp (qU key l k) x))) ->
  forR body xs k ()=some (vw (chk key stp (qU key l k) xs))
 | [],k,h,hb=>rfl
 | x::xs,k,h,hb=>by
  have hg:=yG h
  rw [forR,hb k x hg,ob_,chk]
  cases he:stp (qU key l k) x==0 with
  | true =>
   simp only [vw,he,cond_true]
   rw [uu l xs (k+1) (bv h) hb]
   have:qU key l (k+1)=key x:=by simp [qU,hg]
   rw [this];rfl
  | false=>simp only [vw,he,cond_false]
theorem Di {α:Type} {key:α->ByteArray} {stp:ByteArray->α->Int} {body:Nat->α->ByteArray->Option (Ctl ByteArray Int)}:∀(xs:List α) (k:Nat) (last:ByteArray),(∀k x last,x∈xs->body k x last=some (bif stp last x==0 then .go (key x)else .ret (stp last x))) ->
  ∃o,forR body xs k last=some o/\thenC o (λ_=>some (0:Int)) (λr=>some r)=some (chk key stp last xs)
 | [],k,last,hb=>⟨_,rfl,rfl⟩
 | x::xs,k,last,hb=>by
  rw [forR,hb k x last (by simp),ob_,chk]
  cases he:stp last x==0 with
  | true=>exact Di xs (k+1) (key x) (λk y last hy=>hb k y last (by simp [hy]))
  | false=>exact⟨_,rfl,rfl⟩
theorem rE (e:Int):thenC (vw e) (λ_=>some (0:Int)) (λr=>some r)=some e:=by
 unfold vw
 cases h:e==0 with
 | true=>simp only [cond_true,iH];rw [eq_of_beq h]
 | false=>rfl
def vU (last x:ByteArray):Int:=bif !kP x then 5 else bif sLe x last then 7 else 0
def yH (l:List ByteArray):Int:=bif decide (l.length>20)then 2 else chk id vU xy l
theorem C8 {α:Type} {l:List α} {k:Nat} {x:α} (h:l[k]? = some x) (hk:0<k) (hl:l.length<=1000000000):∃y,idx l (w64 ((k:Int)-1))=some y/\l[k-1]? = some y:=by
 have hlt:k<l.length:=(List.getElem?_eq_some_iff.1 h).1
 rw [jb (by omega),show (k:Int)-1=((k-1:Nat):Int) by omega,uA]
 exact⟨l[k-1],List.getElem?_eq_getElem (by omega),List.getElem?_eq_getElem (by omega)⟩
theorem vR {α:Type} {key:α->ByteArray} {l:List α} {k:Nat} {x:α} {s:ByteArray} (h:l[k]? = some x) (hl:l.length<=1000000000) (hs:s.size≠0) :
  (bif decide ((k:Int)>0)then (idx l (w64 ((k:Int)-1))).bind λy=>some (sLe s (key y))else some false)=some (sLe s (qU key l k)):=by
 by_cases hk:0<k
 ·obtain ⟨y,h1,h2⟩:=C8 h hk hl
  have hd:decide ((k:Int)>0)=true:=by simp;omega
  simp only [hd,cond_true,h1,ob_,qU,if_neg (show ¬k=0 by omega),h2]
 ·have hk0:k=0:=by omega
  subst hk0
  simp only [qU,if_pos,xy,Fb,decide_eq_false hs]
  rfl
theorem tagsK (l:List ByteArray) (hs:∀t∈l,nO t) (hl:l.length<=1000000000):d9 l=some (yH l):=by
 unfold d9 yH
 have e:decide ((l.length:Int)>20)=decide (l.length>20):=decide_eq_decide.2 (by omega)
 rw [e]
 cases decide (l.length>20)with
 | true=>rfl
 | false =>
  simp only [cond_false]
  unfold gW
  rw [eF (by omega),uu (key:=id) (stp:=vU) l l 0 rfl (λk x hx => ?_)]
  ·simp only [ob_,rE];rfl
  ·have hxs:nO x:=hs x (List.mem_of_getElem? hx)
   simp only [eZ,yN x (by unfold nO at hxs;omega),ob_,vU]
   cases hk:kP x with
   | false=>rfl
   | true =>
    simp only [Bool.not_true,cond_false]
    have:=vR (key:=id) hx hl (uJ hk)
    simp only [id]at this
    rw [this,ob_]
    cases sLe x (qU id l k) <;> rfl
theorem tagsR (l:List ByteArray) (hs:∀t∈l,nO t) (hl:l.length<=1000000000):jN l=some (yH l):=by
 unfold jN yH
 have e:decide ((l.length:Int)>20)=decide (l.length>20):=decide_eq_decide.2 (by omega)
 rw [e]
 cases decide (l.length>20)with
 | true=>rfl
 | false =>
  simp only [cond_false]
  unfold jS
  rw [eF (by omega),uu (key:=id) (stp:=vU) l l 0 rfl (λk x hx => ?_)]
  ·simp only [ob_,rE];rfl
  ·have hxs:nO x:=hs x (List.mem_of_getElem? hx)
   simp only [iQ,vK x (by unfold nO at hxs;omega),ob_,vU]
   cases hk:kP x with
   | false=>rfl
   | true =>
    simp only [Bool.not_true,cond_false]
    have:=vR (key:=id) hx hl (uJ hk)
    simp only [id]at this
    rw [this,ob_]
    cases sLe x (qU id l k) <;> rfl
def Dk {α:Type} (stp:Option α->α->Int):Option α->List α->Int
 | _,[]=>0
 | p,x::xs=>bif stp p x==0 then Dk stp (some x) xs else stp p x
def uP {α:Type} (l:List α) (k:Nat):Option α:=if k=0 then none else l[k-1]?
theorem wE {α:Type} {stp:Option α->α->Int} {body:Nat->α->Unit->Option (Ctl Unit Int)} (l:List α):∀(xs:List α) (k:Nat),l.drop k=xs->(∀k x,l[k]? = some x->body k x ()=some (vw (stp (uP l k) x))) ->
  forR body xs k ()=some (vw (Dk stp (uP l k) xs))
 | [],k,h,hb=>rfl
 | x::xs,k,h,hb=>by
  have hg:=yG h
  rw [forR,hb k x hg,ob_,Dk]
  cases he:stp (uP l k) x==0 with
  | true =>
   simp only [vw,he,cond_true]
   rw [wE l xs (k+1) (bv h) hb]
   have:uP l (k+1)=some x:=by simp [uP,hg]
   rw [this];rfl
  | false=>simp only [vw,he,cond_false]
def iB (n lo hi:Int):Bool:=decide (n<lo)||decide (n>hi)
theorem ED (n lo hi:Int):bE n lo hi=some (iB n lo hi):=by
 unfold bE iB
 cases decide (n<lo) <;> cases decide (n>hi) <;> rfl
theorem in_eq (n lo hi:Int):kI n lo hi=some (!iB n lo hi):=by
 unfold kI iB
 have e1:decide (lo<=n) = !decide (n<lo):=by rw [Bool.eq_iff_iff];simp
 have e2:decide (n<=hi) = !decide (n>hi):=by rw [Bool.eq_iff_iff];simp
 rw [e1,e2]
 cases decide (n<lo) <;> cases decide (n>hi) <;> rfl
def leP (p:Option Int) (x:Int):Bool:=match p with
 | none=>false
 | some y=>decide (x<=y)
def wP (p:Option Int) (x:Int):Int:=bif iB x 0 4000 then 1 else bif leP p x then 7 else 0
def exF (l:List Int):Int:=bif decide (l.length>100)then 2 else Dk wP none l
theorem zi {l:List Int} {k:Nat} {x:Int} (h:l[k]? = some x) (hl:l.length<=1000000000) :
  (bif decide ((k:Int)>0)then (idx l (w64 ((k:Int)-1))).bind λy=>some (decide (x<=y))else some false)=some (leP (uP l k) x):=by
 by_cases hk:0<k
 ·obtain ⟨y,h1,h2⟩:=C8 h hk hl
  have hd:decide ((k:Int)>0)=true:=by simp;omega
  simp only [hd,cond_true,h1,ob_,uP,if_neg (show ¬k=0 by omega),h2,leP]
 ·have hk0:k=0:=by omega
  subst hk0
  rfl
theorem Ip (n:Int):oL n=some (!iB n 0 4000):=by
 unfold oL iB
 have e1:decide (n>=0) = !decide (n<0):=by rw [Bool.eq_iff_iff];simp
 have e2:decide (n<=4000) = !decide (n>4000):=by rw [Bool.eq_iff_iff];simp
 rw [e1,e2]
 cases decide (n<0) <;> cases decide (n>4000) <;> rfl
theorem exK (l:List Int) (hl:l.length<=1000000000):eu l=some (exF l):=by
 unfold eu exF
 have e:decide ((l.length:Int)>100)=decide (l.length>100):=decide_eq_decide.2 (by omega)
 rw [e]
 cases decide (l.length>100)with
 | true=>rfl
 | false =>
  simp only [cond_false]
  rw [eF (by omega),wE (stp:=wP) l l 0 rfl (λk x hx => ?_)]
  ·simp only [ob_,rE];rfl
  ·simp only [fM,Ip,ob_,wP]
   cases iB x 0 4000 with
   | true=>rfl
   | false =>
    simp only [Bool.not_false,Bool.not_true,cond_false]
    rw [zi hx hl,ob_]
    cases leP (uP l k) x <;> rfl
def oq (e:Entry):Int :=
 bif !kP e.Key || !kP e.Item then 5 else
 bif iB e.Version 0 1000000||(iB e.First 0 e.Last||(decide (e.Last>4000)||(iB e.Every 1 400||iB e.Days 1 127)))then 1 else
 bif exF e.Except==0 then (bif iB e.From 0 1439||(iB e.To 0 1439||iB e.Prio 0 9)then 1 else yH e.Tags)else exF e.Except
theorem entK (e:Entry) (h:oD e):dW e=some (oq e):=by
 obtain ⟨h1,h2,h3,h4,h5⟩:=h
 unfold nO at h1 h2
 unfold dW oq
 simp only [yN e.Key (by omega),yN e.Item (by omega),ED,exK e.Except (by omega),tagsK e.Tags h5 (by omega),ob_]
 cases kP e.Key with
 | false=>rfl
 | true =>
 cases kP e.Item with
 | false=>rfl
 | true =>
 simp only [Bool.not_true,cond_false,ob_,Bool.or_self,Bool.false_or]
 cases iB e.Version 0 1000000 with
 | true=>rfl
 | false =>
 cases iB e.First 0 e.Last with
 | true=>rfl
 | false =>
 cases decide (e.Last>4000)with
 | true=>rfl
 | false =>
 cases iB e.Every 1 400 with
 | true=>rfl
 | false =>
 cases iB e.Days 1 127 with
 | true=>rfl
 | false =>
 simp only [cond_false,ob_,Bool.or_self]
 cases hx:exF e.Except==0 with
 | false =>
  have:(exF e.Except != 0)=true:=by simp [bne,hx]
  simp only [this,cond_true,cond_false]
 | true =>
  have:(exF e.Except != 0)=false:=by simp [bne,hx]
  simp only [this,cond_true,cond_false]
  cases iB e.From 0 1439 with
  | true=>rfl
  | false =>
  cases iB e.To 0 1439 with
  | true=>rfl
  | false =>
  cases iB e.Prio 0 9 with
  | true=>rfl
  | false=>rfl
theorem entR (e:Entry) (h:oD e):jw e=some (oq e):=by
 obtain ⟨h1,h2,h3,h4,h5⟩:=h
 unfold nO at h1 h2
 unfold jw oq
 simp only [vK e.Key (by omega),vK e.Item (by omega),in_eq,tagsR e.Tags h5 (by omega),ob_,Bool.not_not]
 cases kP e.Key with
 | false=>rfl
 | true =>
 cases kP e.Item with
 | false=>rfl
 | true =>
 simp only [Bool.not_true,cond_false,ob_,Bool.or_self,Bool.false_or]
 cases iB e.Version 0 1000000 with
 | true=>rfl
 | false =>
 cases iB e.First 0 e.Last with
 | true=>rfl
 | false =>
 cases decide (e.Last>4000)with
 | true=>rfl
 | false =>
 cases iB e.Every 1 400 with
 | true=>rfl
 | false =>
 cases iB e.Days 1 127 with
 | true=>rfl
 | false =>
 simp only [cond_false,ob_,Bool.or_self]
 have el:decide ((e.Except.length:Int)>100)=decide (e.Except.length>100):=decide_eq_decide.2 (by omega)
 rw [el]
 unfold exF
 cases decide (e.Except.length>100)with
 | true=>rfl
 | false =>
 simp only [cond_false]
 rw [eF (by omega),wE (stp:=wP) e.Except e.Except 0 rfl (λk x hx => ?_)]
 ·simp only [ob_]
  show thenC (vw (Dk wP none e.Except)) _ _=_
  unfold vw
  cases hx:Dk wP none e.Except==0 with
  | false=>rfl
  | true =>
   simp only [cond_true,iH]
   cases iB e.From 0 1439 with
   | true=>rfl
   | false =>
   cases iB e.To 0 1439 with
   | true=>rfl
   | false =>
   cases iB e.Prio 0 9 with
   | true=>rfl
   | false=>rfl
 ·simp only [je,in_eq,ob_,wP]
  cases iB x 0 4000 with
  | true=>rfl
  | false =>
   simp only [Bool.not_false,Bool.not_true,cond_false]
   rw [zi hx (by omega),ob_]
   cases leP (uP e.Except k) x <;> rfl
theorem GZ {e:Entry} (h:oq e=0):e.Key.size≠0:=by
 unfold oq at h
 cases hk:kP e.Key with
 | false=>rw [hk]at h;cases h
 | true=>exact uJ hk
end Go.Proofs.YtigdobmllbakiabGreatDoor.Law

open Go Go.Eng
namespace Go.Proofs.YtigdobmllbakiabGreatDoor.Law
set_option linter.unusedVariables false
set_option linter.unusedSimpArgs false
structure Ends (l:List ByteArray) (t:ByteArray) (i j:Nat):Prop where
 le:i<=j
 len:j<=l.length
 lo:∀k (h:k<l.length),k<i->lt l[k] t
 hi:∀k (h:k<l.length),j<=k->¬lt l[k] t
namespace I
def lt (a b:Int):Prop:=a<b
theorem wC (a:Int):¬lt a a:=Int.lt_irrefl a
theorem lt_trans {a b c:Int} (h:lt a b) (k:lt b c):lt a c:=Int.lt_trans h k
def sLt (a b:Int):Bool:=decide (a<b)
theorem BF (a b:Int):sLt a b=true↔lt a b:=by simp [sLt,lt]
structure Ends (l:List Int) (t:Int) (i j:Nat):Prop where
 le:i<=j
 len:j<=l.length
 lo:∀k (h:k<l.length),k<i->lt l[k] t
 hi:∀k (h:k<l.length),j<=k->¬lt l[k] t
end I
end Go.Proofs.YtigdobmllbakiabGreatDoor.Law

open Go Go.Eng
namespace Go.Proofs.YtigdobmllbakiabGreatDoor.Law
set_option linter.unusedVariables false
set_option linter.unusedSimpArgs false
def bitB (a r:Int):Bool:=match Em .i64 a r with
 | some y=>y5 .i64 y 1==1
 | none=>false
def Ho (a r:Nat):Bool:=match Ex .i64 1 (r:Int),Em .i64 (a:Int) (r:Int)with
 | some x,some y=>(y5 .i64 (a:Int) x==0) == !(y5 .i64 y 1==1)
 | _,_=>false
theorem IW:∀a:Fin 128,∀r:Fin 7,Ho a.val r.val=true:=by decide +kernel
theorem bits (a r:Int) (ha:0<=a/\a<=127) (hr:0<=r/\r<7):∃x y,Ex .i64 1 r=some x/\Em .i64 a r=some y/\(y5 .i64 a x==0) = !(y5 .i64 y 1==1)/\bitB a r=(y5 .i64 y 1==1):=by
 have h:=IW ⟨a.toNat,by omega⟩ ⟨r.toNat,by omega⟩
 simp only [Ho,show ((a.toNat:Nat):Int)=a by omega,show ((r.toNat:Nat):Int)=r by omega]at h
 unfold bitB
 cases h1:Ex .i64 1 r with
 | none=>rw [h1]at h;cases h
 | some x =>
  cases h2:Em .i64 a r with
  | none=>rw [h1,h2]at h;cases h
  | some y =>
   rw [h1,h2]at h
   exact⟨x,y,rfl,rfl,eq_of_beq h,rfl⟩
structure Right (e:Entry):Prop where
 first:0<=e.First/\e.First<=e.Last
 last:e.Last<=4000
 every:1<=e.Every
 days:1<=e.Days/\e.Days<=127
 ex:exF e.Except=0
 from_:0<=e.From/\e.From<=1439
 to_:0<=e.To/\e.To<=1439
theorem outB_in {n lo hi:Int} (h:lo<=n/\n<=hi):iB n lo hi=false:=by
 simp only [iB,Bool.or_eq_false_iff,decide_eq_false_iff_not];omega
end Go.Proofs.YtigdobmllbakiabGreatDoor.Law

namespace Go.Eng
set_option linter.unusedVariables false
set_option linter.unusedSimpArgs false
section
variable {α:Type} {cmp:α->α->Option Int} {le:α->α->Prop} {p:α->Prop}
end
end Go.Eng

open Go Go.Eng Go.Proofs
namespace Go.Proofs.YtigdobmllbakiabGreatDoor.Law
set_option linter.unusedVariables false
set_option linter.unusedSimpArgs false
def nC (last:ByteArray) (x:Entry):Int:=bif oq x==0 then (bif sLe x.Key last then 7 else 0)else oq x
def qc (l:List Entry):Int:=chk (λe:Entry=>e.Key) nC xy l
theorem entsK {l:List Entry} (h:∀e∈l,oD e) (hl:l.length<=100):aX l=some (qc l):=by
 unfold aX qc
 rw [decide_eq_false (by omega),cond_false,eF (by omega),uu (key:=λe:Entry=>e.Key) (stp:=nC) l l 0 rfl (λk x hx => ?_)]
 ·simp only [ob_,rE];rfl
 ·unfold dD nC
  rw [entK x (h x (List.mem_of_getElem? hx)),ob_]
  cases he:oq x==0 with
  | false =>
   have:(oq x != 0)=true:=by simp [bne,he]
   rw [this,cond_true,cond_false]
   unfold vw;rw [he];rfl
  | true =>
   have:(oq x != 0)=false:=by simp [bne,he]
   have hk:=GZ (eq_of_beq he)
   rw [this,cond_false,cond_true]
   have h2:=vR (key:=λe:Entry=>e.Key) hx (by omega) hk
   rw [h2,ob_]
   cases sLe x.Key (qU (λe:Entry=>e.Key) l k) <;> rfl
theorem entsR {l:List Entry} (h:∀e∈l,oD e) (hl:l.length<=100):fq l=some (qc l):=by
 unfold fq qc
 rw [decide_eq_false (by omega),cond_false,eF (by omega)]
 obtain ⟨o,o1,o2⟩:=Di (key:=λe:Entry=>e.Key) (stp:=nC) (body:=λk x s=>eY k x s) l 0 xy (λk x last hx=>by
  unfold eY nC
  rw [entR x (h x hx),ob_]
  cases he:oq x==0 with
  | false =>
   have:(oq x != 0)=true:=by simp [bne,he]
   rw [this,cond_true,cond_false,he];rfl
  | true =>
   have:(oq x != 0)=false:=by simp [bne,he]
   rw [this,cond_false,cond_true]
   cases sLe x.Key last <;> rfl)
 have o1':forR (λk x s=>eY k x s) l 0 (⟨#[]⟩:ByteArray)=some o:=o1
 rw [o1',ob_,o2]
theorem zY:∀(l:List Entry) (last:ByteArray),chk (λe:Entry=>e.Key) nC last l=0->(∀e∈l,oq e=0/\lt last e.Key)/\l.Pairwise (λa b=>lt a.Key b.Key)
 | [],last,_=>⟨λe he=>(by cases he),.nil⟩
 | x::xs,last,h=>by
  unfold chk at h
  cases h0:nC last x==0 with
  | false=>rw [h0,cond_false]at h;rw [h]at h0;cases h0
  | true =>
   rw [h0,cond_true]at h
   obtain ⟨i1,i2⟩:=zY xs x.Key h
   have h0:=eq_of_beq h0
   unfold nC at h0
   cases he:oq x==0 with
   | false=>rw [he,cond_false]at h0;rw [h0]at he;cases he
   | true =>
    rw [he,cond_true]at h0
    have hlt:lt last x.Key:=by
     cases hs:sLe x.Key last with
     | true=>rw [hs]at h0;cases h0
     | false =>
      rcases En last x.Key with q|q|q
      ·exact q
      ·have:=(uq x.Key last).2 (by rw [q];exact wC _)
       rw [hs]at this;cases this
      ·have:=(uq x.Key last).2 (λk=>wC _ (lt_trans q k))
       rw [hs]at this;cases this
    refine⟨λe hm => ?_,List.pairwise_cons.2 ⟨λe hm=>(i1 e hm).2,i2⟩⟩
    rcases List.mem_cons.1 hm with rfl|hm
    ·exact⟨eq_of_beq he,hlt⟩
    ·exact⟨(i1 e hm).1,lt_trans hlt (i1 e hm).2⟩
end Go.Proofs.YtigdobmllbakiabGreatDoor.Law

open Go Go.Eng
namespace Go.Proofs.YtigdobmllbakiabGreatDoor.Law
set_option linter.unusedVariables false
set_option linter.unusedSimpArgs false
def nums (l:List UInt8):List Int:=l.map λb=>(b.toNat:Int)
theorem DK (l:List UInt8):Go.strOfNums (nums l)=SB l:=by
 unfold Go.strOfNums nums
 rw [List.map_map]
 have:(l.map ((λn:Int=>UInt8.ofNat n.toNat) ∘ λb:UInt8=>(b.toNat:Int)))=l:=by
  have:((λn:Int=>UInt8.ofNat n.toNat) ∘ λb:UInt8=>(b.toNat:Int))=id:=by
   funext b;simp
  rw [this,List.map_id]
 rw [this]
theorem Gv (a z:List UInt8) (h:a.length+z.length<=1000000000):Ig (nums a) (SB z)=some (nums (a++z)):=by
 unfold Ig
 have e:aS (SB z)=nums z:=rfl
 rw [if_pos (by rw [dA];unfold nums;rw [List.length_map];exact h),e]
 unfold nums
 rw [List.map_append]
theorem Dt (a:List UInt8) (h:a.length<=1000000000):wy (nums a)=some (SB a):=by
 unfold wy
 rw [if_pos ⟨by unfold nums;rw [List.length_map];exact h,by
  unfold nums
  rw [List.all_map,List.all_eq_true]
  intro b _
  have:=b.toNat_lt
  show (decide (0<=(b.toNat:Int))&&decide ((b.toNat:Int)<=255))=true
  rw [decide_eq_true (by omega),decide_eq_true (by omega)];rfl⟩,DK]
def nZ (ps:List (Entry×List UInt8)):List UInt8:=ps.flatMap (λp=>p.2++[10])
theorem wM (p:Entry×List UInt8) (ps:List (Entry×List UInt8)):nZ (p::ps)=p.2++[10]++nZ ps:=by unfold nZ;rw [List.flatMap_cons]
theorem De:∀(ps:List (Entry×List UInt8)) (k:Nat) (acc:List UInt8),(∀p∈ps,dz p.1=some (SB (p.2++[10])))->acc.length+(nZ ps).length<=900000000 ->
  forR (λk x s=>gp k x s) (ps.map (·.1)) k (nums acc)=some (.go (nums (acc++nZ ps)))
 | [],k,acc,_,_=>by simp [nZ,forR]
 | p::ps,k,acc,h,hl=>by
  rw [wM,List.length_append,List.length_append]at hl
  have hstep:gp k p.1 (nums acc)=some (.go (nums (acc++(p.2++[10])))):=by
   unfold gp
   rw [h p (by simp),ob_,Gv _ _ (by rw [List.length_append];omega)];rfl
  rw [List.map_cons,forR,hstep,ob_]
  simp only []
  rw [De ps (k+1) _ (λq hq=>h q (List.mem_cons_of_mem _ hq)) (by rw [List.length_append,List.length_append];omega),wM]
  simp
theorem text_of (ps:List (Entry×List UInt8)) (h:∀p∈ps,dz p.1=some (SB (p.2++[10]))) (hl:ps.length<=1000) (hc:aX (ps.map (·.1))=some 0) (hs:(nZ ps).length<=200000) :
  fV (ps.map (·.1))=some (SB (nZ ps),0):=by
 have hg:=De ps 0 [] h (by simp only [List.length_nil];omega)
 rw [show nums []=[] from rfl,List.nil_append]at hg
 unfold fV
 rw [hc,ob_,bne_self_eq_false,cond_false,eF (by rw [List.length_map];omega),hg,ob_,iH,decide_eq_false (by unfold nums;rw [List.length_map];omega),cond_false,Dt _ (by omega)];rfl
end Go.Proofs.YtigdobmllbakiabGreatDoor.Law

open Go Go.Eng
namespace Go.Proofs.YtigdobmllbakiabGreatDoor.Law
set_option linter.unusedVariables false
set_option linter.unusedSimpArgs false
theorem D6 {m:Nat} {e:Entry} (h:ReadE m e) (hm:m<=1000):oD e :=
 ⟨Nat.le_trans h.key hm,Nat.le_trans h.item hm,by have:=h.dayl;omega,by have:=h.tagl;omega,λt ht=>Nat.le_trans (h.tags t ht) hm⟩
end Go.Proofs.YtigdobmllbakiabGreatDoor.Law

open Go Go.Eng
namespace Go.Proofs.YtigdobmllbakiabGreatDoor.Law
set_option linter.unusedVariables false
set_option linter.unusedSimpArgs false
theorem E5 {α σ ρ:Type} {body:Nat->α->σ->Option (Ctl σ ρ)} (I:Nat->σ->Prop) (xs:List α):∀(l:List α) (k:Nat) (s:σ),xs.drop k=l->k<=xs.length->(∀k x s,xs[k]? = some x->I k s->∃s',body k x s=some (.go s')/\I (k+1) s')->I k s->∃s',forR body l k s=some (.go s')/\I xs.length s'
 | [],k,s,hd,hk,h,hi=>by
  have:=List.drop_eq_nil_iff.1 hd
  obtain rfl:k=xs.length:=by omega
  exact⟨s,rfl,hi⟩
 | x::l,k,s,hd,hk,h,hi=>by
  obtain ⟨s1,h1,h2⟩:=h k x s (yG hd) hi
  obtain ⟨s2,h3,h4⟩:=E5 I xs l (k+1) s1 (bv hd) (by have:=xL hd;omega) h h2
  exact⟨s2,by rw [forR,h1,ob_];exact h3,h4⟩
theorem Fw {α σ ρ:Type} {body:Nat->α->σ->Option (Ctl σ ρ)} (I:Nat->σ->Prop) {xs:List α} {s:σ} (hl:xs.length<=1000000000000) (h:∀k x s,xs[k]? = some x->I k s->∃s',body k x s=some (.go s')/\I (k+1) s') (h0:I 0 s):∃s',forL xs s body=some (.go s')/\I xs.length s':=by
 rw [eF hl]
 exact E5 I xs xs 0 s rfl (Nat.zero_le _) h h0
end Go.Proofs.YtigdobmllbakiabGreatDoor.Law

open Go Go.Eng Go.Proofs
namespace Go.Proofs.YtigdobmllbakiabGreatDoor.Law
set_option linter.unusedVariables false
set_option linter.unusedSimpArgs false
theorem HY {α:Type} {L:Nat->α->(List α×List Int×Int)->Option (Ctl (List α×List Int×Int) Unit)} {n:Int} (hn:1<=n) (hn2:n<=1000)
  (hL:∀k x s,L k x s=(bT (⟨s.2.1,s.2.2⟩:Stream) n).bind λr=>(bif r.1 then (jO s.1 ([x]:List α)).bind λa=>some a else some s.1).bind λv=>some (.go (v,r.2.L,r.2.f_at)))
  {xs:List α} (hl:xs.length<=10) (s:Stream) {b:Int} (hs:Ok s b) (hb:b<=900000) :
  ∃t s',forL xs (([]:List α),s.L,s.f_at) (λk x s=>L k x s)=some (.go (t,s'.L,s'.f_at))/\Ok s' (b+10)/\t.Sublist xs:=by
 obtain ⟨t,t1,t2,t3⟩:=Fw (body:=λk x s=>L k x s) (xs:=xs) (s:=(([]:List α),s.L,s.f_at)) (λk t=>t.1.Sublist (xs.take k)/\Ok ⟨t.2.1,t.2.2⟩ (b+k)) (by omega) (λk x t hx ⟨i1,i2⟩=>by
  have hk:k<xs.length:=(List.getElem?_eq_some_iff.1 hx).1
  have et:xs.take (k+1)=xs.take k++[x]:=by rw [List.take_add_one,hx];rfl
  have hlen:t.1.length<=10:=Nat.le_trans i1.length_le (by rw [List.length_take];omega)
  obtain ⟨f,s1,c1,c2⟩:=mD _ n i2 (by omega) hn hn2
  simp only [hL,c1,ob_]
  cases f with
  | true =>
   simp only [cond_true,iP t.1 [x] (by simp;omega),ob_]
   exact⟨_,rfl,by rw [et];exact i1.append (List.Sublist.refl _),c2.mono (by omega)⟩
  | false =>
   simp only [cond_false,ob_]
   exact⟨_,rfl,by rw [et];exact i1.trans (List.sublist_append_left _ _),c2.mono (by omega)⟩) ⟨List.Sublist.refl _,hs.mono (by simp)⟩
 exact⟨t.1,⟨t.2.1,t.2.2⟩,t1,t3.mono (by omega),by simpa using t2⟩
def keL:List ByteArray:=[(⟨#[101,97]⟩:ByteArray),(⟨#[101,98]⟩:ByteArray),(⟨#[101,99]⟩:ByteArray),(⟨#[101,100]⟩:ByteArray)]
def itL:List ByteArray:=[(⟨#[105,97]⟩:ByteArray),(⟨#[105,98]⟩:ByteArray),(⟨#[105,99]⟩:ByteArray)]
def tgL:List ByteArray:=[(⟨#[99,105,116,121]⟩:ByteArray),(⟨#[109,97,108,108]⟩:ByteArray)]
theorem EK:∀k∈keL,kP k=true/\Nat.ble k.size 1000=true:=by
 intro k hk
 simp only [keL,List.mem_cons,List.not_mem_nil,or_false]at hk
 rcases hk with rfl|rfl|rfl|rfl <;> exact⟨by kernel_rfl,rfl⟩
theorem itL_key:∀k∈itL,kP k=true/\Nat.ble k.size 1000=true:=by
 intro k hk
 simp only [itL,List.mem_cons,List.not_mem_nil,or_false]at hk
 rcases hk with rfl|rfl|rfl <;> exact⟨by kernel_rfl,rfl⟩
theorem IQ:keL.Pairwise lt:=by
 have h:∀a b:ByteArray,sLt a b=true->lt a b:=λa b=>(BF a b).1
 unfold keL
 refine .cons (λx hx => ?_) (.cons (λx hx => ?_) (.cons (λx hx => ?_) (.cons (λx hx=>(by cases hx)) .nil)))
 all_goals
  simp only [List.mem_cons,List.not_mem_nil,or_false]at hx
 ·rcases hx with rfl|rfl|rfl <;> exact h _ _ (by kernel_rfl)
 ·rcases hx with rfl|rfl <;> exact h _ _ (by kernel_rfl)
 ·rcases hx with rfl;exact h _ _ (by kernel_rfl)
theorem ex_0 {t:List Int} (h:t.Sublist [1,2,8]):exF t=0:=by
 cases h with
 | cons _ h=>cases h with
  | cons _ h=>cases h with
   | cons _ h=>cases h;rfl
   | cons_cons _ h=>cases h;rfl
  | cons_cons _ h=>cases h with
   | cons _ h=>cases h;rfl
   | cons_cons _ h=>cases h;rfl
 | cons_cons _ h=>cases h with
  | cons _ h=>cases h with
   | cons _ h=>cases h;rfl
   | cons_cons _ h=>cases h;rfl
  | cons_cons _ h=>cases h with
   | cons _ h=>cases h;rfl
   | cons_cons _ h=>cases h;rfl
theorem tg_0 {t:List ByteArray} (h:t.Sublist tgL):yH t=0:=by
 cases h with
 | cons _ h=>cases h with
  | cons _ h=>cases h;kernel_rfl
  | cons_cons _ h=>cases h;kernel_rfl
 | cons_cons _ h=>cases h with
  | cons _ h=>cases h;kernel_rfl
  | cons_cons _ h=>cases h;kernel_rfl
theorem Il {t:List ByteArray} (h:t.Sublist tgL):t.length<=2/\∀x∈t,nO x:=by
 refine⟨h.length_le,λx hx => ?_⟩
 have:=h.subset hx
 simp only [tgL,List.mem_cons,List.not_mem_nil,or_false]at this
 rcases this with rfl|rfl <;> exact gm rfl
theorem Aw:∀(l:List Entry) (last:ByteArray),(∀e∈l,oq e=0/\lt last e.Key)->l.Pairwise (λa b=>lt a.Key b.Key)->chk (λe:Entry=>e.Key) nC last l=0
 | [],_,_,_=>rfl
 | x::xs,last,h,hp=>by
  obtain ⟨h1,h2⟩:=h x List.mem_cons_self
  have hs:sLe x.Key last=false:=by
   cases hs:sLe x.Key last with
   | false=>rfl
   | true=>exact absurd h2 ((uq _ _).1 hs)
  have h0:nC last x=0:=by
   unfold nC
   rw [h1,hs];rfl
  unfold chk
  rw [h0]
  obtain ⟨p1,p2⟩:=List.pairwise_cons.1 hp
  exact Aw xs x.Key (λe he=>⟨(h e (List.mem_cons_of_mem _ he)).1,p1 e he⟩) p2
theorem nil_lt {k:ByteArray} (h:kP k=true):lt xy k:=by
 rcases En xy k with q|q|q
 ·exact q
 ·exact absurd (by rw [<- q];rfl) (uJ h)
 ·have:=(uq k xy).2 (λq2=>wC _ (lt_trans q q2))
  have e:sLe k xy=decide (k.size=0):=Fb k
  rw [e]at this
  exact absurd (of_decide_eq_true this) (uJ h)
theorem tL {l:List Int} {x lo hi:Int} (h:x∈l) (hb:(l.all λy=>decide (lo<=y)&&decide (y<=hi))=true):lo<=x/\x<=hi:=by
 have:=List.all_eq_true.1 hb x h
 simpa using this
theorem tT {n lo hi:Int} (h:lo<=n/\n<=hi):iB n lo hi=false:=outB_in h
structure TinyE (e:Entry):Prop where
 key:e.Key∈keL
 item:e.Item∈itL
 nums:∀n ∈ [e.Version,e.First,e.Last,e.Every,e.Days,e.From,e.To,e.Prio],0<=n/\n<10000
 days:e.Except.Sublist [1,2,8]
 tags:e.Tags.Sublist tgL
theorem rightE (s:Stream) {b:Int} (hs:Ok s b) (hb:b<=800000):∃xs s',bC s=some (xs,s')/\Ok s' (b+200)/\xs.length<=4/\(∀x∈xs,oD x/\TinyE x)/\qc xs=0:=by
 unfold bC
 obtain ⟨s',h1,h2,h3,h4⟩:=Fw (body:=λk x s=>bf k x s) (λk s=>Ok ⟨s.2.1,s.2.2⟩ (b+40*k)/\(s.1.map (·.Key)).Sublist (keL.take k)/\∀x∈s.1,(oD x/\TinyE x)/\oq x=0)
  (xs:=keL) (s:=(([]:List Entry),s.L,s.f_at)) (by decide) (λk x t hx ⟨i1,i2,i3⟩=>by
   have hk5:k<4:=(List.getElem?_eq_some_iff.1 hx).1
   have hxm:=EK x (List.mem_of_getElem? hx)
   have et:keL.take (k+1)=keL.take k++[x]:=by rw [List.take_add_one,hx];rfl
   have hlen:t.1.length<=4:=by
    have:=i2.length_le
    rw [List.length_map,List.length_take]at this
    have h4:keL.length=4:=rfl
    omega
   obtain ⟨c,s1,k1,k2⟩:=mD _ 4 i1 (by omega) (by decide) (by decide)
   simp only [bf,k1,ob_]
   cases c with
   | true=>exact⟨_,rfl,k2.mono (by omega),by rw [et];exact i2.trans (List.sublist_append_left _ _),i3⟩
   | false =>
    obtain ⟨it,s2,a1,ai,a2⟩:=rP s1 [(⟨#[105,97]⟩:ByteArray),(⟨#[105,98]⟩:ByteArray),(⟨#[105,99]⟩:ByteArray)] k2 (by omega) (by simp) (by simp)
    obtain ⟨v,s3,a3,v1,v2,a4⟩:=zw s2 0 2 a2 (by omega) (by decide) (by decide) (by decide)
    obtain ⟨p1,s4,m1,q1,n1⟩:=iC s3 [0,0,1,3] a4 (by omega) (by simp) (by simp)
    obtain ⟨p2,s5,m2,q2,n2⟩:=iC s4 [1,1,2,3,7] n1 (by omega) (by simp) (by simp)
    obtain ⟨p3,s6,m3,q3,n3⟩:=iC s5 [127,127,31,96,1,2] n2 (by omega) (by simp) (by simp)
    obtain ⟨p4,s7,m4,q4,n4⟩:=iC s6 [0,0,60,600,1380] n3 (by omega) (by simp) (by simp)
    obtain ⟨p5,s8,m5,q5,n5⟩:=iC s7 [0,60,120,600,720,1439] n4 (by omega) (by simp) (by simp)
    obtain ⟨p6,s9,m6,q6,n6⟩:=iC s8 [0,0,1,5] n5 (by omega) (by simp) (by simp)
    obtain ⟨g,s10,m7,n7⟩:=mD s9 8 n6 (by omega) (by decide) (by decide)
    obtain ⟨p7,s11,m8,q8,n8⟩:=iC s10 [0,1,5,10,30] n7 (by omega) (by simp) (by simp)
    obtain ⟨ex,s12,m9,n9,l9⟩:=HY (L:=bN) (n:=4) (by decide) (by decide) (λ_ _ _=>rfl) (xs:=[1,2,8]) (by simp) s11 n8 (by omega)
    obtain ⟨tg,s13,m10,n10,l10⟩:=HY (L:=bP) (n:=4) (by decide) (by decide) (λ_ _ _=>rfl) (xs:=[(⟨#[99,105,116,121]⟩:ByteArray),(⟨#[109,97,108,108]⟩:ByteArray)]) (by simp) s12 n9 (by omega)
    simp only [cond_false,a1,a3,m1,m2,m3,m4,m5,m6,m7,m8,m9,m10,ob_,iH,iP t.1 _ (show t.1.length+[_].length<=_ by simp;omega)]
    have b1:=tL (lo:=0) (hi:=3) q1 rfl
    have b2:=tL (lo:=1) (hi:=7) q2 rfl
    have b3:=tL (lo:=1) (hi:=127) q3 rfl
    have b4:=tL (lo:=0) (hi:=1380) q4 rfl
    have b5:=tL (lo:=0) (hi:=1439) q5 rfl
    have b6:=tL (lo:=0) (hi:=5) q6 rfl
    have b8:=tL (lo:=0) (hi:=30) q8 rfl
    clear q1 q2 q3 q4 q5 q6 q8
    have hit:=itL_key it ai
    obtain ⟨t1,t2⟩:=Il l10
    have hel:ex.length<=3:=l9.length_le
    have hw:w64 (p1+p7)=p1+p7:=jb (by omega)
    refine⟨_,rfl,n10.mono (by omega),by rw [List.map_append,et];exact i2.append (List.Sublist.refl _),λy hy => ?_⟩
    rcases List.mem_append.1 hy with hy|hy
    ·exact i3 y hy
    ·rw [List.mem_singleton.1 hy]
     refine⟨⟨⟨gm hxm.2,gm hit.2,by show ex.length<=2000;omega,by show tg.length<=2000;omega,t2⟩,⟨List.mem_of_getElem? hx,ai,λn hn => ?_,l9,l10⟩⟩,?_⟩
     ·simp only [List.mem_cons,List.not_mem_nil,or_false,hw]at hn
      rcases hn with rfl|rfl|rfl|rfl|rfl|rfl|rfl|rfl <;> omega
     unfold oq
     simp only [hxm.1,hit.1,hw,ex_0 l9,tg_0 l10]
     rw [tT (n:=v) (by omega),tT (n:=p1) (by omega),decide_eq_false (by omega),tT (n:=p2) (by omega),tT (n:=p3) (by omega),tT (n:=p4) (by omega),tT (n:=p5) (by omega),tT (n:=p6) (by omega)];rfl) ⟨by simpa using hs,List.Sublist.refl _,by simp⟩
 have h1':forL ([(⟨#[101,97]⟩:ByteArray),(⟨#[101,98]⟩:ByteArray),(⟨#[101,99]⟩:ByteArray),(⟨#[101,100]⟩:ByteArray)]:List ByteArray) (([]:List Entry),s.L,s.f_at) (λk x s=>bf k x s)=some (.go s'):=h1
 rw [h1']
 have h3':(s'.1.map (·.Key)).Sublist keL:=by rw [List.take_length]at h3;exact h3
 refine⟨s'.1,⟨s'.2.1,s'.2.2⟩,rfl,h2.mono (by show b+40*((4:Nat):Int)<=b+200;omega),by have:=h3'.length_le;rw [List.length_map]at this;exact this,λx hx=>(h4 x hx).1,?_⟩
 have hr:=IQ.sublist h3'
 rw [List.pairwise_map]at hr
 exact Aw s'.1 xy (λe he=>⟨(h4 e he).2,nil_lt (EK _ (h3'.subset (List.mem_map.2 ⟨e,he,rfl⟩))).1⟩) hr
end Go.Proofs.YtigdobmllbakiabGreatDoor.Law

