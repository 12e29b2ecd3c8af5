/-
  THE PLAIN LAW (part 4).
-/
import Derived.Test.YtekmkepojbhafacGreatDoorPl3
open Go Go.Eng Go.Flow
namespace Go.Proofs.YtekmkepojbhafacGreatDoor.Law
set_option linter.unusedVariables false
set_option linter.unusedSimpArgs false
set_option linter.unusedSectionVars false
section
variable {spots:List Spot} {l:List Campaign}
theorem mostK (h:Office spots l):∃v,jL spots l=some v/\0<=v/\sG (netOf spots l) v:=by
 obtain ⟨rows,e1,q1,n1,v,rows',e2,s2,q2,f2,v0,hv⟩:=JL h
 refine⟨v,?_,v0,hv⟩
 unfold jL
 simp only [e1,ob_,n1,rH rfl,e2,s2]
end
end Go.Proofs.YtekmkepojbhafacGreatDoor.Law

open Go Go.Eng Go.Flow
namespace Go.Proofs.YtekmkepojbhafacGreatDoor.Law
set_option linter.unusedVariables false
set_option linter.unusedSimpArgs false
set_option linter.unusedSectionVars false
theorem Hw (l:List Campaign) (f:Campaign->Option Bool) (p:Campaign->Bool) (hf:∀x∈l,f x=some (p x)) (hl:l.length<=1000000):bz l f=some (l.any p):=by
 have run:∀(xs:List Campaign) (k:Nat),(∀x∈xs,f x=some (p x))->∃o,forR (λk x s=>bu f k x s) xs k ()=some o/\∃r:Int,thenC o (λ_=>some (-1)) (λr=>some r)=some r/\decide (r>=0)=xs.any p:=by
  intro xs
  induction xs with
  | nil=>exact λk _=>⟨.go (),rfl,-1,rfl,by simp⟩
  | cons x xs ih =>
   intro k hf
   have hst:bu f k x ()=some (bif p x then .ret (k:Int)else .go ()):=by
    simp only [bu,hf x (by simp),ob_];cases p x <;> rfl
   rw [forR,hst,ob_]
   cases hp:p x with
   | true=>exact⟨_,rfl,_,rfl,by simp [hp]⟩
   | false =>
    simp only [cond_false]
    obtain ⟨o,h1,r,h2,h3⟩:=ih (k+1) (λy hy=>hf y (by simp [hy]))
    exact⟨o,h1,r,h2,by rw [h3];simp [hp]⟩
 obtain ⟨o,h1,r,h2,h3⟩:=run l 0 hf
 unfold bz dh
 rw [oV (by omega),h1,ob_,h2,ob_,h3]
theorem Hz (l:List Spot) (f:Spot->Option Bool) (p:Spot->Bool) (hf:∀x∈l,f x=some (p x)) (hl:l.length<=1000000):bO l f=some (l.any p):=by
 have run:∀(xs:List Spot) (k:Nat),(∀x∈xs,f x=some (p x))->∃o,forR (λk x s=>bP f k x s) xs k ()=some o/\∃r:Int,thenC o (λ_=>some (-1)) (λr=>some r)=some r/\decide (r>=0)=xs.any p:=by
  intro xs
  induction xs with
  | nil=>exact λk _=>⟨.go (),rfl,-1,rfl,by simp⟩
  | cons x xs ih =>
   intro k hf
   have hst:bP f k x ()=some (bif p x then .ret (k:Int)else .go ()):=by
    simp only [bP,hf x (by simp),ob_];cases p x <;> rfl
   rw [forR,hst,ob_]
   cases hp:p x with
   | true=>exact⟨_,rfl,_,rfl,by simp [hp]⟩
   | false =>
    simp only [cond_false]
    obtain ⟨o,h1,r,h2,h3⟩:=ih (k+1) (λy hy=>hf y (by simp [hy]))
    exact⟨o,h1,r,h2,by rw [h3];simp [hp]⟩
 obtain ⟨o,h1,r,h2,h3⟩:=run l 0 hf
 unfold bO dL
 rw [oV (by omega),h1,ob_,h2,ob_,h3]
section
variable {spots:List Spot} {l:List Campaign}
end
end Go.Proofs.YtekmkepojbhafacGreatDoor.Law

open Go Go.Eng Go.Flow
namespace Go.Proofs.YtekmkepojbhafacGreatDoor.Law
set_option linter.unusedVariables false
set_option linter.unusedSimpArgs false
set_option linter.unusedSectionVars false
section
variable {spots:List Spot} {l:List Campaign}
theorem canK (h:Office spots l) (hb:dz spots l=some 0) {v:Int} (hv:jL spots l=some v):qp spots l=some (v==(netOf spots l).goals,0):=by
 unfold qp
 simp only [hb,ob_,bne_self_eq_false,cond_false,hv,MM h.cr (by have:=h.ln;omega) spots]
end
end Go.Proofs.YtekmkepojbhafacGreatDoor.Law

open Go Go.Eng
namespace Go.Proofs.YtekmkepojbhafacGreatDoor.Law
set_option linter.unusedVariables false
set_option linter.unusedSimpArgs false
def mf {α:Type} (key:α->ByteArray) (l:List α):Prop:=∀i j (hi:i<l.length) (hj:j<l.length),i<j->lt (key l[i]) (key l[j])
theorem zt {α:Type} {key:α->ByteArray} {stp:ByteArray->α->Int} (hs:∀last x,stp last x=0->lt last (key x)):∀(l:List α) (last:ByteArray),chk key stp last l=0->mf key l/\∀x∈l,lt last (key x)
 | [],last,h=>⟨λi j hi=>absurd hi (Nat.not_lt_zero i),by simp⟩
 | x::xs,last,h=>by
  rw [chk]at h
  cases he:stp last x==0 with
  | false=>rw [he]at h;simp only [cond_false]at h;rw [h]at he;cases he
  | true =>
   rw [he]at h
   simp only [cond_true]at h
   obtain ⟨h1,h2⟩:=zt hs xs (key x) h
   have hx:lt last (key x):=hs last x (eq_of_beq he)
   refine⟨λi j hi hj hij => ?_,λy hy => ?_⟩
   ·cases i with
    | zero=>cases j with
     | zero=>omega
     | succ j=>exact h2 _ (List.getElem_mem _)
    | succ i=>cases j with
     | zero=>omega
     | succ j=>exact h1 i j (by simpa using hi) (by simpa using hj) (by omega)
   ·rcases List.mem_cons.1 hy with rfl|hy
    ·exact hx
    ·exact lt_trans hx (h2 y hy)
theorem spot_lt (last:ByteArray) (x:Spot) (h:fP last x=0):lt last x.Key:=by
 unfold fP at h
 cases hl:sLe x.Key last with
 | true =>
  rw [hl]at h
  generalize nP x.Key=k at h
  cases k <;> cases h
 | false=>exact Classical.not_not.1 (mt (yA x.Key last).2 (by rw [hl];simp))
theorem camp_lt (last:ByteArray) (x:Campaign) (h:iy last x=0):lt last x.Key:=by
 unfold iy at h
 cases hl:sLe x.Key last with
 | true =>
  rw [hl]at h
  cases hq:(!nP x.Key||decide (x.Class.size≠0) && !nP x.Class)with
  | true=>rw [hq]at h;cases h
  | false=>rw [hq]at h;cases h
 | false=>exact Classical.not_not.1 (mt (yA x.Key last).2 (by rw [hl];simp))
theorem EU {l:List Spot} (h:lU l=0):mf Spot.Key l/\l.length<=60:=by
 unfold lU at h
 by_cases hl:l.length>60
 ·rw [decide_eq_true hl]at h;cases h
 ·rw [decide_eq_false hl]at h;exact⟨(zt spot_lt l nA h).1,by omega⟩
theorem Fq {l:List Campaign} (h:qX l=0):mf Campaign.Key l/\l.length<=30:=by
 unfold qX at h
 by_cases hl:l.length>30
 ·rw [decide_eq_true hl]at h;cases h
 ·rw [decide_eq_false hl]at h;exact⟨(zt camp_lt l nA h).1,by omega⟩
def oC {α:Type} (key:α->ByteArray) (t:ByteArray):List α->Option Nat
 | []=>none
 | x::xs=>if key x=t then some 0 else (oC key t xs).map (· + 1)
theorem oh {α:Type} {key:α->ByteArray} {t:ByteArray}:∀{l:List α} {j:Nat},oC key t l=some j->∃h:j<l.length,key l[j]=t
 | x::xs,j,h=>by
  simp only [oC]at h
  split at h
  ·rename_i he
   simp only [so_]at h;subst h
   exact⟨by simp,he⟩
  ·simp only [Option.map_eq_some_iff]at h
   obtain ⟨i,hi,rfl⟩:=h
   obtain ⟨h1,h2⟩:=oh hi
   exact⟨by simpa using h1,by simpa using h2⟩
theorem zx {α:Type} {key:α->ByteArray} {t:ByteArray}:∀{l:List α},oC key t l=none->∀x∈l,key x≠t
 | [],_=>λx hx=>by cases hx
 | x::xs,h=>by
  simp only [oC]at h
  split at h
  ·cases h
  ·rename_i he
   simp only [Option.map_eq_none_iff]at h
   intro y hy
   rcases List.mem_cons.1 hy with rfl|hy
   ·exact he
   ·exact zx h y hy
theorem zo {α:Type} {key:α->ByteArray} {l:List α} (h:mf key l) {i j:Nat} (hi:i<l.length) (hj:j<l.length) (he:key l[i]=key l[j]):i=j:=by
 rcases Nat.lt_trichotomy i j with hlt|heq|hgt
 ·have:=h i j hi hj hlt;rw [he]at this;exact absurd this (pz _)
 ·exact heq
 ·have:=h j i hj hi hgt;rw [he]at this;exact absurd this (pz _)
theorem NA (a b:ByteArray):(lt a b/\CW a b = -1)\/(a=b/\CW a b=0)\/(lt b a/\CW a b=1):=by
 have key:∀(x y:List UInt8),(x<y/\Lib.compareBytes x y = -1)\/(x=y/\Lib.compareBytes x y=0)\/(y<x/\Lib.compareBytes x y=1):=by
  intro x
  induction x with
  | nil=>intro y;cases y with
   | nil=>exact .inr (.inl ⟨rfl,rfl⟩)
   | cons b y=>exact .inl ⟨by simp,rfl⟩
  | cons a x ih=>intro y;cases y with
   | nil=>exact .inr (.inr ⟨by simp,rfl⟩)
   | cons b y =>
    simp only [Lib.compareBytes,List.cons_lt_cons_iff,List.cons.injEq]
    by_cases h1:a<b
    ·exact .inl ⟨.inl h1,by rw [if_pos h1]⟩
    ·by_cases h2:b<a
     ·exact .inr (.inr ⟨.inl h2,by rw [if_neg h1,if_pos h2]⟩)
     ·have e:a=b:=UInt8.le_antisymm (UInt8.not_lt.1 h2) (UInt8.not_lt.1 h1)
      subst e
      rw [if_neg h1,if_neg h1]
      rcases ih y with⟨h,k⟩|⟨h,k⟩|⟨h,k⟩
      ·exact .inl ⟨.inr ⟨rfl,h⟩,k⟩
      ·exact .inr (.inl ⟨⟨rfl,h⟩,k⟩)
      ·exact .inr (.inr ⟨.inr ⟨rfl,h⟩,k⟩)
 unfold CW lt
 rw [toL,toL]
 rcases key a.data.toList b.data.toList with⟨h,k⟩|⟨h,k⟩|⟨h,k⟩
 ·exact .inl ⟨h,k⟩
 ·exact .inr (.inl ⟨Db (by rw [toL,toL];exact h),k⟩)
 ·exact .inr (.inr ⟨h,k⟩)
def vJ {α:Type} (x:List α) (cmp:α->ByteArray->Option Int) (t:ByteArray) (s:Int×Int):Option (Ctl (Int×Int) Unit) :=
 bif (decide (s.1<s.2))then (CL .u64 (IntKind.u64.wrap (w64 (s.1+s.2))) 1).bind λq=>(idx x (w64 q)).bind λy=>(cmp y t).bind λr=>bif (decide (r<0))then some (.go ((w64 ((w64 q)+1)),s.2))else some (.go (s.1,(w64 q)))else some (.brk (s.1,s.2))
noncomputable def bsfF {α:Type} (x:List α) (t:ByteArray) (cmp:α->ByteArray->Option Int):Option (Int×Bool) :=
 (iJ (0,(x.length:Int)) (λs=>vJ x cmp t s)).bind λo=>thenC o (λs_9=>(bif (decide (s_9.1<(x.length:Int)))then (idx x s_9.1).bind λy_25=>(cmp y_25 t).bind λr_27=>some (r_27==0)else some false).bind λv_22=>some (s_9.1,v_22)) (λ_=>none)
structure EndsK {α:Type} (key:α->ByteArray) (l:List α) (t:ByteArray) (i j:Nat):Prop where
 le:i<=j
 len:j<=l.length
 lo:∀k (h:k<l.length),k<i->lt (key l[k]) t
 hi:∀k (h:k<l.length),j<=k->¬lt (key l[k]) t
section
variable {α:Type} {key:α->ByteArray} {cmp:α->ByteArray->Option Int}
theorem L8 (hc:∀y t,cmp y t=some (CW (key y) t)) (y:α) (t:ByteArray):∃r,cmp y t=some r/\(r<0↔lt (key y) t)/\(r=0↔key y=t):=by
 refine⟨_,hc y t,?_⟩
 rcases NA (key y) t with⟨h,k⟩|⟨h,k⟩|⟨h,k⟩
 ·rw [k];exact⟨by simp [h],⟨λh'=>(by cases h'),λe=>absurd (e ▸ h) (pz _)⟩⟩
 ·rw [k];exact⟨⟨λh'=>(by cases h'),λh'=>absurd (h ▸ h') (pz _)⟩,by simp [h]⟩
 ·rw [k];exact⟨⟨λh'=>(by cases h'),λh'=>absurd (lt_trans h h') (pz _)⟩,⟨λh'=>(by cases h'),λe=>absurd (e ▸ h) (pz _)⟩⟩
theorem E9 (hc:∀y t,cmp y t=some (CW (key y) t)) (l:List α) (t:ByteArray) (hr:mf key l) (hl:l.length<=1000):∀(d i j:Nat),j-i<=d->EndsK key l t i j->∃m:Nat,iterN (λs=>vJ l cmp t s) (d+1) ((i:Int),(j:Int))=some (.go ((m:Int),(m:Int)))/\EndsK key l t m m
 | d,i,j,hd,he=>by
  have hlen:=he.len
  have hle:=he.le
  by_cases hij:i<j
  ·have hm:(i+j) / 2<l.length:=by omega
   obtain ⟨r,hr1,hr2,_⟩:=L8 hc l[(i+j) / 2] t
   have e1:decide ((i:Int)<(j:Int))=true:=by simp;omega
   have ew:w64 (((i+j) / 2:Nat):Int)=(((i+j) / 2:Nat):Int):=gp (by omega)
   have ew2:w64 ((((i+j) / 2:Nat):Int)+1)=(((i+j) / 2+1:Nat):Int):=by rw [gp (by omega)];omega
   have hst:vJ l cmp t ((i:Int),(j:Int))=some (bif decide (r<0)then .go ((((i+j) / 2+1:Nat):Int),(j:Int))else .go ((i:Int),(((i+j) / 2:Nat):Int))):=by
    simp only [vJ,e1,cond_true,half i j (by omega),ob_,ew,ew2,tT,List.getElem?_eq_getElem hm,hr1]
    cases decide (r<0) <;> rfl
   rw [iterN,hst,ob_]
   cases d with
   | zero=>omega
   | succ d =>
    by_cases hneg:r<0
    ·have hlt:=hr2.1 hneg
     simp only [decide_eq_true hneg,cond_true]
     refine E9 hc l t hr hl d ((i+j) / 2+1) j (by omega) ⟨by omega,hlen,λk hk hki => ?_,he.hi⟩
     rcases Nat.lt_or_ge k ((i+j) / 2)with h|h
     ·exact lt_trans (hr k _ hk hm h) hlt
     ·have:k=(i+j) / 2:=by omega
      subst this;exact hlt
    ·have hlt:=mt hr2.2 hneg
     simp only [decide_eq_false hneg,cond_false]
     refine E9 hc l t hr hl d i ((i+j) / 2) (by omega) ⟨by omega,by omega,he.lo,λk hk hki => ?_⟩
     rcases Nat.lt_or_ge ((i+j) / 2) k with h|h
     ·exact λhx=>hlt (lt_trans (hr _ k hm hk h) hx)
     ·have:k=(i+j) / 2:=by omega
      subst this;exact hlt
  ·have e1:decide ((i:Int)<(j:Int))=false:=by simp;omega
   have:i=j:=by omega
   subst this
   have hst:vJ l cmp t ((i:Int),(i:Int))=some (.brk ((i:Int),(i:Int))):=by simp only [vJ,e1,cond_false]
   rw [iterN,hst,ob_]
   exact⟨i,rfl,he⟩
theorem O5 (hc:∀y t,cmp y t=some (CW (key y) t)) (l:List α) (t:ByteArray) (hr:mf key l) (hl:l.length<=1000):∃i:Int,bsfF l t cmp=some (i,(oC key t l).isSome)/\∀j,oC key t l=some j->i=(j:Int):=by
 obtain ⟨m,h1,h2⟩:=E9 hc l t hr hl l.length 0 l.length (by omega) ⟨by omega,Nat.le_refl _,λk _ h=>absurd h (Nat.not_lt_zero k),λk hk h=>absurd h (by omega)⟩
 have h3:=nX h1
 have h4:iJ ((0:Int),(l.length:Int)) (λs=>vJ l cmp t s)=some (Ctl.go ((m:Int),(m:Int))):=h3
 have hat:∀j,oC key t l=some j->m=j:=by
  intro j hj
  obtain ⟨hjl,hje⟩:=oh hj
  have hk1:¬j<m:=λh=>by have:=h2.lo j hjl h;rw [hje]at this;exact pz _ this
  rcases Nat.lt_or_ge m j with h|h
  ·have h5:=hr m j (by omega) hjl h
   rw [hje]at h5
   exact absurd h5 (h2.hi m (by omega) (Nat.le_refl _))
  ·omega
 refine⟨m,?_,λj hj=>by rw [hat j hj]⟩
 unfold bsfF
 rw [h4,ob_,lh]
 by_cases hml:m<l.length
 ·have e1:decide ((m:Int)<(l.length:Int))=true:=by simp;omega
  obtain ⟨r,hr1,_,hr3⟩:=L8 hc l[m] t
  simp only [e1,cond_true,tT,List.getElem?_eq_getElem hml,ob_,hr1]
  congr 2
  rw [Bool.eq_iff_iff,beq_iff_eq,hr3]
  constructor
  ·intro he
   cases hf:oC key t l with
   | none=>exact absurd he (zx hf _ (List.getElem_mem hml))
   | some j=>rfl
  ·intro hs
   obtain ⟨j,hj⟩:=Option.isSome_iff_exists.1 hs
   obtain ⟨hjl,hje⟩:=oh hj
   have:=hat j hj
   subst this;exact hje
 ·have e1:decide ((m:Int)<(l.length:Int))=false:=by simp;omega
  simp only [e1,cond_false,ob_]
  cases hf:oC key t l with
  | none=>rfl
  | some j=>have:=hat j hf;obtain ⟨hjl,_⟩:=oh hf;omega
end
end Go.Proofs.YtekmkepojbhafacGreatDoor.Law

open Go Go.Eng
namespace Go.Proofs.YtekmkepojbhafacGreatDoor.Law
set_option linter.unusedVariables false
set_option linter.unusedSimpArgs false
theorem Nw (l:List Campaign) (t:ByteArray) (hr:mf Campaign.Key l) (hl:l.length<=1000):∃i:Int,mg l t=some (i,(oC Campaign.Key t l).isSome)/\∀j,oC Campaign.Key t l=some j->i=(j:Int):=by
 obtain ⟨i,h1,h2⟩:=O5 (key:=Campaign.Key) (cmp:=λx0 x1=>kE x0 x1) (λ_ _=>rfl) l t hr hl
 refine⟨i,?_,h2⟩
 have h3:bG l t (λx0 x1=>kE x0 x1)=_:=h1
 unfold mg
 rw [h3,ob_]
theorem Nn (l:List Spot) (t:ByteArray) (hr:mf Spot.Key l) (hl:l.length<=1000):∃i:Int,mr l t=some (i,(oC Spot.Key t l).isSome)/\∀j,oC Spot.Key t l=some j->i=(j:Int):=by
 obtain ⟨i,h1,h2⟩:=O5 (key:=Spot.Key) (cmp:=λx0 x1=>j3 x0 x1) (λ_ _=>rfl) l t hr hl
 refine⟨i,?_,h2⟩
 have h3:bU l t (λx0 x1=>j3 x0 x1)=_:=h1
 unfold mr
 rw [h3,ob_]
theorem out1_eq (n hi:Int):aR n 1 hi=some (decide (n<1)||decide (n>hi)):=by
 unfold aR
 cases decide (n<1) <;> cases decide (n>hi) <;> rfl
def x8 (a b x y:ByteArray):Bool:=sLt x a||(sEq x a&&sLe y b)
def yu (s:List Share) (k:Nat) (x:Share):Bool:=if k=0 then false else match s[k-1]? with | some y=>x8 y.Campaign y.Spot x.Campaign x.Spot | none=>false
def zD (xs:List Spot) (cs:List Campaign) (s:List Share) (k:Nat) (x:Share):Int :=
 match oC Campaign.Key x.Campaign cs,oC Spot.Key x.Spot xs with
 | some i,some j=>match cs[i]?,xs[j]? with
  | some c,some y=>bif !xk c y then 16 else bif decide (x.Many<1)||decide (x.Many>c.Most)then 1 else bif yu s k x then 7 else 0
  | _,_=>8
 | _,_=>8
theorem shareK (xs:List Spot) (cs:List Campaign) (s:List Share) (k:Nat) (x:Share) (hx:s[k]? = some x) (hl:s.length<=1000000) (h1:lU xs=0) (h2:qX cs=0) (hc:∀y∈cs,Ct y) :
  jh xs cs s (k:Int)=some (zD xs cs s k x):=by
 obtain ⟨r1,l1⟩:=EU h1
 obtain ⟨r2,l2⟩:=Fq h2
 obtain ⟨ci,c1,c2⟩:=Nw cs x.Campaign r2 (by omega)
 obtain ⟨si,s1,s2⟩:=Nn xs x.Spot r1 (by omega)
 unfold jh zD
 simp only [tT,hx,ob_,c1,s1]
 cases hf1:oC Campaign.Key x.Campaign cs with
 | none=>rfl
 | some i =>
  cases hf2:oC Spot.Key x.Spot xs with
  | none=>rfl
  | some j =>
   obtain ⟨hi,_⟩:=oh hf1
   obtain ⟨hj,_⟩:=oh hf2
   rw [c2 i hf1,s2 j hf2]
   simp only [Option.isSome_some,Bool.not_true,cond_false,ob_,tT,List.getElem?_eq_getElem hi,List.getElem?_eq_getElem hj,
    KE cs[i] xs[j] (by have:=(hc _ (List.getElem_mem hi)).2.2.1;omega) (JM h1 _ (List.getElem_mem hj)),out1_eq]
   cases xk cs[i] xs[j]with
   | false=>rfl
   | true =>
    simp only [Bool.not_true,cond_false]
    cases (decide (x.Many<1)||decide (x.Many>cs[i].Most))with
    | true=>rfl
    | false =>
     simp only [cond_false]
     have hbeh:(bif (decide ((k:Int)>0))then (idx s (w64 ((k:Int)-1))).bind λy_31=>bif (sLt x.Campaign y_31.Campaign)then some true else (idx s (w64 ((k:Int)-1))).bind λy_34=>bif (sEq x.Campaign y_34.Campaign)then (idx s (w64 ((k:Int)-1))).bind λy_37=>some (sLe x.Spot y_37.Spot)else some false else some false)=some (yu s k x):=by
      by_cases hk:0<k
      ·obtain ⟨y,g1,g2⟩:=Kc hx hk (by omega)
       have hd:decide ((k:Int)>0)=true:=by simp;omega
       simp only [hd,cond_true,g1,ob_,yu,if_neg (show ¬k=0 by omega),g2,x8]
       cases sLt x.Campaign y.Campaign <;> cases sEq x.Campaign y.Campaign <;> simp
      ·have hk0:k=0:=by omega
       subst hk0;rfl
     rw [hbeh,ob_]
     cases yu s k x <;> rfl
theorem stepK (xs:List Spot) (cs:List Campaign) (s:List Share) (k:Nat) (x:Share) (u:List (ByteArray×Int)×List (ByteArray×Int)) (hx:s[k]? = some x) (hl:s.length<=1000000) (h1:lU xs=0) (h2:qX cs=0) (hc:∀y∈cs,Ct y) :
  eF xs cs s k x u=some (bif zD xs cs s k x != 0 then .ret (zD xs cs s k x)else .go ((vz eqS u.1 x.Spot (w64 (((iM eqS u.1 x.Spot).getD 0)+x.Many))),(vz eqS u.2 x.Campaign (w64 (((iM eqS u.2 x.Campaign).getD 0)+x.Many))))):=by
 unfold eF
 rw [shareK xs cs s k x hx hl h1 h2 hc,ob_]
 cases (zD xs cs s k x != 0) <;> rfl
end Go.Proofs.YtekmkepojbhafacGreatDoor.Law

open Go Go.Eng
namespace Go.Proofs.YtekmkepojbhafacGreatDoor.Law
set_option linter.unusedVariables false
set_option linter.unusedSimpArgs false
section
variable {K T:Type} {eq:K->K->Bool}
theorem xY (e:K×T) (es:List (K×T)) (k:K):iM eq (e::es) k=if eq k e.1=true then some e.2 else iM eq es k:=by
 unfold iM
 rw [BQ]
 by_cases h:eq k e.1=true
 ·rw [if_pos h,if_pos h];rfl
 ·rw [if_neg h,if_neg h]
  cases BQ eq k es with
  | none=>rfl
  | some j=>rfl
theorem Pp (k:K) (v:T):vz eq ([]:List (K×T)) k v=[(k,v)]:=rfl
theorem Nv (e:K×T) (es:List (K×T)) (k:K) (v:T):vz eq (e::es) k v=if eq k e.1=true then (k,v)::es else e::vz eq es k v:=by
 unfold vz
 rw [BQ]
 by_cases h:eq k e.1=true
 ·rw [if_pos h,if_pos h];rfl
 ·rw [if_neg h,if_neg h]
  cases BQ eq k es with
  | none=>rfl
  | some j=>rfl
theorem BX (he:∀a b,eq a b=true↔a=b) (k k':K) (v:T):∀es:List (K×T),iM eq (vz eq es k v) k'=if eq k' k=true then some v else iM eq es k'
 | []=>by rw [Pp,xY]
 | e::es=>by
  rw [Nv,xY]
  by_cases h:eq k e.1=true
  ·rw [if_pos h,xY]
   have h1:=(he _ _).1 h
   rw [<- h1]
   by_cases h2:eq k' k=true
   ·rw [if_pos h2,if_pos h2]
   ·rw [if_neg h2,if_neg h2,if_neg h2]
  ·rw [if_neg h,xY,BX he k k' v es]
   by_cases h2:eq k' e.1=true
   ·have h3:=(he _ _).1 h2
    have:¬eq k' k=true:=λq=>h (by rw [<- (he _ _).1 q];exact h2)
    rw [if_pos h2,if_neg this,if_pos h2]
   ·rw [if_neg h2,if_neg h2]
end
end Go.Proofs.YtekmkepojbhafacGreatDoor.Law

open Go Go.Eng Go.Flow
namespace Go.Proofs.YtekmkepojbhafacGreatDoor.Law
set_option linter.unusedVariables false
set_option linter.unusedSimpArgs false
set_option linter.unusedSectionVars false
section
variable {spots:List Spot} {l:List Campaign}
theorem dealK (h:Office spots l) (hb:dz spots l=some 0):∃v,jL spots l=some v/\v<=(netOf spots l).goals/\((v=(netOf spots l).goals/\∃x,(netOf spots l).Deal x/\kS spots l=some (shA spots l x l.length,0))\/(v<(netOf spots l).goals/\kS spots l=some ([],12))):=by
 have hsz:=size_eq (spots:=spots) (l:=l)
 have hsn:=h.sn
 have hln:=h.ln
 obtain ⟨v1,m1,_,m3⟩:=mostK h
 obtain ⟨rows,e1,q1,n1,v,rows',e2,s2,q2,f2,v0,hv⟩:=JL h
 have:v1=v:=m3.uniq hv
 subst this
 have g2:=MM h.cr (by omega) spots
 have hle:=(Jy (uV h) hv).1
 have hstart:kS spots l=bif decide (v1<(netOf spots l).goals)then some (([]:(List Share)),12)else (forL l (rows',([]:List Share),(l.length:Int)) (λk x s=>jB spots ⟨rows,(l.length:Int)⟩ k x s)).bind λo_31=>thenC o_31 (λs_25=>some (s_25.2.1,0)) (λ_=>none):=by
  unfold kS
  simp only [hb,ob_,e1,n1,rH rfl,e2,s2,g2]
  rfl
 refine⟨v1,m1,hle,?_⟩
 by_cases hlt:v1<(netOf spots l).goals
 ·right
  rw [hstart,decide_eq_true hlt]
  exact⟨hlt,rfl⟩
 ·left
  have hveq:v1=(netOf spots l).goals:=by omega
  rw [hstart,decide_eq_false hlt]
  obtain ⟨d1,d2⟩:=Net.flow_deal f2 hveq
  have hres:=Net.flow_res f2 hveq
  have hst:DealSt spots l 0 0 [] (rows',([]:List Share),(l.length:Int)):=by
   refine⟨rfl,q2,_,d1,λa b ha hb' => ?_,λj m hj hm hp => ?_,?_⟩
   ·rw [hres a b ha hb']
    refine yh (λj m _ _ => ?_) a b ha hb'
    cases hp:Net.prior 0 0 j m with
    | false=>rfl
    | true=>rw [jW]at hp;omega
   ·rw [jW]at hp;omega
   ·show ([]:List Share)=[]++_
    split <;> rfl
  obtain ⟨s',r1,r2⟩:=qd (body:=λk x s=>jB spots ⟨rows,(l.length:Int)⟩ k x s) (λi s=>DealSt spots l i 0 [] s) (xs:=l) (s:=(rows',([]:List Share),(l.length:Int))) (by omega) (λi c s hc hs=>by
   unfold jB
   obtain ⟨s1,p1,p2⟩:=qd (body:=λk x s=>jC c ⟨rows,(l.length:Int)⟩ i k x s) (λk s=>DealSt spots l i k [] s) (xs:=spots) (s:=(s.1,s.2.1,s.2.2)) (by omega) (λk sp s hk hs=>deal_L1 h (w:=⟨rows,(l.length:Int)⟩) (by show rows.length=_;exact q1.len) hc hk hs) hs
   rw [p1,ob_,lh]
   refine⟨_,rfl,?_⟩
   obtain ⟨c1,c2,x,c3,c4,c5,c6⟩:=p2
   refine⟨c1,c2,x,c3,λa b ha hb' => ?_,λj m hj hm hp => ?_,?_⟩
   ·show at2 s1.1 a b=_
    rw [c4 a b ha hb']
    exact yh (λj m _ hm=>FQ hm) a b ha hb'
   ·exact c5 j m hj hm (by rw [FQ (show m<spots.length from hm)];exact hp)
   ·show s1.2.1=_
    rw [c6,hc,shA,hc]
    simp only
    split <;> simp [shC]) hst
  rw [r1]
  obtain ⟨_,_,x,x1,x2,x3,x4⟩:=r2
  refine⟨hveq,x,x1,?_⟩
  simp only [cond_false,ob_,lh]
  rw [x4,List.getElem?_eq_none (Nat.le_refl _)]
  simp
def amt (p:Share->Bool):List Share->Int
 | []=>0
 | a::r=>(bif p a then a.Many else 0)+amt p r
theorem Dc (p:Share->Bool):∀a b:List Share,amt p (a++b)=amt p a+amt p b
 | [],b=>by rw [List.nil_append,amt];omega
 | x::a,b=>by rw [List.cons_append,amt,amt,Dc p a b];omega
theorem MJ (p:Share->Bool) {x:Nat->Nat->Int} {i:Nat} {c:Campaign} (hx:∀k,k<spots.length->0<=x i k):∀k:Nat,k<=spots.length ->
  amt p (shC spots x i c k)=S k (λk=>match spots[k]? with | some s=>bif p ⟨c.Key,s.Key,x i k⟩then x i k else 0 | none=>0)
 | 0,_=>rfl
 | k+1,hk=>by
  unfold shC
  rw [Dc,MJ p hx k (by omega)]
  show _=S k _+_
  congr 1
  have h0:=hx k (by omega)
  show _=(match spots[k]? with | some s=>bif p ⟨c.Key,s.Key,x i k⟩then x i k else 0 | none=>0)
  cases spots[k]? with
  | none=>rfl
  | some s =>
   show amt p (if 0<x i k then [⟨c.Key,s.Key,x i k⟩]else [])=bif p ⟨c.Key,s.Key,x i k⟩then x i k else 0
   by_cases h1:0<x i k
   ·rw [if_pos h1];simp only [amt,Int.add_zero]
   ·rw [if_neg h1]
    have:x i k=0:=by omega
    rw [this]
    show (0:Int)=_
    cases p ⟨c.Key,s.Key,0⟩ <;> rfl
theorem Dp (p:Share->Bool) {x:Nat->Nat->Int} (hx:∀i k,i<l.length->k<spots.length->0<=x i k):∀i:Nat,i<=l.length ->
  amt p (shA spots l x i)=S i (λi=>match l[i]? with | some c=>S spots.length (λk=>match spots[k]? with | some s=>bif p ⟨c.Key,s.Key,x i k⟩then x i k else 0 | none=>0) | none=>0)
 | 0,_=>rfl
 | i+1,hi=>by
  unfold shA
  rw [Dc,Dp p hx i (by omega)]
  show _=S i _+_
  congr 1
  show _=(match l[i]? with | some c=>S spots.length (λk=>match spots[k]? with | some s=>bif p ⟨c.Key,s.Key,x i k⟩then x i k else 0 | none=>0) | none=>0)
  cases l[i]? with
  | none=>rfl
  | some c=>exact MJ p (λk hk=>hx i k (by omega) hk) spots.length (Nat.le_refl _)
theorem Dn {x:Nat->Nat->Int} {i:Nat} {c:Campaign} {y:Share}:∀{k:Nat},y∈shC spots x i c k->∃m s,m<k/\spots[m]? = some s/\0<x i m/\y=⟨c.Key,s.Key,x i m⟩
 | 0,h=>by cases h
 | k+1,h=>by
  unfold shC at h
  rcases List.mem_append.1 h with h|h
  ·obtain ⟨m,s,h1,h2⟩:=Dn h
   exact⟨m,s,by omega,h2⟩
  ·cases hs:spots[k]? with
   | none=>rw [hs]at h;cases h
   | some s =>
    rw [hs]at h
    by_cases h1:0<x i k
    ·simp only [if_pos h1,List.mem_singleton]at h
     exact⟨k,s,by omega,hs,h1,h⟩
    ·simp only [if_neg h1]at h;cases h
theorem Ab {x:Nat->Nat->Int} {y:Share}:∀{i:Nat},y∈shA spots l x i->∃j c m s,j<i/\l[j]? = some c/\m<spots.length/\spots[m]? = some s/\0<x j m/\y=⟨c.Key,s.Key,x j m⟩
 | 0,h=>by cases h
 | i+1,h=>by
  unfold shA at h
  rcases List.mem_append.1 h with h|h
  ·obtain ⟨j,c,m,s,h1,h2⟩:=Ab h
   exact⟨j,c,m,s,by omega,h2⟩
  ·cases hc:l[i]? with
   | none=>rw [hc]at h;cases h
   | some c =>
    rw [hc]at h
    obtain ⟨m,s,h1,h2,h3,h4⟩:=Dn h
    exact⟨i,c,m,s,by omega,hc,h1,h2,h3,h4⟩
def bef (a b:Share):Prop:=lt a.Campaign b.Campaign\/(a.Campaign=b.Campaign/\lt a.Spot b.Spot)
theorem J7 {α:Type} {key:α->ByteArray} {l:List α} (h:mf key l) {i j:Nat} {a b:α} (ha:l[i]? = some a) (hb:l[j]? = some b) (hij:i<j):lt (key a) (key b):=by
 obtain ⟨h1,h2⟩:=List.getElem?_eq_some_iff.1 ha
 obtain ⟨h3,h4⟩:=List.getElem?_eq_some_iff.1 hb
 rw [<- h2,<- h4];exact h i j h1 h3 hij
theorem I6 (hs:mf Spot.Key spots) {x:Nat->Nat->Int} {i:Nat} {c:Campaign}:∀k:Nat,(shC spots x i c k).Pairwise bef
 | 0=>List.Pairwise.nil
 | k+1=>by
  unfold shC
  refine List.pairwise_append.2 ⟨I6 hs k,?_,λa ha b hb => ?_⟩
  ·cases spots[k]? with
   | none=>exact List.Pairwise.nil
   | some s =>
    show (if 0<x i k then [(⟨c.Key,s.Key,x i k⟩:Share)]else []).Pairwise bef
    split
    ·exact List.pairwise_singleton _ _
    ·exact List.Pairwise.nil
  ·obtain ⟨m,s,h1,h2,h3,rfl⟩:=Dn ha
   cases hk:spots[k]? with
   | none=>rw [hk]at hb;cases hb
   | some s' =>
    rw [hk]at hb
    by_cases hp:0<x i k
    ·simp only [if_pos hp,List.mem_singleton]at hb
     subst hb
     exact .inr ⟨rfl,J7 hs h2 hk h1⟩
    ·simp only [if_neg hp]at hb;cases hb
theorem JZ (hs:mf Spot.Key spots) (hc:mf Campaign.Key l) {x:Nat->Nat->Int}:∀i:Nat,(shA spots l x i).Pairwise bef
 | 0=>List.Pairwise.nil
 | i+1=>by
  unfold shA
  refine List.pairwise_append.2 ⟨JZ hs hc i,?_,λa ha b hb => ?_⟩
  ·cases l[i]? with
   | none=>exact List.Pairwise.nil
   | some c=>exact I6 hs spots.length
  ·obtain ⟨j,c,m,s,h1,h2,h3,h4,h5,rfl⟩:=Ab ha
   cases hi:l[i]? with
   | none=>rw [hi]at hb;cases hb
   | some c' =>
    rw [hi]at hb
    obtain ⟨m',s',_,_,_,rfl⟩:=Dn hb
    exact .inl (J7 hc h2 hi h1)
theorem J4 {α:Type} {key:α->ByteArray} {l:List α} (h:mf key l) {i:Nat} {a:α} (ha:l[i]? = some a):oC key (key a) l=some i:=by
 obtain ⟨h1,h2⟩:=List.getElem?_eq_some_iff.1 ha
 cases hf:oC key (key a) l with
 | none=>exact absurd rfl (zx hf a (List.mem_of_getElem? ha))
 | some j =>
  obtain ⟨h3,h4⟩:=oh hf
  rw [zo h h3 h1 (by rw [h4,h2])]
theorem Pd (hs:mf Spot.Key spots) (hc:mf Campaign.Key l) {x:Nat->Nat->Int} (hx:(netOf spots l).Deal x) {k:Nat} {y:Share} (hy:(shA spots l x l.length)[k]? = some y):zD spots l (shA spots l x l.length) k y=0:=by
 obtain ⟨j,c,m,s,h1,h2,h3,h4,h5,e⟩:=Ab (List.mem_of_getElem? hy)
 have hm:=hx.most j m h1 h3
 rw [Ew h2 h4,(tC h2).2]at hm
 have hbe:yu (shA spots l x l.length) k y=false:=by
  unfold yu
  by_cases hk:k=0
  ·rw [if_pos hk]
  ·rw [if_neg hk]
   obtain ⟨g1,g2⟩:=List.getElem?_eq_some_iff.1 hy
   rw [List.getElem?_eq_getElem (show k-1<_ by omega)]
   have hb:=List.pairwise_iff_getElem.1 (JZ hs hc (x:=x) l.length) (k-1) k (by omega) g1 (by omega)
   rw [g2]at hb
   show x8 _ _ _ _=false
   generalize (shA spots l x l.length)[k-1]=z at hb
   unfold x8
   rcases hb with hb|⟨hb1,hb2⟩
   ·have e1:sLt y.Campaign z.Campaign=false:=by rw [<- Bool.not_eq_true,yE];exact λh'=>pz _ (lt_trans hb h')
    have e2:sEq y.Campaign z.Campaign=false:=by rw [<- Bool.not_eq_true,Hq];exact λe=>pz _ (e ▸ hb)
    rw [e1,e2];rfl
   ·have e1:sLt y.Campaign z.Campaign=false:=by rw [<- Bool.not_eq_true,yE,hb1];exact pz _
    have e3:sLe y.Spot z.Spot=false:=by rw [<- Bool.not_eq_true,yA];exact λh'=>h' hb2
    rw [e1,e3];simp
 subst e
 unfold zD
 rw [J4 hc h2,J4 hs h4]
 simp only [h2,h4,hbe]
 cases hsu:xk c s with
 | false=>rw [hsu]at hm;simp only [cond_false]at hm;omega
 | true =>
  rw [hsu]at hm;simp only [cond_true]at hm
  rw [decide_eq_false (show ¬x j m<1 by omega),decide_eq_false (show ¬x j m>c.Most by omega)]
  rfl
theorem PK (hs:mf Spot.Key spots) {x:Nat->Nat->Int} (hx:(netOf spots l).Deal x) {k0:Nat} {s0:Spot} (h0:spots[k0]? = some s0):amt (λa=>decide (a.Spot=s0.Key)) (shA spots l x l.length)<=s0.Room:=by
 have hk0:k0<spots.length:=(List.getElem?_eq_some_iff.1 h0).1
 have e:amt (λa=>decide (a.Spot=s0.Key)) (shA spots l x l.length)=S l.length (λi=>x i k0):=by
  rw [Dp _ (λi k hi hk=>hx.pos i k hi hk) l.length (Nat.le_refl _)]
  refine bK (λi hi => ?_)
  rw [List.getElem?_eq_getElem hi]
  show S spots.length _=_
  rw [show x i k0=S spots.length (λk=>if k=k0 then x i k0 else 0) from (xw _ hk0).symm]
  refine bK (λk hk => ?_)
  have hks:=List.getElem?_eq_getElem hk
  rw [hks]
  show (bif decide (spots[k].Key=s0.Key)then x i k else 0)=_
  by_cases hkk:k=k0
  ·subst hkk
   rw [h0]at hks
   simp only [so_]at hks
   rw [<- hks,decide_eq_true rfl,if_pos rfl];rfl
  ·have:spots[k].Key≠s0.Key:=λe=>hkk (zo hs hk hk0 (by rw [e];congr 1;exact ((List.getElem?_eq_some_iff.1 h0).2).symm))
   rw [decide_eq_false this,if_neg hkk];rfl
 rw [e]
 have:=hx.room k0 hk0
 rw [Mi h0]at this
 exact this
theorem Oy (hc:mf Campaign.Key l) {x:Nat->Nat->Int} (hx:(netOf spots l).Deal x) {i0:Nat} {c0:Campaign} (h0:l[i0]? = some c0):amt (λa=>decide (a.Campaign=c0.Key)) (shA spots l x l.length)<=c0.Goal:=by
 have hi0:i0<l.length:=(List.getElem?_eq_some_iff.1 h0).1
 have e:amt (λa=>decide (a.Campaign=c0.Key)) (shA spots l x l.length)=S spots.length (x i0):=by
  rw [Dp _ (λi k hi hk=>hx.pos i k hi hk) l.length (Nat.le_refl _)]
  rw [show S spots.length (x i0)=S l.length (λi=>if i=i0 then S spots.length (x i0)else 0) from (xw _ hi0).symm]
  refine bK (λi hi => ?_)
  have his:=List.getElem?_eq_getElem hi
  rw [his]
  show S spots.length _=_
  by_cases hii:i=i0
  ·subst hii
   rw [h0]at his
   simp only [so_]at his
   rw [if_pos rfl]
   refine bK (λk hk => ?_)
   rw [List.getElem?_eq_getElem hk]
   show (bif decide (l[i].Key=c0.Key)then x i k else 0)=_
   rw [<- his,decide_eq_true rfl];rfl
  ·rw [if_neg hii]
   refine Net.S_all0 (λk hk => ?_)
   rw [List.getElem?_eq_getElem hk]
   have:l[i].Key≠c0.Key:=λe=>hii (zo hc hi hi0 (by rw [e];congr 1;exact ((List.getElem?_eq_some_iff.1 h0).2).symm))
   show (bif decide (l[i].Key=c0.Key)then x i k else 0)=0
   rw [decide_eq_false this];rfl
 rw [e]
 have:=hx.goal i0 hi0
 rw [(tC h0).1]at this
 have h2:S spots.length (x i0)=c0.Goal:=this
 omega
theorem amt_all {x:Nat->Nat->Int} (hx:(netOf spots l).Deal x):amt (λ_=>true) (shA spots l x l.length)=(netOf spots l).goals:=by
 rw [Dp _ (λi k hi hk=>hx.pos i k hi hk) l.length (Nat.le_refl _)]
 show _=S l.length (netOf spots l).goal
 refine bK (λi hi => ?_)
 rw [List.getElem?_eq_getElem hi,<- hx.goal i hi]
 show S spots.length _=S spots.length _
 refine bK (λk hk => ?_)
 rw [List.getElem?_eq_getElem hk];rfl
theorem D6 (p:Share->Bool) {L:List Share} {k:Nat} {y:Share} (h:L[k]? = some y):amt p (L.take (k+1))=amt p (L.take k)+bif p y then y.Many else 0:=by
 obtain ⟨h1,h2⟩:=List.getElem?_eq_some_iff.1 h
 rw [List.take_add_one,h,Dc]
 show _+((bif p y then y.Many else 0)+0)=_
 omega
theorem Lp (p:Share->Bool) {M:Int}:∀{L:List Share},(∀y∈L,0<=y.Many/\y.Many<=M)->0<=amt p L/\amt p L<=M*L.length
 | [],_=>⟨Int.le_refl _,by simp [amt]⟩
 | y::L,h=>by
  have h1:=h y List.mem_cons_self
  obtain ⟨h2,h3⟩:=Lp p (M:=M) (L:=L) (λz hz=>h z (List.mem_cons_of_mem _ hz))
  rw [amt,List.length_cons]
  have e:M*((L.length+1:Nat):Int)=M*L.length+M:=by rw [Int.natCast_add,Int.mul_add];simp
  rw [e]
  cases p y <;> simp only [cond_true,cond_false] <;> omega
theorem yG (a b:ByteArray):eqS a b=true↔a=b:=⟨λh=>by
 have h':(a.data==b.data)=true:=h
 have:=eq_of_beq h'
 cases a;cases b;simp at this;rw [this],λh=>by
 rw [h]
 show (b.data==b.data)=true
 simp⟩
theorem GN (hb:dz spots l=some 0) (hsF:lU spots=0) (hcF:qX l=0) (hg:∀y∈l,Ct y) (hmo:∀c∈l,c.Most<=1000000) {x:Nat->Nat->Int} (hx:(netOf spots l).Deal x) (hln:(shA spots l x l.length).length<=1800):iL spots l (shA spots l x l.length)=some 0:=by
 obtain ⟨hs,hs60⟩:=EU hsF
 obtain ⟨hc,hc30⟩:=Fq hcF
 have hmany:∀y∈shA spots l x l.length,0<=y.Many/\y.Many<=1000000:=λy hy=>by
  obtain ⟨j,c,m,s,h1,h2,h3,h4,h5,e⟩:=Ab hy
  have hm:=hx.most j m h1 h3
  rw [(tC h2).2]at hm
  have h6:=hmo c (List.mem_of_getElem? h2)
  subst e
  show 0<=x j m/\x j m<=1000000
  cases hsu:(netOf spots l).suits j m with
  | false=>rw [hsu]at hm;simp only [cond_false]at hm;omega
  | true=>rw [hsu]at hm;simp only [cond_true]at hm;omega
 have hs1:=λ{k:Nat} {y:Share} (hy:(shA spots l x l.length)[k]? = some y)=>Pd hs hc hx hy
 have hspot:=λ{k0:Nat} {s0:Spot} (h0:spots[k0]? = some s0)=>PK hs hx h0
 have hcamp:=λ{i0:Nat} {c0:Campaign} (h0:l[i0]? = some c0)=>Oy hc hx h0
 generalize shA spots l x l.length=L at *
 obtain ⟨u,r1,r2,r3⟩:=qd (body:=λk y s=>eF spots l L k y s) (λk u=>(∀t,(iM eqS u.1 t).getD 0=amt (λa=>decide (a.Spot=t)) (L.take k))/\(∀t,(iM eqS u.2 t).getD 0=amt (λa=>decide (a.Campaign=t)) (L.take k))) (xs:=L) (s:=(([]:List (ByteArray×Int)),([]:List (ByteArray×Int)))) (by omega) (λk y u hy ⟨i1,i2⟩=>by
  have hk:k<L.length:=(List.getElem?_eq_some_iff.1 hy).1
  have hym:=hmany y (List.mem_of_getElem? hy)
  have hb1:∀p,0<=amt p (L.take k)/\amt p (L.take k)<=1000000*1800:=λp=>by
   have h:=Lp p (M:=1000000) (L:=L.take k) (λz hz=>hmany z (List.mem_of_mem_take hz))
   have h2:(L.take k).length<=1800:=by rw [List.length_take];omega
   omega
  have e1:=i1 y.Spot
  have e2:=i2 y.Campaign
  have w1:w64 ((iM eqS u.1 y.Spot).getD 0+y.Many)=(iM eqS u.1 y.Spot).getD 0+y.Many:=gp (by have:=hb1 (λa=>decide (a.Spot=y.Spot));omega)
  have w2:w64 ((iM eqS u.2 y.Campaign).getD 0+y.Many)=(iM eqS u.2 y.Campaign).getD 0+y.Many:=gp (by have:=hb1 (λa=>decide (a.Campaign=y.Campaign));omega)
  refine⟨_,by rw [stepK spots l L k y u hy (by omega) hsF hcF hg,hs1 hy];rfl,λt => ?_,λt => ?_⟩
  ·show (iM eqS (vz eqS u.1 y.Spot (w64 ((iM eqS u.1 y.Spot).getD 0+y.Many))) t).getD 0=_
   rw [BX yG,D6 _ hy,w1]
   by_cases ht:y.Spot=t
   ·rw [if_pos ((yG _ _).2 ht.symm),decide_eq_true ht,<- ht]
    show _+_=_
    rw [e1];rfl
   ·rw [if_neg (λe=>ht ((yG _ _).1 e).symm),decide_eq_false ht,i1 t]
    simp
  ·show (iM eqS (vz eqS u.2 y.Campaign (w64 ((iM eqS u.2 y.Campaign).getD 0+y.Many))) t).getD 0=_
   rw [BX yG,D6 _ hy,w2]
   by_cases ht:y.Campaign=t
   ·rw [if_pos ((yG _ _).2 ht.symm),decide_eq_true ht,<- ht]
    show _+_=_
    rw [e2];rfl
   ·rw [if_neg (λe=>ht ((yG _ _).1 e).symm),decide_eq_false ht,i2 t]
    simp) ⟨λt=>rfl,λt=>rfl⟩
 rw [List.take_length]at r2 r3
 have c1:bO spots (λx0=>jr x0 u.1)=some (spots.any λx=>decide (((iM eqS u.1 x.Key).getD 0)>x.Room)):=Hz spots _ _ (λy _=>rfl) (by omega)
 have c2:bz l (λx0=>jv x0 u.2)=some (l.any λx=>decide (((iM eqS u.2 x.Key).getD 0)>x.Goal)):=Hw l _ _ (λy _=>rfl) (by omega)
 have f1:(spots.any λx=>decide (((iM eqS u.1 x.Key).getD 0)>x.Room))=false:=by
  rw [List.any_eq_false]
  intro s hs'
  obtain ⟨k,hk⟩:=List.getElem?_of_mem hs'
  have:=hspot hk
  rw [r2]
  simp only [decide_eq_true_eq];omega
 have f2:(l.any λx=>decide (((iM eqS u.2 x.Key).getD 0)>x.Goal))=false:=by
  rw [List.any_eq_false]
  intro s hs'
  obtain ⟨k,hk⟩:=List.getElem?_of_mem hs'
  have:=hcamp hk
  rw [r3]
  simp only [decide_eq_true_eq];omega
 rw [f1]at c1
 rw [f2]at c2
 have hl:decide ((L.length:Int)>1800)=false:=decide_eq_false (by omega)
 unfold iL
 simp only [hb,ob_,bne_self_eq_false,cond_false,hl,r1,lh,c1,c2]
end
theorem dealsHold (l:List Int):oK l=some true:=by
 obtain ⟨x,s1,a1,a2,a3,a4,a5,a6,a7⟩:=Jn ⟨l,0⟩ (b:=0) ⟨Int.le_refl _,Int.le_refl _⟩ (by decide)
 obtain ⟨c,s2,b1,b2,b3,b4,b5,b6,b7⟩:=Jg 4 (.inr rfl) s1 a2 (by decide)
 have b1':dQ s1 4=some (c,s2):=b1
 have hs:=Ls (by omega) a5 a6
 have hc:=Km (by omega) b5 (Lt.sublist b6)
 have hof:=Ij a4 b4 (by omega) (by omega) hs hc
 have hb:=both_eq x c a4 b4 (by omega) (by omega)
 rw [hs,hc]at hb
 have hb:dz x c=some 0:=hb
 obtain ⟨v,m1,m2,m3⟩:=dealK hof hb
 have hgl:=IY hof.cr (by omega) x
 have hmost:o6 x c=some (v,0):=by
  unfold o6
  simp only [hb,ob_,bne_self_eq_false,cond_false,m1]
 have hcan:=canK hof hb m1
 have hsum:forL c 0 (λk x s=>iq k x s)=some (.go (netOf x c).goals):=by
  rw [oV (by omega)]
  have hrun:forR (λk x s=>iq k x s) c 0 0=some (.go ((0:Int)+Ai (λ_ (c:Campaign)=>c.Goal) 0 c)):=Eo (λ_ c=>c.Goal) c 0 0 (by omega) (by omega) (λj y hy=>by have:=hof.cr y hy;unfold CampR at this;omega) (λj y s hy hj h0 h1=>by
   have:=hof.cr y hy
   unfold CampR at this
   unfold iq
   rw [gp (by omega)])
  rw [hrun,Int.zero_add,hgl.1]
 have hmany:∀L:List Share,L.length<=1800->(∀y∈L,0<=y.Many/\y.Many<=1000000)->forL L 0 (λk x s=>fT k x s)=some (.go (amt (λ_=>true) L)):=λL hL hm=>by
  obtain ⟨u,r1,r2⟩:=qd (body:=λk x s=>fT k x s) (λk u=>u=amt (λ_=>true) (L.take k)) (xs:=L) (s:=(0:Int)) (by omega) (λk y u hy hu=>by
   have h:=Lp (λ_=>true) (M:=1000000) (L:=L.take k) (λz hz=>hm z (List.mem_of_mem_take hz))
   have h2:(L.take k).length<=1800:=by rw [List.length_take];omega
   have h3:=hm y (List.mem_of_getElem? hy)
   refine⟨u+y.Many,?_,?_⟩
   ·unfold fT
    rw [gp (by omega)]
   ·rw [D6 _ hy,hu];rfl) rfl
  rw [r1,r2,List.take_length]
 unfold oK
 rcases m3 with⟨e,y,d1,d2⟩|⟨hlt,d2⟩
 ·have hlen:(shA x c y c.length).length<=1800:=by
   have h1:=IQ (spots:=x) (l:=c) (x:=y) c.length
   have h2:c.length*x.length<=4*5:=Nat.mul_le_mul b3 a3
   omega
  have hmm:∀z∈shA x c y c.length,0<=z.Many/\z.Many<=1000000:=λz hz=>by
   obtain ⟨j,cc,m,s,h1,h2,h3,h4,h5,e⟩:=Ab hz
   have hm:=d1.most j m h1 h3
   rw [(tC h2).2]at hm
   have h6:=b7 cc (List.mem_of_getElem? h2)
   subst e
   show 0<=y j m/\y j m<=1000000
   cases hsu:(netOf x c).suits j m with
   | false=>rw [hsu]at hm;simp only [cond_false]at hm;omega
   | true=>rw [hsu]at hm;simp only [cond_true]at hm;omega
  have hck:=GN hb hs hc b4 (λz hz=>by have:=b7 z hz;omega) d1 hlen
  have hvb:(v==(netOf x c).goals)=true:=by rw [e];simp
  have hgt:decide (v>(netOf x c).goals)=false:=decide_eq_false (by omega)
  have hee:((netOf x c).goals==(netOf x c).goals)=true:=by simp
  simp only [a1,b1',hmost,hcan,d2,hsum,hmany _ hlen hmm,amt_all d1,ob_,lh,hvb,hgt,hck,hee,bne_self_eq_false,cond_false,Bool.not_true,cond_true,JB,beq_self_eq_true]
 ·have hvb:(v==(netOf x c).goals)=false:=by simp;omega
  have hgt:decide (v>(netOf x c).goals)=false:=decide_eq_false (by omega)
  have h0:forL ([]:List Share) 0 (λk x s=>fT k x s)=some (.go 0):=by rw [oV (by simp)];rfl
  simp only [a1,b1',hmost,hcan,d2,hsum,h0,ob_,lh,hvb,hgt,bne_self_eq_false,cond_false,Bool.not_false,Bool.not_true,cond_true,JB,beq_self_eq_true]
  rfl
end Go.Proofs.YtekmkepojbhafacGreatDoor.Law

