/-
  THE PLAIN LAW (part 4).
-/
import Derived.Test.YtkjlhdminmpmkaaGreatDoorPl3
open Go Go.Eng Go.Flow
namespace Go.Proofs.YtkjlhdminmpmkaaGreatDoor.Law
set_option linter.unusedVariables false
set_option linter.unusedSimpArgs false
set_option linter.unusedSectionVars false
section
variable {spots:List Spot} {l:List Campaign}
end
end Go.Proofs.YtkjlhdminmpmkaaGreatDoor.Law

open Go Go.Eng Go.Flow
namespace Go.Proofs.YtkjlhdminmpmkaaGreatDoor.Law
set_option linter.unusedVariables false
set_option linter.unusedSimpArgs false
set_option linter.unusedSectionVars false
section
variable {spots:List Spot} {l:List Campaign}
end
end Go.Proofs.YtkjlhdminmpmkaaGreatDoor.Law

open Go Go.Eng
namespace Go.Proofs.YtkjlhdminmpmkaaGreatDoor.Law
set_option linter.unusedVariables false
set_option linter.unusedSimpArgs false
def sw {α:Type} (key:α->ByteArray) (l:List α):Prop:=∀i j (hi:i<l.length) (hj:j<l.length),i<j->lt (key l[i]) (key l[j])
theorem zg {α:Type} {key:α->ByteArray} {stp:ByteArray->α->Int} (hs:∀last x,stp last x=0->lt last (key x)):∀(l:List α) (last:ByteArray),chk key stp last l=0->sw key l/\∀x∈l,lt last (key x)
 | [],last,h=>⟨λi j hi=>absurd hi (Nat.not_lt_zero i),by simp⟩
 | x::xs,last,h=>by
  rw [chk]at h
  cases he:stp last x==0 with
  | false=>rw [he]at h;simp only [cond_false]at h;rw [h]at he;cases he
  | true =>
   rw [he]at h
   simp only [cond_true]at h
   obtain ⟨h1,h2⟩:=zg hs xs (key x) h
   have hx:lt last (key x):=hs last x (eq_of_beq he)
   refine⟨λi j hi hj hij => ?_,λy hy => ?_⟩
   ·cases i with
    | zero=>cases j with
     | zero=>omega
     | succ j=>exact h2 _ (List.getElem_mem _)
    | succ i=>cases j with
     | zero=>omega
     | succ j=>exact h1 i j (by simpa using hi) (by simpa using hj) (by omega)
   ·rcases List.mem_cons.1 hy with rfl|hy
    ·exact hx
    ·exact lt_trans hx (h2 y hy)
theorem spot_lt (last:ByteArray) (x:Spot) (h:gN last x=0):lt last x.Key:=by
 unfold gN at h
 cases hl:sLe x.Key last with
 | true =>
  rw [hl]at h
  generalize keyB x.Key=k at h
  cases k <;> cases h
 | false=>exact Classical.not_not.1 (mt (Aq x.Key last).2 (by rw [hl];simp))
theorem camp_lt (last:ByteArray) (x:Campaign) (h:ik last x=0):lt last x.Key:=by
 unfold ik at h
 cases hl:sLe x.Key last with
 | true =>
  rw [hl]at h
  cases hq:(!keyB x.Key||decide (x.Class.size≠0) && !keyB x.Class)with
  | true=>rw [hq]at h;cases h
  | false=>rw [hq]at h;cases h
 | false=>exact Classical.not_not.1 (mt (Aq x.Key last).2 (by rw [hl];simp))
theorem LW {l:List Spot} (h:oL l=0):sw Spot.Key l/\l.length<=60:=by
 unfold oL at h
 by_cases hl:l.length>60
 ·rw [decide_eq_true hl]at h;cases h
 ·rw [decide_eq_false hl]at h;exact⟨(zg spot_lt l nz h).1,by omega⟩
theorem Mm {l:List Campaign} (h:sF l=0):sw Campaign.Key l/\l.length<=30:=by
 unfold sF at h
 by_cases hl:l.length>30
 ·rw [decide_eq_true hl]at h;cases h
 ·rw [decide_eq_false hl]at h;exact⟨(zg camp_lt l nz h).1,by omega⟩
theorem pW {α:Type} {key:α->ByteArray} {l:List α} (h:sw key l) {i j:Nat} (hi:i<l.length) (hj:j<l.length) (he:key l[i]=key l[j]):i=j:=by
 rcases Nat.lt_trichotomy i j with hlt|heq|hgt
 ·have:=h i j hi hj hlt;rw [he]at this;exact absurd this (oW _)
 ·exact heq
 ·have:=h j i hj hi hgt;rw [he]at this;exact absurd this (oW _)
structure EndsK {α:Type} (key:α->ByteArray) (l:List α) (t:ByteArray) (i j:Nat):Prop where
 le:i<=j
 len:j<=l.length
 lo:∀k (h:k<l.length),k<i->lt (key l[k]) t
 hi:∀k (h:k<l.length),j<=k->¬lt (key l[k]) t
section
variable {α:Type} {key:α->ByteArray} {cmp:α->ByteArray->Option Int}
end
end Go.Proofs.YtkjlhdminmpmkaaGreatDoor.Law

open Go Go.Eng
namespace Go.Proofs.YtkjlhdminmpmkaaGreatDoor.Law
set_option linter.unusedVariables false
set_option linter.unusedSimpArgs false
end Go.Proofs.YtkjlhdminmpmkaaGreatDoor.Law

open Go Go.Eng
namespace Go.Proofs.YtkjlhdminmpmkaaGreatDoor.Law
set_option linter.unusedVariables false
set_option linter.unusedSimpArgs false
section
variable {K T:Type} {eq:K->K->Bool}
end
end Go.Proofs.YtkjlhdminmpmkaaGreatDoor.Law

open Go Go.Eng Go.Flow
namespace Go.Proofs.YtkjlhdminmpmkaaGreatDoor.Law
set_option linter.unusedVariables false
set_option linter.unusedSimpArgs false
set_option linter.unusedSectionVars false
section
variable {spots:List Spot} {l:List Campaign}
def amt (p:Share->Bool):List Share->Int
 | []=>0
 | a::r=>(bif p a then a.Many else 0)+amt p r
theorem AZ (p:Share->Bool):∀a b:List Share,amt p (a++b)=amt p a+amt p b
 | [],b=>by rw [List.nil_append,amt];omega
 | x::a,b=>by rw [List.cons_append,amt,amt,AZ p a b];omega
theorem Nb (p:Share->Bool) {x:Nat->Nat->Int} {i:Nat} {c:Campaign} (hx:∀k,k<spots.length->0<=x i k):∀k:Nat,k<=spots.length ->
  amt p (shC spots x i c k)=S k (λk=>match spots[k]? with | some s=>bif p ⟨c.Key,s.Key,x i k⟩then x i k else 0 | none=>0)
 | 0,_=>rfl
 | k+1,hk=>by
  unfold shC
  rw [AZ,Nb p hx k (by omega)]
  show _=S k _+_
  congr 1
  have h0:=hx k (by omega)
  show _=(match spots[k]? with | some s=>bif p ⟨c.Key,s.Key,x i k⟩then x i k else 0 | none=>0)
  cases spots[k]? with
  | none=>rfl
  | some s =>
   show amt p (if 0<x i k then [⟨c.Key,s.Key,x i k⟩]else [])=bif p ⟨c.Key,s.Key,x i k⟩then x i k else 0
   by_cases h1:0<x i k
   ·rw [if_pos h1];simp only [amt,Int.add_zero]
   ·rw [if_neg h1]
    have:x i k=0:=by omega
    rw [this]
    show (0:Int)=_
    cases p ⟨c.Key,s.Key,0⟩ <;> rfl
theorem DC (p:Share->Bool) {x:Nat->Nat->Int} (hx:∀i k,i<l.length->k<spots.length->0<=x i k):∀i:Nat,i<=l.length ->
  amt p (shA spots l x i)=S i (λi=>match l[i]? with | some c=>S spots.length (λk=>match spots[k]? with | some s=>bif p ⟨c.Key,s.Key,x i k⟩then x i k else 0 | none=>0) | none=>0)
 | 0,_=>rfl
 | i+1,hi=>by
  unfold shA
  rw [AZ,DC p hx i (by omega)]
  show _=S i _+_
  congr 1
  show _=(match l[i]? with | some c=>S spots.length (λk=>match spots[k]? with | some s=>bif p ⟨c.Key,s.Key,x i k⟩then x i k else 0 | none=>0) | none=>0)
  cases l[i]? with
  | none=>rfl
  | some c=>exact Nb p (λk hk=>hx i k (by omega) hk) spots.length (Nat.le_refl _)
theorem Nk {x:Nat->Nat->Int} {i:Nat} {c:Campaign} {y:Share}:∀{k:Nat},y∈shC spots x i c k->∃m s,m<k/\spots[m]? = some s/\0<x i m/\y=⟨c.Key,s.Key,x i m⟩
 | 0,h=>by cases h
 | k+1,h=>by
  unfold shC at h
  rcases List.mem_append.1 h with h|h
  ·obtain ⟨m,s,h1,h2⟩:=Nk h
   exact⟨m,s,by omega,h2⟩
  ·cases hs:spots[k]? with
   | none=>rw [hs]at h;cases h
   | some s =>
    rw [hs]at h
    by_cases h1:0<x i k
    ·simp only [if_pos h1,List.mem_singleton]at h
     exact⟨k,s,by omega,hs,h1,h⟩
    ·simp only [if_neg h1]at h;cases h
theorem Jh {x:Nat->Nat->Int} {y:Share}:∀{i:Nat},y∈shA spots l x i->∃j c m s,j<i/\l[j]? = some c/\m<spots.length/\spots[m]? = some s/\0<x j m/\y=⟨c.Key,s.Key,x j m⟩
 | 0,h=>by cases h
 | i+1,h=>by
  unfold shA at h
  rcases List.mem_append.1 h with h|h
  ·obtain ⟨j,c,m,s,h1,h2⟩:=Jh h
   exact⟨j,c,m,s,by omega,h2⟩
  ·cases hc:l[i]? with
   | none=>rw [hc]at h;cases h
   | some c =>
    rw [hc]at h
    obtain ⟨m,s,h1,h2,h3,h4⟩:=Nk h
    exact⟨i,c,m,s,by omega,hc,h1,h2,h3,h4⟩
def bef (a b:Share):Prop:=lt a.Campaign b.Campaign\/(a.Campaign=b.Campaign/\lt a.Spot b.Spot)
theorem QO (hs:sw Spot.Key spots) {x:Nat->Nat->Int} (hx:(netOf spots l).Deal x) {k0:Nat} {s0:Spot} (h0:spots[k0]? = some s0):amt (λa=>decide (a.Spot=s0.Key)) (shA spots l x l.length)<=s0.Room:=by
 have hk0:k0<spots.length:=(List.getElem?_eq_some_iff.1 h0).1
 have e:amt (λa=>decide (a.Spot=s0.Key)) (shA spots l x l.length)=S l.length (λi=>x i k0):=by
  rw [DC _ (λi k hi hk=>hx.pos i k hi hk) l.length (Nat.le_refl _)]
  refine bI (λi hi => ?_)
  rw [List.getElem?_eq_getElem hi]
  show S spots.length _=_
  rw [show x i k0=S spots.length (λk=>if k=k0 then x i k0 else 0) from (uH _ hk0).symm]
  refine bI (λk hk => ?_)
  have hks:=List.getElem?_eq_getElem hk
  rw [hks]
  show (bif decide (spots[k].Key=s0.Key)then x i k else 0)=_
  by_cases hkk:k=k0
  ·subst hkk
   rw [h0]at hks
   simp only [so_]at hks
   rw [<- hks,decide_eq_true rfl,if_pos rfl];rfl
  ·have:spots[k].Key≠s0.Key:=λe=>hkk (pW hs hk hk0 (by rw [e];congr 1;exact ((List.getElem?_eq_some_iff.1 h0).2).symm))
   rw [decide_eq_false this,if_neg hkk];rfl
 rw [e]
 have:=hx.room k0 hk0
 rw [Nn h0]at this
 exact this
theorem Lc (p:Share->Bool) {L:List Share} {k:Nat} {y:Share} (h:L[k]? = some y):amt p (L.take (k+1))=amt p (L.take k)+bif p y then y.Many else 0:=by
 obtain ⟨h1,h2⟩:=List.getElem?_eq_some_iff.1 h
 rw [List.take_add_one,h,AZ]
 show _+((bif p y then y.Many else 0)+0)=_
 omega
theorem QE (p:Share->Bool) {M:Int}:∀{L:List Share},(∀y∈L,0<=y.Many/\y.Many<=M)->0<=amt p L/\amt p L<=M*L.length
 | [],_=>⟨Int.le_refl _,by simp [amt]⟩
 | y::L,h=>by
  have h1:=h y List.mem_cons_self
  obtain ⟨h2,h3⟩:=QE p (M:=M) (L:=L) (λz hz=>h z (List.mem_cons_of_mem _ hz))
  rw [amt,List.length_cons]
  have e:M*((L.length+1:Nat):Int)=M*L.length+M:=by rw [Int.natCast_add,Int.mul_add];simp
  rw [e]
  cases p y <;> simp only [cond_true,cond_false] <;> omega
end
end Go.Proofs.YtkjlhdminmpmkaaGreatDoor.Law

open Go Go.Eng Go.Flow
namespace Go.Proofs.YtkjlhdminmpmkaaGreatDoor.Law
set_option linter.unusedVariables false
set_option linter.unusedSimpArgs false
set_option linter.unusedSectionVars false
theorem KP (s:Stream) {b:Int} (hs:Ok s b) (hb:b<=800000):∃xs s',eU s=some (xs,s')/\xs.Pairwise (λx y=>x.Time.To<=y.Time.From):=by
 unfold eU
 have hk1:([(⟨#[115,97]⟩:ByteArray),(⟨#[115,98]⟩:ByteArray),(⟨#[115,99]⟩:ByteArray),(⟨#[115,100]⟩:ByteArray),(⟨#[115,101]⟩:ByteArray)]:List ByteArray)=uS:=rfl
 rw [hk1]
 obtain ⟨s',h1,h2,h3,h4,h5⟩:=o7 (body:=λk x s=>dM k x s) (λk s=>Ok ⟨s.2.1,s.2.2⟩ (b+15*k)/\s.1.length<=k/\s.1.Pairwise (λx y=>x.Time.To<=y.Time.From)/\∀x∈s.1,x.Time.To<=10*k)
  (xs:=uS) (s:=(([]:List Spot),s.L,s.f_at)) (by decide) (λk x t hx ⟨i1,i2,i3,i4⟩=>by
   have hkl:k<5:=by
    rcases Nat.lt_or_ge k 5 with g|g
    ·exact g
    ·rw [List.getElem?_eq_none (by exact g)]at hx;cases hx
   obtain ⟨c,s1,k1,k2⟩:=zX _ 4 i1 (by omega) (by decide) (by decide)
   simp only [dM,k1,ob_]
   cases c with
   | true=>exact⟨_,rfl,k2.mono (by omega),by show t.1.length<=k+1;omega,i3,λy hy=>by have:=i4 y hy;omega⟩
   | false =>
    obtain ⟨p1,s2,m1,q1,n1'⟩:=rA s1 [5,10,10] k2 (by omega) (by simp) (by simp)
    obtain ⟨p2,s3,m2,q2,n2'⟩:=rA s2 [0,1,2,3,5] n1' (by omega) (by simp) (by simp)
    obtain ⟨tg,s4,k7,k8,k9,k10,k11⟩:=EX (L:=gM) (n:=2) (by decide) (by decide) (λ_ _ _=>rfl) s3 n2' (by omega)
    simp only [List.mem_cons,List.not_mem_nil,or_false]at q1 q2
    have e1:w64 (10*(k:Int))=10*k:=dw (by omega)
    have e2:w64 (10*(k:Int)+p1)=10*k+p1:=dw (by omega)
    simp only [cond_false,m1,m2,k7,ob_,eu,e1,e2,tN t.1 _ (show t.1.length+[_].length<=_ by simp;omega)]
    refine⟨_,rfl,k11.mono (by omega),by simp;omega,List.pairwise_append.2 ⟨i3,List.pairwise_singleton _ _,λy hy z hz => ?_⟩,λy hy => ?_⟩
    ·rw [List.mem_singleton.1 hz]
     exact i4 y hy
    ·rcases List.mem_append.1 hy with hy|hy
     ·have:=i4 y hy;omega
     ·rw [List.mem_singleton.1 hy]
      show 10*(k:Int)+p1<=10*((k+1:Nat):Int)
      omega) ⟨by simpa using hs,by simp,by simp,by simp⟩
 rw [h1]
 exact⟨s'.1,⟨s'.2.1,s'.2.2⟩,rfl,h4⟩
end Go.Proofs.YtkjlhdminmpmkaaGreatDoor.Law

open Go Go.Eng Go.Flow
namespace Go.Proofs.YtkjlhdminmpmkaaGreatDoor.Law
set_option linter.unusedVariables false
set_option linter.unusedSimpArgs false
set_option linter.unusedSectionVars false
theorem forL_or {α σ ρ:Type} {body:Nat->α->σ->Option (Ctl σ ρ)} (I:Nat->σ->Prop) (r0:ρ) {xs:List α} {s:σ} (hl:xs.length<=1000000000000) (h:∀k x s,xs[k]? = some x->I k s->(∃s',body k x s=some (.go s')/\I (k+1) s')\/body k x s=some (.ret r0)) (h0:I 0 s):(∃s',forL xs s body=some (.go s')/\I xs.length s')\/forL xs s body=some (.ret r0):=by
 rw [jE hl]
 have key:∀(l:List α) (k:Nat) (s:σ),xs.drop k=l->k<=xs.length->I k s->(∃s',forR body l k s=some (.go s')/\I xs.length s')\/forR body l k s=some (.ret r0):=by
  intro l
  induction l with
  | nil =>
   intro k s hd hk hi
   have:=List.drop_eq_nil_iff.1 hd
   obtain rfl:k=xs.length:=by omega
   exact .inl ⟨s,rfl,hi⟩
  | cons x l ih =>
   intro k s hd hk hi
   rcases h k x s (lq hd) hi with⟨s1,h1,h2⟩|h1
   ·have:=ih (k+1) s1 (aV hd) (by have:=tL hd;omega) h2
    rw [forR,h1,ob_];exact this
   ·right
    rw [forR,h1];rfl
 exact key xs 0 s rfl (Nat.zero_le _) h0
def paB:ByteArray:=⟨#[112,97]⟩
def emB:ByteArray:=⟨#[]⟩
def lg1 (n:Nat) (q:ByteArray) (t:Int):Log_:=⟨paB,q,(n:Int)+1,1000*t,1,emB⟩
structure Dl (P:ByteArray->Int->Prop) (D:List Log_) (hi:Int):Prop where
 no:∀(k:Nat) (g:Log_),D[k]? = some g->∃t,g=lg1 k g.Item t/\0<=t/\t<hi/\P g.Item t
 up:D.Pairwise (λa b=>a.Clock<b.Clock)
theorem Dl.mono {P:ByteArray->Int->Prop} {D:List Log_} {a b:Int} (h:Dl P D a) (hab:a<=b):Dl P D b :=
 ⟨λk g hg=>by obtain ⟨t,h1,h2,h3,h4⟩:=h.no k g hg;exact⟨t,h1,h2,by omega,h4⟩,h.up⟩
theorem Dl.push {P:ByteArray->Int->Prop} {D:List Log_} {t:Int} (h:Dl P D t) (h0:0<=t) {q:ByteArray} (hp:P q t):Dl P (D++[lg1 D.length q t]) (t+1):=by
 refine⟨λk g hg => ?_,List.pairwise_append.2 ⟨h.up,List.pairwise_singleton _ _,λa ha b hb => ?_⟩⟩
 ·by_cases hk:k<D.length
  ·rw [List.getElem?_append_left hk]at hg
   obtain ⟨u,h1,h2,h3,h4⟩:=h.no k g hg
   exact⟨u,h1,h2,by omega,h4⟩
  ·rw [List.getElem?_append_right (by omega)]at hg
   have hk2:k=D.length:=by
    have:=(List.getElem?_eq_some_iff.1 hg).1
    simp at this;omega
   subst hk2
   rw [Nat.sub_self]at hg
   have:lg1 D.length q t=g:=by simpa using hg
   subst this
   exact⟨t,rfl,h0,by omega,hp⟩
 ·rw [List.mem_singleton.1 hb]
  obtain ⟨k,hk⟩:=List.getElem?_of_mem ha
  obtain ⟨u,h1,h2,h3,_⟩:=h.no k a hk
  rw [h1]
  show 1000*u<1000*t
  omega
def cnt (q:ByteArray):List Log_->Int
 | []=>0
 | g::D=>(bif decide (g.Item=q)then 1 else 0)+cnt q D
theorem Ni (q:ByteArray):∀a b:List Log_,cnt q (a++b)=cnt q a+cnt q b
 | [],b=>by rw [List.nil_append,cnt];omega
 | x::a,b=>by rw [List.cons_append,cnt,cnt,Ni q a b];omega
theorem Jz (p:Share->Bool) {L:List Share} (h:∀y∈L,0<=y.Many/\y.Many<=1000000):0<=amt p L:=(QE p (M:=1000000) h).1
theorem NY (p:Share->Bool) {L:List Share} (h:∀y∈L,0<=y.Many/\y.Many<=1000000) (j:Nat):amt p (L.take j)<=amt p L:=by
 have e:amt p L=amt p (L.take j)+amt p (L.drop j):=by rw [<- AZ,List.take_append_drop]
 have:=Jz p (L:=L.drop j) (λy hy=>h y (List.mem_of_mem_drop hy))
 omega
theorem play_L1 {P:ByteArray->Int->Prop} (z:Share) (hz:0<=z.Many/\z.Many<=1000000) {D:List Log_} {t:Int} (ht:0<=t/\t<=1000000) (hD:Dl P D t) (hl:D.length<=1000000) (hp:∀u,t<=u->u<t+z.Many->P z.Campaign u) :
  ∃D',forL (List.range (z.Many).toNat) (D,t) (λk x s=>dF z k x s)=some (.go (D',t+z.Many))/\Dl P D' (t+z.Many)/\(D'.length:Int)=D.length+z.Many/\∀q,cnt q D'=cnt q D+bif decide (z.Campaign=q)then z.Many else 0:=by
 obtain ⟨s',r1,r2,r3,r4,r5⟩:=xh (body:=λk x s=>dF z k x s) (λj s=>s.2=t+j/\Dl P s.1 (t+j)/\s.1.length=D.length+j/\∀q,cnt q s.1=cnt q D+bif decide (z.Campaign=q)then (j:Int)else 0) (n:=z.Many.toNat) (s:=(D,t)) (by omega) (λj s hj ⟨i1,i2,i3,i4⟩=>by
  obtain ⟨E,u⟩:=s
  simp only at i1 i2 i3 i4
  subst i1
  have hap:iJ E [lg1 E.length z.Campaign (t+j)]=some (E++[lg1 E.length z.Campaign (t+j)]):=tN _ _ (by simp;omega)
  have w1:w64 ((E.length:Int)+1)=(E.length:Int)+1:=dw (by omega)
  have w2:w64 (1000*(t+(j:Int)))=1000*(t+j):=dw (by omega)
  have w3:w64 (t+(j:Int)+1)=t+j+1:=dw (by omega)
  have hlg:(⟨(⟨#[112,97]⟩:ByteArray),z.Campaign,(E.length:Int)+1,1000*(t+(j:Int)),1,(⟨#[]⟩:ByteArray)⟩:Log_)=lg1 E.length z.Campaign (t+j):=rfl
  unfold dF
  simp only [w1,w2,w3,hlg,hap,ob_]
  have e:t+(j:Int)+1=t+((j+1:Nat):Int):=by omega
  refine⟨_,rfl,e,?_,by simp [i3];omega,λq => ?_⟩
  ·rw [<- e]
   exact i2.push (by omega) (hp _ (by omega) (by omega))
  ·rw [Ni,i4]
   show _+((bif decide (z.Campaign=q)then 1 else 0)+0)=_
   cases decide (z.Campaign=q) <;> simp only [cond_true,cond_false] <;> omega) ⟨by simp,by simpa using hD,rfl,λq=>by cases decide (z.Campaign=q) <;> simp⟩
 have hm:((z.Many.toNat:Nat):Int)=z.Many:=by omega
 rw [hm]at r2 r3
 refine⟨s'.1,?_,r3,by omega,λq=>by rw [r5 q,hm]⟩
 rw [r1,<- r2]
theorem NM {P:ByteArray->Int->Prop} (s:Spot) {L:List Share} (hL:∀y∈L,0<=y.Many/\y.Many<=1000000) (hlen:L.length<=1000) (htot:amt (λz=>decide (z.Spot=s.Key)) L<=10000) (hs:0<=s.Time.From/\s.Time.From<=10000) {D:List Log_} (hD:Dl P D s.Time.From) (hl:D.length<=10000) (hp:∀z∈L,z.Spot=s.Key->∀u,s.Time.From<=u->u<s.Time.From+amt (λz=>decide (z.Spot=s.Key)) L->P z.Campaign u) :
  ∃D',forL L (D,s.Time.From) (λk x s'=>dG s k x s')=some (.go (D',s.Time.From+amt (λz=>decide (z.Spot=s.Key)) L))/\Dl P D' (s.Time.From+amt (λz=>decide (z.Spot=s.Key)) L)/\(D'.length:Int)=D.length+amt (λz=>decide (z.Spot=s.Key)) L/\∀q,cnt q D'=cnt q D+amt (λz=>decide (z.Spot=s.Key)&&decide (z.Campaign=q)) L:=by
 obtain ⟨s',r1,r2,r3,r4,r5⟩:=o7 (body:=λk x s'=>dG s k x s') (λj st=>st.2=s.Time.From+amt (λz=>decide (z.Spot=s.Key)) (L.take j)/\Dl P st.1 st.2/\(st.1.length:Int)=D.length+amt (λz=>decide (z.Spot=s.Key)) (L.take j)/\∀q,cnt q st.1=cnt q D+amt (λz=>decide (z.Spot=s.Key)&&decide (z.Campaign=q)) (L.take j)) (xs:=L) (s:=(D,s.Time.From)) (by omega) (λj z st hz ⟨i1,i2,i3,i4⟩=>by
  obtain ⟨E,u⟩:=st
  simp only at i1 i2 i3 i4
  have hzm:=List.mem_of_getElem? hz
  have hb:=hL z hzm
  have n1:=NY (λz=>decide (z.Spot=s.Key)) hL j
  have n2:=NY (λz=>decide (z.Spot=s.Key)) hL (j+1)
  have n3:=Jz (λz=>decide (z.Spot=s.Key)) (L:=L.take j) (λy hy=>hL y (List.mem_of_mem_take hy))
  have t1:=Lc (λz=>decide (z.Spot=s.Key)) hz
  have t2:=λq=>Lc (λz=>decide (z.Spot=s.Key)&&decide (z.Campaign=q)) hz
  unfold dG
  by_cases hk:z.Spot=s.Key
  ·have e1:sNe z.Spot s.Key=false:=by rw [yB,decide_eq_true hk];rfl
   rw [decide_eq_true hk,cond_true]at t1
   obtain ⟨E',p1,p2,p3,p4⟩:=play_L1 z hb (D:=E) (t:=u) (by omega) i2 (by omega) (λv h1 h2=>hp z hzm hk v (by omega) (by omega))
   rw [e1,cond_false,p1,ob_,eu]
   refine⟨(E',u+z.Many),rfl,by show u+z.Many=_;rw [t1];omega,p2,by show (E'.length:Int)=_;rw [t1];omega,λq => ?_⟩
   show cnt q E'=_
   rw [p4,i4,t2 q,decide_eq_true hk,Bool.true_and];omega
  ·have e1:sNe z.Spot s.Key=true:=by rw [yB,decide_eq_false hk];rfl
   rw [decide_eq_false hk,cond_false]at t1
   rw [e1,cond_true]
   refine⟨(E,u),rfl,by show u=_;rw [t1];omega,i2,by show (E.length:Int)=_;rw [t1];omega,λq => ?_⟩
   show cnt q E=_
   rw [i4,t2 q,decide_eq_false hk,Bool.false_and,cond_false];omega) ⟨by simp [amt],hD,by simp [amt],λq=>by simp [amt]⟩
 rw [List.take_length]at r2 r4 r5
 rw [r2]at r3
 refine⟨s'.1,?_,r3,r4,r5⟩
 rw [r1,<- r2]
end Go.Proofs.YtkjlhdminmpmkaaGreatDoor.Law

open Go Go.Eng Go.Flow
namespace Go.Proofs.YtkjlhdminmpmkaaGreatDoor.Law
set_option linter.unusedVariables false
set_option linter.unusedSimpArgs false
set_option linter.unusedSectionVars false
section
variable {spots:List Spot} {l:List Campaign}
theorem KR (hs:sw Spot.Key spots) {x:Nat->Nat->Int} (hx:(netOf spots l).Deal x) {k0:Nat} {s0:Spot} (h0:spots[k0]? = some s0):amt (λa=>decide (a.Spot=s0.Key)) (shA spots l x l.length)=S l.length (λi=>x i k0):=by
 have hk0:k0<spots.length:=(List.getElem?_eq_some_iff.1 h0).1
 rw [DC _ (λi k hi hk=>hx.pos i k hi hk) l.length (Nat.le_refl _)]
 refine bI (λi hi => ?_)
 rw [List.getElem?_eq_getElem hi]
 show S spots.length _=_
 rw [show x i k0=S spots.length (λk=>if k=k0 then x i k0 else 0) from (uH _ hk0).symm]
 refine bI (λk hk => ?_)
 have hks:=List.getElem?_eq_getElem hk
 rw [hks]
 show (bif decide (spots[k].Key=s0.Key)then x i k else 0)=_
 by_cases hkk:k=k0
 ·subst hkk
  rw [h0]at hks
  simp only [so_]at hks
  rw [<- hks,decide_eq_true rfl,if_pos rfl];rfl
 ·have:spots[k].Key≠s0.Key:=λe=>hkk (pW hs hk hk0 (by rw [e];congr 1;exact ((List.getElem?_eq_some_iff.1 h0).2).symm))
  rw [decide_eq_false this,if_neg hkk];rfl
theorem PT (hs:sw Spot.Key spots) (hc:sw Campaign.Key l) {x:Nat->Nat->Int} (hx:(netOf spots l).Deal x) {k0:Nat} {s0:Spot} (h0:spots[k0]? = some s0) {i0:Nat} {c0:Campaign} (hi:l[i0]? = some c0):amt (λa=>decide (a.Spot=s0.Key)&&decide (a.Campaign=c0.Key)) (shA spots l x l.length)=x i0 k0:=by
 have hk0:k0<spots.length:=(List.getElem?_eq_some_iff.1 h0).1
 have hi0:i0<l.length:=(List.getElem?_eq_some_iff.1 hi).1
 rw [DC _ (λi k hi hk=>hx.pos i k hi hk) l.length (Nat.le_refl _)]
 rw [show x i0 k0=S l.length (λi=>if i=i0 then x i0 k0 else 0) from (uH _ hi0).symm]
 refine bI (λi hil => ?_)
 have his:=List.getElem?_eq_getElem hil
 rw [his]
 show S spots.length _=_
 by_cases hii:i=i0
 ·subst hii
  rw [hi]at his
  simp only [so_]at his
  rw [if_pos rfl,show x i k0=S spots.length (λk=>if k=k0 then x i k0 else 0) from (uH _ hk0).symm]
  refine bI (λk hk => ?_)
  have hks:=List.getElem?_eq_getElem hk
  rw [hks]
  show (bif decide (spots[k].Key=s0.Key)&&decide (l[i].Key=c0.Key)then x i k else 0)=_
  rw [<- his,decide_eq_true (rfl:c0.Key=c0.Key),Bool.and_true]
  by_cases hkk:k=k0
  ·subst hkk
   rw [h0]at hks
   simp only [so_]at hks
   rw [<- hks,decide_eq_true rfl,if_pos rfl];rfl
  ·have:spots[k].Key≠s0.Key:=λe=>hkk (pW hs hk hk0 (by rw [e];congr 1;exact ((List.getElem?_eq_some_iff.1 h0).2).symm))
   rw [decide_eq_false this,if_neg hkk];rfl
 ·rw [if_neg hii]
  refine Net.S_all0 (λk hk => ?_)
  rw [List.getElem?_eq_getElem hk]
  have:l[i].Key≠c0.Key:=λe=>hii (pW hc hil hi0 (by rw [e];congr 1;exact ((List.getElem?_eq_some_iff.1 hi).2).symm))
  show (bif decide (spots[k].Key=s0.Key)&&decide (l[i].Key=c0.Key)then x i k else 0)=0
  rw [decide_eq_false this,Bool.and_false];rfl
def ER (l:List Campaign) (q:ByteArray) (t:Int):Prop:=∃c∈l,c.Key=q/\c.Time.From<=t/\t<c.Time.To
theorem OZ {c:Campaign} {s:Spot} (h:wM c s=true):c.Time.From<=s.Time.From/\s.Time.To<=c.Time.To:=by
 unfold wM at h
 rw [Bool.and_eq_true,Bool.and_eq_true,decide_eq_true_eq,decide_eq_true_eq]at h
 exact h.1
theorem Pp (hH:fu=some true) (hs:sw Spot.Key spots) (hc:sw Campaign.Key l) (hn:spots.length<=5) (hl:l.length<=4) (hap:spots.Pairwise (λx y=>x.Time.To<=y.Time.From)) (hsp:∀x∈spots,0<=x.Time.From/\x.Time.From<x.Time.To/\x.Time.To<=60/\0<=x.Room/\x.Room<=5) (hcm:∀c∈l,c.Most<=9) {x:Nat->Nat->Int} (hx:(netOf spots l).Deal x) :
  (∃D,forL spots ([]:List Log_) (λk y s=>cZ (shA spots l x l.length,0) k y s)=some (.go D)/\Dl (ER l) D 60/\(D.length:Int)=(netOf spots l).goals/\∀(i:Nat) (c:Campaign),l[i]? = some c->cnt c.Key D=c.Goal)\/forL spots ([]:List Log_) (λk y s=>cZ (shA spots l x l.length,0) k y s)=some (.ret true):=by
 have hmany:∀y∈shA spots l x l.length,0<=y.Many/\y.Many<=1000000:=λy hy=>by
  obtain ⟨j,c,m,s,h1,h2,h3,h4,h5,e⟩:=Jh hy
  have hm:=hx.most j m h1 h3
  rw [(wh h2).2]at hm
  have h6:=hcm c (List.mem_of_getElem? h2)
  subst e
  show 0<=x j m/\x j m<=1000000
  cases hsu:(netOf spots l).suits j m with
  | false=>rw [hsu]at hm;simp only [cond_false]at hm;omega
  | true=>rw [hsu]at hm;simp only [cond_true]at hm;omega
 have hlen:(shA spots l x l.length).length<=1000:=by
  have h1:=I1 (spots:=spots) (l:=l) (x:=x) l.length
  have h2:l.length*spots.length<=4*5:=Nat.mul_le_mul hl hn
  omega
 have hsuit:∀(k:Nat) (s:Spot),spots[k]? = some s->∀z∈shA spots l x l.length,z.Spot=s.Key->∃c∈l,c.Key=z.Campaign/\c.Time.From<=s.Time.From/\s.Time.To<=c.Time.To:=λk s hk z hz e=>by
  obtain ⟨j,c,m,s',h1,h2,h3,h4,h5,e'⟩:=Jh hz
  have hkl:k<spots.length:=(List.getElem?_eq_some_iff.1 hk).1
  have hmk:m=k:=pW hs h3 hkl (by
   rw [(List.getElem?_eq_some_iff.1 h4).2,(List.getElem?_eq_some_iff.1 hk).2]
   rw [e']at e;exact e)
  subst hmk
  rw [hk]at h4
  have hss:s=s':=Option.some.inj h4
  subst hss
  have hm:=hx.most j m h1 h3
  rw [Ea h2 hk]at hm
  have hsu:wM c s=true:=by
   cases hsu:wM c s with
   | true=>rfl
   | false=>rw [hsu]at hm;simp only [cond_false]at hm;omega
  exact⟨c,List.mem_of_getElem? h2,by rw [e'],OZ hsu⟩
 have hspot:=λ{k0:Nat} {s0:Spot} (h0:spots[k0]? = some s0)=>KR hs hx h0
 have hroom:=λ{k0:Nat} {s0:Spot} (h0:spots[k0]? = some s0)=>QO hs hx h0
 have hpair:=λ{k0:Nat} {s0:Spot} (h0:spots[k0]? = some s0) {i0:Nat} {c0:Campaign} (hi:l[i0]? = some c0)=>PT hs hc hx h0 hi
 generalize shA spots l x l.length=L at *
 have hloop:=forL_or (body:=λk y s=>cZ (L,0) k y s) (λk D=>(D.length<=5*k)/\(∃hi,Dl (ER l) D hi/\0<=hi/\hi<=60/\∀j s,k<=j->spots[j]? = some s->hi<=s.Time.From)/\(D.length:Int)=S k (λk=>S l.length (λi=>x i k))/\∀(i:Nat) (c:Campaign),l[i]? = some c->cnt c.Key D=S k (x i)) true (xs:=spots) (s:=([]:List Log_)) (by omega) (λk s D hk ⟨i0,⟨hi,i1,i2,i3,i4⟩,i5,i6⟩=>by
  have hkl:k<spots.length:=(List.getElem?_eq_some_iff.1 hk).1
  have hsm:=hsp s (List.mem_of_getElem? hk)
  have ha:=hroom hk
  have ha0:=Jz (λz=>decide (z.Spot=s.Key)) hmany
  have hD:=i1.mono (i4 k s (Nat.le_refl _) hk)
  unfold cZ
  by_cases hto:s.Time.From+amt (λz=>decide (z.Spot=s.Key)) L<=s.Time.To
  ·left
   obtain ⟨D',p1,p2,p3,p4⟩:=NM (P:=ER l) s hmany hlen (by omega) (by omega) hD (by omega) (λz hz e u h1 h2=>by
    obtain ⟨c,c1,c2,c3,c4⟩:=hsuit k s hk z hz e
    exact⟨c,c1,c2,by omega,by omega⟩)
   rw [p1,ob_,eu,decide_eq_false (show ¬(s.Time.From+amt (λz=>decide (z.Spot=s.Key)) L>s.Time.To) by omega)]
   refine⟨D',rfl,by omega,⟨s.Time.To,p2.mono hto,by omega,by omega,λj s' hj hs' => ?_⟩,?_,λi c hic => ?_⟩
   ·have hjl:j<spots.length:=(List.getElem?_eq_some_iff.1 hs').1
    have:=List.pairwise_iff_getElem.1 hap k j hkl hjl (by omega)
    rw [(List.getElem?_eq_some_iff.1 hk).2,(List.getElem?_eq_some_iff.1 hs').2]at this
    exact this
   ·rw [p3,i5,hspot hk];rfl
   ·rw [p4,i6 i c hic,hpair hk hic];rfl
  ·right
   have hT:Dl (λ_ _=>True) D s.Time.From:=⟨λk g hg=>by obtain ⟨t,h1,h2,h3,_⟩:=hD.no k g hg;exact⟨t,h1,h2,h3,trivial⟩,hD.up⟩
   obtain ⟨D',p1,_,_,_⟩:=NM (P:=λ_ _=>True) s hmany hlen (by omega) (by omega) hT (by omega) (λz hz e u h1 h2=>trivial)
   rw [p1,ob_,eu,decide_eq_true (show (s.Time.From+amt (λz=>decide (z.Spot=s.Key)) L>s.Time.To) by omega),cond_true,hH];rfl) ⟨by simp,⟨0,⟨λk g hg=>by simp at hg,List.Pairwise.nil⟩,by omega,by omega,λj s _ hs'=>(hsp s (List.mem_of_getElem? hs')).1⟩,rfl,λi c _=>rfl⟩
 rcases hloop with⟨D,r1,r2,⟨hi,r3,r4,r5,_⟩,r6,r7⟩|r1
 ·refine .inl ⟨D,r1,r3.mono r5,?_,λi c hic => ?_⟩
  ·rw [r6,FN]
   show _=S l.length (netOf spots l).goal
   exact bI (λi hi=>hx.goal i hi)
  ·rw [r7 i c hic]
   have:=hx.goal i (List.getElem?_eq_some_iff.1 hic).1
   rw [(wh hic).1]at this
   exact this
 ·exact .inr r1
end
end Go.Proofs.YtkjlhdminmpmkaaGreatDoor.Law

