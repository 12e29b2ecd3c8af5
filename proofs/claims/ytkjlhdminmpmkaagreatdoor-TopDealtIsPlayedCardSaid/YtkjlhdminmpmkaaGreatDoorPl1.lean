/-
  THE PLAIN LAW (part 1).
-/
import Derived.Test.YtkjlhdminmpmkaaGreatDoorEng5
import Derived.Test.YtkjlhdminmpmkaaGreatDoorDefs
namespace Go.Flow
set_option linter.unusedVariables false
def S:Nat->(Nat->Int)->Int
 | 0,_=>0
 | n+1,f=>S n f+f n
theorem bI {f g:Nat->Int}:∀{n:Nat},(∀i,i<n->f i=g i)->S n f=S n g
 | 0,_=>rfl
 | n+1,h=>by rw [S,S,bI (λi hi=>h i (by omega)),h n (by omega)]
theorem uj:∀n:Nat,S n (λ_=>0)=0
 | 0=>rfl
 | n+1=>by rw [S,uj n];rfl
theorem xz (f g:Nat->Int):∀n:Nat,S n (λi=>f i+g i)=S n f+S n g
 | 0=>rfl
 | n+1=>by rw [S,S,S,xz f g n];omega
theorem Hg (f:Nat->Int):∀n:Nat,S n (λi => - f i) = - S n f
 | 0=>rfl
 | n+1=>by rw [S,S,Hg f n];omega
theorem Ak (f g:Nat->Int) (n:Nat):S n (λi=>f i-g i)=S n f-S n g:=by
 have h1:=xz f (λi => - g i) n
 rw [Hg g n]at h1
 have h2:S n (λi=>f i-g i)=S n (λi=>f i + - g i):=bI (λi _=>by omega)
 omega
theorem S_le {f g:Nat->Int}:∀{n:Nat},(∀i,i<n->f i<=g i)->S n f<=S n g
 | 0,_=>Int.le_refl _
 | n+1,h=>by
  have h1:=S_le (n:=n) (λi hi=>h i (by omega))
  have h2:=h n (by omega)
  rw [S,S];omega
theorem uE {f:Nat->Int} {n:Nat} (h:∀i,i<n->0<=f i):0<=S n f:=by
 have:=S_le (f:=λ_=>0) (g:=f) (n:=n) h
 rw [uj]at this;exact this
theorem uH {n i:Nat} (x:Int) (h:i<n):S n (λj=>if j=i then x else 0)=x:=by
 induction n with
 | zero=>omega
 | succ n ih =>
  rw [S]
  by_cases hi:i=n
  ·subst hi
   have:S i (λj=>if j=i then x else 0)=S i (λ_=>0):=bI (λj hj=>if_neg (by omega))
   rw [this,uj,if_pos rfl];omega
  ·rw [ih (by omega),if_neg (by omega)];omega
theorem FN (f:Nat->Nat->Int) (m:Nat):∀n:Nat,S n (λi=>S m (λj=>f i j))=S m (λj=>S n (λi=>f i j))
 | 0=>by
  show (0:Int)=S m (λ_=>0)
  rw [uj]
 | n+1=>by
  show S n (λi=>S m (λj=>f i j))+S m (λj=>f n j)=S m (λj=>S n (λi=>f i j)+f n j)
  rw [xz,FN f m n]
theorem NF {f g:Nat->Int} {n i:Nat} (hi:i<n) (h:∀j,j<n->j≠i->g j=f j):S n g=S n f+(g i-f i):=by
 have h1:S n g=S n (λj=>f j+if j=i then g i-f i else 0):=bI (λj hj=>by
  by_cases hji:j=i
  ·subst hji;rw [if_pos rfl];omega
  ·rw [if_neg hji,h j hj hji];omega)
 rw [h1,xz,uH _ hi]
theorem S_part (R:Nat->Bool) (f:Nat->Int) (n:Nat):S n f=S n (λi=>bif R i then f i else 0)+S n (λi=>bif R i then 0 else f i):=by
 rw [<- xz]
 refine bI (λi _ => ?_)
 cases R i
 ·show f i=0+f i;omega
 ·show f i=f i+0;omega
theorem PD {n:Nat} {f:Nat->Nat->Int} (ha:∀a b,a<n->b<n->f a b = - f b a) (R:Nat->Bool):S n (λa=>bif R a then S n (λb=>bif R b then f a b else 0)else 0)=0:=by
 have e1:S n (λa=>bif R a then S n (λb=>bif R b then f a b else 0)else 0)=S n (λa=>S n (λb=>bif R a then (bif R b then f a b else 0)else 0)):=bI (λa _=>by
  cases R a
  ·show (0:Int)=S n (λ_=>0);rw [uj]
  ·rfl)
 have e2:S n (λa=>S n (λb=>bif R a then (bif R b then f a b else 0)else 0))=S n (λb=>S n (λa=>bif R a then (bif R b then f a b else 0)else 0)):=FN _ n n
 have e3:S n (λb=>S n (λa=>bif R a then (bif R b then f a b else 0)else 0))=S n (λb => - S n (λa=>bif R b then (bif R a then f b a else 0)else 0)):=bI (λb hb=>by
  rw [<- Hg]
  refine bI (λa hla => ?_)
  cases R a <;> cases R b <;> simp only [cond_true,cond_false]
  ·rfl
  ·rfl
  ·rfl
  ·exact ha a b hla hb)
 rw [Hg]at e3
 rw [e1]
 omega
theorem Om {n s t:Nat} {f:Nat->Nat->Int} (ha:∀a b,a<n->b<n->f a b = - f b a) (hc:∀v,v<n->v≠s->v≠t->S n (f v)=0) (hs:s<n) {R:Nat->Bool} (rs:R s=true) (rt:R t=false) :
  S n (f s)=S n (λa=>bif R a then S n (λb=>bif R b then 0 else f a b)else 0):=by
 have e1:S n (λa=>bif R a then S n (f a)else 0)=S n (f s):=by
  have:S n (λa=>bif R a then S n (f a)else 0)=S n (λa=>if a=s then S n (f s)else 0):=bI (λa hla=>by
   by_cases h:a=s
   ·subst h;rw [rs,if_pos rfl];rfl
   ·rw [if_neg h]
    cases hr:R a with
    | false=>rfl
    | true =>
     have hat:a≠t:=λe=>by rw [e,rt]at hr;cases hr
     exact hc a hla h hat)
  rw [this,uH _ hs]
 have e2:S n (λa=>bif R a then S n (f a)else 0)=S n (λa=>(bif R a then S n (λb=>bif R b then f a b else 0)else 0)+(bif R a then S n (λb=>bif R b then 0 else f a b)else 0)):=bI (λa _=>by
  cases R a
  ·rfl
  ·exact S_part R (f a) n)
 rw [xz,PD ha R]at e2
 omega
def cap (n:Nat) (c:Nat->Nat->Int) (R:Nat->Bool):Int:=S n (λa=>bif R a then S n (λb=>bif R b then 0 else c a b)else 0)
theorem cap_sub (n:Nat) (c d:Nat->Nat->Int) (R:Nat->Bool):cap n (λa b=>c a b-d a b) R=cap n c R-cap n d R:=by
 unfold cap
 rw [<- Ak]
 refine bI (λa _ => ?_)
 cases R a
 ·rfl
 ·show S n _=S n _-S n _
  rw [<- Ak]
  refine bI (λb _ => ?_)
  cases R b
  ·rfl
  ·rfl
structure Flows (n s t:Nat) (c0 c:Nat->Nat->Int) (v:Int):Prop where
 pos:∀a b,a<n->b<n->0<=c a b
 anti:∀a b,a<n->b<n->c0 a b-c a b = - (c0 b a-c b a)
 cons:∀x,x<n->x≠s->x≠t->S n (λb=>c0 x b-c x b)=0
 val:S n (λb=>c0 s b-c s b)=v
theorem Flows.le {n s t:Nat} {c0 c:Nat->Nat->Int} {v:Int} (h:Flows n s t c0 c v) (hs:s<n) {R:Nat->Bool} (rs:R s=true) (rt:R t=false):v=cap n c0 R-cap n c R/\v<=cap n c0 R:=by
 have e:=Om (f:=λa b=>c0 a b-c a b) h.anti h.cons hs rs rt
 have e2:S n (λa=>bif R a then S n (λb=>bif R b then 0 else c0 a b-c a b)else 0)=cap n (λa b=>c0 a b-c a b) R:=rfl
 rw [e2,cap_sub]at e
 have h0:0<=cap n c R:=by
  refine uE (λa hla => ?_)
  cases hr:R a with
  | false=>exact Int.le_refl _
  | true =>
   refine uE (λb hb => ?_)
   cases hq:R b with
   | false=>exact h.pos a b hla hb
   | true=>exact Int.le_refl _
 have:=h.val
 constructor <;> omega
theorem Flows.eq {n s t:Nat} {c0 c:Nat->Nat->Int} {v:Int} (h:Flows n s t c0 c v) (hs:s<n) {R:Nat->Bool} (rs:R s=true) (rt:R t=false) (h0:∀a b,a<n->b<n->R a=true->R b=false->c a b=0):v=cap n c0 R:=by
 have e:=(h.le hs rs rt).1
 have:cap n c R=0:=by
  have h1:cap n c R=S n (λ_=>0):=bI (λa hla=>by
   cases hr:R a with
   | false=>rfl
   | true =>
    show S n _=0
    have:S n (λb=>bif R b then 0 else c a b)=S n (λ_=>0):=bI (λb hb=>by
     cases hq:R b with
     | false=>exact h0 a b hla hb hr hq
     | true=>rfl)
    rw [this,uj])
  rw [h1,uj]
 omega
theorem Flows.zero {n s t:Nat} {c0:Nat->Nat->Int} (hp:∀a b,a<n->b<n->0<=c0 a b):Flows n s t c0 c0 0 where
 pos:=hp
 anti:=λa b _ _=>by omega
 cons:=λx _ _ _=>by
  have:S n (λb=>c0 x b-c0 x b)=S n (λ_=>0):=bI (λb _=>by omega)
  rw [this,uj]
 val:=by
  have:S n (λb=>c0 s b-c0 s b)=S n (λ_=>0):=bI (λb _=>by omega)
  rw [this,uj]
end Go.Flow

namespace Go.Flow
set_option linter.unusedVariables false
def push (c:Nat->Nat->Int) (p i:Nat) (k:Int):Nat->Nat->Int:=λa b=>if a=p/\b=i then c a b-k else if a=i/\b=p then c a b+k else c a b
theorem Ao {c:Nat->Nat->Int} {p i:Nat} (k:Int):push c p i k p i=c p i-k:=if_pos ⟨rfl,rfl⟩
theorem Ca {c:Nat->Nat->Int} {p i:Nat} (k:Int) (h:p≠i):push c p i k i p=c i p+k:=by
 unfold push;rw [if_neg (λe=>h e.1.symm),if_pos ⟨rfl,rfl⟩]
theorem Ac {c:Nat->Nat->Int} {p i a b:Nat} (k:Int) (h1:¬(a=p/\b=i)) (h2:¬(a=i/\b=p)):push c p i k a b=c a b:=by
 unfold push;rw [if_neg h1,if_neg h2]
theorem IG {c:Nat->Nat->Int} {p i a b:Nat} {k:Int} (hk:0<=k) (h1:¬(a=p/\b=i)):c a b<=push c p i k a b:=by
 unfold push;rw [if_neg h1];split <;> omega
theorem Gu {n:Nat} {c0 c:Nat->Nat->Int} {p i:Nat} {k:Int} (hpi:p≠i) (h:∀a b,a<n->b<n->c0 a b-c a b = - (c0 b a-c b a)):∀a b,a<n->b<n->c0 a b-push c p i k a b = - (c0 b a-push c p i k b a):=by
 intro a b ha hb
 have h0:=h a b ha hb
 by_cases h1:a=p/\b=i
 ·obtain ⟨rfl,rfl⟩:=h1
  rw [Ao,Ca _ hpi];omega
 ·by_cases h2:a=i/\b=p
  ·obtain ⟨rfl,rfl⟩:=h2
   rw [Ao,Ca _ hpi];omega
  ·rw [Ac _ h1 h2,Ac _ (λe=>h2 ⟨e.2,e.1⟩) (λe=>h1 ⟨e.2,e.1⟩)];exact h0
def out (n:Nat) (c0 c:Nat->Nat->Int) (x:Nat):Int:=S n (λb=>c0 x b-c x b)
theorem Qk {n:Nat} {c0 c:Nat->Nat->Int} {p i:Nat} {k:Int} (hpi:p≠i) (hp:p<n) (hi:i<n) (x:Nat):out n c0 (push c p i k) x=out n c0 c x+(if x=p then k else 0)-(if x=i then k else 0):=by
 unfold out
 by_cases h1:x=p
 ·subst h1
  rw [if_pos rfl,if_neg hpi,NF (f:=λb=>c0 x b-c x b) (g:=λb=>c0 x b-push c x i k x b) hi (λj hj hji=>by
   show c0 x j-push c x i k x j=c0 x j-c x j
   rw [Ac _ (λe=>hji e.2) (λe=>hpi e.1)])]
  show _+(c0 x i-push c x i k x i-(c0 x i-c x i))=_
  rw [Ao];omega
 ·rw [if_neg h1]
  by_cases h2:x=i
  ·subst h2
   rw [if_pos rfl,NF (f:=λb=>c0 x b-c x b) (g:=λb=>c0 x b-push c p x k x b) hp (λj hj hji=>by
    show c0 x j-push c p x k x j=c0 x j-c x j
    rw [Ac _ (λe=>h1 e.1) (λe=>hji e.2)])]
   show _+(c0 x p-push c p x k x p-(c0 x p-c x p))=_
   rw [Ca _ hpi];omega
  ·rw [if_neg h2,bI (f:=λb=>c0 x b-push c p i k x b) (g:=λb=>c0 x b-c x b) (λj _=>by
    show c0 x j-push c p i k x j=_
    rw [Ac _ (λe=>h1 e.1) (λe=>h2 e.1)])]
   omega
structure Tree (n s:Nat) (P:Nat->Prop) (bef rk:Nat->Nat):Prop where
 lt:∀i,P i->i<n
 up:∀i,P i->i≠s->P (bef i)/\rk (bef i)<rk i
def least (s:Nat) (bef:Nat->Nat) (c:Nat->Nat->Int):Nat->Nat->Int->Int
 | 0,_,k=>k
 | f+1,i,k=>if i=s then k else least s bef c f (bef i) (min k (c (bef i) i))
def aug (s:Nat) (bef:Nat->Nat) (k:Int):Nat->Nat->(Nat->Nat->Int)->Nat->Nat->Int
 | 0,_,c=>c
 | f+1,i,c=>if i=s then c else aug s bef k f (bef i) (push c (bef i) i k)
section
variable {n s:Nat} {P:Nat->Prop} {bef rk:Nat->Nat}
theorem EE (c:Nat->Nat->Int):∀(f i:Nat) (k:Int),least s bef c f i k<=k
 | 0,_,k=>Int.le_refl _
 | f+1,i,k=>by
  unfold least
  split
  ·exact Int.le_refl _
  ·have:=EE c f (bef i) (min k (c (bef i) i));omega
theorem Ha (T:Tree n s P bef rk) {c:Nat->Nat->Int} (hc:∀i,P i->i≠s->0<c (bef i) i):∀(f i:Nat) (k:Int),P i->0<k->0<least s bef c f i k
 | 0,_,k,_,hk=>hk
 | f+1,i,k,hi,hk=>by
  unfold least
  split
  ·exact hk
  ·rename_i h
   have:=hc i hi h
   exact Ha T hc f (bef i) _ (T.up i hi h).1 (by omega)
def Bears (s:Nat) (bef:Nat->Nat) (c:Nat->Nat->Int) (k:Int):Nat->Nat->Prop
 | 0,_=>True
 | f+1,i=>i=s\/(k<=c (bef i) i/\Bears s bef c k f (bef i))
theorem Bears.mono {c:Nat->Nat->Int} {k k':Int} (h:k'<=k):∀{f i:Nat},Bears s bef c k f i->Bears s bef c k' f i
 | 0,_,_=>trivial
 | f+1,i,hb=>hb.imp id (λhb=>⟨Int.le_trans h hb.1,Bears.mono h hb.2⟩)
theorem CX (c:Nat->Nat->Int):∀(f i:Nat) (k:Int),Bears s bef c (least s bef c f i k) f i
 | 0,_,_=>trivial
 | f+1,i,k=>by
  unfold least
  by_cases h:i=s
  ·exact .inl h
  ·rw [if_neg h]
   have h1:=EE (s:=s) (bef:=bef) c f (bef i) (min k (c (bef i) i))
   exact .inr ⟨by omega,CX c f (bef i) _⟩
theorem Bears.push (T:Tree n s P bef rk) {c:Nat->Nat->Int} {k l:Int} (hl:0<=l) {j:Nat}:∀{f i:Nat},P i->rk i<rk j->Bears s bef c k f i->Bears s bef (push c (bef j) j l) k f i
 | 0,_,_,_,_=>trivial
 | f+1,i,hi,hr,hb=>by
  rcases hb with hb|⟨h1,h2⟩
  ·exact .inl hb
  ·by_cases his:i=s
   ·exact .inl his
   ·have hu:=T.up i hi his
    refine .inr ⟨Int.le_trans h1 (IG hl (λe => ?_)),Bears.push T hl hu.1 (by omega) h2⟩
    rw [e.2]at hr;exact Nat.lt_irrefl _ hr
theorem QR (T:Tree n s P bef rk) {c0:Nat->Nat->Int} {k:Int} (hk:0<=k):∀(f i:Nat) (c:Nat->Nat->Int),P i->rk i<=f->Bears s bef c k f i->(∀a b,a<n->b<n->0<=c a b)->(∀a b,a<n->b<n->c0 a b-c a b = - (c0 b a-c b a)) ->
  (rk s=0)->(∀i,P i->rk i=0->i=s) ->
  (∀a b,a<n->b<n->0<=aug s bef k f i c a b)/\(∀a b,a<n->b<n->c0 a b-aug s bef k f i c a b = - (c0 b a-aug s bef k f i c b a))/\∀x,out n c0 (aug s bef k f i c) x=out n c0 c x+(if x=s then k else 0)-(if x=i then k else 0)
 | 0,i,c,hi,hr,hb,h0,ha,hs,hz=>by
  have:i=s:=hz i hi (by omega)
  subst this
  refine⟨h0,ha,λx => ?_⟩
  show out n c0 c x=_
  omega
 | f+1,i,c,hi,hr,hb,h0,ha,hs,hz=>by
  unfold aug
  by_cases his:i=s
  ·rw [if_pos his]
   subst his
   exact⟨h0,ha,λx=>by omega⟩
  ·rw [if_neg his]
   have hu:=T.up i hi his
   have hne:bef i≠i:=λe=>by have:=hu.2;rw [e]at this;exact Nat.lt_irrefl _ this
   have hb':=hb.resolve_left his
   obtain ⟨r1,r2,r3⟩:=QR T hk f (bef i) (push c (bef i) i k) hu.1 (by omega) (Bears.push T hk hu.1 hu.2 hb'.2) (λa b hla hlb=>by
    by_cases h1:a=bef i/\b=i
    ·obtain ⟨rfl,rfl⟩:=h1
     rw [Ao];have:=hb'.1;omega
    ·exact Int.le_trans (h0 a b hla hlb) (IG hk h1)) (Gu hne ha) hs hz
   refine⟨r1,r2,λx => ?_⟩
   rw [r3 x,Qk hne (T.lt _ hu.1) (T.lt _ hi) x]
   omega
theorem Flows.aug (T:Tree n s P bef rk) {t:Nat} {c0 c:Nat->Nat->Int} {v k:Int} (h:Flows n s t c0 c v) (hst:s≠t) (ht:P t) (hk:0<=k) {f:Nat} (hf:rk t<=f) (hb:Bears s bef c k f t) (hs:rk s=0) (hz:∀i,P i->rk i=0->i=s):Flows n s t c0 (Go.Flow.aug s bef k f t c) (v+k):=by
 obtain ⟨r1,r2,r3⟩:=QR T hk f t c ht hf hb h.pos h.anti hs hz
 refine⟨r1,r2,λx hx h1 h2 => ?_,?_⟩
 ·have e:=r3 x
  rw [if_neg h1,if_neg h2]at e
  have:=h.cons x hx h1 h2
  unfold out at e
  omega
 ·have e:=r3 s
  rw [if_pos rfl,if_neg hst]at e
  have:=h.val
  unfold out at e
  omega
end
end Go.Flow

namespace Go.Eng
set_option linter.unusedVariables false
set_option linter.unusedSimpArgs false
theorem jE {α σ ρ:Type} {body:Nat->α->σ->Option (Ctl σ ρ)} {xs:List α} {s:σ} (hl:xs.length<=1000000000000):forL xs s body=forR body xs 0 s:=by unfold forL;rw [if_pos hl]
theorem eu {σ ρ τ:Type} (s:σ) (f:σ->Option τ) (g:ρ->Option τ):thenC (.go s) f g=f s:=rfl
theorem O7 {σ ρ τ:Type} (r:ρ) (f:σ->Option τ) (g:ρ->Option τ):thenC (.ret r) f g=g r:=rfl
theorem jV {α:Type} (xs:List α) (k:Nat):idx xs (k:Int)=xs[k]? := by simp [idx]
theorem dw {n:Int} (h : -9223372036854775808<=n/\n<=9223372036854775807):w64 n=n:=I9 n h
theorem toL (s:ByteArray):s.toList=s.data.toList:=Go.Lib.toList_data s
theorem Ay {a b:ByteArray} (h:a.toList=b.toList):a=b:=by
 rw [toL,toL]at h
 obtain ⟨⟨a⟩⟩:=a
 obtain ⟨⟨b⟩⟩:=b
 simp only at h
 rw [h]
theorem yw (a b:ByteArray):sEq a b=true↔a=b:=by
 simp only [sEq,beq_iff_eq]
 exact⟨Ay,λh=>by rw [h]⟩
theorem xZ (a b:ByteArray):sEq a b=decide (a=b):=by
 rw [Bool.eq_iff_iff,yw];simp
theorem yB (a b:ByteArray):sNe a b = !decide (a=b):=by
 have:=xZ a b;simp only [sEq,sNe]at *;rw [this]
abbrev bl:=Op.bytesLess
theorem bl_lt:∀(x y:List UInt8),bl x y=decide (x<y)
 | _,[]=>by simp [bl,Op.bytesLess]
 | [],_::_=>by simp [bl,Op.bytesLess]
 | a::x,b::y=>by
  have:=bl_lt x y
  simp only [bl,Op.bytesLess]at this ⊢
  rw [this,Bool.eq_iff_iff]
  simp only [Bool.or_eq_true,decide_eq_true_eq,Bool.and_eq_true,beq_iff_eq,List.cons_lt_cons_iff]
def lt (a b:ByteArray):Prop:=a.toList<b.toList
theorem Dv (a b:ByteArray):sLt a b=true↔lt a b:=by
 show bl a.toList b.toList=true↔_
 rw [bl_lt];simp [lt]
theorem oW (a:ByteArray):¬lt a a:=List.lt_irrefl a.toList
theorem lt_trans {a b c:ByteArray} (h:lt a b) (k:lt b c):lt a c:=List.lt_trans h k
theorem lt_tri (a b:ByteArray):lt a b\/a=b\/lt b a:=by
 rcases Classical.em (lt a b)with h|h
 ·exact .inl h
 ·rcases Classical.em (lt b a)with h2|h2
  ·exact .inr (.inr h2)
  ·exact .inr (.inl (Ay (List.le_antisymm (List.not_lt.1 h2) (List.not_lt.1 h))))
theorem Aq (a b:ByteArray):sLe a b=true↔¬lt b a:=by
 have h1:=Dv a b
 have h2:=yw a b
 simp only [sLe,Bool.or_eq_true]
 constructor
 ·rintro (h|h)
  ·exact λk=>oW _ (lt_trans (h1.1 h) k)
  ·rw [h2.1 h];exact oW _
 ·intro h
  rcases lt_tri a b with k|k|k
  ·exact .inl (h1.2 k)
  ·exact .inr (h2.2 k)
  ·exact absurd k h
theorem sLe_nil (a:ByteArray):sLe a ⟨#[]⟩=decide (a.size=0):=by
 rw [Bool.eq_iff_iff,Aq,lt,toL,toL,Go.Lib.size_eq]
 cases a.data.toList <;> simp
theorem Ol (a:ByteArray):sNe a ⟨#[]⟩=decide (a.size≠0):=by
 rw [yB,Go.Lib.size_eq,Bool.eq_iff_iff]
 simp only [Bool.not_eq_true',decide_eq_false_iff_not,decide_eq_true_eq,ne_eq]
 refine not_congr ⟨λh=>by rw [h];rfl,λh => ?_⟩
 exact Ay (by rw [toL,List.eq_nil_of_length_eq_zero h,toL])
end Go.Eng

open Go Go.Eng
namespace Go.Flow
set_option linter.unusedVariables false
set_option linter.unusedSimpArgs false
set_option linter.unusedSectionVars false
theorem Rj {α σ ρ:Type} {body:Nat->α->σ->Option (Ctl σ ρ)} (I:Nat->σ->Prop) (xs:List α):∀(l:List α) (k:Nat) (s:σ),xs.drop k=l->k<=xs.length->(∀k x s,xs[k]? = some x->I k s->∃s',body k x s=some (.go s')/\I (k+1) s')->I k s->∃s',forR body l k s=some (.go s')/\I xs.length s'
 | [],k,s,hd,hk,h,hi=>by
  have:=List.drop_eq_nil_iff.1 hd
  obtain rfl:k=xs.length:=by omega
  exact⟨s,rfl,hi⟩
 | x::l,k,s,hd,hk,h,hi=>by
  obtain ⟨s1,h1,h2⟩:=h k x s (lq hd) hi
  obtain ⟨s2,h3,h4⟩:=Rj I xs l (k+1) s1 (aV hd) (by have:=tL hd;omega) h h2
  exact⟨s2,by rw [forR,h1,ob_];exact h3,h4⟩
theorem o7 {α σ ρ:Type} {body:Nat->α->σ->Option (Ctl σ ρ)} (I:Nat->σ->Prop) {xs:List α} {s:σ} (hl:xs.length<=1000000000000) (h:∀k x s,xs[k]? = some x->I k s->∃s',body k x s=some (.go s')/\I (k+1) s') (h0:I 0 s):∃s',forL xs s body=some (.go s')/\I xs.length s':=by
 rw [jE hl]
 exact Rj I xs xs 0 s rfl (Nat.zero_le _) h h0
theorem xh {σ ρ:Type} {body:Nat->Nat->σ->Option (Ctl σ ρ)} (I:Nat->σ->Prop) {n:Nat} {s:σ} (hl:n<=1000000000000) (h:∀k s,k<n->I k s->∃s',body k k s=some (.go s')/\I (k+1) s') (h0:I 0 s):∃s',forL (List.range n) s body=some (.go s')/\I n s':=by
 have:=o7 (body:=body) I (xs:=List.range n) (s:=s) (by simpa using hl) (λk x s hx hi=>by
  have hk:k<n:=by have:=(List.getElem?_eq_some_iff.1 hx).1;simpa using this
  rw [List.getElem?_range hk]at hx
  simp only [so_]at hx
  subst hx
  exact h k s hk hi) h0
 simpa using this
theorem GR {σ ρ:Type} {body:σ->Option (Ctl σ ρ)} (I:σ->Prop) (m:σ->Nat) (P:σ->Prop)
  (h:∀s,I s->(∃s',body s=some (.go s')/\I s'/\m s'<m s)\/∃s',body s=some (.brk s')/\P s') {s:σ} (h0:I s):∃s',fZ s body=some (.go s')/\P s':=by
 have key:∀(n:Nat) (s:σ),m s<=n->I s->∃k s',iterN body (k+1) s=some (.go s')/\P s':=by
  intro n
  induction n with
  | zero =>
   intro s hm hI
   rcases h s hI with⟨s',e,hI',hl⟩|⟨s',e,hp⟩
   ·omega
   ·exact⟨0,s',by simp only [iterN,e,ob_],hp⟩
  | succ n ih =>
   intro s hm hI
   rcases h s hI with⟨s',e,hI',hl⟩|⟨s',e,hp⟩
   ·obtain ⟨k,r,er,hr⟩:=ih s' (by omega) hI'
    exact⟨k+1,r,by rw [iterN,e,ob_];exact er,hr⟩
   ·exact⟨0,s',by simp only [iterN,e,ob_],hp⟩
 obtain ⟨k,o,e,hp⟩:=key (m s) s (Nat.le_refl _) h0
 exact⟨o,fC e,hp⟩
def at2 (rows:List (List Int)) (a b:Nat):Int:=(rows.getD a []).getD b 0
structure Sq (n:Nat) (rows:List (List Int)):Prop where
 len:rows.length=n
 row:∀r∈rows,r.length=n
section
variable {n:Nat} {rows:List (List Int)}
theorem Sq.get (h:Sq n rows) {a:Nat} (ha:a<n):∃r,rows[a]? = some r/\r.length=n/\∀b,b<n->r[b]? = some (at2 rows a b):=by
 have hl:a<rows.length:=by rw [h.len];exact ha
 refine⟨rows[a],List.getElem?_eq_getElem hl,h.row _ (List.getElem_mem hl),λb hb => ?_⟩
 have hb':b<rows[a].length:=by rw [h.row _ (List.getElem_mem hl)];exact hb
 simp only [at2,List.getD_eq_getElem?_getD,List.getElem?_eq_getElem hl,Option.getD_some,List.getElem?_eq_getElem hb']
theorem Sq.set (h:Sq n rows) {a:Nat} {r:List Int} (hr:r.length=n):Sq n (rows.set a r) :=
 ⟨by rw [List.length_set];exact h.len,λr' hr'=>by
  rcases List.mem_or_eq_of_mem_set hr' with h1|h1
  ·exact h.row r' h1
  ·rw [h1];exact hr⟩
theorem at2_set {a b:Nat} {r:List Int} (hr:rows[a]? = some r) (hb:b<r.length) (x:Int) (i j:Nat):at2 (rows.set a (r.set b x)) i j=if i=a/\j=b then x else at2 rows i j:=by
 have hl:=(List.getElem?_eq_some_iff.1 hr).1
 unfold at2
 simp only [List.getD_eq_getElem?_getD]
 rw [List.getElem?_set]
 by_cases hi:a=i
 ·subst hi
  rw [if_pos rfl,if_pos hl,Option.getD_some,hr,Option.getD_some,List.getElem?_set]
  by_cases hj:b=j
  ·subst hj
   rw [if_pos rfl,if_pos hb,Option.getD_some,if_pos ⟨rfl,rfl⟩]
  ·rw [if_neg hj,if_neg (λe=>hj e.2.symm)]
 ·rw [if_neg hi,if_neg (λe=>hi e.1.symm)]
theorem Sq.wr (h:Sq n rows) {a b:Nat} (ha:a<n) (hb:b<n) (x:Int) {r:List Int} (hr:rows[a]? = some r):Sq n (rows.set a (r.set b x))/\∀i j,at2 (rows.set a (r.set b x)) i j=if i=a/\j=b then x else at2 rows i j:=by
 have hl:r.length=n:=h.row r (List.mem_of_getElem? hr)
 exact⟨h.set (by rw [List.length_set];exact hl),at2_set hr (by omega) x⟩
theorem Sq.ne (h:Sq n rows) (hn:0<n):neR rows=some ():=by
 unfold neR
 rw [if_pos (List.all_eq_true.2 λr hr=>by
  have:=h.row r hr
  cases r with
  | nil=>simp at this;omega
  | cons x r=>rfl)]
end
theorem qL {i:Nat} {n:Nat} (h:i<n):inN (i:Int) n=some ():=by
 unfold inN;rw [if_pos ⟨Int.natCast_nonneg _,by simpa using h⟩]
theorem inR_at {α:Type} {i:Nat} {xs:List α} (h:i<xs.length):inR (i:Int) xs=some ():=by
 unfold inR;rw [if_pos ⟨Int.natCast_nonneg _,by simpa using h⟩]
theorem tu {α:Type} {xs:List α} {n:Nat} (h:xs.length=n):uT xs n=some ():=by unfold uT;rw [if_pos h]
theorem EC {α β:Type} {xs:List α} {ys:List β} (h:xs.length=ys.length):j5 xs ys=some ():=by unfold j5;rw [if_pos h]
theorem ltN_at {k n:Nat} (h:k<n):ltN k n=some ():=by unfold ltN;rw [if_pos h]
theorem leN_at {k n:Nat} (h:k<=n):leN k n=some ():=by unfold leN;rw [if_pos h]
theorem toN (i:Nat):(0+((i:Int)).toNat)=i:=by simp
end Go.Flow

open Go Go.Eng Go.Flow
namespace Go.Proofs.YtkjlhdminmpmkaaGreatDoor.Law
set_option linter.unusedVariables false
set_option linter.unusedSimpArgs false
set_option linter.unusedSectionVars false
def vis (bef:List Int) (i:Nat):Prop:=0<=bef.getD i (-1)
instance (bef:List Int) (i:Nat):Decidable (vis bef i):=inferInstanceAs (Decidable (0<=bef.getD i (-1)))
def unv (n:Nat) (bef:List Int):Int:=S n λi=>if bef.getD i (-1)<0 then 1 else 0
theorem Oj (n:Nat) (bef:List Int):0<=unv n bef:=uE (λi _=>by split <;> omega)
structure Grown (n s:Nat) (rows:List (List Int)) (bef:List Int) (rk:Nat->Nat):Prop where
 len:bef.length=n
 root:bef.getD s (-1)=(s:Int)
 up:∀i,i<n->vis bef i->i≠s->∃p,p<n/\bef.getD i (-1)=(p:Int)/\vis bef p/\rk p<rk i/\0<at2 rows p i
 rk0:rk s=0
 rkz:∀i,vis bef i->rk i=0->i=s
section
variable {n s:Nat} {rows:List (List Int)} {bef:List Int} {rk:Nat->Nat}
theorem I5 (h:bef.length=n) {i:Nat} (hv:vis bef i):i<n:=by
 by_cases hi:i<n
 ·exact hi
 ·unfold vis at hv
  rw [List.getD_eq_getElem?_getD,List.getElem?_eq_none (by omega)]at hv
  simp at hv
theorem jk (i j:Nat) (x:Int) (hi:i<bef.length):(bef.set i x).getD j (-1)=if j=i then x else bef.getD j (-1):=by
 simp only [List.getD_eq_getElem?_getD,List.getElem?_set]
 by_cases h:i=j
 ·subst h;simp [hi]
 ·rw [if_neg h,if_neg (λe=>h e.symm)]
theorem Grown.add (h:Grown n s rows bef rk) {e i:Nat} (he:vis bef e) (hi:i<n) (hv:bef.getD i (-1)<0) (hc:0<at2 rows e i):Grown n s rows (bef.set i (e:Int)) (λj=>if j=i then rk e+1 else rk j):=by
 have hil:i<bef.length:=by rw [h.len];exact hi
 have his:i≠s:=λe'=>by rw [e',h.root]at hv;omega
 have key:∀j,j≠i->(vis (bef.set i (e:Int)) j↔vis bef j):=λj hj=>by unfold vis;rw [jk i j _ hil,if_neg hj]
 have hne:∀{j},vis bef j->j≠i:=λ{j} hj e'=>by unfold vis at hj;rw [e']at hj;omega
 refine⟨by rw [List.length_set];exact h.len,by rw [jk i s _ hil,if_neg (λe'=>his e'.symm)];exact h.root,λj hj hvj hjs => ?_,?_,λj hvj hz => ?_⟩
 ·by_cases hji:j=i
  ·subst hji
   refine⟨e,I5 h.len he,by rw [jk j j _ hil,if_pos rfl],(key e (hne he)).2 he,?_,hc⟩
   rw [if_pos rfl,if_neg (hne he)];omega
  ·obtain ⟨p,p1,p2,p3,p4,p5⟩:=h.up j hj ((key j hji).1 hvj) hjs
   refine⟨p,p1,by rw [jk i j _ hil,if_neg hji];exact p2,(key p (hne p3)).2 p3,?_,p5⟩
   rw [if_neg (hne p3),if_neg hji];exact p4
 ·show (if s=i then rk e+1 else rk s)=0
  rw [if_neg (λe'=>his e'.symm)];exact h.rk0
 ·by_cases hji:j=i
  ·subst hji;simp at hz
  ·have hz:(if j=i then rk e+1 else rk j)=0:=hz
   rw [if_neg hji]at hz;exact h.rkz j ((key j hji).1 hvj) hz
theorem unv_add (hl:bef.length=n) {e i:Nat} (hi:i<n) (hv:bef.getD i (-1)<0):unv n (bef.set i (e:Int))=unv n bef-1:=by
 unfold unv
 rw [NF (f:=λi=>if bef.getD i (-1)<0 then 1 else 0) hi (λj _ hj=>by
  show (if (bef.set i (e:Int)).getD j (-1)<0 then (1:Int)else 0)=_
  rw [jk i j _ (by omega),if_neg hj])]
 show _+((if (bef.set i (e:Int)).getD i (-1)<0 then (1:Int)else 0)-_)=_
 rw [jk i i _ (by omega),if_pos rfl,if_neg (by omega),if_pos hv]
 omega
end
def quL (s:List Int×List Int×Nat):List Int:=s.2.1.drop s.2.2
structure Inn (n src e:Nat) (rows:List (List Int)) (M:Int) (j:Nat) (s:List Int×List Int×Nat):Prop where
 gr:∃rk,Grown n src rows s.1 rk
 le:s.2.2<=s.2.1.length
 qu:∃rest:List Int,quL s=(e:Int)::rest/\(∀x∈rest,∃i:Nat,x=(i:Int)/\vis s.1 i)/\(∀i,vis s.1 i->i=e\/(i:Int)∈rest\/∀b,b<n->0<at2 rows i b->vis s.1 b)/\unv n s.1+rest.length=M
 ve:vis s.1 e
 dn:∀b,b<j->0<at2 rows e b->vis s.1 b
theorem Kk {n src e:Nat} {w:Web} {M:Int} (hq:Sq n w.f_can) (hM:M<=1000000) (he:e<n) {r:List Int} (hr:r.length=n) {j:Nat} (hj:j<n) {s:List Int×List Int×Nat} (h:Inn n src e w.f_can M j s) :
  ∃s',iE r w (e:Int) j j s=some (.go s')/\Inn n src e w.f_can M (j+1) s':=by
 obtain ⟨bef,q,k⟩:=s
 obtain ⟨⟨rk,g⟩,hle,⟨rest,q1,q2,q3,q4⟩,hve,hdn⟩:=h
 simp only at g hle q1 q2 q3 q4 hve hdn
 have q1:q.drop k=(e:Int)::rest:=q1
 obtain ⟨re,e1,e2,e3⟩:=hq.get he
 have hjb:j<bef.length:=by rw [g.len];exact hj
 unfold iE
 simp only [toN,inR_at (show j<r.length by omega),ob_,e1,e3 j hj]
 have hbj:bef[j]? = some (bef.getD j (-1)):=by rw [List.getD_eq_getElem?_getD,List.getElem?_eq_getElem hjb,Option.getD_some]
 have stay:(0<at2 w.f_can e j->vis bef j)->Inn n src e w.f_can M (j+1) (bef,q,k):=λhv=>⟨⟨rk,g⟩,hle,⟨rest,q1,q2,q3,q4⟩,hve,λb hb hc=>by
  by_cases hbj:b=j
  ·subst hbj;exact hv hc
  ·exact hdn b (by omega) hc⟩
 by_cases hc:at2 w.f_can e j>0
 ·rw [decide_eq_true hc]
  simp only [cond_true,inR_at hjb,ob_,hbj]
  by_cases hv:bef.getD j (-1)<0
  ·rw [decide_eq_true hv]
   have hk:q[k]? = some (e:Int):=lq q1
   have hkl:=tL q1
   have hin:inN 0 (q.length-k)=some ():=by
    have:=qL (i:=0) (n:=q.length-k) (by omega)
    simpa using this
   have hkt:(k+(0:Int).toNat)=k:=by simp
   have hap:iJ (q.drop k) [(j:Int)]=some (q.drop k++[(j:Int)]):=by
    unfold iJ
    rw [if_pos]
    have h1:=Oj n bef
    have:(q.drop k).length=rest.length+1:=by rw [q1];rfl
    rw [this]
    simp only [List.length_cons,List.length_nil]
    omega
   simp only [cond_true,hin,ob_,hkt,hk,inR_at hjb,hbj,leN_at hle,hap]
   refine⟨_,rfl,⟨_,g.add hve hj hv hc⟩,Nat.zero_le _,⟨rest++[(j:Int)],?_,?_,?_,?_⟩,?_,?_⟩
   ·show List.drop 0 (q.drop k++[(j:Int)])=_
    rw [q1];rfl
   ·intro x hx
    rcases List.mem_append.1 hx with hx|hx
    ·obtain ⟨i,i1,i2⟩:=q2 x hx
     refine⟨i,i1,?_⟩
     show 0<=(bef.set j (e:Int)).getD i (-1)
     rw [jk j i _ hjb];split
     ·omega
     ·exact i2
    ·rw [List.mem_singleton]at hx
     refine⟨j,hx,?_⟩
     show 0<=(bef.set j (e:Int)).getD j (-1)
     rw [jk j j _ hjb,if_pos rfl];omega
   ·intro i hi
    have hmono:∀b,vis bef b->vis (bef.set j (e:Int)) b:=λb hb=>by
     show 0<=(bef.set j (e:Int)).getD b (-1)
     rw [jk j b _ hjb];split
     ·omega
     ·exact hb
    by_cases hij:i=j
    ·subst hij;exact .inr (.inl (List.mem_append_right _ (by simp)))
    ·have hi':vis bef i:=by
      have hi:0<=(bef.set j (e:Int)).getD i (-1):=hi
      rw [jk j i _ hjb,if_neg hij]at hi;exact hi
     rcases q3 i hi' with h|h|h
     ·exact .inl h
     ·exact .inr (.inl (List.mem_append_left _ h))
     ·exact .inr (.inr λb hb hcb=>hmono b (h b hb hcb))
   ·show unv n (bef.set j (e:Int))+((rest++[(j:Int)]).length:Int)=M
    rw [unv_add g.len hj hv,List.length_append]
    simp only [List.length_cons,List.length_nil]
    omega
   ·show 0<=(bef.set j (e:Int)).getD e (-1)
    rw [jk j e _ hjb];split
    ·omega
    ·exact hve
   ·intro b hb hcb
    show 0<=(bef.set j (e:Int)).getD b (-1)
    rw [jk j b _ hjb]
    by_cases hbj:b=j
    ·rw [if_pos hbj];omega
    ·rw [if_neg hbj];exact hdn b (by omega) hcb
  ·rw [decide_eq_false hv]
   simp only [cond_false,ob_]
   exact⟨_,rfl,stay (λ_=>by unfold vis;omega)⟩
 ·rw [decide_eq_false hc]
  simp only [cond_false,ob_]
  exact⟨_,rfl,stay (λh=>absurd h hc)⟩
structure Out (n src:Nat) (rows:List (List Int)) (s:List Int×List Int×Nat):Prop where
 gr:∃rk,Grown n src rows s.1 rk
 le:s.2.2<=s.2.1.length
 qv:∀x∈quL s,∃i:Nat,x=(i:Int)/\vis s.1 i
 cl:∀i,vis s.1 i->(i:Int)∈quL s\/∀b,b<n->0<at2 rows i b->vis s.1 b
 sum:unv n s.1+(quL s).length<=n
structure WayIs (n s t:Nat) (rows:List (List Int)) (bef:List Int) (ok:Bool):Prop where
 len:bef.length=n
 okd:ok=decide (bef.getD t (-1)>=0)
 gr:∃rk,Grown n s rows bef rk
 cut:ok=false->∀a b,vis bef a->b<n->¬vis bef b->at2 rows a b<=0
theorem JV {n src t:Nat} {w:Web} (hq:Sq n w.f_can) (hn:n<=1000000) (ht:t<n) {s:List Int×List Int×Nat} (h:Out n src w.f_can s) :
  (∃s',gJ (t:Int) w s=some (.go s')/\Out n src w.f_can s'/\(unv n s'.1+(quL s').length).toNat<(unv n s.1+(quL s).length).toNat) \/
  ∃s',gJ (t:Int) w s=some (.brk s')/\∃rk,Grown n src w.f_can s'.1 rk/\(s'.1.getD t (-1)<0->∀i,vis s'.1 i->∀b,b<n->0<at2 w.f_can i b->vis s'.1 b):=by
 obtain ⟨bef,q,k⟩:=s
 obtain ⟨⟨rk,g⟩,hle,hqv,hcl,hsum⟩:=h
 simp only at g hle hqv hcl hsum
 have htb:t<bef.length:=by rw [g.len];exact ht
 have hbt:bef[t]? = some (bef.getD t (-1)):=by rw [List.getD_eq_getElem?_getD,List.getElem?_eq_getElem htb,Option.getD_some]
 have hqL:quL (bef,q,k)=q.drop k:=rfl
 rw [hqL]at hqv hcl hsum
 unfold gJ
 simp only
 cases hd:q.drop k with
 | nil =>
  have hlk:q.length-k=0:=by
   have:=congrArg List.length hd
   simpa using this
  right
  rw [hlk]
  simp only [show decide ((((0:Nat):Nat):Int)>0)=false from rfl,cond_false,ob_]
  refine⟨_,rfl,rk,g,λ_ i hi => ?_⟩
  rcases hcl i hi with h|h
  ·rw [hd]at h;cases h
  ·exact h
 | cons x rest =>
  have hkl:=tL hd
  have h1:decide (((q.length-k:Nat):Int)>0)=true:=decide_eq_true (by omega)
  rw [h1]
  simp only [cond_true,inR_at htb,ob_,toN,hbt]
  by_cases hv:bef.getD t (-1)<0
  ·left
   rw [decide_eq_true hv]
   simp only [cond_true]
   obtain ⟨e,rfl,hve⟩:=hqv x (by rw [hd];simp)
   have he:=I5 g.len hve
   have hk:q[k]? = some (e:Int):=lq hd
   have hin:inN 0 (q.length-k)=some ():=by
    have:=qL (i:=0) (n:=q.length-k) (by omega)
    simpa using this
   have hkt:(k+(0:Int).toNat)=k:=by simp
   obtain ⟨re,e1,e2,e3⟩:=hq.get he
   simp only [hin,ob_,hkt,hk,qL (show e<w.f_can.length by rw [hq.len];exact he),toN,e1]
   have hrn:((re.length:Int)).toNat=n:=by rw [e2];simp
   rw [hrn]
   have h0:Inn n src e w.f_can (unv n bef+rest.length) 0 (bef,q,k):=⟨⟨rk,g⟩,hle,⟨rest,hd,λx hx=>hqv x (by rw [hd];simp [hx]),λi hi=>by
    rcases hcl i hi with h|h
    ·rw [hd]at h
     rcases List.mem_cons.1 h with h|h
     ·exact .inl (by exact_mod_cast h)
     ·exact .inr (.inl h)
    ·exact .inr (.inr h),rfl⟩,hve,λb hb=>absurd hb (Nat.not_lt_zero b)⟩
   have hM:unv n bef+(rest.length:Int)<=1000000:=by
    rw [hd]at hsum
    simp only [List.length_cons]at hsum
    omega
   obtain ⟨s',r1,r2⟩:=xh (body:=λk x s=>iE re w (e:Int) k x s) (Inn n src e w.f_can (unv n bef+rest.length)) (n:=n) (s:=(bef,q,k)) (by omega) (λj s hj hi=>Kk hq hM he e2 hj hi) h0
   obtain ⟨bef',q',k'⟩:=s'
   rw [r1,ob_]
   obtain ⟨⟨rk',g'⟩,le',⟨rest',p1,p2,p3,p4⟩,ve',dn'⟩:=r2
   simp only at g' le' p1 p2 p3 p4 ve' dn'
   have p1:q'.drop k'=(e:Int)::rest':=p1
   have hlt:=tL p1
   simp only [thenC,ltN_at hlt,ob_]
   have hdr:q'.drop (k'+1)=rest':=aV p1
   refine⟨_,rfl,⟨⟨rk',g'⟩,hlt,?_,?_,?_⟩,?_⟩
   ·show ∀x∈q'.drop (k'+1),_
    rw [hdr];exact p2
   ·intro i hi
    show (i:Int)∈q'.drop (k'+1)\/_
    rw [hdr]
    rcases p3 i hi with h|h|h
    ·subst h;exact .inr (λb hb hc=>dn' b hb hc)
    ·exact .inl h
    ·exact .inr h
   ·show unv n bef'+((q'.drop (k'+1)).length:Int)<=n
    rw [hdr]
    rw [hd]at hsum
    simp only [List.length_cons]at hsum
    omega
   ·show (unv n bef'+((q'.drop (k'+1)).length:Int)).toNat<(unv n bef+((q.drop k).length:Int)).toNat
    rw [hdr,hd]
    simp only [List.length_cons]
    have:=Oj n bef
    omega
  ·right
   rw [decide_eq_false hv]
   simp only [cond_false]
   exact⟨_,rfl,rk,g,λh=>absurd h hv⟩
theorem way_ok {n s t:Nat} {w:Web} (hq:Sq n w.f_can) (hn:n<=1000000) (hs:s<n) (ht:t<n):∃bef ok,lw w (s:Int) (t:Int)=some (bef,ok)/\WayIs n s t w.f_can bef ok:=by
 unfold lw
 have hmk:mkN ((w.f_can.length:Nat):Int) 8=some n:=by
  unfold mkN
  rw [hq.len,if_pos ⟨by omega,by omega,by omega⟩];simp
 rw [hmk,ob_]
 have hlen:(((List.replicate n (0:Int)).length:Int)).toNat=n:=by simp
 rw [hlen]
 obtain ⟨l,h1,h2,h3⟩:=xh (body:=λk x s=>jo k x s) (λj l=>l.length=n/\∀i,i<j->l[i]? = some (-1)) (n:=n) (s:=List.replicate n (0:Int)) (by omega) (λj l hj hi=>by
  obtain ⟨i1,i2⟩:=hi
  unfold jo
  simp only [toN,inR_at (show j<l.length by omega),ob_,List.getElem?_eq_getElem (show j<l.length by omega)]
  refine⟨_,rfl,by rw [List.length_set];exact i1,λi hi => ?_⟩
  rw [List.getElem?_set]
  by_cases e:j=i
  ·rw [if_pos e,if_pos (by omega)]
  ·rw [if_neg e];exact i2 i (by omega)) ⟨by simp,λi hi=>absurd hi (Nat.not_lt_zero i)⟩
 rw [h1,ob_]
 have hl:l=List.replicate n (-1):=List.ext_getElem? (λi=>by
  rw [List.getElem?_replicate]
  by_cases hi:i<n
  ·rw [if_pos hi];exact h3 i hi
  ·rw [if_neg hi];exact List.getElem?_eq_none (by omega))
 subst hl
 have hsl:s<(List.replicate n (-1:Int)).length:=by simpa using hs
 simp only [thenC,toN,inR_at hsl,ob_,List.getElem?_eq_getElem hsl]
 have hget:∀i,((List.replicate n (-1:Int)).set s (s:Int)).getD i (-1)=if i=s then (s:Int)else -1:=λi=>by
  rw [jk s i _ hsl]
  by_cases h:i=s
  ·rw [if_pos h,if_pos h]
  ·rw [if_neg h,if_neg h,List.getD_eq_getElem?_getD,List.getElem?_replicate]
   by_cases h:i<n
   ·rw [if_pos h];rfl
   ·rw [if_neg h];rfl
 have hvis:∀i,vis ((List.replicate n (-1:Int)).set s (s:Int)) i↔i=s:=λi=>by
  unfold vis
  rw [hget i]
  split
  ·rename_i h;exact⟨λ_=>h,λ_=>by omega⟩
  ·rename_i h;exact⟨λh'=>by omega,λh'=>absurd h' h⟩
 have hout:Out n s w.f_can ((List.replicate n (-1:Int)).set s (s:Int),[(s:Int)],0):=by
  refine⟨⟨λ_=>0,by simp,by rw [hget,if_pos rfl],λi _ hv hne=>absurd ((hvis i).1 hv) hne,rfl,λi hv _=>(hvis i).1 hv⟩,Nat.zero_le _,?_,?_,?_⟩
  ·intro x hx
   have hx:x ∈ [(s:Int)]:=hx
   rw [List.mem_singleton]at hx
   exact⟨s,hx,(hvis s).2 rfl⟩
  ·intro i hi
   rw [(hvis i).1 hi]
   exact .inl (by show (s:Int) ∈ [(s:Int)];simp)
  ·show unv n ((List.replicate n (-1:Int)).set s (s:Int))+([(s:Int)].length:Int)<=n
   have e:unv n ((List.replicate n (-1:Int)).set s (s:Int))=(n:Int)-1:=by
    unfold unv
    have h0:S n (λ_=>(1:Int))=n:=by
     have:∀m:Nat,S m (λ_=>(1:Int))=m:=λm=>by
      induction m with
      | zero=>rfl
      | succ m ih=>show S m _+1=_;rw [ih];omega
     exact this n
    rw [NF (f:=λ_=>(1:Int)) hs (λj _ hj=>by
     show (if ((List.replicate n (-1:Int)).set s (s:Int)).getD j (-1)<0 then (1:Int)else 0)=1
     rw [hget,if_neg hj,if_pos (by omega)]),h0]
    show (n:Int)+((if ((List.replicate n (-1:Int)).set s (s:Int)).getD s (-1)<0 then (1:Int)else 0)-1)=_
    rw [hget,if_pos rfl,if_neg (by omega)];omega
   rw [e]
   simp only [List.length_cons,List.length_nil];omega
 obtain ⟨s',r1,rk,r2,r3⟩:=GR (body:=λs=>gJ (t:Int) w s) (Out n s w.f_can) (λs=>(unv n s.1+(quL s).length).toNat) (λs'=>∃rk,Grown n s w.f_can s'.1 rk/\(s'.1.getD t (-1)<0->∀i,vis s'.1 i->∀b,b<n->0<at2 w.f_can i b->vis s'.1 b)) (λs h=>JV hq hn ht h) hout
 rw [r1,ob_]
 have htl:t<s'.1.length:=by rw [r2.len];exact ht
 have hbt:s'.1[t]? = some (s'.1.getD t (-1)):=by rw [List.getD_eq_getElem?_getD,List.getElem?_eq_getElem htl,Option.getD_some]
 simp only [thenC,inR_at htl,ob_,toN,hbt]
 refine⟨_,_,rfl,r2.len,rfl,⟨rk,r2⟩,λho a b ha hb hnb => ?_⟩
 have h1:s'.1.getD t (-1)<0:=by have:=of_decide_eq_false ho;omega
 by_cases hc:0<at2 w.f_can a b
 ·exact absurd (r3 h1 a ha b hb hc) hnb
 ·omega
end Go.Proofs.YtkjlhdminmpmkaaGreatDoor.Law

open Go Go.Eng Go.Flow
namespace Go.Proofs.YtkjlhdminmpmkaaGreatDoor.Law
set_option linter.unusedVariables false
set_option linter.unusedSimpArgs false
set_option linter.unusedSectionVars false
def uZ (bef:List Int) (i:Nat):Nat:=(bef.getD i 0).toNat
theorem getD_01 {l:List Int} {i:Nat} (h:i<l.length) (a b:Int):l.getD i a=l.getD i b:=by
 rw [List.getD_eq_getElem?_getD,List.getD_eq_getElem?_getD,List.getElem?_eq_getElem h];rfl
section
variable {n s:Nat} {rows:List (List Int)} {bef:List Int} {rk:Nat->Nat}
theorem Grown.tree (h:Grown n s rows bef rk):Tree n s (vis bef) (uZ bef) rk/\(∀i,vis bef i->i≠s->0<at2 rows (uZ bef i) i)/\∀i,vis bef i->i≠s->bef[i]? = some ((uZ bef i:Nat):Int):=by
 have key:∀i,vis bef i->i≠s->∃p,p<n/\uZ bef i=p/\bef[i]? = some (p:Int)/\vis bef p/\rk p<rk i/\0<at2 rows p i:=λi hi hs=>by
  have hin:=I5 h.len hi
  obtain ⟨p,p1,p2,p3,p4,p5⟩:=h.up i hin hi hs
  have hl:i<bef.length:=by rw [h.len];exact hin
  refine⟨p,p1,?_,?_,p3,p4,p5⟩
  ·unfold uZ;rw [getD_01 hl 0 (-1),p2];simp
  ·rw [List.getD_eq_getElem?_getD,List.getElem?_eq_getElem hl,Option.getD_some]at p2
   rw [List.getElem?_eq_getElem hl,p2]
 refine⟨⟨λi hi=>I5 h.len hi,λi hi hs => ?_⟩,λi hi hs => ?_,λi hi hs => ?_⟩
 ·obtain ⟨p,_,e,_,p3,p4,_⟩:=key i hi hs
  rw [e];exact⟨p3,p4⟩
 ·obtain ⟨p,_,e,_,_,_,p5⟩:=key i hi hs
  rw [e];exact p5
 ·obtain ⟨p,_,e,p2,_,_,_⟩:=key i hi hs
  rw [e];exact p2
end
theorem minI_eq (a b:Int):zi a b=min a b:=by unfold zi;split <;> omega
theorem M9 {l:List Int} {i:Nat} {x:Int} (h:l[i]? = some x):idx l (i:Int)=some x:=by rw [jV,h]
section
variable {n s:Nat} {w:Web} {bef:List Int} {ok:Bool} {rk:Nat->Nat} {rows:List (List Int)} {sum:Int}
theorem RI (hw:w.f_can.length=n) (hq:Sq n rows) (g:Grown n s rows bef rk):∀(f i:Nat) (k:Int),vis bef i->rk i<=f->∃m,iterN (λx=>fA (s:Int) (bef,ok) w (rows,sum) x) (m+1) (k,(i:Int))=some (.go (least s (uZ bef) (at2 rows) f i k,(s:Int)))
 | f,i,k,hi,hr=>by
  obtain ⟨T,tp,tb⟩:=g.tree
  by_cases his:i=s
  ·subst his
   refine⟨0,?_⟩
   have e:least i (uZ bef) (at2 rows) f i k=k:=by cases f <;> simp [least]
   rw [e]
   simp only [iterN,fA,bne_self_eq_false,cond_false,ob_]
  ·cases f with
   | zero=>exact absurd (g.rkz i hi (by omega)) his
   | succ f =>
    obtain ⟨hu,hlt⟩:=T.up i hi his
    have hin:=T.lt i hi
    have hbn:=T.lt _ hu
    obtain ⟨m,hm⟩:=RI hw hq g f (uZ bef i) (min k (at2 rows (uZ bef i) i)) hu (by omega)
    refine⟨m+1,?_⟩
    have hne:((i:Int) != (s:Int))=true:=by simp;omega
    obtain ⟨r,r1,r2,r3⟩:=hq.get hbn
    have hb:=M9 (tb i hi his)
    rw [iterN]
    have e:fA (s:Int) (bef,ok) w (rows,sum) (k,(i:Int))=some (.go (min k (at2 rows (uZ bef i) i),((uZ bef i:Nat):Int))):=by
     unfold fA
     simp only [hne,cond_true,hb,ob_,qL (show uZ bef i<w.f_can.length by omega),toN,r1,inR_at (show i<r.length by omega),r3 i hin,minI_eq]
    rw [e,ob_]
    show iterN _ (m+1) _=_
    rw [hm,least,if_neg his]
theorem Qr {c0:Nat->Nat->Int} {T0:List (List Int)} (hw:w.f_can.length=n) (g:Grown n s T0 bef rk) {k x:Int} (hk:0<=k/\k<=1000000000000) (hc0:∀a b,a<n->b<n->c0 a b+c0 b a<=1000000000000):∀(f i:Nat) (rows:List (List Int)),vis bef i->rk i<=f->Sq n rows->Go.Flow.Bears s (uZ bef) (at2 rows) k f i ->
  (∀a b,a<n->b<n->0<=at2 rows a b)->(∀a b,a<n->b<n->c0 a b-at2 rows a b = - (c0 b a-at2 rows b a)) ->
  ∃m rows',iterN (λy=>fE (s:Int) (bef,ok) w (k,x) y) (m+1) (rows,(i:Int))=some (.go (rows',(s:Int)))/\Sq n rows'/\∀a b,a<n->b<n->at2 rows' a b=aug s (uZ bef) k f i (at2 rows) a b
 | f,i,rows,hi,hr,hq,hb,hp,ha=>by
  obtain ⟨T,tp,tb⟩:=g.tree
  by_cases his:i=s
  ·subst his
   refine⟨0,rows,?_,hq,λa b _ _=>by cases f <;> simp [aug]⟩
   simp only [iterN,fE,bne_self_eq_false,cond_false,ob_]
  ·cases f with
   | zero=>exact absurd (g.rkz i hi (by omega)) his
   | succ f =>
    obtain ⟨hu,hlt⟩:=T.up i hi his
    have hin:=T.lt i hi
    have hbn:=T.lt _ hu
    have hpne:uZ bef i≠i:=λe=>by rw [e]at hlt;exact Nat.lt_irrefl _ hlt
    have hbe:=hb.resolve_left his
    have hbx:=M9 (tb i hi his)
    generalize hpd:uZ bef i=p at *
    obtain ⟨r,r1,r2,r3⟩:=hq.get hbn
    have c1:=hp p i hbn hin
    have c2:=hp i p hin hbn
    have c3:=ha p i hbn hin
    have c4:=hc0 p i hbn hin
    have w1:w64 (at2 rows p i-k)=at2 rows p i-k:=dw (by omega)
    obtain ⟨hq1,hat1⟩:=hq.wr hbn hin (at2 rows p i-k) r1
    obtain ⟨r',r1',r2',r3'⟩:=hq1.get hin
    have e1:at2 (rows.set p (r.set i (at2 rows p i-k))) i p=at2 rows i p:=by rw [hat1,if_neg (λe=>hpne e.1.symm)]
    have w2:w64 (at2 rows i p+k)=at2 rows i p+k:=dw (by omega)
    obtain ⟨hq2,hat2⟩:=hq1.wr hin hbn (at2 rows i p+k) r1'
    have hpush:∀a b,at2 ((rows.set p (r.set i (at2 rows p i-k))).set i (r'.set p (at2 rows i p+k))) a b=push (at2 rows) p i k a b:=λa b=>by
     rw [hat2,hat1]
     unfold push
     by_cases h1:a=p/\b=i
     ·obtain ⟨rfl,rfl⟩:=h1
      rw [if_neg (λe=>hpne e.1),if_pos ⟨rfl,rfl⟩,if_pos ⟨rfl,rfl⟩]
     ·rw [if_neg h1,if_neg h1]
      by_cases h2:a=i/\b=p
      ·obtain ⟨rfl,rfl⟩:=h2
       simp only [and_self,if_true]
      ·rw [if_neg h2,if_neg h2]
    have hfun:at2 ((rows.set p (r.set i (at2 rows p i-k))).set i (r'.set p (at2 rows i p+k)))=push (at2 rows) p i k:=by funext a b;exact hpush a b
    have hb':Go.Flow.Bears s (uZ bef) (push (at2 rows) p i k) k f p:=by
     have:=Bears.push T hk.1 (c:=at2 rows) (k:=k) (l:=k) (j:=i) (f:=f) (i:=p) hu hlt hbe.2
     rw [hpd]at this;exact this
    obtain ⟨m,rows',m1,m2,m3⟩:=Qr hw g hk hc0 f p _ hu (by omega) hq2 (by rw [hfun];exact hb') (λa b hla hlb=>by
     rw [hpush]
     by_cases h1:a=p/\b=i
     ·obtain ⟨rfl,rfl⟩:=h1
      rw [Ao];have:=hbe.1;omega
     ·exact Int.le_trans (hp a b hla hlb) (IG hk.1 h1)) (λa b hla hlb=>by rw [hpush,hpush];exact Gu hpne ha a b hla hlb)
    refine⟨m+1,rows',?_,m2,λa b hla hlb => ?_⟩
    ·have hne:((i:Int) != (s:Int))=true:=by simp;omega
     rw [iterN]
     have e:fE (s:Int) (bef,ok) w (k,x) (rows,(i:Int))=some (.go ((rows.set p (r.set i (at2 rows p i-k))).set i (r'.set p (at2 rows i p+k)),((p:Nat):Int))):=by
      unfold fE
      simp only [hne,cond_true,hbx,ob_,qL (show p<w.f_can.length by omega),toN,r1,inR_at (show i<r.length by omega),r3 i hin,w1,qL (show i<w.f_can.length by omega),r1',inR_at (show p<r'.length by omega),r3' p hbn,e1,w2]
     rw [e,ob_]
     show iterN _ (m+1) _=_
     rw [m1]
    ·rw [m3 a b hla hlb,hfun,aug,if_neg his,hpd]
end
structure Flo (n s t:Nat) (c0:Nat->Nat->Int) (most:Int) (x:List (List Int)×Int):Prop where
 sq:Sq n x.1
 fl:Flows n s t c0 (at2 x.1) x.2
 nn:0<=x.2
 le:x.2<=most
theorem L3_step {n s t:Nat} {w:Web} {c0:Nat->Nat->Int} {most:Int} (hw:w.f_can.length=n) (hn:n<=1000000) (hs:s<n) (ht:t<n) (hst:s≠t) (hc0:∀a b,a<n->b<n->c0 a b+c0 b a<=1000000000000) (hm:most<=1000000000000)
  {x:List (List Int)×Int} (h:Flo n s t c0 most x) :
  (∃x',fB most w (s:Int) (t:Int) x=some (.go x')/\Flo n s t c0 most x'/\(most-x'.2).toNat<(most-x.2).toNat) \/
  ∃x',fB most w (s:Int) (t:Int) x=some (.brk x')/\Flo n s t c0 most x'/\(x'.2<most->∃R:Nat->Bool,R s=true/\R t=false/\∀a b,a<n->b<n->R a=true->R b=false->at2 x'.1 a b=0):=by
 obtain ⟨rows,sum⟩:=x
 have h':=h
 obtain ⟨hq,hf,h0,hl⟩:=h
 simp only at hq hf h0 hl
 unfold fB
 by_cases hlt:sum<most
 ·rw [decide_eq_true hlt]
  obtain ⟨bef,ok,e1,⟨w1,w2,⟨rk,g⟩,w4⟩⟩:=way_ok (w:=⟨rows,w.f_camps⟩) hq hn hs ht
  have g:Grown n s rows bef rk:=g
  simp only [cond_true,hq.ne (by omega),ob_,tu (show rows.length=w.f_can.length by rw [hw];exact hq.len),e1]
  cases ok with
  | false =>
   right
   simp only [Bool.not_false,cond_true]
   refine⟨_,rfl,h',λ_=>⟨λi=>decide (vis bef i),?_,?_,λa b ha hb hra hrb => ?_⟩⟩
   ·refine decide_eq_true ?_
    unfold vis;rw [g.root];omega
   ·refine decide_eq_false ?_
    have:=of_decide_eq_false w2.symm
    unfold vis;omega
   ·have:=w4 rfl a b (of_decide_eq_true hra) hb (of_decide_eq_false hrb)
    have:=hf.pos a b ha hb
    show at2 rows a b=0
    have e:at2 rows a b<=0:=w4 rfl a b (of_decide_eq_true hra) hb (of_decide_eq_false hrb)
    omega
  | true =>
   left
   simp only [Bool.not_true,cond_false]
   have hvt:vis bef t:=of_decide_eq_true w2.symm
   obtain ⟨T,tp,tb⟩:=g.tree
   have hwd:w64 (most-sum)=most-sum:=dw (by omega)
   obtain ⟨m1,r1⟩:=RI (ok:=true) (sum:=sum) hw hq g (rk t) t (most-sum) hvt (Nat.le_refl _)
   have hk1:=EE (s:=s) (bef:=uZ bef) (at2 rows) (rk t) t (most-sum)
   have hk0:=Ha T tp (rk t) t (most-sum) hvt (by omega)
   have hkb:=CX (s:=s) (bef:=uZ bef) (at2 rows) (rk t) t (most-sum)
   generalize hK:least s (uZ bef) (at2 rows) (rk t) t (most-sum)=K at *
   rw [hwd,fC r1,ob_]
   obtain ⟨m2,rows',r2,q2,a2⟩:=Qr (w:=w) (bef:=bef) (ok:=true) (k:=K) (x:=(s:Int)) hw g ⟨by omega,by omega⟩ hc0 (rk t) t rows hvt (Nat.le_refl _) hq hkb hf.pos hf.anti
   simp only [thenC]
   rw [fC r2,ob_]
   have hws:w64 (sum+K)=sum+K:=dw (by omega)
   simp only [thenC,hws]
   have hfl:=Flows.aug T hf hst hvt (show 0<=K by omega) (Nat.le_refl _) hkb g.rk0 g.rkz
   refine⟨_,rfl,⟨q2,⟨λa b ha hb => ?_,λa b ha hb => ?_,λy hy h1 h2 => ?_,?_⟩,?_,?_⟩,?_⟩
   ·show 0<=at2 rows' a b
    rw [a2 a b ha hb];exact hfl.pos a b ha hb
   ·show c0 a b-at2 rows' a b = - (c0 b a-at2 rows' b a)
    rw [a2 a b ha hb,a2 b a hb ha];exact hfl.anti a b ha hb
   ·rw [<- hfl.cons y hy h1 h2]
    exact bI (λb hb=>by show c0 y b-at2 rows' y b=_;rw [a2 y b hy hb])
   ·show S n (λb=>c0 s b-at2 rows' s b)=sum+K
    rw [<- hfl.val]
    exact bI (λb hb=>by rw [a2 s b hs hb])
   ·show 0<=sum+K;omega
   ·show sum+K<=most;omega
   ·show (most-(sum+K)).toNat<(most-sum).toNat;omega
 ·right
  rw [decide_eq_false hlt]
  simp only [cond_false]
  exact⟨_,rfl,h',λh=>absurd h hlt⟩
theorem NI {n s t:Nat} {w:Web} {most:Int} (hq:Sq n w.f_can) (hn:n<=1000000) (hs:s<n) (ht:t<n) (hst:s≠t) (hp:∀a b,a<n->b<n->0<=at2 w.f_can a b) (hc:∀a b,a<n->b<n->at2 w.f_can a b+at2 w.f_can b a<=1000000000000) (h0:0<=most) (hm:most<=1000000000000) :
  ∃v rows',iH w (s:Int) (t:Int) most=some (v,⟨rows',w.f_camps⟩)/\Sq n rows'/\Flows n s t (at2 w.f_can) (at2 rows') v/\0<=v/\v<=most /\
   (v<most->∃R:Nat->Bool,R s=true/\R t=false/\∀a b,a<n->b<n->R a=true->R b=false->at2 rows' a b=0):=by
 have hi:Flo n s t (at2 w.f_can) most (w.f_can,0):=⟨hq,Flows.zero hp,Int.le_refl _,h0⟩
 obtain ⟨x',r1,r2,r3⟩:=GR (body:=λx=>fB most w (s:Int) (t:Int) x) (Flo n s t (at2 w.f_can) most) (λx=>(most-x.2).toNat) (λx'=>Flo n s t (at2 w.f_can) most x'/\(x'.2<most->∃R:Nat->Bool,R s=true/\R t=false/\∀a b,a<n->b<n->R a=true->R b=false->at2 x'.1 a b=0)) (λx h=>L3_step hq.len hn hs ht hst hc hm h) hi
 unfold iH
 rw [r1,ob_]
 simp only [thenC,EC (show x'.1.length=w.f_can.length by rw [r2.sq.len,hq.len]),ob_]
 exact⟨_,_,rfl,r2.sq,r2.fl,r2.nn,r2.le,r3⟩
end Go.Proofs.YtkjlhdminmpmkaaGreatDoor.Law

open Go Go.Eng
namespace Go.Proofs.YtkjlhdminmpmkaaGreatDoor.Law
set_option linter.unusedVariables false
set_option linter.unusedSimpArgs false
def Ok (s:Stream) (b:Int):Prop:=0<=s.f_at/\s.f_at<=b
theorem Ok.mono {s:Stream} {b c:Int} (h:Ok s b) (hc:b<=c):Ok s c:=⟨h.1,Int.le_trans h.2 hc⟩
theorem EJ (x n:Int) (h:1<=n) (hn:n<=4611686018427387904):∃r,rY x n=some r/\0<=r/\r<n:=by
 have h1:x.tmod n<n:=Int.tmod_lt_of_pos x (by omega)
 have h2 : -n<x.tmod n:=Int.lt_tmod_of_pos x (by omega)
 have hb:decide (n<1)=false:=by simp;omega
 have hn0:n≠0:=by omega
 simp only [rY,hb,cond_false,JO,if_neg hn0,ob_]
 cases hd:decide (x.tmod n<0)with
 | true =>
  simp only [decide_eq_true_eq]at hd
  exact⟨_,rfl,by rw [dw (by omega)];omega,by rw [dw (by omega)];omega⟩
 | false =>
  simp only [decide_eq_false_iff_not]at hd
  exact⟨_,rfl,by omega,h1⟩
theorem Jf (s:Stream) (n:Int) {b:Int} (hs:Ok s b) (hb:b<=1000000) (h:1<=n) (hn:n<=4611686018427387904):∃r s',jB s n=some (r,s')/\0<=r/\r<n/\Ok s' (b+1):=by
 obtain ⟨h0,h1⟩:=hs
 have e1:w64 (s.f_at+1)=s.f_at+1:=dw (by omega)
 have e2:w64 (s.f_at+1-1)=s.f_at:=by rw [dw (by omega)];omega
 simp only [jB,e1,e2]
 by_cases hl:s.L.length=0
 ·have:((s.L.length:Int)==0)=true:=by simp [hl]
  simp only [this,cond_true]
  obtain ⟨r,hr,h2,h3⟩:=EJ (w64 ((s.f_at+1)*7919)) n h hn
  exact⟨r,_,by rw [hr];rfl,h2,h3,⟨by show 0<=s.f_at+1;omega,by show s.f_at+1<=b+1;omega⟩⟩
 ·have hne:(s.L.length:Int)≠0:=by omega
  have:((s.L.length:Int)==0)=false:=by simpa using hl
  simp only [this,cond_false,JO,FK,if_neg hne,ob_]
  have h2:0<=s.f_at.tmod s.L.length:=Int.tmod_nonneg _ h0
  have hp:(0:Int)<(s.L.length:Int):=by have:=Nat.pos_of_ne_zero hl;omega
  have h3:s.f_at.tmod s.L.length<s.L.length:=Int.tmod_lt_of_pos _ hp
  have hi:idx s.L (s.f_at.tmod s.L.length)=some s.L[(s.f_at.tmod s.L.length).toNat]:=by
   simp only [idx,if_pos h2]
   exact List.getElem?_eq_getElem (by omega)
  obtain ⟨r1,hr1,_,_⟩:=EJ s.L[(s.f_at.tmod s.L.length).toNat] 1073741824 (by decide) (by decide)
  simp only [hi,hr1,ob_]
  generalize w64 (r1+_)=y
  obtain ⟨r,hr,h4,h5⟩:=EJ y n h hn
  exact⟨r,_,by rw [hr];rfl,h4,h5,⟨by show 0<=s.f_at+1;omega,by show s.f_at+1<=b+1;omega⟩⟩
theorem zX (s:Stream) (n:Int) {b:Int} (hs:Ok s b) (hb:b<=1000000) (h:1<=n) (hn:n<=1000):∃r s',gY s n=some (r,s')/\Ok s' (b+1):=by
 obtain ⟨r,s',h1,_,_,h2⟩:=Jf s n hs hb h (by omega)
 exact⟨r==0,s',by simp only [gY,h1,ob_],h2⟩
theorem NA {α:Type} {l:List α} {r:Int} (h0:0<=r) (h1:r<l.length):∃y,idx l r=some y/\y∈l:=by
 refine⟨l[r.toNat]'(by omega),?_,List.getElem_mem _⟩
 simp only [idx,if_pos h0]
 exact List.getElem?_eq_getElem (by omega)
theorem rA (s:Stream) (l:List Int) {b:Int} (hs:Ok s b) (hb:b<=1000000) (h:1<=l.length) (hn:l.length<=1000):∃r s',eX s l=some (r,s')/\r∈l/\Ok s' (b+1):=by
 obtain ⟨r,s',h1,h2,h3,h4⟩:=Jf s l.length hs hb (by omega) (by omega)
 obtain ⟨y,hy,hm⟩:=NA h2 h3
 exact⟨y,s',by simp only [eX,h1,hy,ob_],hm,h4⟩
theorem some_ok (s:Stream) (l:List ByteArray) {b:Int} (hs:Ok s b) (hb:b<=1000000) (h:1<=l.length) (hn:l.length<=1000):∃r s',mF s l=some (r,s')/\r∈l/\Ok s' (b+1):=by
 obtain ⟨r,s',h1,h2,h3,h4⟩:=Jf s l.length hs hb (by omega) (by omega)
 obtain ⟨y,hy,hm⟩:=NA h2 h3
 exact⟨y,s',by simp only [mF,h1,hy,ob_],hm,h4⟩
end Go.Proofs.YtkjlhdminmpmkaaGreatDoor.Law

open Go Go.Eng
namespace Go.Proofs.YtkjlhdminmpmkaaGreatDoor.Law
set_option linter.unusedVariables false
set_option linter.unusedSimpArgs false
def nN (s:ByteArray):Prop:=s.size<=1000
def GoodS (x:Spot):Prop:=nN x.Key/\x.Tags.length<=20/\∀t∈x.Tags,nN t
def Gy (c:Campaign):Prop:=nN c.Key/\nN c.Class/\c.Tags.length<=20/\∀t∈c.Tags,nN t
theorem tN {α:Type} (xs ys:List α) (h:xs.length+ys.length<=1000000000):iJ xs ys=some (xs++ys):=by unfold iJ;rw [if_pos h]
theorem pK {s:ByteArray} (h:Nat.ble s.size 1000=true):nN s:=Nat.le_of_ble_eq_true h
end Go.Proofs.YtkjlhdminmpmkaaGreatDoor.Law

open Go Go.Eng
namespace Go.Proofs.YtkjlhdminmpmkaaGreatDoor.Law
set_option linter.unusedVariables false
set_option linter.unusedSimpArgs false
def lowB (b:UInt8):Bool:=decide (97<=b.toNat)&&decide (b.toNat<=122)
def moreB (b:UInt8):Bool:=(decide (48<=b.toNat)&&decide (b.toNat<=57))||(b.toNat==45)||(b.toNat==95)
def okB (i:Nat) (b:UInt8):Bool:=lowB b||(decide (0<i)&&moreB b)
def qW (s:ByteArray) (i:Nat):UInt8:=s.data.toList.getD i 0
def keyB (s:ByteArray):Bool:=decide (s.size≠0)&&(decide (s.size<=40)&&(List.range s.size).all λi=>okB i (qW s i))
theorem J4 (s:ByteArray) (k:Nat) (h:k<s.size):zF s (k:Int)=some (qW s k):=by
 have h1:s[k]? = some s[k]:=by simp [h]
 have h2:qW s k=s[k]:=by
  have hl:k<s.data.toList.length:=by rw [<- Go.Lib.size_eq];exact h
  simp only [qW,List.getD_eq_getElem?_getD,List.getElem?_eq_getElem hl,Option.getD_some]
  simp
  rfl
 simp only [zF,if_pos (Int.natCast_nonneg k),Int.toNat_natCast,h1,h2]
theorem Kc (s:ByteArray) (k:Nat) (hs:s.size<=1000000000):jY s (k:Int)=some (if k<s.size then (bif okB k (qW s k)then .go ((k+1:Nat):Int)else .ret false)else .brk (k:Int)):=by
 unfold jY
 by_cases h:k<s.size
 ·have hd:decide ((k:Int)<(s.size:Int))=true:=by simp;omega
  have hw:w64 ((k:Int)+1)=((k+1:Nat):Int):=by rw [dw (by omega)];omega
  simp only [hd,cond_true,J4 s k h,ob_,if_pos h,hw]
  generalize qW s k=b
  simp only [okB,lowB,moreB]
  have e1:decide ((b.toNat:Int)>=97)=decide (97<=b.toNat):=decide_eq_decide.2 (by omega)
  have e2:decide ((b.toNat:Int)<=122)=decide (b.toNat<=122):=decide_eq_decide.2 (by omega)
  have e3:decide ((k:Int)>0)=decide (0<k):=decide_eq_decide.2 (by omega)
  have e4:decide ((b.toNat:Int)>=48)=decide (48<=b.toNat):=decide_eq_decide.2 (by omega)
  have e5:decide ((b.toNat:Int)<=57)=decide (b.toNat<=57):=decide_eq_decide.2 (by omega)
  have e6:((b.toNat:Int)==45)=(b.toNat==45):=by rw [Bool.eq_iff_iff];simp;omega
  have e7:((b.toNat:Int)==95)=(b.toNat==95):=by rw [Bool.eq_iff_iff];simp;omega
  rw [e1,e2,e3,e4,e5,e6,e7]
  cases decide (97<=b.toNat) <;> cases decide (b.toNat<=122) <;> cases decide (0<k) <;> cases decide (48<=b.toNat) <;> cases decide (b.toNat<=57) <;> cases (b.toNat==45) <;> cases (b.toNat==95) <;> rfl
 ·have hd:decide ((k:Int)<(s.size:Int))=false:=by simp;omega
  simp only [hd,cond_false,if_neg h]
theorem Ex (s:ByteArray) (hs:s.size<=1000000000):∀(n k:Nat),k+n=s.size->iterN (λi=>jY s i) (n+1) (k:Int)=some (bif (List.range' k n).all (λj=>okB j (qW s j))then .go (s.size:Int)else .ret false)
 | 0,k,h=>by
  have hk:¬k<s.size:=by omega
  simp only [iterN,Kc s k hs,if_neg hk,ob_,List.range'_zero,List.all_nil,cond_true]
  rw [show (k:Int)=s.size by omega]
 | n+1,k,h=>by
  have hk:k<s.size:=by omega
  rw [iterN,Kc s k hs,if_pos hk,ob_,List.range'_succ,List.all_cons]
  cases okB k (qW s k)with
  | true=>simp only [cond_true,Bool.true_and];exact Ex s hs n (k+1) (by omega)
  | false=>rfl
theorem oM (s:ByteArray) (hs:s.size<=1000000000):fO s=some (keyB s):=by
 have h:=fC (Ex s hs s.size 0 (by omega))
 unfold fO
 have h':fZ (0:Int) (λs_1=>jY s s_1)=_:=h
 rw [h',ob_,<- List.range_eq_range']
 have e:decide ((s.size:Int)<=40)=decide (s.size<=40):=decide_eq_decide.2 (by omega)
 simp only [keyB]
 cases (List.range s.size).all (λi=>okB i (qW s i))with
 | true =>
  rw [cond_true,eu,Ol,e,Bool.and_true]
  cases decide (s.size≠0) <;> rfl
 | false=>simp only [cond_false,O7,Bool.and_false]
theorem Jv {s:ByteArray} (h:keyB s=true):s.size≠0:=by
 simp only [keyB,Bool.and_eq_true,decide_eq_true_eq]at h
 exact h.1
end Go.Proofs.YtkjlhdminmpmkaaGreatDoor.Law

open Go Go.Eng
namespace Go.Proofs.YtkjlhdminmpmkaaGreatDoor.Law
set_option linter.unusedVariables false
set_option linter.unusedSimpArgs false
def nz:ByteArray:=⟨#[]⟩
def xx {α:Type} (key:α->ByteArray) (l:List α) (k:Nat):ByteArray:=if k=0 then nz else match l[k-1]? with | some y=>key y | none=>nz
def chk {α:Type} (key:α->ByteArray) (stp:ByteArray->α->Int):ByteArray->List α->Int
 | _,[]=>0
 | last,x::xs=>bif stp last x==0 then chk key stp (key x) xs else stp last x
def BP (e:Int):Ctl Unit Int:=bif e==0 then .go ()else .ret e
theorem Ah {α:Type} {key:α->ByteArray} {stp:ByteArray->α->Int} {body:Nat->α->Unit->Option (Ctl Unit Int)} (l:List α):∀(xs:List α) (k:Nat),l.drop k=xs->(∀k x,l[k]? = some x->body k x ()=some (BP (stp (xx key l k) x))) ->
  forR body xs k ()=some (BP (chk key stp (xx key l k) xs))
 | [],k,h,hb=>rfl
 | x::xs,k,h,hb=>by
  have hg:=lq h
  rw [forR,hb k x hg,ob_,chk]
  cases he:stp (xx key l k) x==0 with
  | true =>
   simp only [BP,he,cond_true]
   rw [Ah l xs (k+1) (aV h) hb]
   have:xx key l (k+1)=key x:=by simp [xx,hg]
   rw [this];rfl
  | false=>simp only [BP,he,cond_false]
theorem BV (e:Int):thenC (BP e) (λ_=>some (0:Int)) (λr=>some r)=some e:=by
 unfold BP
 cases h:e==0 with
 | true=>simp only [cond_true,eu];rw [eq_of_beq h]
 | false=>rfl
def Bf (last x:ByteArray):Int:=bif !keyB x then 5 else bif sLe x last then 7 else 0
def tagsF (l:List ByteArray):Int:=bif decide (l.length>20)then 2 else chk id Bf nz l
theorem R9 {α:Type} {l:List α} {k:Nat} {x:α} (h:l[k]? = some x) (hk:0<k) (hl:l.length<=1000000000):∃y,idx l (w64 ((k:Int)-1))=some y/\l[k-1]? = some y:=by
 have hlt:k<l.length:=(List.getElem?_eq_some_iff.1 h).1
 rw [dw (by omega),show (k:Int)-1=((k-1:Nat):Int) by omega,jV]
 exact⟨l[k-1],List.getElem?_eq_getElem (by omega),List.getElem?_eq_getElem (by omega)⟩
theorem BU {α:Type} {key:α->ByteArray} {l:List α} {k:Nat} {x:α} {s:ByteArray} (h:l[k]? = some x) (hl:l.length<=1000000000) (hs:s.size≠0) :
  (bif decide ((k:Int)>0)then (idx l (w64 ((k:Int)-1))).bind λy=>some (sLe s (key y))else some false)=some (sLe s (xx key l k)):=by
 by_cases hk:0<k
 ·obtain ⟨y,h1,h2⟩:=R9 h hk hl
  have hd:decide ((k:Int)>0)=true:=by simp;omega
  simp only [hd,cond_true,h1,ob_,xx,if_neg (show ¬k=0 by omega),h2]
 ·have hk0:k=0:=by omega
  subst hk0
  simp only [xx,if_pos,nz,sLe_nil,decide_eq_false hs]
  rfl
theorem tagsK (l:List ByteArray) (hs:∀t∈l,nN t) (hl:l.length<=1000000000):fI l=some (tagsF l):=by
 unfold fI tagsF
 have e:decide ((l.length:Int)>20)=decide (l.length>20):=decide_eq_decide.2 (by omega)
 rw [e]
 cases decide (l.length>20)with
 | true=>rfl
 | false =>
  simp only [cond_false]
  unfold iX
  rw [jE (by omega),Ah (key:=id) (stp:=Bf) l l 0 rfl (λk x hx => ?_)]
  ·simp only [ob_,BV];rfl
  ·have hxs:nN x:=hs x (List.mem_of_getElem? hx)
   simp only [iB,oM x (by unfold nN at hxs;omega),ob_,Bf]
   cases hk:keyB x with
   | false=>rfl
   | true =>
    simp only [Bool.not_true,cond_false]
    have:=BU (key:=id) hx hl (Jv hk)
    simp only [id]at this
    rw [this,ob_]
    cases sLe x (xx id l k) <;> rfl
def Cb (w:Window):Bool:=decide (w.From<0)||(decide (w.From>=w.To)||decide (w.To>345686400000))
def out (n hi:Int):Bool:=decide (n<0)||decide (n>hi)
def gN (last:ByteArray) (x:Spot):Int:=bif !keyB x.Key then 5 else bif sLe x.Key last then 7 else bif Cb x.Time||out x.Room 1000000 then 1 else tagsF x.Tags
def oL (l:List Spot):Int:=bif decide (l.length>60)then 2 else chk Spot.Key gN nz l
theorem Gz (w:Window):jy w=some (!Cb w):=by
 unfold jy Cb
 have e1:decide (w.From>=0) = !decide (w.From<0):=by rw [Bool.eq_iff_iff];simp
 have e2:decide (w.From<w.To) = !decide (w.From>=w.To):=by rw [Bool.eq_iff_iff];simp
 have e3:decide (w.To<=345686400000) = !decide (w.To>345686400000):=by rw [Bool.eq_iff_iff];simp
 rw [e1,e2,e3]
 cases decide (w.From<0) <;> cases decide (w.From>=w.To) <;> cases decide (w.To>345686400000) <;> rfl
theorem FD (n hi:Int):aX n 0 hi=some (out n hi):=by
 unfold aX out
 cases decide (n<0) <;> cases decide (n>hi) <;> rfl
theorem spotsK (l:List Spot) (hg:∀x∈l,GoodS x) (hl:l.length<=1000000):jq l=some (oL l):=by
 unfold jq oL
 have e:decide ((l.length:Int)>60)=decide (l.length>60):=decide_eq_decide.2 (by omega)
 rw [e]
 cases decide (l.length>60)with
 | true=>rfl
 | false =>
  simp only [cond_false]
  rw [jE (by omega),Ah (key:=Spot.Key) (stp:=gN) l l 0 rfl (λk x hx => ?_)]
  ·simp only [ob_,BV];rfl
  ·obtain ⟨g1,g2,g3⟩:=hg x (List.mem_of_getElem? hx)
   simp only [jG,oM x.Key (by unfold nN at g1;omega),ob_,gN,Gz,FD,tagsK x.Tags g3 (by omega)]
   cases hk:keyB x.Key with
   | false=>rfl
   | true =>
    simp only [Bool.not_true,cond_false]
    rw [BU (key:=Spot.Key) hx (by omega) (Jv hk),ob_]
    cases sLe x.Key (xx Spot.Key l k)with
    | true=>rfl
    | false =>
     simp only [cond_false]
     cases Cb x.Time <;> cases out x.Room 1000000 <;> simp only [Bool.not_true,Bool.not_false,cond_true,cond_false,ob_,Bool.or_true,Bool.or_false,Bool.true_or] <;> first | rfl | skip
     simp only [BP]
     have:(tagsF x.Tags != 0) = !(tagsF x.Tags==0):=rfl
     rw [this]
     cases tagsF x.Tags==0 <;> rfl
def ik (last:ByteArray) (c:Campaign):Int :=
 bif !keyB c.Key||(decide (c.Class.size≠0) && !keyB c.Class)then 5 else bif sLe c.Key last then 7 else
 bif Cb c.Time||(out c.Goal 1000000||(out c.Most 1000000||out c.Cents 1000000000))then 1 else tagsF c.Tags
def sF (l:List Campaign):Int:=bif decide (l.length>30)then 2 else chk Campaign.Key ik nz l
theorem Qy (l:List Campaign) (hg:∀x∈l,Gy x) (hl:l.length<=1000000):cO l=some (sF l):=by
 unfold cO sF
 have e:decide ((l.length:Int)>30)=decide (l.length>30):=decide_eq_decide.2 (by omega)
 rw [e]
 cases decide (l.length>30)with
 | true=>rfl
 | false =>
  simp only [cond_false]
  rw [jE (by omega),Ah (key:=Campaign.Key) (stp:=ik) l l 0 rfl (λk x hx => ?_)]
  ·simp only [ob_,BV];rfl
  ·obtain ⟨g1,g0,g2,g3⟩:=hg x (List.mem_of_getElem? hx)
   simp only [dP,oM x.Key (by unfold nN at g1;omega),oM x.Class (by unfold nN at g0;omega),Ol,ob_,ik,Gz,FD,tagsK x.Tags g3 (by omega)]
   cases hk:keyB x.Key with
   | false=>rfl
   | true =>
    simp only [Bool.not_true,cond_false,Bool.false_or]
    have hc:(bif decide (x.Class.size≠0)then some (!keyB x.Class)else some false)=some (decide (x.Class.size≠0) && !keyB x.Class):=by cases decide (x.Class.size≠0) <;> rfl
    rw [hc,ob_]
    cases (decide (x.Class.size≠0) && !keyB x.Class)with
    | true=>rfl
    | false =>
    simp only [cond_false]
    rw [BU (key:=Campaign.Key) hx (by omega) (Jv hk),ob_]
    cases sLe x.Key (xx Campaign.Key l k)with
    | true=>rfl
    | false =>
     simp only [cond_false]
     cases Cb x.Time <;> cases out x.Goal 1000000 <;> cases out x.Most 1000000 <;> cases out x.Cents 1000000000 <;> simp only [Bool.not_true,Bool.not_false,cond_true,cond_false,ob_,Bool.or_true,Bool.or_false,Bool.true_or,Bool.false_or] <;> first | rfl | skip
     simp only [BP]
     have:(tagsF x.Tags != 0) = !(tagsF x.Tags==0):=rfl
     rw [this]
     cases tagsF x.Tags==0 <;> rfl
end Go.Proofs.YtkjlhdminmpmkaaGreatDoor.Law

