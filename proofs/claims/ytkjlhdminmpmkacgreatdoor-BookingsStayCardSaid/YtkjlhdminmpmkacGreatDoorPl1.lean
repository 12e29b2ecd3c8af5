/-
  THE PLAIN LAW (part 1).
-/
import Derived.Test.YtkjlhdminmpmkacGreatDoorEng5
import Derived.Test.YtkjlhdminmpmkacGreatDoorDefs
namespace Go.Flow
set_option linter.unusedVariables false
def S:Nat->(Nat->Int)->Int
 | 0,_=>0
 | n+1,f=>S n f+f n
theorem bT {f g:Nat->Int}:∀{n:Nat},(∀i,i<n->f i=g i)->S n f=S n g
 | 0,_=>rfl
 | n+1,h=>by rw [S,S,bT (λi hi=>h i (by omega)),h n (by omega)]
theorem uV:∀n:Nat,S n (λ_=>0)=0
 | 0=>rfl
 | n+1=>by rw [S,uV n];rfl
theorem xW (f g:Nat->Int):∀n:Nat,S n (λi=>f i+g i)=S n f+S n g
 | 0=>rfl
 | n+1=>by rw [S,S,S,xW f g n];omega
theorem FZ (f:Nat->Int):∀n:Nat,S n (λi => - f i) = - S n f
 | 0=>rfl
 | n+1=>by rw [S,S,FZ f n];omega
theorem AB (f g:Nat->Int) (n:Nat):S n (λi=>f i-g i)=S n f-S n g:=by
 have h1:=xW f (λi => - g i) n
 rw [FZ g n]at h1
 have h2:S n (λi=>f i-g i)=S n (λi=>f i + - g i):=bT (λi _=>by omega)
 omega
theorem S_le {f g:Nat->Int}:∀{n:Nat},(∀i,i<n->f i<=g i)->S n f<=S n g
 | 0,_=>Int.le_refl _
 | n+1,h=>by
  have h1:=S_le (n:=n) (λi hi=>h i (by omega))
  have h2:=h n (by omega)
  rw [S,S];omega
theorem vo {f:Nat->Int} {n:Nat} (h:∀i,i<n->0<=f i):0<=S n f:=by
 have:=S_le (f:=λ_=>0) (g:=f) (n:=n) h
 rw [uV]at this;exact this
theorem AA {n i:Nat} (x:Int) (h:i<n):S n (λj=>if j=i then x else 0)=x:=by
 induction n with
 | zero=>omega
 | succ n ih =>
  rw [S]
  by_cases hi:i=n
  ·subst hi
   have:S i (λj=>if j=i then x else 0)=S i (λ_=>0):=bT (λj hj=>if_neg (by omega))
   rw [this,uV,if_pos rfl];omega
  ·rw [ih (by omega),if_neg (by omega)];omega
theorem Iy (f:Nat->Nat->Int) (m:Nat):∀n:Nat,S n (λi=>S m (λj=>f i j))=S m (λj=>S n (λi=>f i j))
 | 0=>by
  show (0:Int)=S m (λ_=>0)
  rw [uV]
 | n+1=>by
  show S n (λi=>S m (λj=>f i j))+S m (λj=>f n j)=S m (λj=>S n (λi=>f i j)+f n j)
  rw [xW,Iy f m n]
theorem MN {f g:Nat->Int} {n i:Nat} (hi:i<n) (h:∀j,j<n->j≠i->g j=f j):S n g=S n f+(g i-f i):=by
 have h1:S n g=S n (λj=>f j+if j=i then g i-f i else 0):=bT (λj hj=>by
  by_cases hji:j=i
  ·subst hji;rw [if_pos rfl];omega
  ·rw [if_neg hji,h j hj hji];omega)
 rw [h1,xW,AA _ hi]
theorem S_part (R:Nat->Bool) (f:Nat->Int) (n:Nat):S n f=S n (λi=>bif R i then f i else 0)+S n (λi=>bif R i then 0 else f i):=by
 rw [<- xW]
 refine bT (λi _ => ?_)
 cases R i
 ·show f i=0+f i;omega
 ·show f i=f i+0;omega
theorem Qd {n:Nat} {f:Nat->Nat->Int} (ha:∀a b,a<n->b<n->f a b = - f b a) (R:Nat->Bool):S n (λa=>bif R a then S n (λb=>bif R b then f a b else 0)else 0)=0:=by
 have e1:S n (λa=>bif R a then S n (λb=>bif R b then f a b else 0)else 0)=S n (λa=>S n (λb=>bif R a then (bif R b then f a b else 0)else 0)):=bT (λa _=>by
  cases R a
  ·show (0:Int)=S n (λ_=>0);rw [uV]
  ·rfl)
 have e2:S n (λa=>S n (λb=>bif R a then (bif R b then f a b else 0)else 0))=S n (λb=>S n (λa=>bif R a then (bif R b then f a b else 0)else 0)):=Iy _ n n
 have e3:S n (λb=>S n (λa=>bif R a then (bif R b then f a b else 0)else 0))=S n (λb => - S n (λa=>bif R b then (bif R a then f b a else 0)else 0)):=bT (λb hb=>by
  rw [<- FZ]
  refine bT (λa hla => ?_)
  cases R a <;> cases R b <;> simp only [cond_true,cond_false]
  ·rfl
  ·rfl
  ·rfl
  ·exact ha a b hla hb)
 rw [FZ]at e3
 rw [e1]
 omega
theorem NK {n s t:Nat} {f:Nat->Nat->Int} (ha:∀a b,a<n->b<n->f a b = - f b a) (hc:∀v,v<n->v≠s->v≠t->S n (f v)=0) (hs:s<n) {R:Nat->Bool} (rs:R s=true) (rt:R t=false) :
  S n (f s)=S n (λa=>bif R a then S n (λb=>bif R b then 0 else f a b)else 0):=by
 have e1:S n (λa=>bif R a then S n (f a)else 0)=S n (f s):=by
  have:S n (λa=>bif R a then S n (f a)else 0)=S n (λa=>if a=s then S n (f s)else 0):=bT (λa hla=>by
   by_cases h:a=s
   ·subst h;rw [rs,if_pos rfl];rfl
   ·rw [if_neg h]
    cases hr:R a with
    | false=>rfl
    | true =>
     have hat:a≠t:=λe=>by rw [e,rt]at hr;cases hr
     exact hc a hla h hat)
  rw [this,AA _ hs]
 have e2:S n (λa=>bif R a then S n (f a)else 0)=S n (λa=>(bif R a then S n (λb=>bif R b then f a b else 0)else 0)+(bif R a then S n (λb=>bif R b then 0 else f a b)else 0)):=bT (λa _=>by
  cases R a
  ·rfl
  ·exact S_part R (f a) n)
 rw [xW,Qd ha R]at e2
 omega
def cap (n:Nat) (c:Nat->Nat->Int) (R:Nat->Bool):Int:=S n (λa=>bif R a then S n (λb=>bif R b then 0 else c a b)else 0)
theorem cap_sub (n:Nat) (c d:Nat->Nat->Int) (R:Nat->Bool):cap n (λa b=>c a b-d a b) R=cap n c R-cap n d R:=by
 unfold cap
 rw [<- AB]
 refine bT (λa _ => ?_)
 cases R a
 ·rfl
 ·show S n _=S n _-S n _
  rw [<- AB]
  refine bT (λb _ => ?_)
  cases R b
  ·rfl
  ·rfl
structure Flows (n s t:Nat) (c0 c:Nat->Nat->Int) (v:Int):Prop where
 pos:∀a b,a<n->b<n->0<=c a b
 anti:∀a b,a<n->b<n->c0 a b-c a b = - (c0 b a-c b a)
 cons:∀x,x<n->x≠s->x≠t->S n (λb=>c0 x b-c x b)=0
 val:S n (λb=>c0 s b-c s b)=v
theorem Flows.le {n s t:Nat} {c0 c:Nat->Nat->Int} {v:Int} (h:Flows n s t c0 c v) (hs:s<n) {R:Nat->Bool} (rs:R s=true) (rt:R t=false):v=cap n c0 R-cap n c R/\v<=cap n c0 R:=by
 have e:=NK (f:=λa b=>c0 a b-c a b) h.anti h.cons hs rs rt
 have e2:S n (λa=>bif R a then S n (λb=>bif R b then 0 else c0 a b-c a b)else 0)=cap n (λa b=>c0 a b-c a b) R:=rfl
 rw [e2,cap_sub]at e
 have h0:0<=cap n c R:=by
  refine vo (λa hla => ?_)
  cases hr:R a with
  | false=>exact Int.le_refl _
  | true =>
   refine vo (λb hb => ?_)
   cases hq:R b with
   | false=>exact h.pos a b hla hb
   | true=>exact Int.le_refl _
 have:=h.val
 constructor <;> omega
theorem Flows.eq {n s t:Nat} {c0 c:Nat->Nat->Int} {v:Int} (h:Flows n s t c0 c v) (hs:s<n) {R:Nat->Bool} (rs:R s=true) (rt:R t=false) (h0:∀a b,a<n->b<n->R a=true->R b=false->c a b=0):v=cap n c0 R:=by
 have e:=(h.le hs rs rt).1
 have:cap n c R=0:=by
  have h1:cap n c R=S n (λ_=>0):=bT (λa hla=>by
   cases hr:R a with
   | false=>rfl
   | true =>
    show S n _=0
    have:S n (λb=>bif R b then 0 else c a b)=S n (λ_=>0):=bT (λb hb=>by
     cases hq:R b with
     | false=>exact h0 a b hla hb hr hq
     | true=>rfl)
    rw [this,uV])
  rw [h1,uV]
 omega
theorem Flows.zero {n s t:Nat} {c0:Nat->Nat->Int} (hp:∀a b,a<n->b<n->0<=c0 a b):Flows n s t c0 c0 0 where
 pos:=hp
 anti:=λa b _ _=>by omega
 cons:=λx _ _ _=>by
  have:S n (λb=>c0 x b-c0 x b)=S n (λ_=>0):=bT (λb _=>by omega)
  rw [this,uV]
 val:=by
  have:S n (λb=>c0 s b-c0 s b)=S n (λ_=>0):=bT (λb _=>by omega)
  rw [this,uV]
end Go.Flow

namespace Go.Flow
set_option linter.unusedVariables false
def push (c:Nat->Nat->Int) (p i:Nat) (k:Int):Nat->Nat->Int:=λa b=>if a=p/\b=i then c a b-k else if a=i/\b=p then c a b+k else c a b
theorem Ai {c:Nat->Nat->Int} {p i:Nat} (k:Int):push c p i k p i=c p i-k:=if_pos ⟨rfl,rfl⟩
theorem Ci {c:Nat->Nat->Int} {p i:Nat} (k:Int) (h:p≠i):push c p i k i p=c i p+k:=by
 unfold push;rw [if_neg (λe=>h e.1.symm),if_pos ⟨rfl,rfl⟩]
theorem AY {c:Nat->Nat->Int} {p i a b:Nat} (k:Int) (h1:¬(a=p/\b=i)) (h2:¬(a=i/\b=p)):push c p i k a b=c a b:=by
 unfold push;rw [if_neg h1,if_neg h2]
theorem Il {c:Nat->Nat->Int} {p i a b:Nat} {k:Int} (hk:0<=k) (h1:¬(a=p/\b=i)):c a b<=push c p i k a b:=by
 unfold push;rw [if_neg h1];split <;> omega
theorem F5 {n:Nat} {c0 c:Nat->Nat->Int} {p i:Nat} {k:Int} (hpi:p≠i) (h:∀a b,a<n->b<n->c0 a b-c a b = - (c0 b a-c b a)):∀a b,a<n->b<n->c0 a b-push c p i k a b = - (c0 b a-push c p i k b a):=by
 intro a b ha hb
 have h0:=h a b ha hb
 by_cases h1:a=p/\b=i
 ·obtain ⟨rfl,rfl⟩:=h1
  rw [Ai,Ci _ hpi];omega
 ·by_cases h2:a=i/\b=p
  ·obtain ⟨rfl,rfl⟩:=h2
   rw [Ai,Ci _ hpi];omega
  ·rw [AY _ h1 h2,AY _ (λe=>h2 ⟨e.2,e.1⟩) (λe=>h1 ⟨e.2,e.1⟩)];exact h0
def out (n:Nat) (c0 c:Nat->Nat->Int) (x:Nat):Int:=S n (λb=>c0 x b-c x b)
theorem Qh {n:Nat} {c0 c:Nat->Nat->Int} {p i:Nat} {k:Int} (hpi:p≠i) (hp:p<n) (hi:i<n) (x:Nat):out n c0 (push c p i k) x=out n c0 c x+(if x=p then k else 0)-(if x=i then k else 0):=by
 unfold out
 by_cases h1:x=p
 ·subst h1
  rw [if_pos rfl,if_neg hpi,MN (f:=λb=>c0 x b-c x b) (g:=λb=>c0 x b-push c x i k x b) hi (λj hj hji=>by
   show c0 x j-push c x i k x j=c0 x j-c x j
   rw [AY _ (λe=>hji e.2) (λe=>hpi e.1)])]
  show _+(c0 x i-push c x i k x i-(c0 x i-c x i))=_
  rw [Ai];omega
 ·rw [if_neg h1]
  by_cases h2:x=i
  ·subst h2
   rw [if_pos rfl,MN (f:=λb=>c0 x b-c x b) (g:=λb=>c0 x b-push c p x k x b) hp (λj hj hji=>by
    show c0 x j-push c p x k x j=c0 x j-c x j
    rw [AY _ (λe=>h1 e.1) (λe=>hji e.2)])]
   show _+(c0 x p-push c p x k x p-(c0 x p-c x p))=_
   rw [Ci _ hpi];omega
  ·rw [if_neg h2,bT (f:=λb=>c0 x b-push c p i k x b) (g:=λb=>c0 x b-c x b) (λj _=>by
    show c0 x j-push c p i k x j=_
    rw [AY _ (λe=>h1 e.1) (λe=>h2 e.1)])]
   omega
structure Tree (n s:Nat) (P:Nat->Prop) (bef rk:Nat->Nat):Prop where
 lt:∀i,P i->i<n
 up:∀i,P i->i≠s->P (bef i)/\rk (bef i)<rk i
def least (s:Nat) (bef:Nat->Nat) (c:Nat->Nat->Int):Nat->Nat->Int->Int
 | 0,_,k=>k
 | f+1,i,k=>if i=s then k else least s bef c f (bef i) (min k (c (bef i) i))
def aug (s:Nat) (bef:Nat->Nat) (k:Int):Nat->Nat->(Nat->Nat->Int)->Nat->Nat->Int
 | 0,_,c=>c
 | f+1,i,c=>if i=s then c else aug s bef k f (bef i) (push c (bef i) i k)
section
variable {n s:Nat} {P:Nat->Prop} {bef rk:Nat->Nat}
theorem Fy (c:Nat->Nat->Int):∀(f i:Nat) (k:Int),least s bef c f i k<=k
 | 0,_,k=>Int.le_refl _
 | f+1,i,k=>by
  unfold least
  split
  ·exact Int.le_refl _
  ·have:=Fy c f (bef i) (min k (c (bef i) i));omega
theorem GI (T:Tree n s P bef rk) {c:Nat->Nat->Int} (hc:∀i,P i->i≠s->0<c (bef i) i):∀(f i:Nat) (k:Int),P i->0<k->0<least s bef c f i k
 | 0,_,k,_,hk=>hk
 | f+1,i,k,hi,hk=>by
  unfold least
  split
  ·exact hk
  ·rename_i h
   have:=hc i hi h
   exact GI T hc f (bef i) _ (T.up i hi h).1 (by omega)
def Bears (s:Nat) (bef:Nat->Nat) (c:Nat->Nat->Int) (k:Int):Nat->Nat->Prop
 | 0,_=>True
 | f+1,i=>i=s\/(k<=c (bef i) i/\Bears s bef c k f (bef i))
theorem Bears.mono {c:Nat->Nat->Int} {k k':Int} (h:k'<=k):∀{f i:Nat},Bears s bef c k f i->Bears s bef c k' f i
 | 0,_,_=>trivial
 | f+1,i,hb=>hb.imp id (λhb=>⟨Int.le_trans h hb.1,Bears.mono h hb.2⟩)
theorem CY (c:Nat->Nat->Int):∀(f i:Nat) (k:Int),Bears s bef c (least s bef c f i k) f i
 | 0,_,_=>trivial
 | f+1,i,k=>by
  unfold least
  by_cases h:i=s
  ·exact .inl h
  ·rw [if_neg h]
   have h1:=Fy (s:=s) (bef:=bef) c f (bef i) (min k (c (bef i) i))
   exact .inr ⟨by omega,CY c f (bef i) _⟩
theorem Bears.push (T:Tree n s P bef rk) {c:Nat->Nat->Int} {k l:Int} (hl:0<=l) {j:Nat}:∀{f i:Nat},P i->rk i<rk j->Bears s bef c k f i->Bears s bef (push c (bef j) j l) k f i
 | 0,_,_,_,_=>trivial
 | f+1,i,hi,hr,hb=>by
  rcases hb with hb|⟨h1,h2⟩
  ·exact .inl hb
  ·by_cases his:i=s
   ·exact .inl his
   ·have hu:=T.up i hi his
    refine .inr ⟨Int.le_trans h1 (Il hl (λe => ?_)),Bears.push T hl hu.1 (by omega) h2⟩
    rw [e.2]at hr;exact Nat.lt_irrefl _ hr
theorem OJ (T:Tree n s P bef rk) {c0:Nat->Nat->Int} {k:Int} (hk:0<=k):∀(f i:Nat) (c:Nat->Nat->Int),P i->rk i<=f->Bears s bef c k f i->(∀a b,a<n->b<n->0<=c a b)->(∀a b,a<n->b<n->c0 a b-c a b = - (c0 b a-c b a)) ->
  (rk s=0)->(∀i,P i->rk i=0->i=s) ->
  (∀a b,a<n->b<n->0<=aug s bef k f i c a b)/\(∀a b,a<n->b<n->c0 a b-aug s bef k f i c a b = - (c0 b a-aug s bef k f i c b a))/\∀x,out n c0 (aug s bef k f i c) x=out n c0 c x+(if x=s then k else 0)-(if x=i then k else 0)
 | 0,i,c,hi,hr,hb,h0,ha,hs,hz=>by
  have:i=s:=hz i hi (by omega)
  subst this
  refine⟨h0,ha,λx => ?_⟩
  show out n c0 c x=_
  omega
 | f+1,i,c,hi,hr,hb,h0,ha,hs,hz=>by
  unfold aug
  by_cases his:i=s
  ·rw [if_pos his]
   subst his
   exact⟨h0,ha,λx=>by omega⟩
  ·rw [if_neg his]
   have hu:=T.up i hi his
   have hne:bef i≠i:=λe=>by have:=hu.2;rw [e]at this;exact Nat.lt_irrefl _ this
   have hb':=hb.resolve_left his
   obtain ⟨r1,r2,r3⟩:=OJ T hk f (bef i) (push c (bef i) i k) hu.1 (by omega) (Bears.push T hk hu.1 hu.2 hb'.2) (λa b hla hlb=>by
    by_cases h1:a=bef i/\b=i
    ·obtain ⟨rfl,rfl⟩:=h1
     rw [Ai];have:=hb'.1;omega
    ·exact Int.le_trans (h0 a b hla hlb) (Il hk h1)) (F5 hne ha) hs hz
   refine⟨r1,r2,λx => ?_⟩
   rw [r3 x,Qh hne (T.lt _ hu.1) (T.lt _ hi) x]
   omega
theorem Flows.aug (T:Tree n s P bef rk) {t:Nat} {c0 c:Nat->Nat->Int} {v k:Int} (h:Flows n s t c0 c v) (hst:s≠t) (ht:P t) (hk:0<=k) {f:Nat} (hf:rk t<=f) (hb:Bears s bef c k f t) (hs:rk s=0) (hz:∀i,P i->rk i=0->i=s):Flows n s t c0 (Go.Flow.aug s bef k f t c) (v+k):=by
 obtain ⟨r1,r2,r3⟩:=OJ T hk f t c ht hf hb h.pos h.anti hs hz
 refine⟨r1,r2,λx hx h1 h2 => ?_,?_⟩
 ·have e:=r3 x
  rw [if_neg h1,if_neg h2]at e
  have:=h.cons x hx h1 h2
  unfold out at e
  omega
 ·have e:=r3 s
  rw [if_pos rfl,if_neg hst]at e
  have:=h.val
  unfold out at e
  omega
end
end Go.Flow

namespace Go.Eng
set_option linter.unusedVariables false
set_option linter.unusedSimpArgs false
theorem oC {α σ ρ:Type} {body:Nat->α->σ->Option (Ctl σ ρ)} {xs:List α} {s:σ} (hl:xs.length<=1000000000000):forL xs s body=forR body xs 0 s:=by unfold forL;rw [if_pos hl]
theorem Kq {α σ ρ:Type} {body:Nat->α->σ->Option (Ctl σ ρ)} (I:Nat->σ->Prop) (N:Nat):∀(xs:List α) (k:Nat) (s:σ),k+xs.length=N->(∀k x s,x∈xs->k<N->I k s->∃s',body k x s=some (.go s')/\I (k+1) s')->I k s->∃s',forR body xs k s=some (.go s')/\I N s'
 | [],k,s,hN,h,hi=>⟨s,rfl,by simp only [List.length_nil,Nat.add_zero]at hN;rw [<- hN];exact hi⟩
 | x::xs,k,s,hN,h,hi=>by
  simp only [List.length_cons]at hN
  obtain ⟨s1,h1,h2⟩:=h k x s (by simp) (by omega) hi
  obtain ⟨s2,h3,h4⟩:=Kq I N xs (k+1) s1 (by omega) (λk x s hx=>h k x s (by simp [hx])) h2
  exact⟨s2,by simp only [forR,h1,ob_];exact h3,h4⟩
theorem Ps {α σ ρ:Type} {body:Nat->α->σ->Option (Ctl σ ρ)} (I:Nat->σ->Prop) {xs:List α} {s:σ} (hl:xs.length<=1000000000000) (h:∀k x s,x∈xs->k<xs.length->I k s->∃s',body k x s=some (.go s')/\I (k+1) s') (h0:I 0 s):∃s',forL xs s body=some (.go s')/\I xs.length s':=by
 obtain ⟨s',h1,h2⟩:=Kq I xs.length xs 0 s (by omega) h h0
 exact⟨s',by rw [oC hl];exact h1,h2⟩
theorem mh {σ ρ τ:Type} (s:σ) (f:σ->Option τ) (g:ρ->Option τ):thenC (.go s) f g=f s:=rfl
theorem NQ {σ ρ τ:Type} (r:ρ) (f:σ->Option τ) (g:ρ->Option τ):thenC (.ret r) f g=g r:=rfl
theorem uI {α:Type} (xs:List α) (k:Nat):idx xs (k:Int)=xs[k]? := by simp [idx]
theorem fG {n:Int} (h : -9223372036854775808<=n/\n<=9223372036854775807):w64 n=n:=Qj n h
theorem toL (s:ByteArray):s.toList=s.data.toList:=Go.Lib.toList_data s
theorem Io {a b:ByteArray} (h:a.toList=b.toList):a=b:=by
 rw [toL,toL]at h
 obtain ⟨⟨a⟩⟩:=a
 obtain ⟨⟨b⟩⟩:=b
 simp only at h
 rw [h]
theorem Dx (a b:ByteArray):sEq a b=true↔a=b:=by
 simp only [sEq,beq_iff_eq]
 exact⟨Io,λh=>by rw [h]⟩
theorem MH (a b:ByteArray):sEq a b=decide (a=b):=by
 rw [Bool.eq_iff_iff,Dx];simp
theorem I4 (a b:ByteArray):sNe a b = !decide (a=b):=by
 have:=MH a b;simp only [sEq,sNe]at *;rw [this]
abbrev bl:=Op.bytesLess
theorem bl_lt:∀(x y:List UInt8),bl x y=decide (x<y)
 | _,[]=>by simp [bl,Op.bytesLess]
 | [],_::_=>by simp [bl,Op.bytesLess]
 | a::x,b::y=>by
  have:=bl_lt x y
  simp only [bl,Op.bytesLess]at this ⊢
  rw [this,Bool.eq_iff_iff]
  simp only [Bool.or_eq_true,decide_eq_true_eq,Bool.and_eq_true,beq_iff_eq,List.cons_lt_cons_iff]
def lt (a b:ByteArray):Prop:=a.toList<b.toList
theorem DI (a b:ByteArray):sLt a b=true↔lt a b:=by
 show bl a.toList b.toList=true↔_
 rw [bl_lt];simp [lt]
theorem KX (a:ByteArray):¬lt a a:=List.lt_irrefl a.toList
theorem lt_trans {a b c:ByteArray} (h:lt a b) (k:lt b c):lt a c:=List.lt_trans h k
theorem lt_tri (a b:ByteArray):lt a b\/a=b\/lt b a:=by
 rcases Classical.em (lt a b)with h|h
 ·exact .inl h
 ·rcases Classical.em (lt b a)with h2|h2
  ·exact .inr (.inr h2)
  ·exact .inr (.inl (Io (List.le_antisymm (List.not_lt.1 h2) (List.not_lt.1 h))))
theorem IW (a b:ByteArray):sLe a b=true↔¬lt b a:=by
 have h1:=DI a b
 have h2:=Dx a b
 simp only [sLe,Bool.or_eq_true]
 constructor
 ·rintro (h|h)
  ·exact λk=>KX _ (lt_trans (h1.1 h) k)
  ·rw [h2.1 h];exact KX _
 ·intro h
  rcases lt_tri a b with k|k|k
  ·exact .inl (h1.2 k)
  ·exact .inr (h2.2 k)
  ·exact absurd k h
theorem sLe_nil (a:ByteArray):sLe a ⟨#[]⟩=decide (a.size=0):=by
 rw [Bool.eq_iff_iff,IW,lt,toL,toL,Go.Lib.size_eq]
 cases a.data.toList <;> simp
theorem Nb (a:ByteArray):sNe a ⟨#[]⟩=decide (a.size≠0):=by
 rw [I4,Go.Lib.size_eq,Bool.eq_iff_iff]
 simp only [Bool.not_eq_true',decide_eq_false_iff_not,decide_eq_true_eq,ne_eq]
 refine not_congr ⟨λh=>by rw [h];rfl,λh => ?_⟩
 exact Io (by rw [toL,List.eq_nil_of_length_eq_zero h,toL])
end Go.Eng

open Go Go.Eng
namespace Go.Flow
set_option linter.unusedVariables false
set_option linter.unusedSimpArgs false
set_option linter.unusedSectionVars false
theorem PE {α σ ρ:Type} {body:Nat->α->σ->Option (Ctl σ ρ)} (I:Nat->σ->Prop) (xs:List α):∀(l:List α) (k:Nat) (s:σ),xs.drop k=l->k<=xs.length->(∀k x s,xs[k]? = some x->I k s->∃s',body k x s=some (.go s')/\I (k+1) s')->I k s->∃s',forR body l k s=some (.go s')/\I xs.length s'
 | [],k,s,hd,hk,h,hi=>by
  have:=List.drop_eq_nil_iff.1 hd
  obtain rfl:k=xs.length:=by omega
  exact⟨s,rfl,hi⟩
 | x::l,k,s,hd,hk,h,hi=>by
  obtain ⟨s1,h1,h2⟩:=h k x s (Bt hd) hi
  obtain ⟨s2,h3,h4⟩:=PE I xs l (k+1) s1 (aR hd) (by have:=wE hd;omega) h h2
  exact⟨s2,by rw [forR,h1,ob_];exact h3,h4⟩
theorem ow {α σ ρ:Type} {body:Nat->α->σ->Option (Ctl σ ρ)} (I:Nat->σ->Prop) {xs:List α} {s:σ} (hl:xs.length<=1000000000000) (h:∀k x s,xs[k]? = some x->I k s->∃s',body k x s=some (.go s')/\I (k+1) s') (h0:I 0 s):∃s',forL xs s body=some (.go s')/\I xs.length s':=by
 rw [oC hl]
 exact PE I xs xs 0 s rfl (Nat.zero_le _) h h0
theorem Bu {σ ρ:Type} {body:Nat->Nat->σ->Option (Ctl σ ρ)} (I:Nat->σ->Prop) {n:Nat} {s:σ} (hl:n<=1000000000000) (h:∀k s,k<n->I k s->∃s',body k k s=some (.go s')/\I (k+1) s') (h0:I 0 s):∃s',forL (List.range n) s body=some (.go s')/\I n s':=by
 have:=ow (body:=body) I (xs:=List.range n) (s:=s) (by simpa using hl) (λk x s hx hi=>by
  have hk:k<n:=by have:=(List.getElem?_eq_some_iff.1 hx).1;simpa using this
  rw [List.getElem?_range hk]at hx
  simp only [so_]at hx
  subst hx
  exact h k s hk hi) h0
 simpa using this
theorem F6 {σ ρ:Type} {body:σ->Option (Ctl σ ρ)} (I:σ->Prop) (m:σ->Nat) (P:σ->Prop)
  (h:∀s,I s->(∃s',body s=some (.go s')/\I s'/\m s'<m s)\/∃s',body s=some (.brk s')/\P s') {s:σ} (h0:I s):∃s',kJ s body=some (.go s')/\P s':=by
 have key:∀(n:Nat) (s:σ),m s<=n->I s->∃k s',iterN body (k+1) s=some (.go s')/\P s':=by
  intro n
  induction n with
  | zero =>
   intro s hm hI
   rcases h s hI with⟨s',e,hI',hl⟩|⟨s',e,hp⟩
   ·omega
   ·exact⟨0,s',by simp only [iterN,e,ob_],hp⟩
  | succ n ih =>
   intro s hm hI
   rcases h s hI with⟨s',e,hI',hl⟩|⟨s',e,hp⟩
   ·obtain ⟨k,r,er,hr⟩:=ih s' (by omega) hI'
    exact⟨k+1,r,by rw [iterN,e,ob_];exact er,hr⟩
   ·exact⟨0,s',by simp only [iterN,e,ob_],hp⟩
 obtain ⟨k,o,e,hp⟩:=key (m s) s (Nat.le_refl _) h0
 exact⟨o,qc e,hp⟩
def at2 (rows:List (List Int)) (a b:Nat):Int:=(rows.getD a []).getD b 0
structure Sq (n:Nat) (rows:List (List Int)):Prop where
 len:rows.length=n
 row:∀r∈rows,r.length=n
section
variable {n:Nat} {rows:List (List Int)}
theorem Sq.get (h:Sq n rows) {a:Nat} (ha:a<n):∃r,rows[a]? = some r/\r.length=n/\∀b,b<n->r[b]? = some (at2 rows a b):=by
 have hl:a<rows.length:=by rw [h.len];exact ha
 refine⟨rows[a],List.getElem?_eq_getElem hl,h.row _ (List.getElem_mem hl),λb hb => ?_⟩
 have hb':b<rows[a].length:=by rw [h.row _ (List.getElem_mem hl)];exact hb
 simp only [at2,List.getD_eq_getElem?_getD,List.getElem?_eq_getElem hl,Option.getD_some,List.getElem?_eq_getElem hb']
theorem Sq.set (h:Sq n rows) {a:Nat} {r:List Int} (hr:r.length=n):Sq n (rows.set a r) :=
 ⟨by rw [List.length_set];exact h.len,λr' hr'=>by
  rcases List.mem_or_eq_of_mem_set hr' with h1|h1
  ·exact h.row r' h1
  ·rw [h1];exact hr⟩
theorem at2_set {a b:Nat} {r:List Int} (hr:rows[a]? = some r) (hb:b<r.length) (x:Int) (i j:Nat):at2 (rows.set a (r.set b x)) i j=if i=a/\j=b then x else at2 rows i j:=by
 have hl:=(List.getElem?_eq_some_iff.1 hr).1
 unfold at2
 simp only [List.getD_eq_getElem?_getD]
 rw [List.getElem?_set]
 by_cases hi:a=i
 ·subst hi
  rw [if_pos rfl,if_pos hl,Option.getD_some,hr,Option.getD_some,List.getElem?_set]
  by_cases hj:b=j
  ·subst hj
   rw [if_pos rfl,if_pos hb,Option.getD_some,if_pos ⟨rfl,rfl⟩]
  ·rw [if_neg hj,if_neg (λe=>hj e.2.symm)]
 ·rw [if_neg hi,if_neg (λe=>hi e.1.symm)]
theorem Sq.wr (h:Sq n rows) {a b:Nat} (ha:a<n) (hb:b<n) (x:Int) {r:List Int} (hr:rows[a]? = some r):Sq n (rows.set a (r.set b x))/\∀i j,at2 (rows.set a (r.set b x)) i j=if i=a/\j=b then x else at2 rows i j:=by
 have hl:r.length=n:=h.row r (List.mem_of_getElem? hr)
 exact⟨h.set (by rw [List.length_set];exact hl),at2_set hr (by omega) x⟩
theorem Sq.ne (h:Sq n rows) (hn:0<n):neR rows=some ():=by
 unfold neR
 rw [if_pos (List.all_eq_true.2 λr hr=>by
  have:=h.row r hr
  cases r with
  | nil=>simp at this;omega
  | cons x r=>rfl)]
end
theorem rJ {i:Nat} {n:Nat} (h:i<n):inN (i:Int) n=some ():=by
 unfold inN;rw [if_pos ⟨Int.natCast_nonneg _,by simpa using h⟩]
theorem lh {α:Type} {i:Nat} {xs:List α} (h:i<xs.length):inR (i:Int) xs=some ():=by
 unfold inR;rw [if_pos ⟨Int.natCast_nonneg _,by simpa using h⟩]
theorem r9 {α:Type} {xs:List α} {n:Nat} (h:xs.length=n):zY xs n=some ():=by unfold zY;rw [if_pos h]
theorem AU {α β:Type} {xs:List α} {ys:List β} (h:xs.length=ys.length):nV xs ys=some ():=by unfold nV;rw [if_pos h]
theorem ltN_at {k n:Nat} (h:k<n):ltN k n=some ():=by unfold ltN;rw [if_pos h]
theorem leN_at {k n:Nat} (h:k<=n):leN k n=some ():=by unfold leN;rw [if_pos h]
theorem toN (i:Nat):(0+((i:Int)).toNat)=i:=by simp
end Go.Flow

open Go Go.Eng Go.Flow
namespace Go.Proofs.YtkjlhdminmpmkacGreatDoor.Law
set_option linter.unusedVariables false
set_option linter.unusedSimpArgs false
set_option linter.unusedSectionVars false
def vis (bef:List Int) (i:Nat):Prop:=0<=bef.getD i (-1)
instance (bef:List Int) (i:Nat):Decidable (vis bef i):=inferInstanceAs (Decidable (0<=bef.getD i (-1)))
def unv (n:Nat) (bef:List Int):Int:=S n λi=>if bef.getD i (-1)<0 then 1 else 0
theorem MF (n:Nat) (bef:List Int):0<=unv n bef:=vo (λi _=>by split <;> omega)
structure Grown (n s:Nat) (rows:List (List Int)) (bef:List Int) (rk:Nat->Nat):Prop where
 len:bef.length=n
 root:bef.getD s (-1)=(s:Int)
 up:∀i,i<n->vis bef i->i≠s->∃p,p<n/\bef.getD i (-1)=(p:Int)/\vis bef p/\rk p<rk i/\0<at2 rows p i
 rk0:rk s=0
 rkz:∀i,vis bef i->rk i=0->i=s
section
variable {n s:Nat} {rows:List (List Int)} {bef:List Int} {rk:Nat->Nat}
theorem IQ (h:bef.length=n) {i:Nat} (hv:vis bef i):i<n:=by
 by_cases hi:i<n
 ·exact hi
 ·unfold vis at hv
  rw [List.getD_eq_getElem?_getD,List.getElem?_eq_none (by omega)]at hv
  simp at hv
theorem jb (i j:Nat) (x:Int) (hi:i<bef.length):(bef.set i x).getD j (-1)=if j=i then x else bef.getD j (-1):=by
 simp only [List.getD_eq_getElem?_getD,List.getElem?_set]
 by_cases h:i=j
 ·subst h;simp [hi]
 ·rw [if_neg h,if_neg (λe=>h e.symm)]
theorem Grown.add (h:Grown n s rows bef rk) {e i:Nat} (he:vis bef e) (hi:i<n) (hv:bef.getD i (-1)<0) (hc:0<at2 rows e i):Grown n s rows (bef.set i (e:Int)) (λj=>if j=i then rk e+1 else rk j):=by
 have hil:i<bef.length:=by rw [h.len];exact hi
 have his:i≠s:=λe'=>by rw [e',h.root]at hv;omega
 have key:∀j,j≠i->(vis (bef.set i (e:Int)) j↔vis bef j):=λj hj=>by unfold vis;rw [jb i j _ hil,if_neg hj]
 have hne:∀{j},vis bef j->j≠i:=λ{j} hj e'=>by unfold vis at hj;rw [e']at hj;omega
 refine⟨by rw [List.length_set];exact h.len,by rw [jb i s _ hil,if_neg (λe'=>his e'.symm)];exact h.root,λj hj hvj hjs => ?_,?_,λj hvj hz => ?_⟩
 ·by_cases hji:j=i
  ·subst hji
   refine⟨e,IQ h.len he,by rw [jb j j _ hil,if_pos rfl],(key e (hne he)).2 he,?_,hc⟩
   rw [if_pos rfl,if_neg (hne he)];omega
  ·obtain ⟨p,p1,p2,p3,p4,p5⟩:=h.up j hj ((key j hji).1 hvj) hjs
   refine⟨p,p1,by rw [jb i j _ hil,if_neg hji];exact p2,(key p (hne p3)).2 p3,?_,p5⟩
   rw [if_neg (hne p3),if_neg hji];exact p4
 ·show (if s=i then rk e+1 else rk s)=0
  rw [if_neg (λe'=>his e'.symm)];exact h.rk0
 ·by_cases hji:j=i
  ·subst hji;simp at hz
  ·have hz:(if j=i then rk e+1 else rk j)=0:=hz
   rw [if_neg hji]at hz;exact h.rkz j ((key j hji).1 hvj) hz
theorem unv_add (hl:bef.length=n) {e i:Nat} (hi:i<n) (hv:bef.getD i (-1)<0):unv n (bef.set i (e:Int))=unv n bef-1:=by
 unfold unv
 rw [MN (f:=λi=>if bef.getD i (-1)<0 then 1 else 0) hi (λj _ hj=>by
  show (if (bef.set i (e:Int)).getD j (-1)<0 then (1:Int)else 0)=_
  rw [jb i j _ (by omega),if_neg hj])]
 show _+((if (bef.set i (e:Int)).getD i (-1)<0 then (1:Int)else 0)-_)=_
 rw [jb i i _ (by omega),if_pos rfl,if_neg (by omega),if_pos hv]
 omega
end
def quL (s:List Int×List Int×Nat):List Int:=s.2.1.drop s.2.2
structure Inn (n src e:Nat) (rows:List (List Int)) (M:Int) (j:Nat) (s:List Int×List Int×Nat):Prop where
 gr:∃rk,Grown n src rows s.1 rk
 le:s.2.2<=s.2.1.length
 qu:∃rest:List Int,quL s=(e:Int)::rest/\(∀x∈rest,∃i:Nat,x=(i:Int)/\vis s.1 i)/\(∀i,vis s.1 i->i=e\/(i:Int)∈rest\/∀b,b<n->0<at2 rows i b->vis s.1 b)/\unv n s.1+rest.length=M
 ve:vis s.1 e
 dn:∀b,b<j->0<at2 rows e b->vis s.1 b
theorem Jq {n src e:Nat} {w:Web} {M:Int} (hq:Sq n w.f_can) (hM:M<=1000000) (he:e<n) {r:List Int} (hr:r.length=n) {j:Nat} (hj:j<n) {s:List Int×List Int×Nat} (h:Inn n src e w.f_can M j s) :
  ∃s',gX r w (e:Int) j j s=some (.go s')/\Inn n src e w.f_can M (j+1) s':=by
 obtain ⟨bef,q,k⟩:=s
 obtain ⟨⟨rk,g⟩,hle,⟨rest,q1,q2,q3,q4⟩,hve,hdn⟩:=h
 simp only at g hle q1 q2 q3 q4 hve hdn
 have q1:q.drop k=(e:Int)::rest:=q1
 obtain ⟨re,e1,e2,e3⟩:=hq.get he
 have hjb:j<bef.length:=by rw [g.len];exact hj
 unfold gX
 simp only [toN,lh (show j<r.length by omega),ob_,e1,e3 j hj]
 have hbj:bef[j]? = some (bef.getD j (-1)):=by rw [List.getD_eq_getElem?_getD,List.getElem?_eq_getElem hjb,Option.getD_some]
 have stay:(0<at2 w.f_can e j->vis bef j)->Inn n src e w.f_can M (j+1) (bef,q,k):=λhv=>⟨⟨rk,g⟩,hle,⟨rest,q1,q2,q3,q4⟩,hve,λb hb hc=>by
  by_cases hbj:b=j
  ·subst hbj;exact hv hc
  ·exact hdn b (by omega) hc⟩
 by_cases hc:at2 w.f_can e j>0
 ·rw [decide_eq_true hc]
  simp only [cond_true,lh hjb,ob_,hbj]
  by_cases hv:bef.getD j (-1)<0
  ·rw [decide_eq_true hv]
   have hk:q[k]? = some (e:Int):=Bt q1
   have hkl:=wE q1
   have hin:inN 0 (q.length-k)=some ():=by
    have:=rJ (i:=0) (n:=q.length-k) (by omega)
    simpa using this
   have hkt:(k+(0:Int).toNat)=k:=by simp
   have hap:iZ (q.drop k) [(j:Int)]=some (q.drop k++[(j:Int)]):=by
    unfold iZ
    rw [if_pos]
    have h1:=MF n bef
    have:(q.drop k).length=rest.length+1:=by rw [q1];rfl
    rw [this]
    simp only [List.length_cons,List.length_nil]
    omega
   simp only [cond_true,hin,ob_,hkt,hk,lh hjb,hbj,leN_at hle,hap]
   refine⟨_,rfl,⟨_,g.add hve hj hv hc⟩,Nat.zero_le _,⟨rest++[(j:Int)],?_,?_,?_,?_⟩,?_,?_⟩
   ·show List.drop 0 (q.drop k++[(j:Int)])=_
    rw [q1];rfl
   ·intro x hx
    rcases List.mem_append.1 hx with hx|hx
    ·obtain ⟨i,i1,i2⟩:=q2 x hx
     refine⟨i,i1,?_⟩
     show 0<=(bef.set j (e:Int)).getD i (-1)
     rw [jb j i _ hjb];split
     ·omega
     ·exact i2
    ·rw [List.mem_singleton]at hx
     refine⟨j,hx,?_⟩
     show 0<=(bef.set j (e:Int)).getD j (-1)
     rw [jb j j _ hjb,if_pos rfl];omega
   ·intro i hi
    have hmono:∀b,vis bef b->vis (bef.set j (e:Int)) b:=λb hb=>by
     show 0<=(bef.set j (e:Int)).getD b (-1)
     rw [jb j b _ hjb];split
     ·omega
     ·exact hb
    by_cases hij:i=j
    ·subst hij;exact .inr (.inl (List.mem_append_right _ (by simp)))
    ·have hi':vis bef i:=by
      have hi:0<=(bef.set j (e:Int)).getD i (-1):=hi
      rw [jb j i _ hjb,if_neg hij]at hi;exact hi
     rcases q3 i hi' with h|h|h
     ·exact .inl h
     ·exact .inr (.inl (List.mem_append_left _ h))
     ·exact .inr (.inr λb hb hcb=>hmono b (h b hb hcb))
   ·show unv n (bef.set j (e:Int))+((rest++[(j:Int)]).length:Int)=M
    rw [unv_add g.len hj hv,List.length_append]
    simp only [List.length_cons,List.length_nil]
    omega
   ·show 0<=(bef.set j (e:Int)).getD e (-1)
    rw [jb j e _ hjb];split
    ·omega
    ·exact hve
   ·intro b hb hcb
    show 0<=(bef.set j (e:Int)).getD b (-1)
    rw [jb j b _ hjb]
    by_cases hbj:b=j
    ·rw [if_pos hbj];omega
    ·rw [if_neg hbj];exact hdn b (by omega) hcb
  ·rw [decide_eq_false hv]
   simp only [cond_false,ob_]
   exact⟨_,rfl,stay (λ_=>by unfold vis;omega)⟩
 ·rw [decide_eq_false hc]
  simp only [cond_false,ob_]
  exact⟨_,rfl,stay (λh=>absurd h hc)⟩
structure Out (n src:Nat) (rows:List (List Int)) (s:List Int×List Int×Nat):Prop where
 gr:∃rk,Grown n src rows s.1 rk
 le:s.2.2<=s.2.1.length
 qv:∀x∈quL s,∃i:Nat,x=(i:Int)/\vis s.1 i
 cl:∀i,vis s.1 i->(i:Int)∈quL s\/∀b,b<n->0<at2 rows i b->vis s.1 b
 sum:unv n s.1+(quL s).length<=n
structure WayIs (n s t:Nat) (rows:List (List Int)) (bef:List Int) (ok:Bool):Prop where
 len:bef.length=n
 okd:ok=decide (bef.getD t (-1)>=0)
 gr:∃rk,Grown n s rows bef rk
 cut:ok=false->∀a b,vis bef a->b<n->¬vis bef b->at2 rows a b<=0
theorem Jl {n src t:Nat} {w:Web} (hq:Sq n w.f_can) (hn:n<=1000000) (ht:t<n) {s:List Int×List Int×Nat} (h:Out n src w.f_can s) :
  (∃s',fM (t:Int) w s=some (.go s')/\Out n src w.f_can s'/\(unv n s'.1+(quL s').length).toNat<(unv n s.1+(quL s).length).toNat) \/
  ∃s',fM (t:Int) w s=some (.brk s')/\∃rk,Grown n src w.f_can s'.1 rk/\(s'.1.getD t (-1)<0->∀i,vis s'.1 i->∀b,b<n->0<at2 w.f_can i b->vis s'.1 b):=by
 obtain ⟨bef,q,k⟩:=s
 obtain ⟨⟨rk,g⟩,hle,hqv,hcl,hsum⟩:=h
 simp only at g hle hqv hcl hsum
 have htb:t<bef.length:=by rw [g.len];exact ht
 have hbt:bef[t]? = some (bef.getD t (-1)):=by rw [List.getD_eq_getElem?_getD,List.getElem?_eq_getElem htb,Option.getD_some]
 have hqL:quL (bef,q,k)=q.drop k:=rfl
 rw [hqL]at hqv hcl hsum
 unfold fM
 simp only
 cases hd:q.drop k with
 | nil =>
  have hlk:q.length-k=0:=by
   have:=congrArg List.length hd
   simpa using this
  right
  rw [hlk]
  simp only [show decide ((((0:Nat):Nat):Int)>0)=false from rfl,cond_false,ob_]
  refine⟨_,rfl,rk,g,λ_ i hi => ?_⟩
  rcases hcl i hi with h|h
  ·rw [hd]at h;cases h
  ·exact h
 | cons x rest =>
  have hkl:=wE hd
  have h1:decide (((q.length-k:Nat):Int)>0)=true:=decide_eq_true (by omega)
  rw [h1]
  simp only [cond_true,lh htb,ob_,toN,hbt]
  by_cases hv:bef.getD t (-1)<0
  ·left
   rw [decide_eq_true hv]
   simp only [cond_true]
   obtain ⟨e,rfl,hve⟩:=hqv x (by rw [hd];simp)
   have he:=IQ g.len hve
   have hk:q[k]? = some (e:Int):=Bt hd
   have hin:inN 0 (q.length-k)=some ():=by
    have:=rJ (i:=0) (n:=q.length-k) (by omega)
    simpa using this
   have hkt:(k+(0:Int).toNat)=k:=by simp
   obtain ⟨re,e1,e2,e3⟩:=hq.get he
   simp only [hin,ob_,hkt,hk,rJ (show e<w.f_can.length by rw [hq.len];exact he),toN,e1]
   have hrn:((re.length:Int)).toNat=n:=by rw [e2];simp
   rw [hrn]
   have h0:Inn n src e w.f_can (unv n bef+rest.length) 0 (bef,q,k):=⟨⟨rk,g⟩,hle,⟨rest,hd,λx hx=>hqv x (by rw [hd];simp [hx]),λi hi=>by
    rcases hcl i hi with h|h
    ·rw [hd]at h
     rcases List.mem_cons.1 h with h|h
     ·exact .inl (by exact_mod_cast h)
     ·exact .inr (.inl h)
    ·exact .inr (.inr h),rfl⟩,hve,λb hb=>absurd hb (Nat.not_lt_zero b)⟩
   have hM:unv n bef+(rest.length:Int)<=1000000:=by
    rw [hd]at hsum
    simp only [List.length_cons]at hsum
    omega
   obtain ⟨s',r1,r2⟩:=Bu (body:=λk x s=>gX re w (e:Int) k x s) (Inn n src e w.f_can (unv n bef+rest.length)) (n:=n) (s:=(bef,q,k)) (by omega) (λj s hj hi=>Jq hq hM he e2 hj hi) h0
   obtain ⟨bef',q',k'⟩:=s'
   rw [r1,ob_]
   obtain ⟨⟨rk',g'⟩,le',⟨rest',p1,p2,p3,p4⟩,ve',dn'⟩:=r2
   simp only at g' le' p1 p2 p3 p4 ve' dn'
   have p1:q'.drop k'=(e:Int)::rest':=p1
   have hlt:=wE p1
   simp only [thenC,ltN_at hlt,ob_]
   have hdr:q'.drop (k'+1)=rest':=aR p1
   refine⟨_,rfl,⟨⟨rk',g'⟩,hlt,?_,?_,?_⟩,?_⟩
   ·show ∀x∈q'.drop (k'+1),_
    rw [hdr];exact p2
   ·intro i hi
    show (i:Int)∈q'.drop (k'+1)\/_
    rw [hdr]
    rcases p3 i hi with h|h|h
    ·subst h;exact .inr (λb hb hc=>dn' b hb hc)
    ·exact .inl h
    ·exact .inr h
   ·show unv n bef'+((q'.drop (k'+1)).length:Int)<=n
    rw [hdr]
    rw [hd]at hsum
    simp only [List.length_cons]at hsum
    omega
   ·show (unv n bef'+((q'.drop (k'+1)).length:Int)).toNat<(unv n bef+((q.drop k).length:Int)).toNat
    rw [hdr,hd]
    simp only [List.length_cons]
    have:=MF n bef
    omega
  ·right
   rw [decide_eq_false hv]
   simp only [cond_false]
   exact⟨_,rfl,rk,g,λh=>absurd h hv⟩
theorem way_ok {n s t:Nat} {w:Web} (hq:Sq n w.f_can) (hn:n<=1000000) (hs:s<n) (ht:t<n):∃bef ok,lG w (s:Int) (t:Int)=some (bef,ok)/\WayIs n s t w.f_can bef ok:=by
 unfold lG
 have hmk:mkN ((w.f_can.length:Nat):Int) 8=some n:=by
  unfold mkN
  rw [hq.len,if_pos ⟨by omega,by omega,by omega⟩];simp
 rw [hmk,ob_]
 have hlen:(((List.replicate n (0:Int)).length:Int)).toNat=n:=by simp
 rw [hlen]
 obtain ⟨l,h1,h2,h3⟩:=Bu (body:=λk x s=>jk k x s) (λj l=>l.length=n/\∀i,i<j->l[i]? = some (-1)) (n:=n) (s:=List.replicate n (0:Int)) (by omega) (λj l hj hi=>by
  obtain ⟨i1,i2⟩:=hi
  unfold jk
  simp only [toN,lh (show j<l.length by omega),ob_,List.getElem?_eq_getElem (show j<l.length by omega)]
  refine⟨_,rfl,by rw [List.length_set];exact i1,λi hi => ?_⟩
  rw [List.getElem?_set]
  by_cases e:j=i
  ·rw [if_pos e,if_pos (by omega)]
  ·rw [if_neg e];exact i2 i (by omega)) ⟨by simp,λi hi=>absurd hi (Nat.not_lt_zero i)⟩
 rw [h1,ob_]
 have hl:l=List.replicate n (-1):=List.ext_getElem? (λi=>by
  rw [List.getElem?_replicate]
  by_cases hi:i<n
  ·rw [if_pos hi];exact h3 i hi
  ·rw [if_neg hi];exact List.getElem?_eq_none (by omega))
 subst hl
 have hsl:s<(List.replicate n (-1:Int)).length:=by simpa using hs
 simp only [thenC,toN,lh hsl,ob_,List.getElem?_eq_getElem hsl]
 have hget:∀i,((List.replicate n (-1:Int)).set s (s:Int)).getD i (-1)=if i=s then (s:Int)else -1:=λi=>by
  rw [jb s i _ hsl]
  by_cases h:i=s
  ·rw [if_pos h,if_pos h]
  ·rw [if_neg h,if_neg h,List.getD_eq_getElem?_getD,List.getElem?_replicate]
   by_cases h:i<n
   ·rw [if_pos h];rfl
   ·rw [if_neg h];rfl
 have hvis:∀i,vis ((List.replicate n (-1:Int)).set s (s:Int)) i↔i=s:=λi=>by
  unfold vis
  rw [hget i]
  split
  ·rename_i h;exact⟨λ_=>h,λ_=>by omega⟩
  ·rename_i h;exact⟨λh'=>by omega,λh'=>absurd h' h⟩
 have hout:Out n s w.f_can ((List.replicate n (-1:Int)).set s (s:Int),[(s:Int)],0):=by
  refine⟨⟨λ_=>0,by simp,by rw [hget,if_pos rfl],λi _ hv hne=>absurd ((hvis i).1 hv) hne,rfl,λi hv _=>(hvis i).1 hv⟩,Nat.zero_le _,?_,?_,?_⟩
  ·intro x hx
   have hx:x ∈ [(s:Int)]:=hx
   rw [List.mem_singleton]at hx
   exact⟨s,hx,(hvis s).2 rfl⟩
  ·intro i hi
   rw [(hvis i).1 hi]
   exact .inl (by show (s:Int) ∈ [(s:Int)];simp)
  ·show unv n ((List.replicate n (-1:Int)).set s (s:Int))+([(s:Int)].length:Int)<=n
   have e:unv n ((List.replicate n (-1:Int)).set s (s:Int))=(n:Int)-1:=by
    unfold unv
    have h0:S n (λ_=>(1:Int))=n:=by
     have:∀m:Nat,S m (λ_=>(1:Int))=m:=λm=>by
      induction m with
      | zero=>rfl
      | succ m ih=>show S m _+1=_;rw [ih];omega
     exact this n
    rw [MN (f:=λ_=>(1:Int)) hs (λj _ hj=>by
     show (if ((List.replicate n (-1:Int)).set s (s:Int)).getD j (-1)<0 then (1:Int)else 0)=1
     rw [hget,if_neg hj,if_pos (by omega)]),h0]
    show (n:Int)+((if ((List.replicate n (-1:Int)).set s (s:Int)).getD s (-1)<0 then (1:Int)else 0)-1)=_
    rw [hget,if_pos rfl,if_neg (by omega)];omega
   rw [e]
   simp only [List.length_cons,List.length_nil];omega
 obtain ⟨s',r1,rk,r2,r3⟩:=F6 (body:=λs=>fM (t:Int) w s) (Out n s w.f_can) (λs=>(unv n s.1+(quL s).length).toNat) (λs'=>∃rk,Grown n s w.f_can s'.1 rk/\(s'.1.getD t (-1)<0->∀i,vis s'.1 i->∀b,b<n->0<at2 w.f_can i b->vis s'.1 b)) (λs h=>Jl hq hn ht h) hout
 rw [r1,ob_]
 have htl:t<s'.1.length:=by rw [r2.len];exact ht
 have hbt:s'.1[t]? = some (s'.1.getD t (-1)):=by rw [List.getD_eq_getElem?_getD,List.getElem?_eq_getElem htl,Option.getD_some]
 simp only [thenC,lh htl,ob_,toN,hbt]
 refine⟨_,_,rfl,r2.len,rfl,⟨rk,r2⟩,λho a b ha hb hnb => ?_⟩
 have h1:s'.1.getD t (-1)<0:=by have:=of_decide_eq_false ho;omega
 by_cases hc:0<at2 w.f_can a b
 ·exact absurd (r3 h1 a ha b hb hc) hnb
 ·omega
end Go.Proofs.YtkjlhdminmpmkacGreatDoor.Law

open Go Go.Eng Go.Flow
namespace Go.Proofs.YtkjlhdminmpmkacGreatDoor.Law
set_option linter.unusedVariables false
set_option linter.unusedSimpArgs false
set_option linter.unusedSectionVars false
def vg (bef:List Int) (i:Nat):Nat:=(bef.getD i 0).toNat
theorem getD_01 {l:List Int} {i:Nat} (h:i<l.length) (a b:Int):l.getD i a=l.getD i b:=by
 rw [List.getD_eq_getElem?_getD,List.getD_eq_getElem?_getD,List.getElem?_eq_getElem h];rfl
section
variable {n s:Nat} {rows:List (List Int)} {bef:List Int} {rk:Nat->Nat}
theorem Grown.tree (h:Grown n s rows bef rk):Tree n s (vis bef) (vg bef) rk/\(∀i,vis bef i->i≠s->0<at2 rows (vg bef i) i)/\∀i,vis bef i->i≠s->bef[i]? = some ((vg bef i:Nat):Int):=by
 have key:∀i,vis bef i->i≠s->∃p,p<n/\vg bef i=p/\bef[i]? = some (p:Int)/\vis bef p/\rk p<rk i/\0<at2 rows p i:=λi hi hs=>by
  have hin:=IQ h.len hi
  obtain ⟨p,p1,p2,p3,p4,p5⟩:=h.up i hin hi hs
  have hl:i<bef.length:=by rw [h.len];exact hin
  refine⟨p,p1,?_,?_,p3,p4,p5⟩
  ·unfold vg;rw [getD_01 hl 0 (-1),p2];simp
  ·rw [List.getD_eq_getElem?_getD,List.getElem?_eq_getElem hl,Option.getD_some]at p2
   rw [List.getElem?_eq_getElem hl,p2]
 refine⟨⟨λi hi=>IQ h.len hi,λi hi hs => ?_⟩,λi hi hs => ?_,λi hi hs => ?_⟩
 ·obtain ⟨p,_,e,_,p3,p4,_⟩:=key i hi hs
  rw [e];exact⟨p3,p4⟩
 ·obtain ⟨p,_,e,_,_,_,p5⟩:=key i hi hs
  rw [e];exact p5
 ·obtain ⟨p,_,e,p2,_,_,_⟩:=key i hi hs
  rw [e];exact p2
end
theorem minI_eq (a b:Int):zS a b=min a b:=by unfold zS;split <;> omega
theorem Mr {l:List Int} {i:Nat} {x:Int} (h:l[i]? = some x):idx l (i:Int)=some x:=by rw [uI,h]
section
variable {n s:Nat} {w:Web} {bef:List Int} {ok:Bool} {rk:Nat->Nat} {rows:List (List Int)} {sum:Int}
theorem Pp (hw:w.f_can.length=n) (hq:Sq n rows) (g:Grown n s rows bef rk):∀(f i:Nat) (k:Int),vis bef i->rk i<=f->∃m,iterN (λx=>fA (s:Int) (bef,ok) w (rows,sum) x) (m+1) (k,(i:Int))=some (.go (least s (vg bef) (at2 rows) f i k,(s:Int)))
 | f,i,k,hi,hr=>by
  obtain ⟨T,tp,tb⟩:=g.tree
  by_cases his:i=s
  ·subst his
   refine⟨0,?_⟩
   have e:least i (vg bef) (at2 rows) f i k=k:=by cases f <;> simp [least]
   rw [e]
   simp only [iterN,fA,bne_self_eq_false,cond_false,ob_]
  ·cases f with
   | zero=>exact absurd (g.rkz i hi (by omega)) his
   | succ f =>
    obtain ⟨hu,hlt⟩:=T.up i hi his
    have hin:=T.lt i hi
    have hbn:=T.lt _ hu
    obtain ⟨m,hm⟩:=Pp hw hq g f (vg bef i) (min k (at2 rows (vg bef i) i)) hu (by omega)
    refine⟨m+1,?_⟩
    have hne:((i:Int) != (s:Int))=true:=by simp;omega
    obtain ⟨r,r1,r2,r3⟩:=hq.get hbn
    have hb:=Mr (tb i hi his)
    rw [iterN]
    have e:fA (s:Int) (bef,ok) w (rows,sum) (k,(i:Int))=some (.go (min k (at2 rows (vg bef i) i),((vg bef i:Nat):Int))):=by
     unfold fA
     simp only [hne,cond_true,hb,ob_,rJ (show vg bef i<w.f_can.length by omega),toN,r1,lh (show i<r.length by omega),r3 i hin,minI_eq]
    rw [e,ob_]
    show iterN _ (m+1) _=_
    rw [hm,least,if_neg his]
theorem PG {c0:Nat->Nat->Int} {T0:List (List Int)} (hw:w.f_can.length=n) (g:Grown n s T0 bef rk) {k x:Int} (hk:0<=k/\k<=1000000000000) (hc0:∀a b,a<n->b<n->c0 a b+c0 b a<=1000000000000):∀(f i:Nat) (rows:List (List Int)),vis bef i->rk i<=f->Sq n rows->Go.Flow.Bears s (vg bef) (at2 rows) k f i ->
  (∀a b,a<n->b<n->0<=at2 rows a b)->(∀a b,a<n->b<n->c0 a b-at2 rows a b = - (c0 b a-at2 rows b a)) ->
  ∃m rows',iterN (λy=>fD (s:Int) (bef,ok) w (k,x) y) (m+1) (rows,(i:Int))=some (.go (rows',(s:Int)))/\Sq n rows'/\∀a b,a<n->b<n->at2 rows' a b=aug s (vg bef) k f i (at2 rows) a b
 | f,i,rows,hi,hr,hq,hb,hp,ha=>by
  obtain ⟨T,tp,tb⟩:=g.tree
  by_cases his:i=s
  ·subst his
   refine⟨0,rows,?_,hq,λa b _ _=>by cases f <;> simp [aug]⟩
   simp only [iterN,fD,bne_self_eq_false,cond_false,ob_]
  ·cases f with
   | zero=>exact absurd (g.rkz i hi (by omega)) his
   | succ f =>
    obtain ⟨hu,hlt⟩:=T.up i hi his
    have hin:=T.lt i hi
    have hbn:=T.lt _ hu
    have hpne:vg bef i≠i:=λe=>by rw [e]at hlt;exact Nat.lt_irrefl _ hlt
    have hbe:=hb.resolve_left his
    have hbx:=Mr (tb i hi his)
    generalize hpd:vg bef i=p at *
    obtain ⟨r,r1,r2,r3⟩:=hq.get hbn
    have c1:=hp p i hbn hin
    have c2:=hp i p hin hbn
    have c3:=ha p i hbn hin
    have c4:=hc0 p i hbn hin
    have w1:w64 (at2 rows p i-k)=at2 rows p i-k:=fG (by omega)
    obtain ⟨hq1,hat1⟩:=hq.wr hbn hin (at2 rows p i-k) r1
    obtain ⟨r',r1',r2',r3'⟩:=hq1.get hin
    have e1:at2 (rows.set p (r.set i (at2 rows p i-k))) i p=at2 rows i p:=by rw [hat1,if_neg (λe=>hpne e.1.symm)]
    have w2:w64 (at2 rows i p+k)=at2 rows i p+k:=fG (by omega)
    obtain ⟨hq2,hat2⟩:=hq1.wr hin hbn (at2 rows i p+k) r1'
    have hpush:∀a b,at2 ((rows.set p (r.set i (at2 rows p i-k))).set i (r'.set p (at2 rows i p+k))) a b=push (at2 rows) p i k a b:=λa b=>by
     rw [hat2,hat1]
     unfold push
     by_cases h1:a=p/\b=i
     ·obtain ⟨rfl,rfl⟩:=h1
      rw [if_neg (λe=>hpne e.1),if_pos ⟨rfl,rfl⟩,if_pos ⟨rfl,rfl⟩]
     ·rw [if_neg h1,if_neg h1]
      by_cases h2:a=i/\b=p
      ·obtain ⟨rfl,rfl⟩:=h2
       simp only [and_self,if_true]
      ·rw [if_neg h2,if_neg h2]
    have hfun:at2 ((rows.set p (r.set i (at2 rows p i-k))).set i (r'.set p (at2 rows i p+k)))=push (at2 rows) p i k:=by funext a b;exact hpush a b
    have hb':Go.Flow.Bears s (vg bef) (push (at2 rows) p i k) k f p:=by
     have:=Bears.push T hk.1 (c:=at2 rows) (k:=k) (l:=k) (j:=i) (f:=f) (i:=p) hu hlt hbe.2
     rw [hpd]at this;exact this
    obtain ⟨m,rows',m1,m2,m3⟩:=PG hw g hk hc0 f p _ hu (by omega) hq2 (by rw [hfun];exact hb') (λa b hla hlb=>by
     rw [hpush]
     by_cases h1:a=p/\b=i
     ·obtain ⟨rfl,rfl⟩:=h1
      rw [Ai];have:=hbe.1;omega
     ·exact Int.le_trans (hp a b hla hlb) (Il hk.1 h1)) (λa b hla hlb=>by rw [hpush,hpush];exact F5 hpne ha a b hla hlb)
    refine⟨m+1,rows',?_,m2,λa b hla hlb => ?_⟩
    ·have hne:((i:Int) != (s:Int))=true:=by simp;omega
     rw [iterN]
     have e:fD (s:Int) (bef,ok) w (k,x) (rows,(i:Int))=some (.go ((rows.set p (r.set i (at2 rows p i-k))).set i (r'.set p (at2 rows i p+k)),((p:Nat):Int))):=by
      unfold fD
      simp only [hne,cond_true,hbx,ob_,rJ (show p<w.f_can.length by omega),toN,r1,lh (show i<r.length by omega),r3 i hin,w1,rJ (show i<w.f_can.length by omega),r1',lh (show p<r'.length by omega),r3' p hbn,e1,w2]
     rw [e,ob_]
     show iterN _ (m+1) _=_
     rw [m1]
    ·rw [m3 a b hla hlb,hfun,aug,if_neg his,hpd]
end
structure Flo (n s t:Nat) (c0:Nat->Nat->Int) (most:Int) (x:List (List Int)×Int):Prop where
 sq:Sq n x.1
 fl:Flows n s t c0 (at2 x.1) x.2
 nn:0<=x.2
 le:x.2<=most
theorem L3_step {n s t:Nat} {w:Web} {c0:Nat->Nat->Int} {most:Int} (hw:w.f_can.length=n) (hn:n<=1000000) (hs:s<n) (ht:t<n) (hst:s≠t) (hc0:∀a b,a<n->b<n->c0 a b+c0 b a<=1000000000000) (hm:most<=1000000000000)
  {x:List (List Int)×Int} (h:Flo n s t c0 most x) :
  (∃x',fC most w (s:Int) (t:Int) x=some (.go x')/\Flo n s t c0 most x'/\(most-x'.2).toNat<(most-x.2).toNat) \/
  ∃x',fC most w (s:Int) (t:Int) x=some (.brk x')/\Flo n s t c0 most x'/\(x'.2<most->∃R:Nat->Bool,R s=true/\R t=false/\∀a b,a<n->b<n->R a=true->R b=false->at2 x'.1 a b=0):=by
 obtain ⟨rows,sum⟩:=x
 have h':=h
 obtain ⟨hq,hf,h0,hl⟩:=h
 simp only at hq hf h0 hl
 unfold fC
 by_cases hlt:sum<most
 ·rw [decide_eq_true hlt]
  obtain ⟨bef,ok,e1,⟨w1,w2,⟨rk,g⟩,w4⟩⟩:=way_ok (w:=⟨rows,w.f_camps⟩) hq hn hs ht
  have g:Grown n s rows bef rk:=g
  simp only [cond_true,hq.ne (by omega),ob_,r9 (show rows.length=w.f_can.length by rw [hw];exact hq.len),e1]
  cases ok with
  | false =>
   right
   simp only [Bool.not_false,cond_true]
   refine⟨_,rfl,h',λ_=>⟨λi=>decide (vis bef i),?_,?_,λa b ha hb hra hrb => ?_⟩⟩
   ·refine decide_eq_true ?_
    unfold vis;rw [g.root];omega
   ·refine decide_eq_false ?_
    have:=of_decide_eq_false w2.symm
    unfold vis;omega
   ·have:=w4 rfl a b (of_decide_eq_true hra) hb (of_decide_eq_false hrb)
    have:=hf.pos a b ha hb
    show at2 rows a b=0
    have e:at2 rows a b<=0:=w4 rfl a b (of_decide_eq_true hra) hb (of_decide_eq_false hrb)
    omega
  | true =>
   left
   simp only [Bool.not_true,cond_false]
   have hvt:vis bef t:=of_decide_eq_true w2.symm
   obtain ⟨T,tp,tb⟩:=g.tree
   have hwd:w64 (most-sum)=most-sum:=fG (by omega)
   obtain ⟨m1,r1⟩:=Pp (ok:=true) (sum:=sum) hw hq g (rk t) t (most-sum) hvt (Nat.le_refl _)
   have hk1:=Fy (s:=s) (bef:=vg bef) (at2 rows) (rk t) t (most-sum)
   have hk0:=GI T tp (rk t) t (most-sum) hvt (by omega)
   have hkb:=CY (s:=s) (bef:=vg bef) (at2 rows) (rk t) t (most-sum)
   generalize hK:least s (vg bef) (at2 rows) (rk t) t (most-sum)=K at *
   rw [hwd,qc r1,ob_]
   obtain ⟨m2,rows',r2,q2,a2⟩:=PG (w:=w) (bef:=bef) (ok:=true) (k:=K) (x:=(s:Int)) hw g ⟨by omega,by omega⟩ hc0 (rk t) t rows hvt (Nat.le_refl _) hq hkb hf.pos hf.anti
   simp only [thenC]
   rw [qc r2,ob_]
   have hws:w64 (sum+K)=sum+K:=fG (by omega)
   simp only [thenC,hws]
   have hfl:=Flows.aug T hf hst hvt (show 0<=K by omega) (Nat.le_refl _) hkb g.rk0 g.rkz
   refine⟨_,rfl,⟨q2,⟨λa b ha hb => ?_,λa b ha hb => ?_,λy hy h1 h2 => ?_,?_⟩,?_,?_⟩,?_⟩
   ·show 0<=at2 rows' a b
    rw [a2 a b ha hb];exact hfl.pos a b ha hb
   ·show c0 a b-at2 rows' a b = - (c0 b a-at2 rows' b a)
    rw [a2 a b ha hb,a2 b a hb ha];exact hfl.anti a b ha hb
   ·rw [<- hfl.cons y hy h1 h2]
    exact bT (λb hb=>by show c0 y b-at2 rows' y b=_;rw [a2 y b hy hb])
   ·show S n (λb=>c0 s b-at2 rows' s b)=sum+K
    rw [<- hfl.val]
    exact bT (λb hb=>by rw [a2 s b hs hb])
   ·show 0<=sum+K;omega
   ·show sum+K<=most;omega
   ·show (most-(sum+K)).toNat<(most-sum).toNat;omega
 ·right
  rw [decide_eq_false hlt]
  simp only [cond_false]
  exact⟨_,rfl,h',λh=>absurd h hlt⟩
theorem M8 {n s t:Nat} {w:Web} {most:Int} (hq:Sq n w.f_can) (hn:n<=1000000) (hs:s<n) (ht:t<n) (hst:s≠t) (hp:∀a b,a<n->b<n->0<=at2 w.f_can a b) (hc:∀a b,a<n->b<n->at2 w.f_can a b+at2 w.f_can b a<=1000000000000) (h0:0<=most) (hm:most<=1000000000000) :
  ∃v rows',fQ w (s:Int) (t:Int) most=some (v,⟨rows',w.f_camps⟩)/\Sq n rows'/\Flows n s t (at2 w.f_can) (at2 rows') v/\0<=v/\v<=most /\
   (v<most->∃R:Nat->Bool,R s=true/\R t=false/\∀a b,a<n->b<n->R a=true->R b=false->at2 rows' a b=0):=by
 have hi:Flo n s t (at2 w.f_can) most (w.f_can,0):=⟨hq,Flows.zero hp,Int.le_refl _,h0⟩
 obtain ⟨x',r1,r2,r3⟩:=F6 (body:=λx=>fC most w (s:Int) (t:Int) x) (Flo n s t (at2 w.f_can) most) (λx=>(most-x.2).toNat) (λx'=>Flo n s t (at2 w.f_can) most x'/\(x'.2<most->∃R:Nat->Bool,R s=true/\R t=false/\∀a b,a<n->b<n->R a=true->R b=false->at2 x'.1 a b=0)) (λx h=>L3_step hq.len hn hs ht hst hc hm h) hi
 unfold fQ
 rw [r1,ob_]
 simp only [thenC,AU (show x'.1.length=w.f_can.length by rw [r2.sq.len,hq.len]),ob_]
 exact⟨_,_,rfl,r2.sq,r2.fl,r2.nn,r2.le,r3⟩
end Go.Proofs.YtkjlhdminmpmkacGreatDoor.Law

open Go Go.Eng
namespace Go.Proofs.YtkjlhdminmpmkacGreatDoor.Law
set_option linter.unusedVariables false
set_option linter.unusedSimpArgs false
def Ok (s:Stream) (b:Int):Prop:=0<=s.f_at/\s.f_at<=b
theorem Ok.mono {s:Stream} {b c:Int} (h:Ok s b) (hc:b<=c):Ok s c:=⟨h.1,Int.le_trans h.2 hc⟩
theorem D9 (x n:Int) (h:1<=n) (hn:n<=4611686018427387904):∃r,sV x n=some r/\0<=r/\r<n:=by
 have h1:x.tmod n<n:=Int.tmod_lt_of_pos x (by omega)
 have h2 : -n<x.tmod n:=Int.lt_tmod_of_pos x (by omega)
 have hb:decide (n<1)=false:=by simp;omega
 have hn0:n≠0:=by omega
 simp only [sV,hb,cond_false,Kh,if_neg hn0,ob_]
 cases hd:decide (x.tmod n<0)with
 | true =>
  simp only [decide_eq_true_eq]at hd
  exact⟨_,rfl,by rw [fG (by omega)];omega,by rw [fG (by omega)];omega⟩
 | false =>
  simp only [decide_eq_false_iff_not]at hd
  exact⟨_,rfl,by omega,h1⟩
theorem DL (s:Stream) (n:Int) {b:Int} (hs:Ok s b) (hb:b<=1000000) (h:1<=n) (hn:n<=4611686018427387904):∃r s',iA s n=some (r,s')/\0<=r/\r<n/\Ok s' (b+1):=by
 obtain ⟨h0,h1⟩:=hs
 have e1:w64 (s.f_at+1)=s.f_at+1:=fG (by omega)
 have e2:w64 (s.f_at+1-1)=s.f_at:=by rw [fG (by omega)];omega
 simp only [iA,e1,e2]
 by_cases hl:s.L.length=0
 ·have:((s.L.length:Int)==0)=true:=by simp [hl]
  simp only [this,cond_true]
  obtain ⟨r,hr,h2,h3⟩:=D9 (w64 ((s.f_at+1)*7919)) n h hn
  exact⟨r,_,by rw [hr];rfl,h2,h3,⟨by show 0<=s.f_at+1;omega,by show s.f_at+1<=b+1;omega⟩⟩
 ·have hne:(s.L.length:Int)≠0:=by omega
  have:((s.L.length:Int)==0)=false:=by simpa using hl
  simp only [this,cond_false,Kh,IR,if_neg hne,ob_]
  have h2:0<=s.f_at.tmod s.L.length:=Int.tmod_nonneg _ h0
  have hp:(0:Int)<(s.L.length:Int):=by have:=Nat.pos_of_ne_zero hl;omega
  have h3:s.f_at.tmod s.L.length<s.L.length:=Int.tmod_lt_of_pos _ hp
  have hi:idx s.L (s.f_at.tmod s.L.length)=some s.L[(s.f_at.tmod s.L.length).toNat]:=by
   simp only [idx,if_pos h2]
   exact List.getElem?_eq_getElem (by omega)
  obtain ⟨r1,hr1,_,_⟩:=D9 s.L[(s.f_at.tmod s.L.length).toNat] 1073741824 (by decide) (by decide)
  simp only [hi,hr1,ob_]
  generalize w64 (r1+_)=y
  obtain ⟨r,hr,h4,h5⟩:=D9 y n h hn
  exact⟨r,_,by rw [hr];rfl,h4,h5,⟨by show 0<=s.f_at+1;omega,by show s.f_at+1<=b+1;omega⟩⟩
theorem yB (s:Stream) (n:Int) {b:Int} (hs:Ok s b) (hb:b<=1000000) (h:1<=n) (hn:n<=1000):∃r s',eX s n=some (r,s')/\Ok s' (b+1):=by
 obtain ⟨r,s',h1,_,_,h2⟩:=DL s n hs hb h (by omega)
 exact⟨r==0,s',by simp only [eX,h1,ob_],h2⟩
theorem MQ {α:Type} {l:List α} {r:Int} (h0:0<=r) (h1:r<l.length):∃y,idx l r=some y/\y∈l:=by
 refine⟨l[r.toNat]'(by omega),?_,List.getElem_mem _⟩
 simp only [idx,if_pos h0]
 exact List.getElem?_eq_getElem (by omega)
theorem sH (s:Stream) (l:List Int) {b:Int} (hs:Ok s b) (hb:b<=1000000) (h:1<=l.length) (hn:l.length<=1000):∃r s',dI s l=some (r,s')/\r∈l/\Ok s' (b+1):=by
 obtain ⟨r,s',h1,h2,h3,h4⟩:=DL s l.length hs hb (by omega) (by omega)
 obtain ⟨y,hy,hm⟩:=MQ h2 h3
 exact⟨y,s',by simp only [dI,h1,hy,ob_],hm,h4⟩
theorem DF (s:Stream) (l:List ByteArray) {b:Int} (hs:Ok s b) (hb:b<=1000000) (h:1<=l.length) (hn:l.length<=1000):∃r s',iw s l=some (r,s')/\r∈l/\Ok s' (b+1):=by
 obtain ⟨r,s',h1,h2,h3,h4⟩:=DL s l.length hs hb (by omega) (by omega)
 obtain ⟨y,hy,hm⟩:=MQ h2 h3
 exact⟨y,s',by simp only [iw,h1,hy,ob_],hm,h4⟩
theorem Jy (s:Stream) (lo hi:Int) {b:Int} (hs:Ok s b) (hb:b<=1000000) (h:lo<=hi) (h1 : -1000000000000<=lo) (h2:hi<=1000000000000):∃r s',jK s lo hi=some (r,s')/\lo<=r/\r<=hi/\Ok s' (b+1):=by
 have hd:decide (hi<lo)=false:=by simp;omega
 have e1:w64 (hi-lo)=hi-lo:=fG (by omega)
 have e2:w64 (hi-lo+1)=hi-lo+1:=fG (by omega)
 obtain ⟨r,s',k1,k2,k3,k4⟩:=DL s (hi-lo+1) hs hb (by omega) (by omega)
 simp only [jK,hd,cond_false,e1,e2,k1,ob_]
 exact⟨_,s',rfl,by rw [fG (by omega)];omega,by rw [fG (by omega)];omega,k4⟩
theorem P5 (s:Stream) (lo hi:Int) {b:Int} (hs:Ok s b) (hb:b<=900000) (h:lo<=hi) (h1 : -1000000000000<=lo) (h2:hi<=1000000000000):∃r s',lQ s lo hi=some (r,s')/\Ok s' (b+2):=by
 obtain ⟨c,s1,k1,k2⟩:=yB s 12 hs (by omega) (by decide) (by decide)
 simp only [lQ,k1,ob_]
 cases c with
 | true =>
  obtain ⟨r,s2,m1,_,m2⟩:=sH s1 [(w64 (lo-1)),(w64 (hi+1)),lo,hi,(-1099511627776),1099511627776] k2 (by omega) (by simp) (by simp)
  simp only [cond_true,m1,ob_]
  exact⟨_,_,rfl,m2.mono (by omega)⟩
 | false =>
  obtain ⟨r,s2,m1,_,_,m2⟩:=Jy s1 lo hi k2 (by omega) h h1 h2
  simp only [cond_false,m1,ob_]
  exact⟨_,_,rfl,m2.mono (by omega)⟩
end Go.Proofs.YtkjlhdminmpmkacGreatDoor.Law

open Go Go.Eng
namespace Go.Proofs.YtkjlhdminmpmkacGreatDoor.Law
set_option linter.unusedVariables false
set_option linter.unusedSimpArgs false
def l8 (s:ByteArray):Prop:=s.size<=1000
def GoodS (x:Spot):Prop:=l8 x.Key/\x.Tags.length<=20/\∀t∈x.Tags,l8 t
def Cy (c:Campaign):Prop:=l8 c.Key/\l8 c.Class/\c.Tags.length<=20/\∀t∈c.Tags,l8 t
theorem o9 {α:Type} (xs ys:List α) (h:xs.length+ys.length<=1000000000):iZ xs ys=some (xs++ys):=by unfold iZ;rw [if_pos h]
theorem jI {s:ByteArray} (h:Nat.ble s.size 1000=true):l8 s:=Nat.le_of_ble_eq_true h
end Go.Proofs.YtkjlhdminmpmkacGreatDoor.Law

open Go Go.Eng
namespace Go.Proofs.YtkjlhdminmpmkacGreatDoor.Law
set_option linter.unusedVariables false
set_option linter.unusedSimpArgs false
def lowB (b:UInt8):Bool:=decide (97<=b.toNat)&&decide (b.toNat<=122)
def moreB (b:UInt8):Bool:=(decide (48<=b.toNat)&&decide (b.toNat<=57))||(b.toNat==45)||(b.toNat==95)
def okB (i:Nat) (b:UInt8):Bool:=lowB b||(decide (0<i)&&moreB b)
def wX (s:ByteArray) (i:Nat):UInt8:=s.data.toList.getD i 0
def nK (s:ByteArray):Bool:=decide (s.size≠0)&&(decide (s.size<=40)&&(List.range s.size).all λi=>okB i (wX s i))
theorem Ph (s:ByteArray) (k:Nat) (h:k<s.size):yY s (k:Int)=some (wX s k):=by
 have h1:s[k]? = some s[k]:=by simp [h]
 have h2:wX s k=s[k]:=by
  have hl:k<s.data.toList.length:=by rw [<- Go.Lib.size_eq];exact h
  simp only [wX,List.getD_eq_getElem?_getD,List.getElem?_eq_getElem hl,Option.getD_some]
  simp
  rfl
 simp only [yY,if_pos (Int.natCast_nonneg k),Int.toNat_natCast,h1,h2]
theorem Jt (s:ByteArray) (k:Nat) (hs:s.size<=1000000000):jX s (k:Int)=some (if k<s.size then (bif okB k (wX s k)then .go ((k+1:Nat):Int)else .ret false)else .brk (k:Int)):=by
 unfold jX
 by_cases h:k<s.size
 ·have hd:decide ((k:Int)<(s.size:Int))=true:=by simp;omega
  have hw:w64 ((k:Int)+1)=((k+1:Nat):Int):=by rw [fG (by omega)];omega
  simp only [hd,cond_true,Ph s k h,ob_,if_pos h,hw]
  generalize wX s k=b
  simp only [okB,lowB,moreB]
  have e1:decide ((b.toNat:Int)>=97)=decide (97<=b.toNat):=decide_eq_decide.2 (by omega)
  have e2:decide ((b.toNat:Int)<=122)=decide (b.toNat<=122):=decide_eq_decide.2 (by omega)
  have e3:decide ((k:Int)>0)=decide (0<k):=decide_eq_decide.2 (by omega)
  have e4:decide ((b.toNat:Int)>=48)=decide (48<=b.toNat):=decide_eq_decide.2 (by omega)
  have e5:decide ((b.toNat:Int)<=57)=decide (b.toNat<=57):=decide_eq_decide.2 (by omega)
  have e6:((b.toNat:Int)==45)=(b.toNat==45):=by rw [Bool.eq_iff_iff];simp;omega
  have e7:((b.toNat:Int)==95)=(b.toNat==95):=by rw [Bool.eq_iff_iff];simp;omega
  rw [e1,e2,e3,e4,e5,e6,e7]
  cases decide (97<=b.toNat) <;> cases decide (b.toNat<=122) <;> cases decide (0<k) <;> cases decide (48<=b.toNat) <;> cases decide (b.toNat<=57) <;> cases (b.toNat==45) <;> cases (b.toNat==95) <;> rfl
 ·have hd:decide ((k:Int)<(s.size:Int))=false:=by simp;omega
  simp only [hd,cond_false,if_neg h]
theorem Eu (s:ByteArray) (hs:s.size<=1000000000):∀(n k:Nat),k+n=s.size->iterN (λi=>jX s i) (n+1) (k:Int)=some (bif (List.range' k n).all (λj=>okB j (wX s j))then .go (s.size:Int)else .ret false)
 | 0,k,h=>by
  have hk:¬k<s.size:=by omega
  simp only [iterN,Jt s k hs,if_neg hk,ob_,List.range'_zero,List.all_nil,cond_true]
  rw [show (k:Int)=s.size by omega]
 | n+1,k,h=>by
  have hk:k<s.size:=by omega
  rw [iterN,Jt s k hs,if_pos hk,ob_,List.range'_succ,List.all_cons]
  cases okB k (wX s k)with
  | true=>simp only [cond_true,Bool.true_and];exact Eu s hs n (k+1) (by omega)
  | false=>rfl
theorem vO (s:ByteArray) (hs:s.size<=1000000000):eG s=some (nK s):=by
 have h:=qc (Eu s hs s.size 0 (by omega))
 unfold eG
 have h':kJ (0:Int) (λs_1=>jX s s_1)=_:=h
 rw [h',ob_,<- List.range_eq_range']
 have e:decide ((s.size:Int)<=40)=decide (s.size<=40):=decide_eq_decide.2 (by omega)
 simp only [nK]
 cases (List.range s.size).all (λi=>okB i (wX s i))with
 | true =>
  rw [cond_true,mh,Nb,e,Bool.and_true]
  cases decide (s.size≠0) <;> rfl
 | false=>simp only [cond_false,NQ,Bool.and_false]
theorem Ht {s:ByteArray} (h:nK s=true):s.size≠0:=by
 simp only [nK,Bool.and_eq_true,decide_eq_true_eq]at h
 exact h.1
end Go.Proofs.YtkjlhdminmpmkacGreatDoor.Law

open Go Go.Eng
namespace Go.Proofs.YtkjlhdminmpmkacGreatDoor.Law
set_option linter.unusedVariables false
set_option linter.unusedSimpArgs false
def nT:ByteArray:=⟨#[]⟩
def xY {α:Type} (key:α->ByteArray) (l:List α) (k:Nat):ByteArray:=if k=0 then nT else match l[k-1]? with | some y=>key y | none=>nT
def chk {α:Type} (key:α->ByteArray) (stp:ByteArray->α->Int):ByteArray->List α->Int
 | _,[]=>0
 | last,x::xs=>bif stp last x==0 then chk key stp (key x) xs else stp last x
def BD (e:Int):Ctl Unit Int:=bif e==0 then .go ()else .ret e
theorem AO {α:Type} {key:α->ByteArray} {stp:ByteArray->α->Int} {body:Nat->α->Unit->Option (Ctl Unit Int)} (l:List α):∀(xs:List α) (k:Nat),l.drop k=xs->(∀k x,l[k]? = some x->body k x ()=some (BD (stp (xY key l k) x))) ->
  forR body xs k ()=some (BD (chk key stp (xY key l k) xs))
 | [],k,h,hb=>rfl
 | x::xs,k,h,hb=>by
  have hg:=Bt h
  rw [forR,hb k x hg,ob_,chk]
  cases he:stp (xY key l k) x==0 with
  | true =>
   simp only [BD,he,cond_true]
   rw [AO l xs (k+1) (aR h) hb]
   have:xY key l (k+1)=key x:=by simp [xY,hg]
   rw [this];rfl
  | false=>simp only [BD,he,cond_false]
theorem Cv (e:Int):thenC (BD e) (λ_=>some (0:Int)) (λr=>some r)=some e:=by
 unfold BD
 cases h:e==0 with
 | true=>simp only [cond_true,mh];rw [eq_of_beq h]
 | false=>rfl
def BM (last x:ByteArray):Int:=bif !nK x then 5 else bif sLe x last then 7 else 0
def tagsF (l:List ByteArray):Int:=bif decide (l.length>20)then 2 else chk id BM nT l
theorem Qp {α:Type} {l:List α} {k:Nat} {x:α} (h:l[k]? = some x) (hk:0<k) (hl:l.length<=1000000000):∃y,idx l (w64 ((k:Int)-1))=some y/\l[k-1]? = some y:=by
 have hlt:k<l.length:=(List.getElem?_eq_some_iff.1 h).1
 rw [fG (by omega),show (k:Int)-1=((k-1:Nat):Int) by omega,uI]
 exact⟨l[k-1],List.getElem?_eq_getElem (by omega),List.getElem?_eq_getElem (by omega)⟩
theorem BK {α:Type} {key:α->ByteArray} {l:List α} {k:Nat} {x:α} {s:ByteArray} (h:l[k]? = some x) (hl:l.length<=1000000000) (hs:s.size≠0) :
  (bif decide ((k:Int)>0)then (idx l (w64 ((k:Int)-1))).bind λy=>some (sLe s (key y))else some false)=some (sLe s (xY key l k)):=by
 by_cases hk:0<k
 ·obtain ⟨y,h1,h2⟩:=Qp h hk hl
  have hd:decide ((k:Int)>0)=true:=by simp;omega
  simp only [hd,cond_true,h1,ob_,xY,if_neg (show ¬k=0 by omega),h2]
 ·have hk0:k=0:=by omega
  subst hk0
  simp only [xY,if_pos,nT,sLe_nil,decide_eq_false hs]
  rfl
theorem tagsK (l:List ByteArray) (hs:∀t∈l,l8 t) (hl:l.length<=1000000000):fE l=some (tagsF l):=by
 unfold fE tagsF
 have e:decide ((l.length:Int)>20)=decide (l.length>20):=decide_eq_decide.2 (by omega)
 rw [e]
 cases decide (l.length>20)with
 | true=>rfl
 | false =>
  simp only [cond_false]
  unfold iM
  rw [oC (by omega),AO (key:=id) (stp:=BM) l l 0 rfl (λk x hx => ?_)]
  ·simp only [ob_,Cv];rfl
  ·have hxs:l8 x:=hs x (List.mem_of_getElem? hx)
   simp only [gQ,vO x (by unfold l8 at hxs;omega),ob_,BM]
   cases hk:nK x with
   | false=>rfl
   | true =>
    simp only [Bool.not_true,cond_false]
    have:=BK (key:=id) hx hl (Ht hk)
    simp only [id]at this
    rw [this,ob_]
    cases sLe x (xY id l k) <;> rfl
def Cr (w:Window):Bool:=decide (w.From<0)||(decide (w.From>=w.To)||decide (w.To>345686400000))
def out (n hi:Int):Bool:=decide (n<0)||decide (n>hi)
def gL (last:ByteArray) (x:Spot):Int:=bif !nK x.Key then 5 else bif sLe x.Key last then 7 else bif Cr x.Time||out x.Room 1000000 then 1 else tagsF x.Tags
def rF (l:List Spot):Int:=bif decide (l.length>60)then 2 else chk Spot.Key gL nT l
theorem F8 (w:Window):jq w=some (!Cr w):=by
 unfold jq Cr
 have e1:decide (w.From>=0) = !decide (w.From<0):=by rw [Bool.eq_iff_iff];simp
 have e2:decide (w.From<w.To) = !decide (w.From>=w.To):=by rw [Bool.eq_iff_iff];simp
 have e3:decide (w.To<=345686400000) = !decide (w.To>345686400000):=by rw [Bool.eq_iff_iff];simp
 rw [e1,e2,e3]
 cases decide (w.From<0) <;> cases decide (w.From>=w.To) <;> cases decide (w.To>345686400000) <;> rfl
theorem Ff (n hi:Int):aQ n 0 hi=some (out n hi):=by
 unfold aQ out
 cases decide (n<0) <;> cases decide (n>hi) <;> rfl
theorem spotsK (l:List Spot) (hg:∀x∈l,GoodS x) (hl:l.length<=1000000):jl l=some (rF l):=by
 unfold jl rF
 have e:decide ((l.length:Int)>60)=decide (l.length>60):=decide_eq_decide.2 (by omega)
 rw [e]
 cases decide (l.length>60)with
 | true=>rfl
 | false =>
  simp only [cond_false]
  rw [oC (by omega),AO (key:=Spot.Key) (stp:=gL) l l 0 rfl (λk x hx => ?_)]
  ·simp only [ob_,Cv];rfl
  ·obtain ⟨g1,g2,g3⟩:=hg x (List.mem_of_getElem? hx)
   simp only [jC,vO x.Key (by unfold l8 at g1;omega),ob_,gL,F8,Ff,tagsK x.Tags g3 (by omega)]
   cases hk:nK x.Key with
   | false=>rfl
   | true =>
    simp only [Bool.not_true,cond_false]
    rw [BK (key:=Spot.Key) hx (by omega) (Ht hk),ob_]
    cases sLe x.Key (xY Spot.Key l k)with
    | true=>rfl
    | false =>
     simp only [cond_false]
     cases Cr x.Time <;> cases out x.Room 1000000 <;> simp only [Bool.not_true,Bool.not_false,cond_true,cond_false,ob_,Bool.or_true,Bool.or_false,Bool.true_or] <;> first | rfl | skip
     simp only [BD]
     have:(tagsF x.Tags != 0) = !(tagsF x.Tags==0):=rfl
     rw [this]
     cases tagsF x.Tags==0 <;> rfl
def gy (last:ByteArray) (c:Campaign):Int :=
 bif !nK c.Key||(decide (c.Class.size≠0) && !nK c.Class)then 5 else bif sLe c.Key last then 7 else
 bif Cr c.Time||(out c.Goal 1000000||(out c.Most 1000000||out c.Cents 1000000000))then 1 else tagsF c.Tags
def wQ (l:List Campaign):Int:=bif decide (l.length>30)then 2 else chk Campaign.Key gy nT l
theorem Lg (l:List Campaign) (hg:∀x∈l,Cy x) (hl:l.length<=1000000):bR l=some (wQ l):=by
 unfold bR wQ
 have e:decide ((l.length:Int)>30)=decide (l.length>30):=decide_eq_decide.2 (by omega)
 rw [e]
 cases decide (l.length>30)with
 | true=>rfl
 | false =>
  simp only [cond_false]
  rw [oC (by omega),AO (key:=Campaign.Key) (stp:=gy) l l 0 rfl (λk x hx => ?_)]
  ·simp only [ob_,Cv];rfl
  ·obtain ⟨g1,g0,g2,g3⟩:=hg x (List.mem_of_getElem? hx)
   simp only [dN,vO x.Key (by unfold l8 at g1;omega),vO x.Class (by unfold l8 at g0;omega),Nb,ob_,gy,F8,Ff,tagsK x.Tags g3 (by omega)]
   cases hk:nK x.Key with
   | false=>rfl
   | true =>
    simp only [Bool.not_true,cond_false,Bool.false_or]
    have hc:(bif decide (x.Class.size≠0)then some (!nK x.Class)else some false)=some (decide (x.Class.size≠0) && !nK x.Class):=by cases decide (x.Class.size≠0) <;> rfl
    rw [hc,ob_]
    cases (decide (x.Class.size≠0) && !nK x.Class)with
    | true=>rfl
    | false =>
    simp only [cond_false]
    rw [BK (key:=Campaign.Key) hx (by omega) (Ht hk),ob_]
    cases sLe x.Key (xY Campaign.Key l k)with
    | true=>rfl
    | false =>
     simp only [cond_false]
     cases Cr x.Time <;> cases out x.Goal 1000000 <;> cases out x.Most 1000000 <;> cases out x.Cents 1000000000 <;> simp only [Bool.not_true,Bool.not_false,cond_true,cond_false,ob_,Bool.or_true,Bool.or_false,Bool.true_or,Bool.false_or] <;> first | rfl | skip
     simp only [BD]
     have:(tagsF x.Tags != 0) = !(tagsF x.Tags==0):=rfl
     rw [this]
     cases tagsF x.Tags==0 <;> rfl
end Go.Proofs.YtkjlhdminmpmkacGreatDoor.Law

