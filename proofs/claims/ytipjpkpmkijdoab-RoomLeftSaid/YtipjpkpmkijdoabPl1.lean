/-
  THE PLAIN LAW (part 1).
-/
import Derived.Test.YtipjpkpmkijdoabEng5
import Derived.Test.YtipjpkpmkijdoabDefs
namespace Go.Flow
set_option linter.unusedVariables false
def S:Nat→(Nat→Int)→Int
 | 0,_=>0
 | n + 1,f=>S n f + f n
theorem S_congr {f g:Nat→Int}:∀ {n:Nat},(∀ i,i < n→f i=g i)→S n f=S n g
 | 0,_=>rfl
 | n + 1,h=>by rw [S,S,S_congr (fun i hi=>h i (by omega)),h n (by omega)]
theorem S_zero:∀ n:Nat,S n (fun _=>0)=0
 | 0=>rfl
 | n + 1=>by rw [S,S_zero n]; rfl
theorem S_add (f g:Nat→Int):∀ n:Nat,S n (fun i=>f i + g i)=S n f + S n g
 | 0=>rfl
 | n + 1=>by rw [S,S,S,S_add f g n]; omega
theorem S_neg (f:Nat→Int):∀ n:Nat,S n (fun i => - f i) = - S n f
 | 0=>rfl
 | n + 1=>by rw [S,S,S_neg f n]; omega
theorem S_sub (f g:Nat→Int) (n:Nat):S n (fun i=>f i - g i)=S n f - S n g:=by
 have h1:=S_add f (fun i => - g i) n
 rw [S_neg g n]at h1
 have h2:S n (fun i=>f i - g i)=S n (fun i=>f i + - g i):=S_congr (fun i _=>by omega)
 omega
theorem S_le {f g:Nat→Int}:∀ {n:Nat},(∀ i,i < n→f i≤g i)→S n f≤S n g
 | 0,_=>Int.le_refl _
 | n + 1,h=>by
  have h1:=S_le (n:=n) (fun i hi=>h i (by omega))
  have h2:=h n (by omega)
  rw [S,S]; omega
theorem S_nonneg {f:Nat→Int} {n:Nat} (h:∀ i,i < n→0≤f i):0≤S n f:=by
 have:=S_le (f:=fun _=>0) (g:=f) (n:=n) h
 rw [S_zero]at this; exact this
theorem S_one {n i:Nat} (x:Int) (h:i < n):S n (fun j=>if j=i then x else 0)=x:=by
 induction n with
 | zero=>omega
 | succ n ih =>
  rw [S]
  by_cases hi:i=n
  ·subst hi
   have:S i (fun j=>if j=i then x else 0)=S i (fun _=>0):=S_congr (fun j hj=>if_neg (by omega))
   rw [this,S_zero,if_pos rfl]; omega
  ·rw [ih (by omega),if_neg (by omega)]; omega
theorem S_swap (f:Nat→Nat→Int) (m:Nat):∀ n:Nat,S n (fun i=>S m (fun j=>f i j))=S m (fun j=>S n (fun i=>f i j))
 | 0=>by
  show (0:Int)=S m (fun _=>0)
  rw [S_zero]
 | n + 1=>by
  show S n (fun i=>S m (fun j=>f i j)) + S m (fun j=>f n j)=S m (fun j=>S n (fun i=>f i j) + f n j)
  rw [S_add,S_swap f m n]
theorem S_upd {f g:Nat→Int} {n i:Nat} (hi:i < n) (h:∀ j,j < n→j≠i→g j=f j):S n g=S n f + (g i - f i):=by
 have h1:S n g=S n (fun j=>f j + if j=i then g i - f i else 0):=S_congr (fun j hj=>by
  by_cases hji:j=i
  ·subst hji; rw [if_pos rfl]; omega
  ·rw [if_neg hji,h j hj hji]; omega)
 rw [h1,S_add,S_one _ hi]
theorem S_part (R:Nat→Bool) (f:Nat→Int) (n:Nat):S n f=S n (fun i=>bif R i then f i else 0) + S n (fun i=>bif R i then 0 else f i):=by
 rw [← S_add]
 refine S_congr (fun i _ => ?_)
 cases R i
 ·show f i=0 + f i; omega
 ·show f i=f i + 0; omega
theorem inner0 {n:Nat} {f:Nat→Nat→Int} (ha:∀ a b,a < n→b < n→f a b = - f b a) (R:Nat→Bool):S n (fun a=>bif R a then S n (fun b=>bif R b then f a b else 0)else 0)=0:=by
 have e1:S n (fun a=>bif R a then S n (fun b=>bif R b then f a b else 0)else 0)=S n (fun a=>S n (fun b=>bif R a then (bif R b then f a b else 0)else 0)):=S_congr (fun a _=>by
  cases R a
  ·show (0:Int)=S n (fun _=>0); rw [S_zero]
  ·rfl)
 have e2:S n (fun a=>S n (fun b=>bif R a then (bif R b then f a b else 0)else 0))=S n (fun b=>S n (fun a=>bif R a then (bif R b then f a b else 0)else 0)):=S_swap _ n n
 have e3:S n (fun b=>S n (fun a=>bif R a then (bif R b then f a b else 0)else 0))=S n (fun b => - S n (fun a=>bif R b then (bif R a then f b a else 0)else 0)):=S_congr (fun b hb=>by
  rw [← S_neg]
  refine S_congr (fun a hla => ?_)
  cases R a <;> cases R b <;> simp only [cond_true,cond_false]
  ·rfl
  ·rfl
  ·rfl
  ·exact ha a b hla hb)
 rw [S_neg]at e3
 rw [e1]
 omega
theorem cut_value {n s t:Nat} {f:Nat→Nat→Int} (ha:∀ a b,a < n→b < n→f a b = - f b a) (hc:∀ v,v < n→v≠s→v≠t→S n (f v)=0) (hs:s < n) {R:Nat→Bool} (rs:R s=true) (rt:R t=false) :
  S n (f s)=S n (fun a=>bif R a then S n (fun b=>bif R b then 0 else f a b)else 0):=by
 have e1:S n (fun a=>bif R a then S n (f a)else 0)=S n (f s):=by
  have:S n (fun a=>bif R a then S n (f a)else 0)=S n (fun a=>if a=s then S n (f s)else 0):=S_congr (fun a hla=>by
   by_cases h:a=s
   ·subst h; rw [rs,if_pos rfl]; rfl
   ·rw [if_neg h]
    cases hr:R a with
    | false=>rfl
    | true =>
     have hat:a≠t:=fun e=>by rw [e,rt]at hr; cases hr
     exact hc a hla h hat)
  rw [this,S_one _ hs]
 have e2:S n (fun a=>bif R a then S n (f a)else 0)=S n (fun a=>(bif R a then S n (fun b=>bif R b then f a b else 0)else 0) + (bif R a then S n (fun b=>bif R b then 0 else f a b)else 0)):=S_congr (fun a _=>by
  cases R a
  ·rfl
  ·exact S_part R (f a) n)
 rw [S_add,inner0 ha R]at e2
 omega
def cap (n:Nat) (c:Nat→Nat→Int) (R:Nat→Bool):Int:=S n (fun a=>bif R a then S n (fun b=>bif R b then 0 else c a b)else 0)
theorem cap_sub (n:Nat) (c d:Nat→Nat→Int) (R:Nat→Bool):cap n (fun a b=>c a b - d a b) R=cap n c R - cap n d R:=by
 unfold cap
 rw [← S_sub]
 refine S_congr (fun a _ => ?_)
 cases R a
 ·rfl
 ·show S n _=S n _ - S n _
  rw [← S_sub]
  refine S_congr (fun b _ => ?_)
  cases R b
  ·rfl
  ·rfl
structure Flows (n s t:Nat) (c0 c:Nat→Nat→Int) (v:Int):Prop where
 pos:∀ a b,a < n→b < n→0≤c a b
 anti:∀ a b,a < n→b < n→c0 a b - c a b = - (c0 b a - c b a)
 cons:∀ x,x < n→x≠s→x≠t→S n (fun b=>c0 x b - c x b)=0
 val:S n (fun b=>c0 s b - c s b)=v
theorem Flows.le {n s t:Nat} {c0 c:Nat→Nat→Int} {v:Int} (h:Flows n s t c0 c v) (hs:s < n) {R:Nat→Bool} (rs:R s=true) (rt:R t=false):v=cap n c0 R - cap n c R∧v≤cap n c0 R:=by
 have e:=cut_value (f:=fun a b=>c0 a b - c a b) h.anti h.cons hs rs rt
 have e2:S n (fun a=>bif R a then S n (fun b=>bif R b then 0 else c0 a b - c a b)else 0)=cap n (fun a b=>c0 a b - c a b) R:=rfl
 rw [e2,cap_sub]at e
 have h0:0≤cap n c R:=by
  refine S_nonneg (fun a hla => ?_)
  cases hr:R a with
  | false=>exact Int.le_refl _
  | true =>
   refine S_nonneg (fun b hb => ?_)
   cases hq:R b with
   | false=>exact h.pos a b hla hb
   | true=>exact Int.le_refl _
 have:=h.val
 constructor <;> omega
theorem Flows.eq {n s t:Nat} {c0 c:Nat→Nat→Int} {v:Int} (h:Flows n s t c0 c v) (hs:s < n) {R:Nat→Bool} (rs:R s=true) (rt:R t=false) (h0:∀ a b,a < n→b < n→R a=true→R b=false→c a b=0):v=cap n c0 R:=by
 have e:=(h.le hs rs rt).1
 have:cap n c R=0:=by
  have h1:cap n c R=S n (fun _=>0):=S_congr (fun a hla=>by
   cases hr:R a with
   | false=>rfl
   | true =>
    show S n _=0
    have:S n (fun b=>bif R b then 0 else c a b)=S n (fun _=>0):=S_congr (fun b hb=>by
     cases hq:R b with
     | false=>exact h0 a b hla hb hr hq
     | true=>rfl)
    rw [this,S_zero])
  rw [h1,S_zero]
 omega
theorem Flows.zero {n s t:Nat} {c0:Nat→Nat→Int} (hp:∀ a b,a < n→b < n→0≤c0 a b):Flows n s t c0 c0 0 where
 pos:=hp
 anti:=fun a b _ _=>by omega
 cons:=fun x _ _ _=>by
  have:S n (fun b=>c0 x b - c0 x b)=S n (fun _=>0):=S_congr (fun b _=>by omega)
  rw [this,S_zero]
 val:=by
  have:S n (fun b=>c0 s b - c0 s b)=S n (fun _=>0):=S_congr (fun b _=>by omega)
  rw [this,S_zero]
end Go.Flow

namespace Go.Flow
set_option linter.unusedVariables false
def push (c:Nat→Nat→Int) (p i:Nat) (k:Int):Nat→Nat→Int:=fun a b=>if a=p∧b=i then c a b - k else if a=i∧b=p then c a b + k else c a b
theorem push_to {c:Nat→Nat→Int} {p i:Nat} (k:Int):push c p i k p i=c p i - k:=if_pos ⟨rfl,rfl⟩
theorem push_back {c:Nat→Nat→Int} {p i:Nat} (k:Int) (h:p≠i):push c p i k i p=c i p + k:=by
 unfold push; rw [if_neg (fun e=>h e.1.symm),if_pos ⟨rfl,rfl⟩]
theorem push_ne {c:Nat→Nat→Int} {p i a b:Nat} (k:Int) (h1:¬ (a=p∧b=i)) (h2:¬ (a=i∧b=p)):push c p i k a b=c a b:=by
 unfold push; rw [if_neg h1,if_neg h2]
theorem push_ge {c:Nat→Nat→Int} {p i a b:Nat} {k:Int} (hk:0≤k) (h1:¬ (a=p∧b=i)):c a b≤push c p i k a b:=by
 unfold push; rw [if_neg h1]; split <;> omega
theorem push_anti {n:Nat} {c0 c:Nat→Nat→Int} {p i:Nat} {k:Int} (hpi:p≠i) (h:∀ a b,a < n→b < n→c0 a b - c a b = - (c0 b a - c b a)):∀ a b,a < n→b < n→c0 a b - push c p i k a b = - (c0 b a - push c p i k b a):=by
 intro a b ha hb
 have h0:=h a b ha hb
 by_cases h1:a=p∧b=i
 ·obtain ⟨rfl,rfl⟩:=h1
  rw [push_to,push_back _ hpi]; omega
 ·by_cases h2:a=i∧b=p
  ·obtain ⟨rfl,rfl⟩:=h2
   rw [push_to,push_back _ hpi]; omega
  ·rw [push_ne _ h1 h2,push_ne _ (fun e=>h2 ⟨e.2,e.1⟩) (fun e=>h1 ⟨e.2,e.1⟩)]; exact h0
def out (n:Nat) (c0 c:Nat→Nat→Int) (x:Nat):Int:=S n (fun b=>c0 x b - c x b)
theorem push_out {n:Nat} {c0 c:Nat→Nat→Int} {p i:Nat} {k:Int} (hpi:p≠i) (hp:p < n) (hi:i < n) (x:Nat):out n c0 (push c p i k) x=out n c0 c x + (if x=p then k else 0) - (if x=i then k else 0):=by
 unfold out
 by_cases h1:x=p
 ·subst h1
  rw [if_pos rfl,if_neg hpi,S_upd (f:=fun b=>c0 x b - c x b) (g:=fun b=>c0 x b - push c x i k x b) hi (fun j hj hji=>by
   show c0 x j - push c x i k x j=c0 x j - c x j
   rw [push_ne _ (fun e=>hji e.2) (fun e=>hpi e.1)])]
  show _ + (c0 x i - push c x i k x i - (c0 x i - c x i))=_
  rw [push_to]; omega
 ·rw [if_neg h1]
  by_cases h2:x=i
  ·subst h2
   rw [if_pos rfl,S_upd (f:=fun b=>c0 x b - c x b) (g:=fun b=>c0 x b - push c p x k x b) hp (fun j hj hji=>by
    show c0 x j - push c p x k x j=c0 x j - c x j
    rw [push_ne _ (fun e=>h1 e.1) (fun e=>hji e.2)])]
   show _ + (c0 x p - push c p x k x p - (c0 x p - c x p))=_
   rw [push_back _ hpi]; omega
  ·rw [if_neg h2,S_congr (f:=fun b=>c0 x b - push c p i k x b) (g:=fun b=>c0 x b - c x b) (fun j _=>by
    show c0 x j - push c p i k x j=_
    rw [push_ne _ (fun e=>h1 e.1) (fun e=>h2 e.1)])]
   omega
structure Tree (n s:Nat) (P:Nat→Prop) (bef rk:Nat→Nat):Prop where
 lt:∀ i,P i→i < n
 up:∀ i,P i→i≠s→P (bef i)∧rk (bef i) < rk i
def least (s:Nat) (bef:Nat→Nat) (c:Nat→Nat→Int):Nat→Nat→Int→Int
 | 0,_,k=>k
 | f + 1,i,k=>if i=s then k else least s bef c f (bef i) (min k (c (bef i) i))
def aug (s:Nat) (bef:Nat→Nat) (k:Int):Nat→Nat→(Nat→Nat→Int)→Nat→Nat→Int
 | 0,_,c=>c
 | f + 1,i,c=>if i=s then c else aug s bef k f (bef i) (push c (bef i) i k)
section
variable {n s:Nat} {P:Nat→Prop} {bef rk:Nat→Nat}
theorem least_le (c:Nat→Nat→Int):∀ (f i:Nat) (k:Int),least s bef c f i k≤k
 | 0,_,k=>Int.le_refl _
 | f + 1,i,k=>by
  unfold least
  split
  ·exact Int.le_refl _
  ·have:=least_le c f (bef i) (min k (c (bef i) i)); omega
theorem least_pos (T:Tree n s P bef rk) {c:Nat→Nat→Int} (hc:∀ i,P i→i≠s→0 < c (bef i) i):∀ (f i:Nat) (k:Int),P i→0 < k→0 < least s bef c f i k
 | 0,_,k,_,hk=>hk
 | f + 1,i,k,hi,hk=>by
  unfold least
  split
  ·exact hk
  ·rename_i h
   have:=hc i hi h
   exact least_pos T hc f (bef i) _ (T.up i hi h).1 (by omega)
def Bears (s:Nat) (bef:Nat→Nat) (c:Nat→Nat→Int) (k:Int):Nat→Nat→Prop
 | 0,_=>True
 | f + 1,i=>i=s∨(k≤c (bef i) i∧Bears s bef c k f (bef i))
theorem Bears.mono {c:Nat→Nat→Int} {k k':Int} (h:k'≤k):∀ {f i:Nat},Bears s bef c k f i→Bears s bef c k' f i
 | 0,_,_=>trivial
 | f + 1,i,hb=>hb.imp id (fun hb=>⟨Int.le_trans h hb.1,Bears.mono h hb.2⟩)
theorem least_bears (c:Nat→Nat→Int):∀ (f i:Nat) (k:Int),Bears s bef c (least s bef c f i k) f i
 | 0,_,_=>trivial
 | f + 1,i,k=>by
  unfold least
  by_cases h:i=s
  ·exact .inl h
  ·rw [if_neg h]
   have h1:=least_le (s:=s) (bef:=bef) c f (bef i) (min k (c (bef i) i))
   exact .inr ⟨by omega,least_bears c f (bef i) _⟩
theorem Bears.push (T:Tree n s P bef rk) {c:Nat→Nat→Int} {k l:Int} (hl:0≤l) {j:Nat}:∀ {f i:Nat},P i→rk i < rk j→Bears s bef c k f i→Bears s bef (push c (bef j) j l) k f i
 | 0,_,_,_,_=>trivial
 | f + 1,i,hi,hr,hb=>by
  rcases hb with hb | ⟨h1,h2⟩
  ·exact .inl hb
  ·by_cases his:i=s
   ·exact .inl his
   ·have hu:=T.up i hi his
    refine .inr ⟨Int.le_trans h1 (push_ge hl (fun e => ?_)),Bears.push T hl hu.1 (by omega) h2⟩
    rw [e.2]at hr; exact Nat.lt_irrefl _ hr
theorem aug_ok (T:Tree n s P bef rk) {c0:Nat→Nat→Int} {k:Int} (hk:0≤k):∀ (f i:Nat) (c:Nat→Nat→Int),P i→rk i≤f→Bears s bef c k f i→(∀ a b,a < n→b < n→0≤c a b)→(∀ a b,a < n→b < n→c0 a b - c a b = - (c0 b a - c b a)) →
  (rk s=0)→(∀ i,P i→rk i=0→i=s) →
  (∀ a b,a < n→b < n→0≤aug s bef k f i c a b)∧(∀ a b,a < n→b < n→c0 a b - aug s bef k f i c a b = - (c0 b a - aug s bef k f i c b a)) ∧ ∀ x,out n c0 (aug s bef k f i c) x=out n c0 c x + (if x=s then k else 0) - (if x=i then k else 0)
 | 0,i,c,hi,hr,hb,h0,ha,hs,hz=>by
  have:i=s:=hz i hi (by omega)
  subst this
  refine⟨h0,ha,fun x => ?_⟩
  show out n c0 c x=_
  omega
 | f + 1,i,c,hi,hr,hb,h0,ha,hs,hz=>by
  unfold aug
  by_cases his:i=s
  ·rw [if_pos his]
   subst his
   exact⟨h0,ha,fun x=>by omega⟩
  ·rw [if_neg his]
   have hu:=T.up i hi his
   have hne:bef i≠i:=fun e=>by have:=hu.2; rw [e]at this; exact Nat.lt_irrefl _ this
   have hb':=hb.resolve_left his
   obtain ⟨r1,r2,r3⟩:=aug_ok T hk f (bef i) (push c (bef i) i k) hu.1 (by omega) (Bears.push T hk hu.1 hu.2 hb'.2) (fun a b hla hlb=>by
    by_cases h1:a=bef i∧b=i
    ·obtain ⟨rfl,rfl⟩:=h1
     rw [push_to]; have:=hb'.1; omega
    ·exact Int.le_trans (h0 a b hla hlb) (push_ge hk h1)) (push_anti hne ha) hs hz
   refine⟨r1,r2,fun x => ?_⟩
   rw [r3 x,push_out hne (T.lt _ hu.1) (T.lt _ hi) x]
   omega
theorem Flows.aug (T:Tree n s P bef rk) {t:Nat} {c0 c:Nat→Nat→Int} {v k:Int} (h:Flows n s t c0 c v) (hst:s≠t) (ht:P t) (hk:0≤k) {f:Nat} (hf:rk t≤f) (hb:Bears s bef c k f t) (hs:rk s=0) (hz:∀ i,P i→rk i=0→i=s):Flows n s t c0 (Go.Flow.aug s bef k f t c) (v + k):=by
 obtain ⟨r1,r2,r3⟩:=aug_ok T hk f t c ht hf hb h.pos h.anti hs hz
 refine⟨r1,r2,fun x hx h1 h2 => ?_,?_⟩
 ·have e:=r3 x
  rw [if_neg h1,if_neg h2]at e
  have:=h.cons x hx h1 h2
  unfold out at e
  omega
 ·have e:=r3 s
  rw [if_pos rfl,if_neg hst]at e
  have:=h.val
  unfold out at e
  omega
end
end Go.Flow

namespace Go.Eng
set_option linter.unusedVariables false
set_option linter.unusedSimpArgs false
theorem forL_eq {α σ ρ:Type} {body:Nat→α→σ→Option (Ctl σ ρ)} {xs:List α} {s:σ} (hl:xs.length≤1000000000000):forL xs s body=forR body xs 0 s:=by unfold forL; rw [if_pos hl]
theorem forR_inv {α σ ρ:Type} {body:Nat→α→σ→Option (Ctl σ ρ)} (I:Nat→σ→Prop) (N:Nat):∀ (xs:List α) (k:Nat) (s:σ),k + xs.length=N→(∀ k x s,x∈xs→k < N→I k s → ∃ s',body k x s=some (.go s')∧I (k + 1) s')→I k s → ∃ s',forR body xs k s=some (.go s')∧I N s'
 | [],k,s,hN,h,hi=>⟨s,rfl,by simp only [List.length_nil,Nat.add_zero]at hN; rw [← hN]; exact hi⟩
 | x::xs,k,s,hN,h,hi=>by
  simp only [List.length_cons]at hN
  obtain ⟨s1,h1,h2⟩:=h k x s (by simp) (by omega) hi
  obtain ⟨s2,h3,h4⟩:=forR_inv I N xs (k + 1) s1 (by omega) (fun k x s hx=>h k x s (by simp [hx])) h2
  exact⟨s2,by simp only [forR,h1,Option.bind_some]; exact h3,h4⟩
theorem forL_inv {α σ ρ:Type} {body:Nat→α→σ→Option (Ctl σ ρ)} (I:Nat→σ→Prop) {xs:List α} {s:σ} (hl:xs.length≤1000000000000) (h:∀ k x s,x∈xs→k < xs.length→I k s → ∃ s',body k x s=some (.go s')∧I (k + 1) s') (h0:I 0 s):∃ s',forL xs s body=some (.go s')∧I xs.length s':=by
 obtain ⟨s',h1,h2⟩:=forR_inv I xs.length xs 0 s (by omega) h h0
 exact⟨s',by rw [forL_eq hl]; exact h1,h2⟩
theorem thenC_go {σ ρ τ:Type} (s:σ) (f:σ→Option τ) (g:ρ→Option τ):thenC (.go s) f g=f s:=rfl
theorem thenC_ret {σ ρ τ:Type} (r:ρ) (f:σ→Option τ) (g:ρ→Option τ):thenC (.ret r) f g=g r:=rfl
theorem idx_nat {α:Type} (xs:List α) (k:Nat):idx xs (k:Int)=xs[k]? := by simp [idx]
theorem w64_id {n:Int} (h : -9223372036854775808≤n∧n≤9223372036854775807):w64 n=n:=w64_in n h
theorem toL (s:ByteArray):s.toList=s.data.toList:=Go.Lib.toList_data s
theorem str_ext {a b:ByteArray} (h:a.toList=b.toList):a=b:=by
 rw [toL,toL]at h
 obtain ⟨⟨a⟩⟩:=a
 obtain ⟨⟨b⟩⟩:=b
 simp only at h
 rw [h]
theorem sEq_iff (a b:ByteArray):sEq a b=true↔a=b:=by
 simp only [sEq,beq_iff_eq]
 exact⟨str_ext,fun h=>by rw [h]⟩
theorem sEq_dec (a b:ByteArray):sEq a b=decide (a=b):=by
 rw [Bool.eq_iff_iff,sEq_iff]; simp
theorem sNe_dec (a b:ByteArray):sNe a b = !decide (a=b):=by
 have:=sEq_dec a b; simp only [sEq,sNe]at *; rw [this]
abbrev bl:=Op.bytesLess
theorem bl_lt:∀ (x y:List UInt8),bl x y=decide (x < y)
 | _,[]=>by simp [bl,Op.bytesLess]
 | [],_::_=>by simp [bl,Op.bytesLess]
 | a::x,b::y=>by
  have:=bl_lt x y
  simp only [bl,Op.bytesLess]at this ⊢
  rw [this,Bool.eq_iff_iff]
  simp only [Bool.or_eq_true,decide_eq_true_eq,Bool.and_eq_true,beq_iff_eq,List.cons_lt_cons_iff]
def lt (a b:ByteArray):Prop:=a.toList < b.toList
theorem sLt_iff (a b:ByteArray):sLt a b=true↔lt a b:=by
 show bl a.toList b.toList=true↔_
 rw [bl_lt]; simp [lt]
theorem lt_irr (a:ByteArray):¬ lt a a:=List.lt_irrefl a.toList
theorem lt_trans {a b c:ByteArray} (h:lt a b) (k:lt b c):lt a c:=List.lt_trans h k
theorem lt_tri (a b:ByteArray):lt a b∨a=b∨lt b a:=by
 rcases Classical.em (lt a b)with h | h
 ·exact .inl h
 ·rcases Classical.em (lt b a)with h2 | h2
  ·exact .inr (.inr h2)
  ·exact .inr (.inl (str_ext (List.le_antisymm (List.not_lt.1 h2) (List.not_lt.1 h))))
theorem sLe_iff (a b:ByteArray):sLe a b=true ↔ ¬ lt b a:=by
 have h1:=sLt_iff a b
 have h2:=sEq_iff a b
 simp only [sLe,Bool.or_eq_true]
 constructor
 ·rintro (h | h)
  ·exact fun k=>lt_irr _ (lt_trans (h1.1 h) k)
  ·rw [h2.1 h]; exact lt_irr _
 ·intro h
  rcases lt_tri a b with k | k | k
  ·exact .inl (h1.2 k)
  ·exact .inr (h2.2 k)
  ·exact absurd k h
theorem sLe_nil (a:ByteArray):sLe a ⟨#[]⟩=decide (a.size=0):=by
 rw [Bool.eq_iff_iff,sLe_iff,lt,toL,toL,Go.Lib.size_eq]
 cases a.data.toList <;> simp
theorem sNe_nil (a:ByteArray):sNe a ⟨#[]⟩=decide (a.size≠0):=by
 rw [sNe_dec,Go.Lib.size_eq,Bool.eq_iff_iff]
 simp only [Bool.not_eq_true',decide_eq_false_iff_not,decide_eq_true_eq,ne_eq]
 refine not_congr ⟨fun h=>by rw [h]; rfl,fun h => ?_⟩
 exact str_ext (by rw [toL,List.eq_nil_of_length_eq_zero h,toL])
end Go.Eng

open Go Go.Eng
namespace Go.Flow
set_option linter.unusedVariables false
set_option linter.unusedSimpArgs false
set_option linter.unusedSectionVars false
theorem for_at {α σ ρ:Type} {body:Nat→α→σ→Option (Ctl σ ρ)} (I:Nat→σ→Prop) (xs:List α):∀ (l:List α) (k:Nat) (s:σ),xs.drop k=l→k≤xs.length→(∀ k x s,xs[k]? = some x→I k s → ∃ s',body k x s=some (.go s')∧I (k + 1) s')→I k s → ∃ s',forR body l k s=some (.go s')∧I xs.length s'
 | [],k,s,hd,hk,h,hi=>by
  have:=List.drop_eq_nil_iff.1 hd
  obtain rfl:k=xs.length:=by omega
  exact⟨s,rfl,hi⟩
 | x::l,k,s,hd,hk,h,hi=>by
  obtain ⟨s1,h1,h2⟩:=h k x s (drop_get hd) hi
  obtain ⟨s2,h3,h4⟩:=for_at I xs l (k + 1) s1 (drop_next hd) (by have:=drop_lt hd; omega) h h2
  exact⟨s2,by rw [forR,h1,Option.bind_some]; exact h3,h4⟩
theorem forL_ix {α σ ρ:Type} {body:Nat→α→σ→Option (Ctl σ ρ)} (I:Nat→σ→Prop) {xs:List α} {s:σ} (hl:xs.length≤1000000000000) (h:∀ k x s,xs[k]? = some x→I k s → ∃ s',body k x s=some (.go s')∧I (k + 1) s') (h0:I 0 s):∃ s',forL xs s body=some (.go s')∧I xs.length s':=by
 rw [forL_eq hl]
 exact for_at I xs xs 0 s rfl (Nat.zero_le _) h h0
theorem forL_rng {σ ρ:Type} {body:Nat→Nat→σ→Option (Ctl σ ρ)} (I:Nat→σ→Prop) {n:Nat} {s:σ} (hl:n≤1000000000000) (h:∀ k s,k < n→I k s → ∃ s',body k k s=some (.go s')∧I (k + 1) s') (h0:I 0 s):∃ s',forL (List.range n) s body=some (.go s')∧I n s':=by
 have:=forL_ix (body:=body) I (xs:=List.range n) (s:=s) (by simpa using hl) (fun k x s hx hi=>by
  have hk:k < n:=by have:=(List.getElem?_eq_some_iff.1 hx).1; simpa using this
  rw [List.getElem?_range hk]at hx
  simp only [Option.some.injEq]at hx
  subst hx
  exact h k s hk hi) h0
 simpa using this
theorem loop_meas {σ ρ:Type} {body:σ→Option (Ctl σ ρ)} (I:σ→Prop) (m:σ→Nat) (P:σ→Prop)
  (h:∀ s,I s→(∃ s',body s=some (.go s')∧I s'∧m s' < m s) ∨ ∃ s',body s=some (.brk s')∧P s') {s:σ} (h0:I s):∃ s',loopO s body=some (.go s')∧P s':=by
 have key:∀ (n:Nat) (s:σ),m s≤n→I s → ∃ k s',iterN body (k + 1) s=some (.go s')∧P s':=by
  intro n
  induction n with
  | zero =>
   intro s hm hI
   rcases h s hI with⟨s',e,hI',hl⟩ | ⟨s',e,hp⟩
   ·omega
   ·exact⟨0,s',by simp only [iterN,e,Option.bind_some],hp⟩
  | succ n ih =>
   intro s hm hI
   rcases h s hI with⟨s',e,hI',hl⟩ | ⟨s',e,hp⟩
   ·obtain ⟨k,r,er,hr⟩:=ih s' (by omega) hI'
    exact⟨k + 1,r,by rw [iterN,e,Option.bind_some]; exact er,hr⟩
   ·exact⟨0,s',by simp only [iterN,e,Option.bind_some],hp⟩
 obtain ⟨k,o,e,hp⟩:=key (m s) s (Nat.le_refl _) h0
 exact⟨o,iter_loopO e,hp⟩
def at2 (rows:List (List Int)) (a b:Nat):Int:=(rows.getD a []).getD b 0
structure Sq (n:Nat) (rows:List (List Int)):Prop where
 len:rows.length=n
 row:∀ r∈rows,r.length=n
section
variable {n:Nat} {rows:List (List Int)}
theorem Sq.get (h:Sq n rows) {a:Nat} (ha:a < n):∃ r,rows[a]? = some r∧r.length=n ∧ ∀ b,b < n→r[b]? = some (at2 rows a b):=by
 have hl:a < rows.length:=by rw [h.len]; exact ha
 refine⟨rows[a],List.getElem?_eq_getElem hl,h.row _ (List.getElem_mem hl),fun b hb => ?_⟩
 have hb':b < rows[a].length:=by rw [h.row _ (List.getElem_mem hl)]; exact hb
 simp only [at2,List.getD_eq_getElem?_getD,List.getElem?_eq_getElem hl,Option.getD_some,List.getElem?_eq_getElem hb']
theorem Sq.set (h:Sq n rows) {a:Nat} {r:List Int} (hr:r.length=n):Sq n (rows.set a r) :=
 ⟨by rw [List.length_set]; exact h.len,fun r' hr'=>by
  rcases List.mem_or_eq_of_mem_set hr' with h1 | h1
  ·exact h.row r' h1
  ·rw [h1]; exact hr⟩
theorem at2_set {a b:Nat} {r:List Int} (hr:rows[a]? = some r) (hb:b < r.length) (x:Int) (i j:Nat):at2 (rows.set a (r.set b x)) i j=if i=a∧j=b then x else at2 rows i j:=by
 have hl:=(List.getElem?_eq_some_iff.1 hr).1
 unfold at2
 simp only [List.getD_eq_getElem?_getD]
 rw [List.getElem?_set]
 by_cases hi:a=i
 ·subst hi
  rw [if_pos rfl,if_pos hl,Option.getD_some,hr,Option.getD_some,List.getElem?_set]
  by_cases hj:b=j
  ·subst hj
   rw [if_pos rfl,if_pos hb,Option.getD_some,if_pos ⟨rfl,rfl⟩]
  ·rw [if_neg hj,if_neg (fun e=>hj e.2.symm)]
 ·rw [if_neg hi,if_neg (fun e=>hi e.1.symm)]
theorem Sq.wr (h:Sq n rows) {a b:Nat} (ha:a < n) (hb:b < n) (x:Int) {r:List Int} (hr:rows[a]? = some r):Sq n (rows.set a (r.set b x)) ∧ ∀ i j,at2 (rows.set a (r.set b x)) i j=if i=a∧j=b then x else at2 rows i j:=by
 have hl:r.length=n:=h.row r (List.mem_of_getElem? hr)
 exact⟨h.set (by rw [List.length_set]; exact hl),at2_set hr (by omega) x⟩
theorem Sq.ne (h:Sq n rows) (hn:0 < n):neR rows=some ():=by
 unfold neR
 rw [if_pos (List.all_eq_true.2 fun r hr=>by
  have:=h.row r hr
  cases r with
  | nil=>simp at this; omega
  | cons x r=>rfl)]
end
theorem inN_at {i:Nat} {n:Nat} (h:i < n):inN (i:Int) n=some ():=by
 unfold inN; rw [if_pos ⟨Int.natCast_nonneg _,by simpa using h⟩]
theorem inR_at {α:Type} {i:Nat} {xs:List α} (h:i < xs.length):inR (i:Int) xs=some ():=by
 unfold inR; rw [if_pos ⟨Int.natCast_nonneg _,by simpa using h⟩]
theorem lenE_at {α:Type} {xs:List α} {n:Nat} (h:xs.length=n):lenE xs n=some ():=by unfold lenE; rw [if_pos h]
theorem sameL_at {α β:Type} {xs:List α} {ys:List β} (h:xs.length=ys.length):sameL xs ys=some ():=by unfold sameL; rw [if_pos h]
theorem ltN_at {k n:Nat} (h:k < n):ltN k n=some ():=by unfold ltN; rw [if_pos h]
theorem leN_at {k n:Nat} (h:k≤n):leN k n=some ():=by unfold leN; rw [if_pos h]
theorem toN (i:Nat):(0 + ((i:Int)).toNat)=i:=by simp
end Go.Flow

open Go Go.Eng Go.Flow
namespace Go.Proofs.Ytipjpkpmkijdoab.Law
set_option linter.unusedVariables false
set_option linter.unusedSimpArgs false
set_option linter.unusedSectionVars false
def vis (bef:List Int) (i:Nat):Prop:=0≤bef.getD i (-1)
instance (bef:List Int) (i:Nat):Decidable (vis bef i):=inferInstanceAs (Decidable (0≤bef.getD i (-1)))
def unv (n:Nat) (bef:List Int):Int:=S n fun i=>if bef.getD i (-1) < 0 then 1 else 0
theorem unv_pos (n:Nat) (bef:List Int):0≤unv n bef:=S_nonneg (fun i _=>by split <;> omega)
structure Grown (n s:Nat) (rows:List (List Int)) (bef:List Int) (rk:Nat→Nat):Prop where
 len:bef.length=n
 root:bef.getD s (-1)=(s:Int)
 up:∀ i,i < n→vis bef i→i≠s → ∃ p,p < n∧bef.getD i (-1)=(p:Int)∧vis bef p∧rk p < rk i∧0 < at2 rows p i
 rk0:rk s=0
 rkz:∀ i,vis bef i→rk i=0→i=s
section
variable {n s:Nat} {rows:List (List Int)} {bef:List Int} {rk:Nat→Nat}
theorem vis_lt (h:bef.length=n) {i:Nat} (hv:vis bef i):i < n:=by
 by_cases hi:i < n
 ·exact hi
 ·unfold vis at hv
  rw [List.getD_eq_getElem?_getD,List.getElem?_eq_none (by omega)]at hv
  simp at hv
theorem set_getD2 (i j:Nat) (x:Int) (hi:i < bef.length):(bef.set i x).getD j (-1)=if j=i then x else bef.getD j (-1):=by
 simp only [List.getD_eq_getElem?_getD,List.getElem?_set]
 by_cases h:i=j
 ·subst h; simp [hi]
 ·rw [if_neg h,if_neg (fun e=>h e.symm)]
theorem Grown.add (h:Grown n s rows bef rk) {e i:Nat} (he:vis bef e) (hi:i < n) (hv:bef.getD i (-1) < 0) (hc:0 < at2 rows e i):Grown n s rows (bef.set i (e:Int)) (fun j=>if j=i then rk e + 1 else rk j):=by
 have hil:i < bef.length:=by rw [h.len]; exact hi
 have his:i≠s:=fun e'=>by rw [e',h.root]at hv; omega
 have key:∀ j,j≠i→(vis (bef.set i (e:Int)) j↔vis bef j):=fun j hj=>by unfold vis; rw [set_getD2 i j _ hil,if_neg hj]
 have hne:∀ {j},vis bef j→j≠i:=fun {j} hj e'=>by unfold vis at hj; rw [e']at hj; omega
 refine⟨by rw [List.length_set]; exact h.len,by rw [set_getD2 i s _ hil,if_neg (fun e'=>his e'.symm)]; exact h.root,fun j hj hvj hjs => ?_,?_,fun j hvj hz => ?_⟩
 ·by_cases hji:j=i
  ·subst hji
   refine⟨e,vis_lt h.len he,by rw [set_getD2 j j _ hil,if_pos rfl],(key e (hne he)).2 he,?_,hc⟩
   rw [if_pos rfl,if_neg (hne he)]; omega
  ·obtain ⟨p,p1,p2,p3,p4,p5⟩:=h.up j hj ((key j hji).1 hvj) hjs
   refine⟨p,p1,by rw [set_getD2 i j _ hil,if_neg hji]; exact p2,(key p (hne p3)).2 p3,?_,p5⟩
   rw [if_neg (hne p3),if_neg hji]; exact p4
 ·show (if s=i then rk e + 1 else rk s)=0
  rw [if_neg (fun e'=>his e'.symm)]; exact h.rk0
 ·by_cases hji:j=i
  ·subst hji; simp at hz
  ·have hz:(if j=i then rk e + 1 else rk j)=0:=hz
   rw [if_neg hji]at hz; exact h.rkz j ((key j hji).1 hvj) hz
theorem unv_add (hl:bef.length=n) {e i:Nat} (hi:i < n) (hv:bef.getD i (-1) < 0):unv n (bef.set i (e:Int))=unv n bef - 1:=by
 unfold unv
 rw [S_upd (f:=fun i=>if bef.getD i (-1) < 0 then 1 else 0) hi (fun j _ hj=>by
  show (if (bef.set i (e:Int)).getD j (-1) < 0 then (1:Int)else 0)=_
  rw [set_getD2 i j _ (by omega),if_neg hj])]
 show _ + ((if (bef.set i (e:Int)).getD i (-1) < 0 then (1:Int)else 0) - _)=_
 rw [set_getD2 i i _ (by omega),if_pos rfl,if_neg (by omega),if_pos hv]
 omega
end
def quL (s:List Int×List Int×Nat):List Int:=s.2.1.drop s.2.2
structure Inn (n src e:Nat) (rows:List (List Int)) (M:Int) (j:Nat) (s:List Int×List Int×Nat):Prop where
 gr:∃ rk,Grown n src rows s.1 rk
 le:s.2.2≤s.2.1.length
 qu:∃ rest:List Int,quL s=(e:Int)::rest∧(∀ x∈rest,∃ i:Nat,x=(i:Int)∧vis s.1 i)∧(∀ i,vis s.1 i→i=e∨(i:Int)∈rest ∨ ∀ b,b < n→0 < at2 rows i b→vis s.1 b)∧unv n s.1 + rest.length=M
 ve:vis s.1 e
 dn:∀ b,b < j→0 < at2 rows e b→vis s.1 b
theorem way_L2_step {n src e:Nat} {w:Web} {M:Int} (hq:Sq n w.f_can) (hM:M≤1000000) (he:e < n) {r:List Int} (hr:r.length=n) {j:Nat} (hj:j < n) {s:List Int×List Int×Nat} (h:Inn n src e w.f_can M j s) :
  ∃ s',booking_web_way_L2 r w (e:Int) j j s=some (.go s')∧Inn n src e w.f_can M (j + 1) s':=by
 obtain ⟨bef,q,k⟩:=s
 obtain ⟨⟨rk,g⟩,hle,⟨rest,q1,q2,q3,q4⟩,hve,hdn⟩:=h
 simp only at g hle q1 q2 q3 q4 hve hdn
 have q1:q.drop k=(e:Int)::rest:=q1
 obtain ⟨re,e1,e2,e3⟩:=hq.get he
 have hjb:j < bef.length:=by rw [g.len]; exact hj
 unfold booking_web_way_L2
 simp only [toN,inR_at (show j < r.length by omega),Option.bind_some,e1,e3 j hj]
 have hbj:bef[j]? = some (bef.getD j (-1)):=by rw [List.getD_eq_getElem?_getD,List.getElem?_eq_getElem hjb,Option.getD_some]
 have stay:(0 < at2 w.f_can e j→vis bef j)→Inn n src e w.f_can M (j + 1) (bef,q,k):=fun hv=>⟨⟨rk,g⟩,hle,⟨rest,q1,q2,q3,q4⟩,hve,fun b hb hc=>by
  by_cases hbj:b=j
  ·subst hbj; exact hv hc
  ·exact hdn b (by omega) hc⟩
 by_cases hc:at2 w.f_can e j > 0
 ·rw [decide_eq_true hc]
  simp only [cond_true,inR_at hjb,Option.bind_some,hbj]
  by_cases hv:bef.getD j (-1) < 0
  ·rw [decide_eq_true hv]
   have hk:q[k]? = some (e:Int):=drop_get q1
   have hkl:=drop_lt q1
   have hin:inN 0 (q.length - k)=some ():=by
    have:=inN_at (i:=0) (n:=q.length - k) (by omega)
    simpa using this
   have hkt:(k + (0:Int).toNat)=k:=by simp
   have hap:appL (q.drop k) [(j:Int)]=some (q.drop k ++ [(j:Int)]):=by
    unfold appL
    rw [if_pos]
    have h1:=unv_pos n bef
    have:(q.drop k).length=rest.length + 1:=by rw [q1]; rfl
    rw [this]
    simp only [List.length_cons,List.length_nil]
    omega
   simp only [cond_true,hin,Option.bind_some,hkt,hk,inR_at hjb,hbj,leN_at hle,hap]
   refine⟨_,rfl,⟨_,g.add hve hj hv hc⟩,Nat.zero_le _,⟨rest ++ [(j:Int)],?_,?_,?_,?_⟩,?_,?_⟩
   ·show List.drop 0 (q.drop k ++ [(j:Int)])=_
    rw [q1]; rfl
   ·intro x hx
    rcases List.mem_append.1 hx with hx | hx
    ·obtain ⟨i,i1,i2⟩:=q2 x hx
     refine⟨i,i1,?_⟩
     show 0≤(bef.set j (e:Int)).getD i (-1)
     rw [set_getD2 j i _ hjb]; split
     ·omega
     ·exact i2
    ·rw [List.mem_singleton]at hx
     refine⟨j,hx,?_⟩
     show 0≤(bef.set j (e:Int)).getD j (-1)
     rw [set_getD2 j j _ hjb,if_pos rfl]; omega
   ·intro i hi
    have hmono:∀ b,vis bef b→vis (bef.set j (e:Int)) b:=fun b hb=>by
     show 0≤(bef.set j (e:Int)).getD b (-1)
     rw [set_getD2 j b _ hjb]; split
     ·omega
     ·exact hb
    by_cases hij:i=j
    ·subst hij; exact .inr (.inl (List.mem_append_right _ (by simp)))
    ·have hi':vis bef i:=by
      have hi:0≤(bef.set j (e:Int)).getD i (-1):=hi
      rw [set_getD2 j i _ hjb,if_neg hij]at hi; exact hi
     rcases q3 i hi' with h | h | h
     ·exact .inl h
     ·exact .inr (.inl (List.mem_append_left _ h))
     ·exact .inr (.inr fun b hb hcb=>hmono b (h b hb hcb))
   ·show unv n (bef.set j (e:Int)) + ((rest ++ [(j:Int)]).length:Int)=M
    rw [unv_add g.len hj hv,List.length_append]
    simp only [List.length_cons,List.length_nil]
    omega
   ·show 0≤(bef.set j (e:Int)).getD e (-1)
    rw [set_getD2 j e _ hjb]; split
    ·omega
    ·exact hve
   ·intro b hb hcb
    show 0≤(bef.set j (e:Int)).getD b (-1)
    rw [set_getD2 j b _ hjb]
    by_cases hbj:b=j
    ·rw [if_pos hbj]; omega
    ·rw [if_neg hbj]; exact hdn b (by omega) hcb
  ·rw [decide_eq_false hv]
   simp only [cond_false,Option.bind_some]
   exact⟨_,rfl,stay (fun _=>by unfold vis; omega)⟩
 ·rw [decide_eq_false hc]
  simp only [cond_false,Option.bind_some]
  exact⟨_,rfl,stay (fun h=>absurd h hc)⟩
structure Out (n src:Nat) (rows:List (List Int)) (s:List Int×List Int×Nat):Prop where
 gr:∃ rk,Grown n src rows s.1 rk
 le:s.2.2≤s.2.1.length
 qv:∀ x∈quL s,∃ i:Nat,x=(i:Int)∧vis s.1 i
 cl:∀ i,vis s.1 i→(i:Int)∈quL s ∨ ∀ b,b < n→0 < at2 rows i b→vis s.1 b
 sum:unv n s.1 + (quL s).length≤n
structure WayIs (n s t:Nat) (rows:List (List Int)) (bef:List Int) (ok:Bool):Prop where
 len:bef.length=n
 okd:ok=decide (bef.getD t (-1)≥0)
 gr:∃ rk,Grown n s rows bef rk
 cut:ok=false → ∀ a b,vis bef a→b < n → ¬ vis bef b→at2 rows a b≤0
theorem way_L3_step {n src t:Nat} {w:Web} (hq:Sq n w.f_can) (hn:n≤1000000) (ht:t < n) {s:List Int×List Int×Nat} (h:Out n src w.f_can s) :
  (∃ s',booking_web_way_L3 (t:Int) w s=some (.go s')∧Out n src w.f_can s'∧(unv n s'.1 + (quL s').length).toNat < (unv n s.1 + (quL s).length).toNat) ∨
  ∃ s',booking_web_way_L3 (t:Int) w s=some (.brk s') ∧ ∃ rk,Grown n src w.f_can s'.1 rk∧(s'.1.getD t (-1) < 0 → ∀ i,vis s'.1 i → ∀ b,b < n→0 < at2 w.f_can i b→vis s'.1 b):=by
 obtain ⟨bef,q,k⟩:=s
 obtain ⟨⟨rk,g⟩,hle,hqv,hcl,hsum⟩:=h
 simp only at g hle hqv hcl hsum
 have htb:t < bef.length:=by rw [g.len]; exact ht
 have hbt:bef[t]? = some (bef.getD t (-1)):=by rw [List.getD_eq_getElem?_getD,List.getElem?_eq_getElem htb,Option.getD_some]
 have hqL:quL (bef,q,k)=q.drop k:=rfl
 rw [hqL]at hqv hcl hsum
 unfold booking_web_way_L3
 simp only
 cases hd:q.drop k with
 | nil =>
  have hlk:q.length - k=0:=by
   have:=congrArg List.length hd
   simpa using this
  right
  rw [hlk]
  simp only [show decide ((((0:Nat):Nat):Int) > 0)=false from rfl,cond_false,Option.bind_some]
  refine⟨_,rfl,rk,g,fun _ i hi => ?_⟩
  rcases hcl i hi with h | h
  ·rw [hd]at h; cases h
  ·exact h
 | cons x rest =>
  have hkl:=drop_lt hd
  have h1:decide (((q.length - k:Nat):Int) > 0)=true:=decide_eq_true (by omega)
  rw [h1]
  simp only [cond_true,inR_at htb,Option.bind_some,toN,hbt]
  by_cases hv:bef.getD t (-1) < 0
  ·left
   rw [decide_eq_true hv]
   simp only [cond_true]
   obtain ⟨e,rfl,hve⟩:=hqv x (by rw [hd]; simp)
   have he:=vis_lt g.len hve
   have hk:q[k]? = some (e:Int):=drop_get hd
   have hin:inN 0 (q.length - k)=some ():=by
    have:=inN_at (i:=0) (n:=q.length - k) (by omega)
    simpa using this
   have hkt:(k + (0:Int).toNat)=k:=by simp
   obtain ⟨re,e1,e2,e3⟩:=hq.get he
   simp only [hin,Option.bind_some,hkt,hk,inN_at (show e < w.f_can.length by rw [hq.len]; exact he),toN,e1]
   have hrn:((re.length:Int)).toNat=n:=by rw [e2]; simp
   rw [hrn]
   have h0:Inn n src e w.f_can (unv n bef + rest.length) 0 (bef,q,k):=⟨⟨rk,g⟩,hle,⟨rest,hd,fun x hx=>hqv x (by rw [hd]; simp [hx]),fun i hi=>by
    rcases hcl i hi with h | h
    ·rw [hd]at h
     rcases List.mem_cons.1 h with h | h
     ·exact .inl (by exact_mod_cast h)
     ·exact .inr (.inl h)
    ·exact .inr (.inr h),rfl⟩,hve,fun b hb=>absurd hb (Nat.not_lt_zero b)⟩
   have hM:unv n bef + (rest.length:Int)≤1000000:=by
    rw [hd]at hsum
    simp only [List.length_cons]at hsum
    omega
   obtain ⟨s',r1,r2⟩:=forL_rng (body:=fun k x s=>booking_web_way_L2 re w (e:Int) k x s) (Inn n src e w.f_can (unv n bef + rest.length)) (n:=n) (s:=(bef,q,k)) (by omega) (fun j s hj hi=>way_L2_step hq hM he e2 hj hi) h0
   obtain ⟨bef',q',k'⟩:=s'
   rw [r1,Option.bind_some]
   obtain ⟨⟨rk',g'⟩,le',⟨rest',p1,p2,p3,p4⟩,ve',dn'⟩:=r2
   simp only at g' le' p1 p2 p3 p4 ve' dn'
   have p1:q'.drop k'=(e:Int)::rest':=p1
   have hlt:=drop_lt p1
   simp only [thenC,ltN_at hlt,Option.bind_some]
   have hdr:q'.drop (k' + 1)=rest':=drop_next p1
   refine⟨_,rfl,⟨⟨rk',g'⟩,hlt,?_,?_,?_⟩,?_⟩
   ·show ∀ x∈q'.drop (k' + 1),_
    rw [hdr]; exact p2
   ·intro i hi
    show (i:Int)∈q'.drop (k' + 1)∨_
    rw [hdr]
    rcases p3 i hi with h | h | h
    ·subst h; exact .inr (fun b hb hc=>dn' b hb hc)
    ·exact .inl h
    ·exact .inr h
   ·show unv n bef' + ((q'.drop (k' + 1)).length:Int)≤n
    rw [hdr]
    rw [hd]at hsum
    simp only [List.length_cons]at hsum
    omega
   ·show (unv n bef' + ((q'.drop (k' + 1)).length:Int)).toNat < (unv n bef + ((q.drop k).length:Int)).toNat
    rw [hdr,hd]
    simp only [List.length_cons]
    have:=unv_pos n bef
    omega
  ·right
   rw [decide_eq_false hv]
   simp only [cond_false]
   exact⟨_,rfl,rk,g,fun h=>absurd h hv⟩
theorem way_ok {n s t:Nat} {w:Web} (hq:Sq n w.f_can) (hn:n≤1000000) (hs:s < n) (ht:t < n):∃ bef ok,booking_web_way w (s:Int) (t:Int)=some (bef,ok)∧WayIs n s t w.f_can bef ok:=by
 unfold booking_web_way
 have hmk:mkN ((w.f_can.length:Nat):Int) 8=some n:=by
  unfold mkN
  rw [hq.len,if_pos ⟨by omega,by omega,by omega⟩]; simp
 rw [hmk,Option.bind_some]
 have hlen:(((List.replicate n (0:Int)).length:Int)).toNat=n:=by simp
 rw [hlen]
 obtain ⟨l,h1,h2,h3⟩:=forL_rng (body:=fun k x s=>booking_web_way_L1 k x s) (fun j l=>l.length=n ∧ ∀ i,i < j→l[i]? = some (-1)) (n:=n) (s:=List.replicate n (0:Int)) (by omega) (fun j l hj hi=>by
  obtain ⟨i1,i2⟩:=hi
  unfold booking_web_way_L1
  simp only [toN,inR_at (show j < l.length by omega),Option.bind_some,List.getElem?_eq_getElem (show j < l.length by omega)]
  refine⟨_,rfl,by rw [List.length_set]; exact i1,fun i hi => ?_⟩
  rw [List.getElem?_set]
  by_cases e:j=i
  ·rw [if_pos e,if_pos (by omega)]
  ·rw [if_neg e]; exact i2 i (by omega)) ⟨by simp,fun i hi=>absurd hi (Nat.not_lt_zero i)⟩
 rw [h1,Option.bind_some]
 have hl:l=List.replicate n (-1):=List.ext_getElem? (fun i=>by
  rw [List.getElem?_replicate]
  by_cases hi:i < n
  ·rw [if_pos hi]; exact h3 i hi
  ·rw [if_neg hi]; exact List.getElem?_eq_none (by omega))
 subst hl
 have hsl:s < (List.replicate n (-1:Int)).length:=by simpa using hs
 simp only [thenC,toN,inR_at hsl,Option.bind_some,List.getElem?_eq_getElem hsl]
 have hget:∀ i,((List.replicate n (-1:Int)).set s (s:Int)).getD i (-1)=if i=s then (s:Int)else -1:=fun i=>by
  rw [set_getD2 s i _ hsl]
  by_cases h:i=s
  ·rw [if_pos h,if_pos h]
  ·rw [if_neg h,if_neg h,List.getD_eq_getElem?_getD,List.getElem?_replicate]
   by_cases h:i < n
   ·rw [if_pos h]; rfl
   ·rw [if_neg h]; rfl
 have hvis:∀ i,vis ((List.replicate n (-1:Int)).set s (s:Int)) i↔i=s:=fun i=>by
  unfold vis
  rw [hget i]
  split
  ·rename_i h; exact⟨fun _=>h,fun _=>by omega⟩
  ·rename_i h; exact⟨fun h'=>by omega,fun h'=>absurd h' h⟩
 have hout:Out n s w.f_can ((List.replicate n (-1:Int)).set s (s:Int),[(s:Int)],0):=by
  refine⟨⟨fun _=>0,by simp,by rw [hget,if_pos rfl],fun i _ hv hne=>absurd ((hvis i).1 hv) hne,rfl,fun i hv _=>(hvis i).1 hv⟩,Nat.zero_le _,?_,?_,?_⟩
  ·intro x hx
   have hx:x ∈ [(s:Int)]:=hx
   rw [List.mem_singleton]at hx
   exact⟨s,hx,(hvis s).2 rfl⟩
  ·intro i hi
   rw [(hvis i).1 hi]
   exact .inl (by show (s:Int) ∈ [(s:Int)]; simp)
  ·show unv n ((List.replicate n (-1:Int)).set s (s:Int)) + ([(s:Int)].length:Int)≤n
   have e:unv n ((List.replicate n (-1:Int)).set s (s:Int))=(n:Int) - 1:=by
    unfold unv
    have h0:S n (fun _=>(1:Int))=n:=by
     have:∀ m:Nat,S m (fun _=>(1:Int))=m:=fun m=>by
      induction m with
      | zero=>rfl
      | succ m ih=>show S m _ + 1=_; rw [ih]; omega
     exact this n
    rw [S_upd (f:=fun _=>(1:Int)) hs (fun j _ hj=>by
     show (if ((List.replicate n (-1:Int)).set s (s:Int)).getD j (-1) < 0 then (1:Int)else 0)=1
     rw [hget,if_neg hj,if_pos (by omega)]),h0]
    show (n:Int) + ((if ((List.replicate n (-1:Int)).set s (s:Int)).getD s (-1) < 0 then (1:Int)else 0) - 1)=_
    rw [hget,if_pos rfl,if_neg (by omega)]; omega
   rw [e]
   simp only [List.length_cons,List.length_nil]; omega
 obtain ⟨s',r1,rk,r2,r3⟩:=loop_meas (body:=fun s=>booking_web_way_L3 (t:Int) w s) (Out n s w.f_can) (fun s=>(unv n s.1 + (quL s).length).toNat) (fun s' => ∃ rk,Grown n s w.f_can s'.1 rk∧(s'.1.getD t (-1) < 0 → ∀ i,vis s'.1 i → ∀ b,b < n→0 < at2 w.f_can i b→vis s'.1 b)) (fun s h=>way_L3_step hq hn ht h) hout
 rw [r1,Option.bind_some]
 have htl:t < s'.1.length:=by rw [r2.len]; exact ht
 have hbt:s'.1[t]? = some (s'.1.getD t (-1)):=by rw [List.getD_eq_getElem?_getD,List.getElem?_eq_getElem htl,Option.getD_some]
 simp only [thenC,inR_at htl,Option.bind_some,toN,hbt]
 refine⟨_,_,rfl,r2.len,rfl,⟨rk,r2⟩,fun ho a b ha hb hnb => ?_⟩
 have h1:s'.1.getD t (-1) < 0:=by have:=of_decide_eq_false ho; omega
 by_cases hc:0 < at2 w.f_can a b
 ·exact absurd (r3 h1 a ha b hb hc) hnb
 ·omega
end Go.Proofs.Ytipjpkpmkijdoab.Law

open Go Go.Eng Go.Flow
namespace Go.Proofs.Ytipjpkpmkijdoab.Law
set_option linter.unusedVariables false
set_option linter.unusedSimpArgs false
set_option linter.unusedSectionVars false
def befF (bef:List Int) (i:Nat):Nat:=(bef.getD i 0).toNat
theorem getD_01 {l:List Int} {i:Nat} (h:i < l.length) (a b:Int):l.getD i a=l.getD i b:=by
 rw [List.getD_eq_getElem?_getD,List.getD_eq_getElem?_getD,List.getElem?_eq_getElem h]; rfl
section
variable {n s:Nat} {rows:List (List Int)} {bef:List Int} {rk:Nat→Nat}
theorem Grown.tree (h:Grown n s rows bef rk):Tree n s (vis bef) (befF bef) rk∧(∀ i,vis bef i→i≠s→0 < at2 rows (befF bef i) i) ∧ ∀ i,vis bef i→i≠s→bef[i]? = some ((befF bef i:Nat):Int):=by
 have key:∀ i,vis bef i→i≠s → ∃ p,p < n∧befF bef i=p∧bef[i]? = some (p:Int)∧vis bef p∧rk p < rk i∧0 < at2 rows p i:=fun i hi hs=>by
  have hin:=vis_lt h.len hi
  obtain ⟨p,p1,p2,p3,p4,p5⟩:=h.up i hin hi hs
  have hl:i < bef.length:=by rw [h.len]; exact hin
  refine⟨p,p1,?_,?_,p3,p4,p5⟩
  ·unfold befF; rw [getD_01 hl 0 (-1),p2]; simp
  ·rw [List.getD_eq_getElem?_getD,List.getElem?_eq_getElem hl,Option.getD_some]at p2
   rw [List.getElem?_eq_getElem hl,p2]
 refine⟨⟨fun i hi=>vis_lt h.len hi,fun i hi hs => ?_⟩,fun i hi hs => ?_,fun i hi hs => ?_⟩
 ·obtain ⟨p,_,e,_,p3,p4,_⟩:=key i hi hs
  rw [e]; exact⟨p3,p4⟩
 ·obtain ⟨p,_,e,_,_,_,p5⟩:=key i hi hs
  rw [e]; exact p5
 ·obtain ⟨p,_,e,p2,_,_,_⟩:=key i hi hs
  rw [e]; exact p2
end
theorem minI_eq (a b:Int):minI a b=min a b:=by unfold minI; split <;> omega
theorem idx_at2 {l:List Int} {i:Nat} {x:Int} (h:l[i]? = some x):idx l (i:Int)=some x:=by rw [idx_nat,h]
section
variable {n s:Nat} {w:Web} {bef:List Int} {ok:Bool} {rk:Nat→Nat} {rows:List (List Int)} {sum:Int}
theorem L1_run (hw:w.f_can.length=n) (hq:Sq n rows) (g:Grown n s rows bef rk):∀ (f i:Nat) (k:Int),vis bef i→rk i≤f → ∃ m,iterN (fun x=>booking_web_flow_L1 (s:Int) (bef,ok) w (rows,sum) x) (m + 1) (k,(i:Int))=some (.go (least s (befF bef) (at2 rows) f i k,(s:Int)))
 | f,i,k,hi,hr=>by
  obtain ⟨T,tp,tb⟩:=g.tree
  by_cases his:i=s
  ·subst his
   refine⟨0,?_⟩
   have e:least i (befF bef) (at2 rows) f i k=k:=by cases f <;> simp [least]
   rw [e]
   simp only [iterN,booking_web_flow_L1,bne_self_eq_false,cond_false,Option.bind_some]
  ·cases f with
   | zero=>exact absurd (g.rkz i hi (by omega)) his
   | succ f =>
    obtain ⟨hu,hlt⟩:=T.up i hi his
    have hin:=T.lt i hi
    have hbn:=T.lt _ hu
    obtain ⟨m,hm⟩:=L1_run hw hq g f (befF bef i) (min k (at2 rows (befF bef i) i)) hu (by omega)
    refine⟨m + 1,?_⟩
    have hne:((i:Int) != (s:Int))=true:=by simp; omega
    obtain ⟨r,r1,r2,r3⟩:=hq.get hbn
    have hb:=idx_at2 (tb i hi his)
    rw [iterN]
    have e:booking_web_flow_L1 (s:Int) (bef,ok) w (rows,sum) (k,(i:Int))=some (.go (min k (at2 rows (befF bef i) i),((befF bef i:Nat):Int))):=by
     unfold booking_web_flow_L1
     simp only [hne,cond_true,hb,Option.bind_some,inN_at (show befF bef i < w.f_can.length by omega),toN,r1,inR_at (show i < r.length by omega),r3 i hin,minI_eq]
    rw [e,Option.bind_some]
    show iterN _ (m + 1) _=_
    rw [hm,least,if_neg his]
theorem L2_run {c0:Nat→Nat→Int} {T0:List (List Int)} (hw:w.f_can.length=n) (g:Grown n s T0 bef rk) {k x:Int} (hk:0≤k∧k≤1000000000000) (hc0:∀ a b,a < n→b < n→c0 a b + c0 b a≤1000000000000):∀ (f i:Nat) (rows:List (List Int)),vis bef i→rk i≤f→Sq n rows→Go.Flow.Bears s (befF bef) (at2 rows) k f i →
  (∀ a b,a < n→b < n→0≤at2 rows a b)→(∀ a b,a < n→b < n→c0 a b - at2 rows a b = - (c0 b a - at2 rows b a)) →
  ∃ m rows',iterN (fun y=>booking_web_flow_L2 (s:Int) (bef,ok) w (k,x) y) (m + 1) (rows,(i:Int))=some (.go (rows',(s:Int)))∧Sq n rows' ∧ ∀ a b,a < n→b < n→at2 rows' a b=aug s (befF bef) k f i (at2 rows) a b
 | f,i,rows,hi,hr,hq,hb,hp,ha=>by
  obtain ⟨T,tp,tb⟩:=g.tree
  by_cases his:i=s
  ·subst his
   refine⟨0,rows,?_,hq,fun a b _ _=>by cases f <;> simp [aug]⟩
   simp only [iterN,booking_web_flow_L2,bne_self_eq_false,cond_false,Option.bind_some]
  ·cases f with
   | zero=>exact absurd (g.rkz i hi (by omega)) his
   | succ f =>
    obtain ⟨hu,hlt⟩:=T.up i hi his
    have hin:=T.lt i hi
    have hbn:=T.lt _ hu
    have hpne:befF bef i≠i:=fun e=>by rw [e]at hlt; exact Nat.lt_irrefl _ hlt
    have hbe:=hb.resolve_left his
    have hbx:=idx_at2 (tb i hi his)
    generalize hpd:befF bef i=p at *
    obtain ⟨r,r1,r2,r3⟩:=hq.get hbn
    have c1:=hp p i hbn hin
    have c2:=hp i p hin hbn
    have c3:=ha p i hbn hin
    have c4:=hc0 p i hbn hin
    have w1:w64 (at2 rows p i - k)=at2 rows p i - k:=w64_id (by omega)
    obtain ⟨hq1,hat1⟩:=hq.wr hbn hin (at2 rows p i - k) r1
    obtain ⟨r',r1',r2',r3'⟩:=hq1.get hin
    have e1:at2 (rows.set p (r.set i (at2 rows p i - k))) i p=at2 rows i p:=by rw [hat1,if_neg (fun e=>hpne e.1.symm)]
    have w2:w64 (at2 rows i p + k)=at2 rows i p + k:=w64_id (by omega)
    obtain ⟨hq2,hat2⟩:=hq1.wr hin hbn (at2 rows i p + k) r1'
    have hpush:∀ a b,at2 ((rows.set p (r.set i (at2 rows p i - k))).set i (r'.set p (at2 rows i p + k))) a b=push (at2 rows) p i k a b:=fun a b=>by
     rw [hat2,hat1]
     unfold push
     by_cases h1:a=p∧b=i
     ·obtain ⟨rfl,rfl⟩:=h1
      rw [if_neg (fun e=>hpne e.1),if_pos ⟨rfl,rfl⟩,if_pos ⟨rfl,rfl⟩]
     ·rw [if_neg h1,if_neg h1]
      by_cases h2:a=i∧b=p
      ·obtain ⟨rfl,rfl⟩:=h2
       simp only [and_self,if_true]
      ·rw [if_neg h2,if_neg h2]
    have hfun:at2 ((rows.set p (r.set i (at2 rows p i - k))).set i (r'.set p (at2 rows i p + k)))=push (at2 rows) p i k:=by funext a b; exact hpush a b
    have hb':Go.Flow.Bears s (befF bef) (push (at2 rows) p i k) k f p:=by
     have:=Bears.push T hk.1 (c:=at2 rows) (k:=k) (l:=k) (j:=i) (f:=f) (i:=p) hu hlt hbe.2
     rw [hpd]at this; exact this
    obtain ⟨m,rows',m1,m2,m3⟩:=L2_run hw g hk hc0 f p _ hu (by omega) hq2 (by rw [hfun]; exact hb') (fun a b hla hlb=>by
     rw [hpush]
     by_cases h1:a=p∧b=i
     ·obtain ⟨rfl,rfl⟩:=h1
      rw [push_to]; have:=hbe.1; omega
     ·exact Int.le_trans (hp a b hla hlb) (push_ge hk.1 h1)) (fun a b hla hlb=>by rw [hpush,hpush]; exact push_anti hpne ha a b hla hlb)
    refine⟨m + 1,rows',?_,m2,fun a b hla hlb => ?_⟩
    ·have hne:((i:Int) != (s:Int))=true:=by simp; omega
     rw [iterN]
     have e:booking_web_flow_L2 (s:Int) (bef,ok) w (k,x) (rows,(i:Int))=some (.go ((rows.set p (r.set i (at2 rows p i - k))).set i (r'.set p (at2 rows i p + k)),((p:Nat):Int))):=by
      unfold booking_web_flow_L2
      simp only [hne,cond_true,hbx,Option.bind_some,inN_at (show p < w.f_can.length by omega),toN,r1,inR_at (show i < r.length by omega),r3 i hin,w1,inN_at (show i < w.f_can.length by omega),r1',inR_at (show p < r'.length by omega),r3' p hbn,e1,w2]
     rw [e,Option.bind_some]
     show iterN _ (m + 1) _=_
     rw [m1]
    ·rw [m3 a b hla hlb,hfun,aug,if_neg his,hpd]
end
structure Flo (n s t:Nat) (c0:Nat→Nat→Int) (most:Int) (x:List (List Int)×Int):Prop where
 sq:Sq n x.1
 fl:Flows n s t c0 (at2 x.1) x.2
 nn:0≤x.2
 le:x.2≤most
theorem L3_step {n s t:Nat} {w:Web} {c0:Nat→Nat→Int} {most:Int} (hw:w.f_can.length=n) (hn:n≤1000000) (hs:s < n) (ht:t < n) (hst:s≠t) (hc0:∀ a b,a < n→b < n→c0 a b + c0 b a≤1000000000000) (hm:most≤1000000000000)
  {x:List (List Int)×Int} (h:Flo n s t c0 most x) :
  (∃ x',booking_web_flow_L3 most w (s:Int) (t:Int) x=some (.go x')∧Flo n s t c0 most x'∧(most - x'.2).toNat < (most - x.2).toNat) ∨
  ∃ x',booking_web_flow_L3 most w (s:Int) (t:Int) x=some (.brk x')∧Flo n s t c0 most x'∧(x'.2 < most → ∃ R:Nat→Bool,R s=true∧R t=false ∧ ∀ a b,a < n→b < n→R a=true→R b=false→at2 x'.1 a b=0):=by
 obtain ⟨rows,sum⟩:=x
 have h':=h
 obtain ⟨hq,hf,h0,hl⟩:=h
 simp only at hq hf h0 hl
 unfold booking_web_flow_L3
 by_cases hlt:sum < most
 ·rw [decide_eq_true hlt]
  obtain ⟨bef,ok,e1,⟨w1,w2,⟨rk,g⟩,w4⟩⟩:=way_ok (w:=⟨rows,w.f_camps⟩) hq hn hs ht
  have g:Grown n s rows bef rk:=g
  simp only [cond_true,hq.ne (by omega),Option.bind_some,lenE_at (show rows.length=w.f_can.length by rw [hw]; exact hq.len),e1]
  cases ok with
  | false =>
   right
   simp only [Bool.not_false,cond_true]
   refine⟨_,rfl,h',fun _=>⟨fun i=>decide (vis bef i),?_,?_,fun a b ha hb hra hrb => ?_⟩⟩
   ·refine decide_eq_true ?_
    unfold vis; rw [g.root]; omega
   ·refine decide_eq_false ?_
    have:=of_decide_eq_false w2.symm
    unfold vis; omega
   ·have:=w4 rfl a b (of_decide_eq_true hra) hb (of_decide_eq_false hrb)
    have:=hf.pos a b ha hb
    show at2 rows a b=0
    have e:at2 rows a b≤0:=w4 rfl a b (of_decide_eq_true hra) hb (of_decide_eq_false hrb)
    omega
  | true =>
   left
   simp only [Bool.not_true,cond_false]
   have hvt:vis bef t:=of_decide_eq_true w2.symm
   obtain ⟨T,tp,tb⟩:=g.tree
   have hwd:w64 (most - sum)=most - sum:=w64_id (by omega)
   obtain ⟨m1,r1⟩:=L1_run (ok:=true) (sum:=sum) hw hq g (rk t) t (most - sum) hvt (Nat.le_refl _)
   have hk1:=least_le (s:=s) (bef:=befF bef) (at2 rows) (rk t) t (most - sum)
   have hk0:=least_pos T tp (rk t) t (most - sum) hvt (by omega)
   have hkb:=least_bears (s:=s) (bef:=befF bef) (at2 rows) (rk t) t (most - sum)
   generalize hK:least s (befF bef) (at2 rows) (rk t) t (most - sum)=K at *
   rw [hwd,iter_loopO r1,Option.bind_some]
   obtain ⟨m2,rows',r2,q2,a2⟩:=L2_run (w:=w) (bef:=bef) (ok:=true) (k:=K) (x:=(s:Int)) hw g ⟨by omega,by omega⟩ hc0 (rk t) t rows hvt (Nat.le_refl _) hq hkb hf.pos hf.anti
   simp only [thenC]
   rw [iter_loopO r2,Option.bind_some]
   have hws:w64 (sum + K)=sum + K:=w64_id (by omega)
   simp only [thenC,hws]
   have hfl:=Flows.aug T hf hst hvt (show 0≤K by omega) (Nat.le_refl _) hkb g.rk0 g.rkz
   refine⟨_,rfl,⟨q2,⟨fun a b ha hb => ?_,fun a b ha hb => ?_,fun y hy h1 h2 => ?_,?_⟩,?_,?_⟩,?_⟩
   ·show 0≤at2 rows' a b
    rw [a2 a b ha hb]; exact hfl.pos a b ha hb
   ·show c0 a b - at2 rows' a b = - (c0 b a - at2 rows' b a)
    rw [a2 a b ha hb,a2 b a hb ha]; exact hfl.anti a b ha hb
   ·rw [← hfl.cons y hy h1 h2]
    exact S_congr (fun b hb=>by show c0 y b - at2 rows' y b=_; rw [a2 y b hy hb])
   ·show S n (fun b=>c0 s b - at2 rows' s b)=sum + K
    rw [← hfl.val]
    exact S_congr (fun b hb=>by rw [a2 s b hs hb])
   ·show 0≤sum + K; omega
   ·show sum + K≤most; omega
   ·show (most - (sum + K)).toNat < (most - sum).toNat; omega
 ·right
  rw [decide_eq_false hlt]
  simp only [cond_false]
  exact⟨_,rfl,h',fun h=>absurd h hlt⟩
theorem flow_ok {n s t:Nat} {w:Web} {most:Int} (hq:Sq n w.f_can) (hn:n≤1000000) (hs:s < n) (ht:t < n) (hst:s≠t) (hp:∀ a b,a < n→b < n→0≤at2 w.f_can a b) (hc:∀ a b,a < n→b < n→at2 w.f_can a b + at2 w.f_can b a≤1000000000000) (h0:0≤most) (hm:most≤1000000000000) :
  ∃ v rows',booking_web_flow w (s:Int) (t:Int) most=some (v,⟨rows',w.f_camps⟩)∧Sq n rows'∧Flows n s t (at2 w.f_can) (at2 rows') v∧0≤v∧v≤most ∧
   (v < most → ∃ R:Nat→Bool,R s=true∧R t=false ∧ ∀ a b,a < n→b < n→R a=true→R b=false→at2 rows' a b=0):=by
 have hi:Flo n s t (at2 w.f_can) most (w.f_can,0):=⟨hq,Flows.zero hp,Int.le_refl _,h0⟩
 obtain ⟨x',r1,r2,r3⟩:=loop_meas (body:=fun x=>booking_web_flow_L3 most w (s:Int) (t:Int) x) (Flo n s t (at2 w.f_can) most) (fun x=>(most - x.2).toNat) (fun x'=>Flo n s t (at2 w.f_can) most x'∧(x'.2 < most → ∃ R:Nat→Bool,R s=true∧R t=false ∧ ∀ a b,a < n→b < n→R a=true→R b=false→at2 x'.1 a b=0)) (fun x h=>L3_step hq.len hn hs ht hst hc hm h) hi
 unfold booking_web_flow
 rw [r1,Option.bind_some]
 simp only [thenC,sameL_at (show x'.1.length=w.f_can.length by rw [r2.sq.len,hq.len]),Option.bind_some]
 exact⟨_,_,rfl,r2.sq,r2.fl,r2.nn,r2.le,r3⟩
end Go.Proofs.Ytipjpkpmkijdoab.Law

open Go Go.Eng
namespace Go.Proofs.Ytipjpkpmkijdoab.Law
set_option linter.unusedVariables false
set_option linter.unusedSimpArgs false
def Ok (s:Stream) (b:Int):Prop:=0≤s.f_at∧s.f_at≤b
theorem Ok.mono {s:Stream} {b c:Int} (h:Ok s b) (hc:b≤c):Ok s c:=⟨h.1,Int.le_trans h.2 hc⟩
theorem below_ok (x n:Int) (h:1≤n) (hn:n≤4611686018427387904):∃ r,mk_Below x n=some r∧0≤r∧r < n:=by
 have h1:x.tmod n < n:=Int.tmod_lt_of_pos x (by omega)
 have h2 : -n < x.tmod n:=Int.lt_tmod_of_pos x (by omega)
 have hb:decide (n < 1)=false:=by simp; omega
 have hn0:n≠0:=by omega
 simp only [mk_Below,hb,cond_false,remO,if_neg hn0,Option.bind_some]
 cases hd:decide (x.tmod n < 0)with
 | true =>
  simp only [decide_eq_true_eq]at hd
  exact⟨_,rfl,by rw [w64_id (by omega)]; omega,by rw [w64_id (by omega)]; omega⟩
 | false =>
  simp only [decide_eq_false_iff_not]at hd
  exact⟨_,rfl,by omega,h1⟩
theorem next_ok (s:Stream) (n:Int) {b:Int} (hs:Ok s b) (hb:b≤1000000) (h:1≤n) (hn:n≤4611686018427387904):∃ r s',mk_Stream_Next s n=some (r,s')∧0≤r∧r < n∧Ok s' (b + 1):=by
 obtain ⟨h0,h1⟩:=hs
 have e1:w64 (s.f_at + 1)=s.f_at + 1:=w64_id (by omega)
 have e2:w64 (s.f_at + 1 - 1)=s.f_at:=by rw [w64_id (by omega)]; omega
 simp only [mk_Stream_Next,e1,e2]
 by_cases hl:s.L.length=0
 ·have:((s.L.length:Int) == 0)=true:=by simp [hl]
  simp only [this,cond_true]
  obtain ⟨r,hr,h2,h3⟩:=below_ok (w64 ((s.f_at + 1) * 7919)) n h hn
  exact⟨r,_,by rw [hr]; rfl,h2,h3,⟨by show 0≤s.f_at + 1; omega,by show s.f_at + 1≤b + 1; omega⟩⟩
 ·have hne:(s.L.length:Int)≠0:=by omega
  have:((s.L.length:Int) == 0)=false:=by simpa using hl
  simp only [this,cond_false,remO,quoO,if_neg hne,Option.bind_some]
  have h2:0≤s.f_at.tmod s.L.length:=Int.tmod_nonneg _ h0
  have hp:(0:Int) < (s.L.length:Int):=by have:=Nat.pos_of_ne_zero hl; omega
  have h3:s.f_at.tmod s.L.length < s.L.length:=Int.tmod_lt_of_pos _ hp
  have hi:idx s.L (s.f_at.tmod s.L.length)=some s.L[(s.f_at.tmod s.L.length).toNat]:=by
   simp only [idx,if_pos h2]
   exact List.getElem?_eq_getElem (by omega)
  obtain ⟨r1,hr1,_,_⟩:=below_ok s.L[(s.f_at.tmod s.L.length).toNat] 1073741824 (by decide) (by decide)
  simp only [hi,hr1,Option.bind_some]
  generalize w64 (r1 + _)=y
  obtain ⟨r,hr,h4,h5⟩:=below_ok y n h hn
  exact⟨r,_,by rw [hr]; rfl,h4,h5,⟨by show 0≤s.f_at + 1; omega,by show s.f_at + 1≤b + 1; omega⟩⟩
theorem flip_ok (s:Stream) (n:Int) {b:Int} (hs:Ok s b) (hb:b≤1000000) (h:1≤n) (hn:n≤1000):∃ r s',mk_Stream_Flip s n=some (r,s')∧Ok s' (b + 1):=by
 obtain ⟨r,s',h1,_,_,h2⟩:=next_ok s n hs hb h (by omega)
 exact⟨r == 0,s',by simp only [mk_Stream_Flip,h1,Option.bind_some],h2⟩
theorem idx_mem {α:Type} {l:List α} {r:Int} (h0:0≤r) (h1:r < l.length):∃ y,idx l r=some y∧y∈l:=by
 refine⟨l[r.toNat]'(by omega),?_,List.getElem_mem _⟩
 simp only [idx,if_pos h0]
 exact List.getElem?_eq_getElem (by omega)
theorem pick_ok (s:Stream) (l:List Int) {b:Int} (hs:Ok s b) (hb:b≤1000000) (h:1≤l.length) (hn:l.length≤1000):∃ r s',mk_Stream_Pick s l=some (r,s')∧r∈l∧Ok s' (b + 1):=by
 obtain ⟨r,s',h1,h2,h3,h4⟩:=next_ok s l.length hs hb (by omega) (by omega)
 obtain ⟨y,hy,hm⟩:=idx_mem h2 h3
 exact⟨y,s',by simp only [mk_Stream_Pick,h1,hy,Option.bind_some],hm,h4⟩
theorem some_ok (s:Stream) (l:List ByteArray) {b:Int} (hs:Ok s b) (hb:b≤1000000) (h:1≤l.length) (hn:l.length≤1000):∃ r s',mk_Stream_Some s l=some (r,s')∧r∈l∧Ok s' (b + 1):=by
 obtain ⟨r,s',h1,h2,h3,h4⟩:=next_ok s l.length hs hb (by omega) (by omega)
 obtain ⟨y,hy,hm⟩:=idx_mem h2 h3
 exact⟨y,s',by simp only [mk_Stream_Some,h1,hy,Option.bind_some],hm,h4⟩
theorem range_ok (s:Stream) (lo hi:Int) {b:Int} (hs:Ok s b) (hb:b≤1000000) (h:lo≤hi) (h1 : -1000000000000≤lo) (h2:hi≤1000000000000):∃ r s',mk_Stream_Range s lo hi=some (r,s')∧lo≤r∧r≤hi∧Ok s' (b + 1):=by
 have hd:decide (hi < lo)=false:=by simp; omega
 have e1:w64 (hi - lo)=hi - lo:=w64_id (by omega)
 have e2:w64 (hi - lo + 1)=hi - lo + 1:=w64_id (by omega)
 obtain ⟨r,s',k1,k2,k3,k4⟩:=next_ok s (hi - lo + 1) hs hb (by omega) (by omega)
 simp only [mk_Stream_Range,hd,cond_false,e1,e2,k1,Option.bind_some]
 exact⟨_,s',rfl,by rw [w64_id (by omega)]; omega,by rw [w64_id (by omega)]; omega,k4⟩
theorem odd_ok (s:Stream) (lo hi:Int) {b:Int} (hs:Ok s b) (hb:b≤900000) (h:lo≤hi) (h1 : -1000000000000≤lo) (h2:hi≤1000000000000):∃ r s',mk_Stream_Odd s lo hi=some (r,s')∧Ok s' (b + 2):=by
 obtain ⟨c,s1,k1,k2⟩:=flip_ok s 12 hs (by omega) (by decide) (by decide)
 simp only [mk_Stream_Odd,k1,Option.bind_some]
 cases c with
 | true =>
  obtain ⟨r,s2,m1,_,m2⟩:=pick_ok s1 [(w64 (lo - 1)),(w64 (hi + 1)),lo,hi,(-1099511627776),1099511627776] k2 (by omega) (by simp) (by simp)
  simp only [cond_true,m1,Option.bind_some]
  exact⟨_,_,rfl,m2.mono (by omega)⟩
 | false =>
  obtain ⟨r,s2,m1,_,_,m2⟩:=range_ok s1 lo hi k2 (by omega) h h1 h2
  simp only [cond_false,m1,Option.bind_some]
  exact⟨_,_,rfl,m2.mono (by omega)⟩
end Go.Proofs.Ytipjpkpmkijdoab.Law

open Go Go.Eng
namespace Go.Proofs.Ytipjpkpmkijdoab.Law
set_option linter.unusedVariables false
set_option linter.unusedSimpArgs false
def Short (s:ByteArray):Prop:=s.size≤1000
def GoodS (x:Spot):Prop:=Short x.Key∧x.Tags.length≤20 ∧ ∀ t∈x.Tags,Short t
def GoodC (c:Campaign):Prop:=Short c.Key∧Short c.Class∧c.Tags.length≤20 ∧ ∀ t∈c.Tags,Short t
theorem appL_ok {α:Type} (xs ys:List α) (h:xs.length + ys.length≤1000000000):appL xs ys=some (xs++ys):=by unfold appL; rw [if_pos h]
theorem tags_ok {L:Nat→ByteArray→(List ByteArray×List Int×Int)→Option (Ctl (List ByteArray×List Int×Int) Unit)} {n:Int} (hn:1≤n) (hn2:n≤1000)
  (hL:∀ k x s,L k x s=(mk_Stream_Flip (⟨s.2.1,s.2.2⟩:Stream) n).bind fun r=>(bif r.1 then (appL s.1 ([x]:List ByteArray)).bind fun a=>some a else some s.1).bind fun v=>some (.go (v,r.2.L,r.2.f_at)))
  {xs:List ByteArray} (hx:∀ x∈xs,Short x) (hl:xs.length≤10) (s:Stream) {b:Int} (hs:Ok s b) (hb:b≤900000) :
  ∃ t s',forL xs (([]:List ByteArray),s.L,s.f_at) (fun k x s=>L k x s)=some (.go (t,s'.L,s'.f_at))∧Ok s' (b + 10)∧t.length≤10 ∧ ∀ x∈t,Short x:=by
 obtain ⟨s',h1,h2,h3,h4⟩:=forL_inv (body:=fun k x s=>L k x s) (fun k s=>Ok ⟨s.2.1,s.2.2⟩ (b + k)∧s.1.length≤k ∧ ∀ x∈s.1,Short x) (xs:=xs) (s:=(([]:List ByteArray),s.L,s.f_at)) (by omega) (fun k x s hxm hk ⟨i1,i2,i3⟩=>by
   obtain ⟨c,s1,k1,k2⟩:=flip_ok _ n i1 (by omega) hn hn2
   simp only [hL,k1,Option.bind_some]
   cases c with
   | true =>
    simp only [cond_true,appL_ok s.1 [x] (by simp; omega),Option.bind_some]
    refine⟨_,rfl,k2.mono (by omega),by simp; omega,fun y hy => ?_⟩
    rcases List.mem_append.1 hy with hy | hy
    ·exact i3 y hy
    ·rw [List.mem_singleton.1 hy]; exact hx x hxm
   | false =>
    simp only [cond_false,Option.bind_some]
    exact⟨_,rfl,k2.mono (by omega),by show s.1.length≤_; omega,i3⟩) ⟨by simpa using hs,by simp,by simp⟩
 exact⟨s'.1,⟨s'.2.1,s'.2.2⟩,h1,h2.mono (by omega),by omega,h4⟩
theorem short_lit {s:ByteArray} (h:Nat.ble s.size 1000=true):Short s:=Nat.le_of_ble_eq_true h
theorem rightSpots_ok (s:Stream) {b:Int} (hs:Ok s b) (hb:b≤800000):∃ xs s',mk_Stream_RightSpots s=some (xs,s')∧Ok s' (b + 100)∧xs.length≤5 ∧ ∀ x∈xs,GoodS x:=by
 unfold mk_Stream_RightSpots
 obtain ⟨s',h1,h2,h3,h4⟩:=forL_inv (body:=fun k x s=>mk_Stream_RightSpots_L2 k x s) (fun k s=>Ok ⟨s.2.1,s.2.2⟩ (b + 20 * k)∧s.1.length≤k ∧ ∀ x∈s.1,GoodS x)
  (xs := [(⟨#[115,97]⟩:ByteArray),(⟨#[115,98]⟩:ByteArray),(⟨#[115,99]⟩:ByteArray),(⟨#[115,100]⟩:ByteArray),(⟨#[115,101]⟩:ByteArray)]) (s:=(([]:List Spot),s.L,s.f_at)) (by simp) (fun k x t hxm hk ⟨i1,i2,i3⟩=>by
   have hk5:k < 5:=hk
   obtain ⟨c,s1,k1,k2⟩:=flip_ok _ 4 i1 (by omega) (by decide) (by decide)
   simp only [mk_Stream_RightSpots_L2,k1,Option.bind_some]
   cases c with
   | true=>exact⟨_,rfl,k2.mono (by omega),by show t.1.length≤_; omega,i3⟩
   | false =>
    obtain ⟨p1,s2,k3,_,k4⟩:=pick_ok s1 [5,10,10] k2 (by omega) (by simp) (by simp)
    obtain ⟨p2,s3,k5,_,k6⟩:=pick_ok s2 [0,1,2,3,5] k4 (by omega) (by simp) (by simp)
    obtain ⟨tg,s4,k7,k8,k9,k10⟩:=tags_ok (L:=mk_Stream_RightSpots_L1) (n:=2) (by decide) (by decide) (fun _ _ _=>rfl) (xs := [(⟨#[99,105,116,121]⟩:ByteArray),(⟨#[109,97,108,108]⟩:ByteArray)])
     (by intro x hx; simp only [List.mem_cons,List.not_mem_nil,or_false]at hx; rcases hx with rfl | rfl <;> exact short_lit rfl) (by simp) s3 k6 (by omega)
    simp only [cond_false,k3,k5,k7,Option.bind_some,thenC_go,appL_ok t.1 _ (show t.1.length + [_].length≤_ by simp; omega)]
    refine⟨_,rfl,k8.mono (by omega),by simp; omega,fun y hy => ?_⟩
    rcases List.mem_append.1 hy with hy | hy
    ·exact i3 y hy
    ·rw [List.mem_singleton.1 hy]
     refine⟨?_,by show tg.length≤20; omega,k10⟩
     simp only [List.mem_cons,List.not_mem_nil,or_false]at hxm
     rcases hxm with rfl | rfl | rfl | rfl | rfl <;> exact short_lit rfl) ⟨by simpa using hs,by simp,by simp⟩
 rw [h1]
 exact⟨s'.1,⟨s'.2.1,s'.2.2⟩,rfl,h2.mono (by simp),h3,h4⟩
theorem set_at {α:Type} {xs:List α} {i:Nat} {a:α} (h:i < xs.length):(xs.set i a)[i]? = some a:=by simp [h]
theorem get_at {α:Type} {xs:List α} {i:Nat} (h:i < xs.length):xs[i]? = some xs[i]:=List.getElem?_eq_getElem h
theorem all_set {α:Type} {p:α→Prop} {xs:List α} {i:Nat} {a:α} (h:∀ x∈xs,p x) (ha:p a):∀ x∈xs.set i a,p x:=fun x hx=>by
 rcases List.mem_or_eq_of_mem_set hx with h1 | h1
 ·exact h x h1
 ·rw [h1]; exact ha
theorem inR_ok {α:Type} {i:Int} {xs:List α} (h0:0≤i) (h1:i < xs.length):inR i xs=some ():=by unfold inR; rw [if_pos ⟨h0,by omega⟩]
theorem spots_ok (s:Stream) {b:Int} (hs:Ok s b) (hb:b≤700000):∃ xs s',mk_Stream_Spots s=some (xs,s')∧Ok s' (b + 200)∧xs.length≤5 ∧ ∀ x∈xs,GoodS x:=by
 obtain ⟨xs,s1,h1,h2,h3,h4⟩:=rightSpots_ok s hs (by omega)
 simp only [mk_Stream_Spots,h1,Option.bind_some]
 obtain ⟨v,s2,h5,h6,h7⟩:∃ (v:Bool) (s2:Stream),(bif decide ((xs.length:Int) > 0)then (mk_Stream_Flip s1 12).bind fun r_9=>some (r_9.1,r_9.2.L,r_9.2.f_at)else some (false,s1.L,s1.f_at))=some (v,s2.L,s2.f_at)∧Ok s2 (b + 101)∧(v=true→0 < xs.length):=by
  cases hd:decide ((xs.length:Int) > 0)with
  | true =>
   obtain ⟨c,s2,k1,k2⟩:=flip_ok s1 12 h2 (by omega) (by decide) (by decide)
   simp only [decide_eq_true_eq]at hd
   exact⟨c,s2,by simp only [cond_true,k1,Option.bind_some],k2.mono (by omega),fun _=>by omega⟩
  | false=>exact⟨false,s1,rfl,h2.mono (by omega),fun h=>by cases h⟩
 simp only [h5,Option.bind_some]
 cases v with
 | false=>exact⟨xs,_,rfl,h6.mono (by omega),h3,h4⟩
 | true =>
  have hpos:=h7 rfl
  obtain ⟨i,s3,k1,k2,k3,k4⟩:=next_ok s2 xs.length h6 (by omega) (by omega) (by omega)
  have hi:0 + i.toNat < xs.length:=by omega
  obtain ⟨key,s4,m1,m2,m3⟩:=some_ok s3 [xs[0 + i.toNat].Key,(⟨#[]⟩:ByteArray),(⟨#[115,97]⟩:ByteArray)] k4 (by omega) (by simp) (by simp)
  obtain ⟨to,s5,m4,m5⟩:=odd_ok s4 0 60 m3 (by omega) (by decide) (by decide) (by decide)
  obtain ⟨room,s6,m6,m7⟩:=odd_ok s5 0 5 m5 (by omega) (by decide) (by decide) (by decide)
  obtain ⟨j,s7,m8,m9,m10,m11⟩:=next_ok s6 3 m7 (by omega) (by decide) (by decide)
  obtain ⟨tg,n1,n2⟩:=idx_mem (l := [([]:List ByteArray),([(⟨#[98]⟩:ByteArray),(⟨#[97]⟩:ByteArray)]:List ByteArray),([(⟨#[65]⟩:ByteArray)]:List ByteArray)]) m9 (by simpa using m10)
  have ek:Short key:=by
   simp only [List.mem_cons,List.not_mem_nil,or_false]at m2
   rcases m2 with rfl | rfl | rfl
   ·exact (h4 _ (List.getElem_mem _)).1
   ·exact short_lit rfl
   ·exact short_lit rfl
  have et:tg.length≤20 ∧ ∀ t∈tg,Short t:=by
   simp only [List.mem_cons,List.not_mem_nil,or_false]at n2
   rcases n2 with rfl | rfl | rfl
   ·exact⟨by simp,by simp⟩
   ·exact⟨by simp,by intro t ht; simp only [List.mem_cons,List.not_mem_nil,or_false]at ht; rcases ht with rfl | rfl <;> exact short_lit rfl⟩
   ·exact⟨by simp,by intro t ht; simp only [List.mem_cons,List.not_mem_nil,or_false]at ht; rw [ht]; exact short_lit rfl⟩
  have e2:(⟨s2.L,s2.f_at⟩:Stream)=s2:=rfl
  have ho:=(h4 _ (List.getElem_mem hi))
  simp only [cond_true,k1,Option.bind_some,inR_ok k2 k3,get_at hi,m1,m4,m6,m8,n1,set_at hi,set_at (show 0 + i.toNat < (xs.set (0 + i.toNat) _).length by simpa using hi),List.set_set]
  exact⟨_,_,rfl,m11.mono (by omega),by simpa using h3,all_set h4 ⟨ek,et⟩⟩
theorem rightCampaigns_ok (s:Stream) (most:Int) (hm:0≤most∧most≤4) {b:Int} (hs:Ok s b) (hb:b≤800000):∃ xs s',mk_Stream_RightCampaigns s most=some (xs,s')∧Ok s' (b + 100)∧xs.length≤4 ∧ ∀ x∈xs,GoodC x:=by
 unfold mk_Stream_RightCampaigns
 obtain ⟨ks,hk1,hk2,hk3⟩:∃ ks,subL ([(⟨#[99,97]⟩:ByteArray),(⟨#[99,98]⟩:ByteArray),(⟨#[99,99]⟩:ByteArray),(⟨#[99,100]⟩:ByteArray)]:List ByteArray) 0 most=some ks∧ks.length≤4 ∧ ∀ x∈ks,Short x:=by
  refine⟨_,by unfold subL; rw [if_pos ⟨by omega,by omega,by omega,by simp; omega⟩],by simp; omega,fun x hx => ?_⟩
  have hx:=List.mem_of_mem_take (List.mem_of_mem_drop hx)
  simp only [List.mem_cons,List.not_mem_nil,or_false]at hx
  rcases hx with rfl | rfl | rfl | rfl <;> exact short_lit rfl
 simp only [hk1,Option.bind_some]
 obtain ⟨s',h1,h2,h3,h4⟩:=forL_inv (body:=fun k x s=>mk_Stream_RightCampaigns_L2 k x s) (fun k s=>Ok ⟨s.2.1,s.2.2⟩ (b + 20 * k)∧s.1.length≤k ∧ ∀ x∈s.1,GoodC x)
  (xs:=ks) (s:=(([]:List Campaign),s.L,s.f_at)) (by omega) (fun k x t hxm hk ⟨i1,i2,i3⟩=>by
   have hk5:k < 4:=by omega
   obtain ⟨c,s1,k1,k2⟩:=flip_ok _ 5 i1 (by omega) (by decide) (by decide)
   simp only [mk_Stream_RightCampaigns_L2,k1,Option.bind_some]
   cases c with
   | true=>exact⟨_,rfl,k2.mono (by omega),by show t.1.length≤_; omega,i3⟩
   | false =>
    obtain ⟨cl,s2,k3,kc,k4⟩:=some_ok s1 [(⟨#[]⟩:ByteArray),(⟨#[]⟩:ByteArray),(⟨#[99,97,114,115]⟩:ByteArray),(⟨#[102,111,111,100]⟩:ByteArray)] k2 (by omega) (by simp) (by simp)
    obtain ⟨p1,s3,m1,_,n1⟩:=pick_ok s2 [0,0,10,20] k4 (by omega) (by simp) (by simp)
    obtain ⟨p2,s4,m2,_,n2⟩:=pick_ok s3 [30,50,60,100] n1 (by omega) (by simp) (by simp)
    obtain ⟨p3,s5,m3,_,n3⟩:=pick_ok s4 [0,1,2,3,4,6] n2 (by omega) (by simp) (by simp)
    obtain ⟨p4,s6,m4,_,n4⟩:=pick_ok s5 [0,1,2,3,9] n3 (by omega) (by simp) (by simp)
    obtain ⟨p5,s7,m5,_,n5⟩:=pick_ok s6 [0,500,1000,1500] n4 (by omega) (by simp) (by simp)
    obtain ⟨tg,s8,k7,k8,k9,k10⟩:=tags_ok (L:=mk_Stream_RightCampaigns_L1) (n:=4) (by decide) (by decide) (fun _ _ _=>rfl) (xs := [(⟨#[99,105,116,121]⟩:ByteArray),(⟨#[109,97,108,108]⟩:ByteArray)])
     (by intro x hx; simp only [List.mem_cons,List.not_mem_nil,or_false]at hx; rcases hx with rfl | rfl <;> exact short_lit rfl) (by simp) s7 n5 (by omega)
    simp only [cond_false,k3,m1,m2,m3,m4,m5,k7,Option.bind_some,thenC_go,appL_ok t.1 _ (show t.1.length + [_].length≤_ by simp; omega)]
    refine⟨_,rfl,k8.mono (by omega),by simp; omega,fun y hy => ?_⟩
    rcases List.mem_append.1 hy with hy | hy
    ·exact i3 y hy
    ·rw [List.mem_singleton.1 hy]
     refine⟨hk3 x hxm,?_,by show tg.length≤20; omega,k10⟩
     simp only [List.mem_cons,List.not_mem_nil,or_false]at kc
     rcases kc with rfl | rfl | rfl | rfl <;> exact short_lit rfl) ⟨by simpa using hs,by simp,by simp⟩
 rw [h1]
 exact⟨s'.1,⟨s'.2.1,s'.2.2⟩,rfl,h2.mono (by omega),by omega,h4⟩
theorem campaigns_ok (s:Stream) (most:Int) (hm:0≤most∧most≤4) {b:Int} (hs:Ok s b) (hb:b≤700000):∃ xs s',mk_Stream_Campaigns s most=some (xs,s')∧Ok s' (b + 200)∧xs.length≤4 ∧ ∀ x∈xs,GoodC x:=by
 obtain ⟨xs,s1,h1,h2,h3,h4⟩:=rightCampaigns_ok s most hm hs (by omega)
 simp only [mk_Stream_Campaigns,h1,Option.bind_some]
 obtain ⟨v,s2,h5,h6,h7⟩:∃ (v:Bool) (s2:Stream),(bif decide ((xs.length:Int) > 0)then (mk_Stream_Flip s1 12).bind fun r_9=>some (r_9.1,r_9.2.L,r_9.2.f_at)else some (false,s1.L,s1.f_at))=some (v,s2.L,s2.f_at)∧Ok s2 (b + 101)∧(v=true→0 < xs.length):=by
  cases hd:decide ((xs.length:Int) > 0)with
  | true =>
   obtain ⟨c,s2,k1,k2⟩:=flip_ok s1 12 h2 (by omega) (by decide) (by decide)
   simp only [decide_eq_true_eq]at hd
   exact⟨c,s2,by simp only [cond_true,k1,Option.bind_some],k2.mono (by omega),fun _=>by omega⟩
  | false=>exact⟨false,s1,rfl,h2.mono (by omega),fun h=>by cases h⟩
 simp only [h5,Option.bind_some]
 cases v with
 | false=>exact⟨xs,_,rfl,h6.mono (by omega),h3,h4⟩
 | true =>
  have hpos:=h7 rfl
  obtain ⟨i,s3,k1,k2,k3,k4⟩:=next_ok s2 xs.length h6 (by omega) (by omega) (by omega)
  have hi:0 + i.toNat < xs.length:=by omega
  have ho:=(h4 _ (List.getElem_mem hi))
  obtain ⟨w,s4,m1,_,_,m2⟩:=next_ok s3 4 k4 (by omega) (by decide) (by decide)
  have hset:∀ a,0 + i.toNat < (xs.set (0 + i.toNat) a).length:=fun a=>by simpa using hi
  simp only [cond_true,k1,Option.bind_some,inR_ok k2 k3,m1]
  cases hw0:(w == 0)with
  | true =>
   obtain ⟨key,s5,n1,n2,n3⟩:=some_ok s4 [xs[0 + i.toNat].Key,(⟨#[]⟩:ByteArray),(⟨#[99,97]⟩:ByteArray)] m2 (by omega) (by simp) (by simp)
   obtain ⟨cl,s6,n4,n5,n6⟩:=some_ok s5 [(⟨#[]⟩:ByteArray),(⟨#[65]⟩:ByteArray)] n3 (by omega) (by simp) (by simp)
   simp only [cond_true,get_at hi,n1,n4,Option.bind_some,set_at hi,List.set_set]
   refine⟨_,_,rfl,n6.mono (by omega),by simpa using h3,all_set h4 ⟨?_,?_,ho.2.2⟩⟩
   ·simp only [List.mem_cons,List.not_mem_nil,or_false]at n2
    rcases n2 with rfl | rfl | rfl
    ·exact ho.1
    ·exact short_lit rfl
    ·exact short_lit rfl
   ·simp only [List.mem_cons,List.not_mem_nil,or_false]at n5
    rcases n5 with rfl | rfl <;> exact short_lit rfl
  | false =>
  simp only [cond_false]
  cases hw1:(w == 1)with
  | true =>
   obtain ⟨to,s5,n1,n2⟩:=odd_ok s4 0 60 m2 (by omega) (by decide) (by decide) (by decide)
   simp only [cond_true,get_at hi,n1,Option.bind_some]
   exact⟨_,_,rfl,n2.mono (by omega),by simpa using h3,all_set h4 ho⟩
  | false =>
  simp only [cond_false]
  cases hw2:(w == 2)with
  | true =>
   obtain ⟨a,s5,n1,n2⟩:=odd_ok s4 0 6 m2 (by omega) (by decide) (by decide) (by decide)
   obtain ⟨a2,s6,n3,n4⟩:=odd_ok s5 0 6 n2 (by omega) (by decide) (by decide) (by decide)
   obtain ⟨a3,s7,n5,n6⟩:=odd_ok s6 0 1000 n4 (by omega) (by decide) (by decide) (by decide)
   simp only [cond_true,get_at hi,n1,n3,n5,Option.bind_some,set_at hi,set_at (hset _),List.set_set]
   exact⟨_,_,rfl,n6.mono (by omega),by simpa using h3,all_set h4 ho⟩
  | false =>
   obtain ⟨j,s5,n1,n2,n3,n4⟩:=next_ok s4 3 m2 (by omega) (by decide) (by decide)
   obtain ⟨tg,n5,n6⟩:=idx_mem (l := [([(⟨#[98]⟩:ByteArray),(⟨#[97]⟩:ByteArray)]:List ByteArray),([(⟨#[65]⟩:ByteArray)]:List ByteArray),([(⟨#[97]⟩:ByteArray),(⟨#[97]⟩:ByteArray)]:List ByteArray)]) n2 (by simpa using n3)
   simp only [cond_false,get_at hi,n1,n5,Option.bind_some]
   refine⟨_,_,rfl,n4.mono (by omega),by simpa using h3,all_set h4 ⟨ho.1,ho.2.1,?_⟩⟩
   simp only [List.mem_cons,List.not_mem_nil,or_false]at n6
   rcases n6 with rfl | rfl | rfl
   ·exact⟨by simp,by intro t ht; simp only [List.mem_cons,List.not_mem_nil,or_false]at ht; rcases ht with rfl | rfl <;> exact short_lit rfl⟩
   ·exact⟨by simp,by intro t ht; simp only [List.mem_cons,List.not_mem_nil,or_false]at ht; rw [ht]; exact short_lit rfl⟩
   ·exact⟨by simp,by intro t ht; simp only [List.mem_cons,List.not_mem_nil,or_false,or_self]at ht; rw [ht]; exact short_lit rfl⟩
end Go.Proofs.Ytipjpkpmkijdoab.Law

open Go Go.Eng
namespace Go.Proofs.Ytipjpkpmkijdoab.Law
set_option linter.unusedVariables false
set_option linter.unusedSimpArgs false
def lowB (b:UInt8):Bool:=decide (97≤b.toNat) && decide (b.toNat≤122)
def moreB (b:UInt8):Bool:=(decide (48≤b.toNat) && decide (b.toNat≤57)) || (b.toNat == 45) || (b.toNat == 95)
def okB (i:Nat) (b:UInt8):Bool:=lowB b || (decide (0 < i) && moreB b)
def byteAt (s:ByteArray) (i:Nat):UInt8:=s.data.toList.getD i 0
def keyB (s:ByteArray):Bool:=decide (s.size≠0) && (decide (s.size≤40) && (List.range s.size).all fun i=>okB i (byteAt s i))
theorem idxS_nat (s:ByteArray) (k:Nat) (h:k < s.size):idxS s (k:Int)=some (byteAt s k):=by
 have h1:s[k]? = some s[k]:=by simp [h]
 have h2:byteAt s k=s[k]:=by
  have hl:k < s.data.toList.length:=by rw [← Go.Lib.size_eq]; exact h
  simp only [byteAt,List.getD_eq_getElem?_getD,List.getElem?_eq_getElem hl,Option.getD_some]
  simp
  rfl
 simp only [idxS,if_pos (Int.natCast_nonneg k),Int.toNat_natCast,h1,h2]
theorem isKey_L1 (s:ByteArray) (k:Nat) (hs:s.size≤1000000000):kit_IsKey_L1 s (k:Int)=some (if k < s.size then (bif okB k (byteAt s k)then .go ((k + 1:Nat):Int)else .ret false)else .brk (k:Int)):=by
 unfold kit_IsKey_L1
 by_cases h:k < s.size
 ·have hd:decide ((k:Int) < (s.size:Int))=true:=by simp; omega
  have hw:w64 ((k:Int) + 1)=((k + 1:Nat):Int):=by rw [w64_id (by omega)]; omega
  simp only [hd,cond_true,idxS_nat s k h,Option.bind_some,if_pos h,hw]
  generalize byteAt s k=b
  simp only [okB,lowB,moreB]
  have e1:decide ((b.toNat:Int)≥97)=decide (97≤b.toNat):=decide_eq_decide.2 (by omega)
  have e2:decide ((b.toNat:Int)≤122)=decide (b.toNat≤122):=decide_eq_decide.2 (by omega)
  have e3:decide ((k:Int) > 0)=decide (0 < k):=decide_eq_decide.2 (by omega)
  have e4:decide ((b.toNat:Int)≥48)=decide (48≤b.toNat):=decide_eq_decide.2 (by omega)
  have e5:decide ((b.toNat:Int)≤57)=decide (b.toNat≤57):=decide_eq_decide.2 (by omega)
  have e6:((b.toNat:Int) == 45)=(b.toNat == 45):=by rw [Bool.eq_iff_iff]; simp; omega
  have e7:((b.toNat:Int) == 95)=(b.toNat == 95):=by rw [Bool.eq_iff_iff]; simp; omega
  rw [e1,e2,e3,e4,e5,e6,e7]
  cases decide (97≤b.toNat) <;> cases decide (b.toNat≤122) <;> cases decide (0 < k) <;> cases decide (48≤b.toNat) <;> cases decide (b.toNat≤57) <;> cases (b.toNat == 45) <;> cases (b.toNat == 95) <;> rfl
 ·have hd:decide ((k:Int) < (s.size:Int))=false:=by simp; omega
  simp only [hd,cond_false,if_neg h]
theorem isKey_iter (s:ByteArray) (hs:s.size≤1000000000):∀ (n k:Nat),k + n=s.size→iterN (fun i=>kit_IsKey_L1 s i) (n + 1) (k:Int)=some (bif (List.range' k n).all (fun j=>okB j (byteAt s j))then .go (s.size:Int)else .ret false)
 | 0,k,h=>by
  have hk:¬ k < s.size:=by omega
  simp only [iterN,isKey_L1 s k hs,if_neg hk,Option.bind_some,List.range'_zero,List.all_nil,cond_true]
  rw [show (k:Int)=s.size by omega]
 | n + 1,k,h=>by
  have hk:k < s.size:=by omega
  rw [iterN,isKey_L1 s k hs,if_pos hk,Option.bind_some,List.range'_succ,List.all_cons]
  cases okB k (byteAt s k)with
  | true=>simp only [cond_true,Bool.true_and]; exact isKey_iter s hs n (k + 1) (by omega)
  | false=>rfl
theorem isKey_eq (s:ByteArray) (hs:s.size≤1000000000):kit_IsKey s=some (keyB s):=by
 have h:=iter_loopO (isKey_iter s hs s.size 0 (by omega))
 unfold kit_IsKey
 have h':loopO (0:Int) (fun s_1=>kit_IsKey_L1 s s_1)=_:=h
 rw [h',Option.bind_some,← List.range_eq_range']
 have e:decide ((s.size:Int)≤40)=decide (s.size≤40):=decide_eq_decide.2 (by omega)
 simp only [keyB]
 cases (List.range s.size).all (fun i=>okB i (byteAt s i))with
 | true =>
  rw [cond_true,thenC_go,sNe_nil,e,Bool.and_true]
  cases decide (s.size≠0) <;> rfl
 | false=>simp only [cond_false,thenC_ret,Bool.and_false]
def inSet (t:ByteArray) (b:UInt8):Bool := !decide (ixB t (b.toNat:Int) < 0)
theorem only_L1 (s t:ByteArray) (k x:Nat) (h:k < s.size):ref_only_L1 s t k x ()=some (bif inSet t (byteAt s k)then .go ()else .ret false):=by
 simp only [ref_only_L1,idxS_nat s k h,strings_IndexByte,internal_stringslite_IndexByte,Option.bind_some,inSet]
 cases decide (ixB t ((byteAt s k).toNat:Int) < 0) <;> rfl
theorem only_run (s t:ByteArray):∀ (xs:List Nat) (k:Nat),k + xs.length=s.size→forR (fun k x u=>ref_only_L1 s t k x u) xs k ()=some (bif (List.range' k xs.length).all (fun j=>inSet t (byteAt s j))then .go ()else .ret false)
 | [],k,h=>rfl
 | x::xs,k,h=>by
  simp only [List.length_cons]at h ⊢
  have hk:k < s.size:=by omega
  rw [forR,only_L1 s t k x hk,Option.bind_some,List.range'_succ,List.all_cons]
  cases inSet t (byteAt s k)with
  | true=>simp only [cond_true,Bool.true_and]; exact only_run s t xs (k + 1) (by omega)
  | false=>rfl
theorem only_eq (s t:ByteArray) (hs:s.size≤1000000000):ref_only s t=some ((List.range s.size).all fun i=>inSet t (byteAt s i)):=by
 unfold ref_only
 rw [Int.toNat_natCast,forL_eq (by simp; omega),only_run s t _ 0 (by simp),Option.bind_some,List.length_range,← List.range_eq_range']
 cases (List.range s.size).all (fun i=>inSet t (byteAt s i)) <;> rfl
def alpha:ByteArray:=⟨#[97,98,99,100,101,102,103,104,105,106,107,108,109,110,111,112,113,114,115,116,117,118,119,120,121,122]⟩
def alnum:ByteArray:=⟨#[97,98,99,100,101,102,103,104,105,106,107,108,109,110,111,112,113,114,115,116,117,118,119,120,121,122,48,49,50,51,52,53,54,55,56,57,45,95]⟩
theorem inSet_all:∀ n:Fin 256,inSet alpha (UInt8.ofNat n.val)=lowB (UInt8.ofNat n.val)∧inSet alnum (UInt8.ofNat n.val)=(lowB (UInt8.ofNat n.val) || moreB (UInt8.ofNat n.val)):=by decide +kernel
theorem inSet_alpha (b:UInt8):inSet alpha b=lowB b:=by
 have:=(inSet_all ⟨b.toNat,b.toNat_lt⟩).1
 simpa using this
theorem inSet_alnum (b:UInt8):inSet alnum b=(lowB b || moreB b):=by
 have:=(inSet_all ⟨b.toNat,b.toNat_lt⟩).2
 simpa using this
theorem refKey_eq (s:ByteArray) (hs:s.size≤1000000000):ref_Key s=some (keyB s):=by
 unfold ref_Key ref_in
 have e1:decide ((1:Int)≤(s.size:Int))=decide (s.size≠0):=decide_eq_decide.2 (by omega)
 have e2:decide ((s.size:Int)≤40)=decide (s.size≤40):=decide_eq_decide.2 (by omega)
 rw [e1,e2]
 by_cases h1:s.size≠0
 ·by_cases h2:s.size≤40
  ·have hsub:subS s 0 1=some (s.extract 0 1):=by
    unfold subS; rw [if_pos ⟨by omega,by omega,by decide,by show 1≤s.size; omega⟩]; rfl
   have hsz:(s.extract 0 1).size=1:=by simp [ByteArray.size_extract]; omega
   have hb:byteAt (s.extract 0 1) 0=byteAt s 0:=by
    obtain ⟨⟨l⟩⟩:=s
    simp only [byteAt]
    cases l with
    | nil=>exact absurd rfl h1
    | cons b l=>simp [ByteArray.extract,ByteArray.copySlice]
   simp only [decide_eq_true h1,decide_eq_true h2,cond_true,Option.bind_some,hsub]
   have o1:=only_eq (s.extract 0 1) alpha (by omega)
   have o2:=only_eq s alnum hs
   unfold alpha at o1
   unfold alnum at o2
   rw [o1,Option.bind_some,o2]
   have e3:(List.range (s.extract 0 1).size).all (fun i=>inSet alpha (byteAt (s.extract 0 1) i))=lowB (byteAt s 0):=by
    rw [hsz]
    simp only [List.range_succ,List.range_zero,List.nil_append,List.all_cons,List.all_nil,Bool.and_true]
    rw [hb,inSet_alpha]
   have e3':=e3
   unfold alpha at e3'
   rw [e3']
   have e4:∀ i,inSet alnum (byteAt s i)=(lowB (byteAt s i) || moreB (byteAt s i)):=fun i=>inSet_alnum _
   have e5:keyB s=(lowB (byteAt s 0) && (List.range s.size).all (fun i=>inSet alnum (byteAt s i))):=by
    simp only [keyB,decide_eq_true h1,decide_eq_true h2,Bool.true_and,e4]
    rw [Bool.eq_iff_iff]
    simp only [List.all_eq_true,List.mem_range,Bool.and_eq_true,okB,Bool.or_eq_true,decide_eq_true_eq]
    constructor
    ·intro h
     refine⟨?_,fun i hi=>(h i hi).imp id (fun h=>h.2)⟩
     rcases h 0 (by omega)with h | h
     ·exact h
     ·exact absurd h.1 (by omega)
    ·rintro ⟨h3,h4⟩ i hi
     by_cases e:i=0
     ·rw [e]; exact .inl h3
     ·exact (h4 i hi).imp id (fun h=>⟨by omega,h⟩)
   unfold alnum at e5
   rw [e5]
   cases lowB (byteAt s 0) <;> rfl
  ·simp only [decide_eq_true h1,decide_eq_false h2,cond_true,cond_false,Option.bind_some,keyB,Bool.false_and,Bool.and_false]
 ·simp only [decide_eq_false h1,cond_false,Option.bind_some,keyB,Bool.false_and]
theorem keyB_ne {s:ByteArray} (h:keyB s=true):s.size≠0:=by
 simp only [keyB,Bool.and_eq_true,decide_eq_true_eq]at h
 exact h.1
end Go.Proofs.Ytipjpkpmkijdoab.Law

open Go Go.Eng
namespace Go.Proofs.Ytipjpkpmkijdoab.Law
set_option linter.unusedVariables false
set_option linter.unusedSimpArgs false
def nilS:ByteArray:=⟨#[]⟩
def prevK {α:Type} (key:α→ByteArray) (l:List α) (k:Nat):ByteArray:=if k=0 then nilS else match l[k - 1]? with | some y=>key y | none=>nilS
def chk {α:Type} (key:α→ByteArray) (stp:ByteArray→α→Int):ByteArray→List α→Int
 | _,[]=>0
 | last,x::xs=>bif stp last x == 0 then chk key stp (key x) xs else stp last x
def outC (e:Int):Ctl Unit Int:=bif e == 0 then .go ()else .ret e
theorem chk_prev {α:Type} {key:α→ByteArray} {stp:ByteArray→α→Int} {body:Nat→α→Unit→Option (Ctl Unit Int)} (l:List α):∀ (xs:List α) (k:Nat),l.drop k=xs→(∀ k x,l[k]? = some x→body k x ()=some (outC (stp (prevK key l k) x))) →
  forR body xs k ()=some (outC (chk key stp (prevK key l k) xs))
 | [],k,h,hb=>rfl
 | x::xs,k,h,hb=>by
  have hg:=drop_get h
  rw [forR,hb k x hg,Option.bind_some,chk]
  cases he:stp (prevK key l k) x == 0 with
  | true =>
   simp only [outC,he,cond_true]
   rw [chk_prev l xs (k + 1) (drop_next h) hb]
   have:prevK key l (k + 1)=key x:=by simp [prevK,hg]
   rw [this]; rfl
  | false=>simp only [outC,he,cond_false]
theorem chk_last {α:Type} {key:α→ByteArray} {stp:ByteArray→α→Int} {body:Nat→α→ByteArray→Option (Ctl ByteArray Int)}:∀ (xs:List α) (k:Nat) (last:ByteArray),(∀ k x last,x∈xs→body k x last=some (bif stp last x == 0 then .go (key x)else .ret (stp last x))) →
  ∃ o,forR body xs k last=some o∧thenC o (fun _=>some (0:Int)) (fun r=>some r)=some (chk key stp last xs)
 | [],k,last,hb=>⟨_,rfl,rfl⟩
 | x::xs,k,last,hb=>by
  rw [forR,hb k x last (by simp),Option.bind_some,chk]
  cases he:stp last x == 0 with
  | true=>exact chk_last xs (k + 1) (key x) (fun k y last hy=>hb k y last (by simp [hy]))
  | false=>exact⟨_,rfl,rfl⟩
theorem outC_then (e:Int):thenC (outC e) (fun _=>some (0:Int)) (fun r=>some r)=some e:=by
 unfold outC
 cases h:e == 0 with
 | true=>simp only [cond_true,thenC_go]; rw [eq_of_beq h]
 | false=>rfl
def tagStp (last x:ByteArray):Int:=bif !keyB x then 5 else bif sLe x last then 7 else 0
def tagsF (l:List ByteArray):Int:=bif decide (l.length > 20)then 2 else chk id tagStp nilS l
theorem idx_prev {α:Type} {l:List α} {k:Nat} {x:α} (h:l[k]? = some x) (hk:0 < k) (hl:l.length≤1000000000):∃ y,idx l (w64 ((k:Int) - 1))=some y∧l[k - 1]? = some y:=by
 have hlt:k < l.length:=(List.getElem?_eq_some_iff.1 h).1
 rw [w64_id (by omega),show (k:Int) - 1=((k - 1:Nat):Int) by omega,idx_nat]
 exact⟨l[k - 1],List.getElem?_eq_getElem (by omega),List.getElem?_eq_getElem (by omega)⟩
theorem prev_test {α:Type} {key:α→ByteArray} {l:List α} {k:Nat} {x:α} {s:ByteArray} (h:l[k]? = some x) (hl:l.length≤1000000000) (hs:s.size≠0) :
  (bif decide ((k:Int) > 0)then (idx l (w64 ((k:Int) - 1))).bind fun y=>some (sLe s (key y))else some false)=some (sLe s (prevK key l k)):=by
 by_cases hk:0 < k
 ·obtain ⟨y,h1,h2⟩:=idx_prev h hk hl
  have hd:decide ((k:Int) > 0)=true:=by simp; omega
  simp only [hd,cond_true,h1,Option.bind_some,prevK,if_neg (show ¬ k=0 by omega),h2]
 ·have hk0:k=0:=by omega
  subst hk0
  simp only [prevK,if_pos,nilS,sLe_nil,decide_eq_false hs]
  rfl
theorem tagsK (l:List ByteArray) (hs:∀ t∈l,Short t) (hl:l.length≤1000000000):booking_tagsFault l=some (tagsF l):=by
 unfold booking_tagsFault tagsF
 have e:decide ((l.length:Int) > 20)=decide (l.length > 20):=decide_eq_decide.2 (by omega)
 rw [e]
 cases decide (l.length > 20)with
 | true=>rfl
 | false =>
  simp only [cond_false]
  unfold kit_RisingFault
  rw [forL_eq (by omega),chk_prev (key:=id) (stp:=tagStp) l l 0 rfl (fun k x hx => ?_)]
  ·simp only [Option.bind_some,outC_then]; rfl
  ·have hxs:Short x:=hs x (List.mem_of_getElem? hx)
   simp only [kit_RisingFault_L1,isKey_eq x (by unfold Short at hxs; omega),Option.bind_some,tagStp]
   cases hk:keyB x with
   | false=>rfl
   | true =>
    simp only [Bool.not_true,cond_false]
    have:=prev_test (key:=id) hx hl (keyB_ne hk)
    simp only [id]at this
    rw [this,Option.bind_some]
    cases sLe x (prevK id l k) <;> rfl
theorem tagsR (l:List ByteArray) (hs:∀ t∈l,Short t) (hl:l.length≤1000000000):ref_TagsFault l=some (tagsF l):=by
 unfold ref_TagsFault tagsF
 have e:decide ((l.length:Int) > 20)=decide (l.length > 20):=decide_eq_decide.2 (by omega)
 rw [e]
 cases decide (l.length > 20)with
 | true=>rfl
 | false =>
  simp only [cond_false]
  unfold ref_risingFault
  rw [forL_eq (by omega),chk_prev (key:=id) (stp:=tagStp) l l 0 rfl (fun k x hx => ?_)]
  ·simp only [Option.bind_some,outC_then]; rfl
  ·have hxs:Short x:=hs x (List.mem_of_getElem? hx)
   simp only [ref_risingFault_L1,refKey_eq x (by unfold Short at hxs; omega),Option.bind_some,tagStp]
   cases hk:keyB x with
   | false=>rfl
   | true =>
    simp only [Bool.not_true,cond_false]
    have:=prev_test (key:=id) hx hl (keyB_ne hk)
    simp only [id]at this
    rw [this,Option.bind_some]
    cases sLe x (prevK id l k) <;> rfl
def badT (w:Window):Bool:=decide (w.From < 0) || (decide (w.From≥w.To) || decide (w.To > 345686400000))
def out (n hi:Int):Bool:=decide (n < 0) || decide (n > hi)
def spotStp (last:ByteArray) (x:Spot):Int:=bif !keyB x.Key then 5 else bif sLe x.Key last then 7 else bif badT x.Time || out x.Room 1000000 then 1 else tagsF x.Tags
def spotsF (l:List Spot):Int:=bif decide (l.length > 60)then 2 else chk Spot.Key spotStp nilS l
theorem isTime_eq (w:Window):booking_isTime w=some (!badT w):=by
 unfold booking_isTime badT
 have e1:decide (w.From≥0) = !decide (w.From < 0):=by rw [Bool.eq_iff_iff]; simp
 have e2:decide (w.From < w.To) = !decide (w.From≥w.To):=by rw [Bool.eq_iff_iff]; simp
 have e3:decide (w.To≤345686400000) = !decide (w.To > 345686400000):=by rw [Bool.eq_iff_iff]; simp
 rw [e1,e2,e3]
 cases decide (w.From < 0) <;> cases decide (w.From≥w.To) <;> cases decide (w.To > 345686400000) <;> rfl
theorem outside_eq (n hi:Int):kit_Outside n 0 hi=some (out n hi):=by
 unfold kit_Outside out
 cases decide (n < 0) <;> cases decide (n > hi) <;> rfl
theorem in_eq (n hi:Int):ref_in n 0 hi=some (!out n hi):=by
 unfold ref_in out
 have e1:decide (0≤n) = !decide (n < 0):=by rw [Bool.eq_iff_iff]; simp
 have e2:decide (n≤hi) = !decide (n > hi):=by rw [Bool.eq_iff_iff]; simp
 rw [e1,e2]
 cases decide (n < 0) <;> cases decide (n > hi) <;> rfl
theorem spotsK (l:List Spot) (hg:∀ x∈l,GoodS x) (hl:l.length≤1000000):booking_CheckSpots l=some (spotsF l):=by
 unfold booking_CheckSpots spotsF
 have e:decide ((l.length:Int) > 60)=decide (l.length > 60):=decide_eq_decide.2 (by omega)
 rw [e]
 cases decide (l.length > 60)with
 | true=>rfl
 | false =>
  simp only [cond_false]
  rw [forL_eq (by omega),chk_prev (key:=Spot.Key) (stp:=spotStp) l l 0 rfl (fun k x hx => ?_)]
  ·simp only [Option.bind_some,outC_then]; rfl
  ·obtain ⟨g1,g2,g3⟩:=hg x (List.mem_of_getElem? hx)
   simp only [booking_CheckSpots_L1,isKey_eq x.Key (by unfold Short at g1; omega),Option.bind_some,spotStp,isTime_eq,outside_eq,tagsK x.Tags g3 (by omega)]
   cases hk:keyB x.Key with
   | false=>rfl
   | true =>
    simp only [Bool.not_true,cond_false]
    rw [prev_test (key:=Spot.Key) hx (by omega) (keyB_ne hk),Option.bind_some]
    cases sLe x.Key (prevK Spot.Key l k)with
    | true=>rfl
    | false =>
     simp only [cond_false]
     cases badT x.Time <;> cases out x.Room 1000000 <;> simp only [Bool.not_true,Bool.not_false,cond_true,cond_false,Option.bind_some,Bool.or_true,Bool.or_false,Bool.true_or] <;> first | rfl | skip
     simp only [outC]
     have:(tagsF x.Tags != 0) = !(tagsF x.Tags == 0):=rfl
     rw [this]
     cases tagsF x.Tags == 0 <;> rfl
theorem spotsR (l:List Spot) (hg:∀ x∈l,GoodS x) (hl:l.length≤1000000):ref_SpotsFault l=some (spotsF l):=by
 unfold ref_SpotsFault spotsF
 have e:decide ((l.length:Int) > 60)=decide (l.length > 60):=decide_eq_decide.2 (by omega)
 rw [e]
 cases decide (l.length > 60)with
 | true=>rfl
 | false =>
  simp only [cond_false]
  obtain ⟨o,h1,h2⟩:=chk_last (body:=fun k x s=>ref_SpotsFault_L1 k x s) (key:=Spot.Key) (stp:=spotStp) l 0 nilS (fun k x last hx=>by
   obtain ⟨g1,g2,g3⟩:=hg x hx
   simp only [ref_SpotsFault_L1,refKey_eq x.Key (by unfold Short at g1; omega),Option.bind_some,spotStp,in_eq,tagsR x.Tags g3 (by omega),badT]
   cases hk:keyB x.Key with
   | false=>rfl
   | true =>
    simp only [Bool.not_true,cond_false]
    cases sLe x.Key last with
    | true=>rfl
    | false =>
     simp only [cond_false]
     cases decide (x.Time.From < 0) <;> cases decide (x.Time.From≥x.Time.To) <;> cases decide (x.Time.To > 345686400000) <;> cases out x.Room 1000000 <;> simp only [Bool.not_true,Bool.not_false,cond_true,cond_false,Option.bind_some,Bool.or_true,Bool.or_false,Bool.true_or,Bool.false_or] <;> first | rfl | skip
     have:(tagsF x.Tags != 0) = !(tagsF x.Tags == 0):=rfl
     rw [this]
     cases tagsF x.Tags == 0 <;> rfl)
  rw [forL_eq (by omega)]
  have h1':forR (fun k x s=>ref_SpotsFault_L1 k x s) l 0 { data := #[] }=some o:=h1
  rw [h1',Option.bind_some]; exact h2
def campStp (last:ByteArray) (c:Campaign):Int :=
 bif !keyB c.Key || (decide (c.Class.size≠0) && !keyB c.Class)then 5 else bif sLe c.Key last then 7 else
 bif badT c.Time || (out c.Goal 1000000 || (out c.Most 1000000 || out c.Cents 1000000000))then 1 else tagsF c.Tags
def campsF (l:List Campaign):Int:=bif decide (l.length > 30)then 2 else chk Campaign.Key campStp nilS l
theorem campsK (l:List Campaign) (hg:∀ x∈l,GoodC x) (hl:l.length≤1000000):booking_CheckCampaigns l=some (campsF l):=by
 unfold booking_CheckCampaigns campsF
 have e:decide ((l.length:Int) > 30)=decide (l.length > 30):=decide_eq_decide.2 (by omega)
 rw [e]
 cases decide (l.length > 30)with
 | true=>rfl
 | false =>
  simp only [cond_false]
  rw [forL_eq (by omega),chk_prev (key:=Campaign.Key) (stp:=campStp) l l 0 rfl (fun k x hx => ?_)]
  ·simp only [Option.bind_some,outC_then]; rfl
  ·obtain ⟨g1,g0,g2,g3⟩:=hg x (List.mem_of_getElem? hx)
   simp only [booking_CheckCampaigns_L1,isKey_eq x.Key (by unfold Short at g1; omega),isKey_eq x.Class (by unfold Short at g0; omega),sNe_nil,Option.bind_some,campStp,isTime_eq,outside_eq,tagsK x.Tags g3 (by omega)]
   cases hk:keyB x.Key with
   | false=>rfl
   | true =>
    simp only [Bool.not_true,cond_false,Bool.false_or]
    have hc:(bif decide (x.Class.size≠0)then some (!keyB x.Class)else some false)=some (decide (x.Class.size≠0) && !keyB x.Class):=by cases decide (x.Class.size≠0) <;> rfl
    rw [hc,Option.bind_some]
    cases (decide (x.Class.size≠0) && !keyB x.Class)with
    | true=>rfl
    | false =>
    simp only [cond_false]
    rw [prev_test (key:=Campaign.Key) hx (by omega) (keyB_ne hk),Option.bind_some]
    cases sLe x.Key (prevK Campaign.Key l k)with
    | true=>rfl
    | false =>
     simp only [cond_false]
     cases badT x.Time <;> cases out x.Goal 1000000 <;> cases out x.Most 1000000 <;> cases out x.Cents 1000000000 <;> simp only [Bool.not_true,Bool.not_false,cond_true,cond_false,Option.bind_some,Bool.or_true,Bool.or_false,Bool.true_or,Bool.false_or] <;> first | rfl | skip
     simp only [outC]
     have:(tagsF x.Tags != 0) = !(tagsF x.Tags == 0):=rfl
     rw [this]
     cases tagsF x.Tags == 0 <;> rfl
theorem campsR (l:List Campaign) (hg:∀ x∈l,GoodC x) (hl:l.length≤1000000):ref_CampaignsFault l=some (campsF l):=by
 unfold ref_CampaignsFault campsF
 have e:decide ((l.length:Int) > 30)=decide (l.length > 30):=decide_eq_decide.2 (by omega)
 rw [e]
 cases decide (l.length > 30)with
 | true=>rfl
 | false =>
  simp only [cond_false]
  obtain ⟨o,h1,h2⟩:=chk_last (body:=fun k x s=>ref_CampaignsFault_L1 k x s) (key:=Campaign.Key) (stp:=campStp) l 0 nilS (fun k x last hx=>by
   obtain ⟨g1,g0,g2,g3⟩:=hg x hx
   simp only [ref_CampaignsFault_L1,refKey_eq x.Key (by unfold Short at g1; omega),refKey_eq x.Class (by unfold Short at g0; omega),sNe_nil,Option.bind_some,campStp,in_eq,tagsR x.Tags g3 (by omega),badT]
   cases hk:keyB x.Key with
   | false=>rfl
   | true =>
    simp only [Bool.not_true,cond_false,Bool.false_or]
    have hc:(bif decide (x.Class.size≠0)then some (!keyB x.Class)else some false)=some (decide (x.Class.size≠0) && !keyB x.Class):=by cases decide (x.Class.size≠0) <;> rfl
    rw [hc,Option.bind_some]
    cases (decide (x.Class.size≠0) && !keyB x.Class)with
    | true=>rfl
    | false =>
    simp only [cond_false]
    cases sLe x.Key last with
    | true=>rfl
    | false =>
     simp only [cond_false]
     cases decide (x.Time.From < 0) <;> cases decide (x.Time.From≥x.Time.To) <;> cases decide (x.Time.To > 345686400000) <;> cases out x.Goal 1000000 <;> cases out x.Most 1000000 <;> cases out x.Cents 1000000000 <;> simp only [Bool.not_true,Bool.not_false,cond_true,cond_false,Option.bind_some,Bool.or_true,Bool.or_false,Bool.true_or,Bool.false_or] <;> first | rfl | skip
     have:(tagsF x.Tags != 0) = !(tagsF x.Tags == 0):=rfl
     rw [this]
     cases tagsF x.Tags == 0 <;> rfl)
  rw [forL_eq (by omega)]
  have h1':forR (fun k x s=>ref_CampaignsFault_L1 k x s) l 0 { data := #[] }=some o:=h1
  rw [h1',Option.bind_some]; exact h2
end Go.Proofs.Ytipjpkpmkijdoab.Law

